/- What is written is read as it was; what is read may be, and is written so again (P20.4), for trees of up to 60 nodes of up to 200 bytes and 100 kids, and bytes of up to 500. -/
import Derived.Test.YtcbcojbhbhaimaaDoorPureTreeBack0
set_option linter.unusedSectionVars false
set_option linter.unusedSimpArgs false
set_option linter.unusedVariables false
namespace Go.Proofs.YtcbcojbhbhaimaaDoor.Pure
open Go Go.RowKit Go.Rf Go.Rf.T
set_option linter.unusedVariables false
set_option linter.unusedSimpArgs false
theorem behind_is (ob:S41→Bool) (t:List S41) (hN:t.length≤1000) (hk:∀ n,n < t.length→(kidsOf t n).length≤100000)
 (hob:∀ n,n < t.length→Ev (fun k=>cr20_one.f k (rd_T41 t (n:Int)).f0 (rd_T41 t (n:Int)).f1 (rd_T41 t (n:Int)).f2 (rd_T41 t (n:Int)).f3 (rd_T41 t (n:Int)).f4) (ob (rd_T41 t (n:Int)))) :
 ∀ (d deep i:Nat),17 - deep≤d→deep≤17→i≤t.length→∃ r:Int,Ev (fun k=>cr20_behind.f k t (i:Int) (deep:Int)) r ∧
  ((r = -1∧¬ ∃ j h,i < t.length∧ob (rd_T41 t (i:Int))=true∧Ch ob t (kidsOf t i) (i+1) j h∧deep+h≤16)∨∃ j h:Nat,r=(j:Int)∧i < t.length∧ob (rd_T41 t (i:Int))=true∧Ch ob t (kidsOf t i) (i+1) j h∧deep+h≤16):=by
 intro d
 induction d with
 | zero =>
  intro deep i hd h17 hi
  have hno:Ev (fun k=>cr20_behind.j0 k t (i:Int) (deep:Int) true) (-1):=by
   refine Ev.step (fun k=>by rw [cr20_behind.j0]) ?_
   exact Ev.ifp rfl (Ev.now _)
  refine ⟨-1,?_,Or.inl ⟨rfl,fun ⟨j,h,_,_,_,hh⟩=>by omega⟩⟩
  refine Ev.step (fun k=>by rw [cr20_behind.f]) ?_
  by_cases g:(i:Int)≥(t.length:Int)
  ·exact Ev.ifp g hno
  ·exact Ev.ifn g (Ev.ifp (by omega) hno)
 | succ d ih =>
  intro deep i hd h17 hi
  have hno:Ev (fun k=>cr20_behind.j0 k t (i:Int) (deep:Int) true) (-1):=by
   refine Ev.step (fun k=>by rw [cr20_behind.j0]) ?_
   exact Ev.ifp rfl (Ev.now _)
  by_cases g:(i:Int)≥(t.length:Int)
  ·refine ⟨-1,?_,Or.inl ⟨rfl,fun ⟨j,h,hh,_⟩=>by omega⟩⟩
   refine Ev.step (fun k=>by rw [cr20_behind.f]) ?_
   exact Ev.ifp g hno
  by_cases g2:(deep:Int) > 16
  ·refine ⟨-1,?_,Or.inl ⟨rfl,fun ⟨j,h,_,_,_,hh⟩=>by omega⟩⟩
   refine Ev.step (fun k=>by rw [cr20_behind.f]) ?_
   exact Ev.ifn g (Ev.ifp g2 hno)
  have hiN:i < t.length:=by omega
  cases hb:ob (rd_T41 t (i:Int)) with
  | false =>
   refine ⟨-1,?_,Or.inl ⟨rfl,fun ⟨j,h,_,hh,_⟩=>by cases hh⟩⟩
   refine Ev.step (fun k=>by rw [cr20_behind.f]) ?_
   refine Ev.ifn g (Ev.ifn g2 (Ev.ifp (by omega) (Ev.ifp (by omega) (Ev.bind (hob i hiN) ?_))))
   rw [hb]
   exact hno
  | true =>
   have loop:∀ (ks:List Int) (p n:Nat),(kidsOf t i).drop p=ks→p≤(kidsOf t i).length→n≤t.length→∃ r:Int,Ev (fun k=>cr20_behind.l0 k t (i:Int) (deep:Int) (n:Int) (p:Int)) r ∧
    ((r = -1∧¬ ∃ j h,Ch ob t ks n j h∧deep+h≤16)∨∃ j h:Nat,r=(j:Int)∧Ch ob t ks n j h∧deep+h≤16):=by
    intro ks
    induction ks with
    | nil =>
     intro p n hp hpl hn
     have hpe:p=(kidsOf t i).length:=by
      have:=congrArg List.length hp
      simp at this
      omega
     refine ⟨(n:Int),?_,Or.inr ⟨n,0,rfl,Ch.nil n,by omega⟩⟩
     refine Ev.step (fun k=>by rw [cr20_behind.l0]) ?_
     refine Ev.ifp (by omega) (Ev.ifp (by omega) (Ev.ifn ?_ (Ev.now _)))
     show ¬ (p:Int) < ((kidsOf t i).length:Int)
     omega
    | cons k0 ks' ihk =>
     intro p n hp hpl hn
     have hpl2:p < (kidsOf t i).length:=by
      have:=congrArg List.length hp
      simp at this
      omega
     have hdrop:=List.drop_eq_getElem_cons hpl2
     rw [hp] at hdrop
     obtain ⟨hk0,hks⟩:=List.cons.inj hdrop
     have hkl:=hk i hiN
     have hrd:rd (rd_T41 t (i:Int)).f4 (p:Int)=k0:=by rw [hk0];exact rd_get p hpl2
     have step:∀ {r},Ev (fun k=>if rd (rd_T41 t (i:Int)).f4 (p:Int)=(n:Int) then ((cr20_behind.f k t (n:Int) (wrap64 ((deep:Int)+1))).bind fun t380=>(if t380 < 0 then (some (-1)) else (cr20_behind.l0 k t (i:Int) (deep:Int) t380 (wrap64 ((p:Int)+1))))) else some (-1)) r→Ev (fun k=>cr20_behind.l0 k t (i:Int) (deep:Int) (n:Int) (p:Int)) r:=by
      intro r h
      refine Ev.step (fun k=>by rw [cr20_behind.l0]) ?_
      refine Ev.ifp (by omega) (Ev.ifp (by omega) (Ev.ifp ?_ (Ev.ifp (by omega) h)))
      show (p:Int) < ((kidsOf t i).length:Int)
      omega
     rw [hrd,w64 (x:=(deep:Int)+1) (by omega) (by omega),w64 (x:=(p:Int)+1) (by omega) (by omega)] at step
     by_cases hkn:k0=(n:Int)
     case neg=>exact ⟨-1,step (Ev.ifn hkn (Ev.now _)),Or.inl ⟨rfl,fun ⟨j,h,c,_⟩=>by cases c;contradiction⟩⟩
     obtain ⟨r1,hr1,hc1⟩:=ih (deep+1) n (by omega) (by omega) hn
     rw [show ((deep+1:Nat):Int)=(deep:Int)+1 by omega] at hr1
     rcases hc1 with ⟨rfl,hnot⟩ | ⟨j1,h1,rfl,hnN,hob1,c1,hd1⟩
     ·refine ⟨-1,step (Ev.ifp hkn (Ev.bind hr1 (Ev.ifp (by decide) (Ev.now _)))),Or.inl ⟨rfl,fun ⟨j,h,c,hh⟩=>hnot ?_⟩⟩
      cases c with
      | cons _ hn' ho' g gs=>exact ⟨_,_,hn',ho',g,by omega⟩
     ·have hle:=c1.le
      obtain ⟨r2,hr2,hc2⟩:=ihk (p+1) j1 hks.symm (by omega) (hle.2 (by omega))
      rw [show ((p+1:Nat):Int)=(p:Int)+1 by omega] at hr2
      refine ⟨r2,step (Ev.ifp hkn (Ev.bind hr1 (Ev.ifn (by omega) hr2))),?_⟩
      rcases hc2 with ⟨rfl,hnot⟩ | ⟨j,h,rfl,c,hh⟩
      ·refine Or.inl ⟨rfl,fun ⟨j,h,c,hh⟩=>hnot ?_⟩
       cases c with
       | cons _ hn' ho' g gs =>
        obtain ⟨rfl,rfl⟩:=c1.det g
        exact ⟨_,_,gs,by omega⟩
      ·exact Or.inr ⟨j,_,rfl,Ch.cons hkn hnN hob1 c1 c,by omega⟩
   obtain ⟨r,hr,hc⟩:=loop _ 0 (i+1) rfl (by omega) (by omega)
   refine ⟨r,?_,?_⟩
   ·refine Ev.step (fun k=>by rw [cr20_behind.f]) ?_
    refine Ev.ifn g (Ev.ifn g2 (Ev.ifp (by omega) (Ev.ifp (by omega) (Ev.bind (hob i hiN) ?_))))
    rw [hb]
    refine Ev.step (fun k=>by rw [cr20_behind.j0]) ?_
    rw [w64 (by omega) (by omega)]
    exact Ev.ifn (by simp) hr
   ·rw [List.drop_zero] at hc
    rcases hc with ⟨rfl,hnot⟩ | ⟨j,h,rfl,c,hh⟩
    ·exact Or.inl ⟨rfl,fun ⟨j,h,_,_,c,hh⟩=>hnot ⟨j,h,c,hh⟩⟩
    ·exact Or.inr ⟨j,h,rfl,hiN,rfl,c,hh⟩
theorem ref_right_is (ob:S41→Bool) (t:List S41) (hk:∀ n,n < t.length→(kidsOf t n).length≤100000)
 (hob:∀ n,n < t.length→Ev (fun k=>cr20_one.f k (rd_T41 t (n:Int)).f0 (rd_T41 t (n:Int)).f1 (rd_T41 t (n:Int)).f2 (rd_T41 t (n:Int)).f3 (rd_T41 t (n:Int)).f4) (ob (rd_T41 t (n:Int)))) :
 ∃ b,Ev (fun k=>cr20_Right.f k t) b∧(b=true↔∃ h,RT ob t h):=by
 by_cases h0:(t.length:Int) > 0
 case neg =>
  refine ⟨false,?_,by simp;intro h hh;have:=hh.1;omega⟩
  refine Ev.congr (fun k=>by rw [cr20_Right.f]) ?_
  exact Ev.ifn h0 (Ev.now _)
 by_cases h1:(t.length:Int)≤1000
 case neg =>
  refine ⟨false,?_,by simp;intro h hh;have:=hh.2.1;omega⟩
  refine Ev.congr (fun k=>by rw [cr20_Right.f]) ?_
  exact Ev.ifp h0 (Ev.ifn h1 (Ev.now _))
 obtain ⟨r,hr,hc⟩:=behind_is ob t (by omega) hk hob 16 1 0 (by omega) (by omega) (by omega)
 refine ⟨r == (t.length:Int),?_,?_⟩
 ·refine Ev.congr (fun k=>by rw [cr20_Right.f]) ?_
  exact Ev.ifp h0 (Ev.ifp h1 (Ev.bind hr (Ev.now _)))
 ·rw [beq_iff_eq]
  rcases hc with ⟨rfl,hnot⟩ | ⟨j,h,rfl,hi,ho,c,hh⟩
  ·exact ⟨fun h=>by omega,fun ⟨h,a1,a2,a3,a4,a5⟩=>absurd ⟨_,h,a1,a3,a4,by omega⟩ hnot⟩
  ·constructor
   ·intro e
    obtain rfl:j=t.length:=by omega
    exact ⟨h,hi,by omega,ho,c,by omega⟩
   ·rintro ⟨h',a1,a2,a3,a4,a5⟩
    rw [(c.det a4).1]
theorem fr_last (s:List S74) (x:S74) (i:Int) (h:i=(s.length:Int)):rd_T74 (s++[x]) i=x:=by
 subst h
 unfold rd_T74
 rw [Int.toNat_natCast]
 exact rd_last _ _ _
def Done (t:List S41) (l:List S74):Prop:=∀ f∈l,∃ p:Nat,p < t.length∧f=⟨(p:Int),((kidsOf t p).length:Int)⟩
theorem pops (t:List S41) (hN:t.length≤1000) (s:List S74) (hs:s.length≤100000) (most i:Int) (r:Int):∀ (n:Nat) (l:List S74),l.length=n→l.length≤100000→Done t l →
 Ev (fun k=>tree_depth.l1 k t s most i t (t.length:Int) i) r→Ev (fun k=>tree_depth.l1 k t (s++l) most i t (t.length:Int) i) r:=by
 intro n
 induction n with
 | zero =>
  intro l hl _ _ h
  obtain rfl:=List.eq_nil_of_length_eq_zero hl
  rw [List.append_nil]
  exact h
 | succ n ih =>
  intro l hl h5 hd h
  obtain ⟨q,x,rfl⟩:∃ q x,l=q++[x]:=⟨l.dropLast,l.getLast (by intro e;subst e;simp at hl),(List.dropLast_concat_getLast _).symm⟩
  simp at hl h5
  have h2:=ih q hl (by omega) (fun f hf=>hd f (by simp [hf])) h
  obtain ⟨p,hp,rfl⟩:=hd x (by simp)
  have hlen:((s++(q++[(⟨(p:Int),((kidsOf t p).length:Int)⟩:S74)])).length:Int)=(s++q).length+1:=by simp;omega
  refine Ev.step (fun k=>by rw [tree_depth.l1]) ?_
  have hsq:(s++q).length≤200000:=by simp;omega
  rw [hlen,w64 (by omega) (by omega),show ((s++q).length:Int)+1 - 1=((s++q).length:Int) by omega,← List.append_assoc,fr_last (s++q) _ _ rfl]
  refine Ev.ifp (by omega) (Ev.ifp (by omega) (Ev.ifp (by omega) (Ev.ifp (by simp) (Ev.ifp (by simp;omega) (Ev.ifp rfl (Ev.ifp (by omega) ?_))))))
  rw [Int.toNat_natCast,List.take_left]
  exact h2
theorem l2_all (t:List S41) (most:Int) (x:List S74) (hx:x.length≤100000) (hd:Done t x) (d:Nat):∀ i:Nat,i≤x.length→x.length - i=d →
 Ev (fun k=>tree_depth.l2 k t x most (x.length:Int) (i:Int)) (if most > 16 then 0 else most):=by
 induction d with
 | zero =>
  intro i hi hdd
  refine Ev.step (fun k=>by rw [tree_depth.l2]) ?_
  refine Ev.ifn (by omega) ?_
  exact Ev.ite (fun _=>Ev.now _) (fun _=>Ev.now _)
 | succ d ih =>
  intro i hi hdd
  have hlt:i < x.length:=by omega
  obtain ⟨p,hp,hf⟩:=hd x[i] (List.getElem_mem hlt)
  have hr:rd_T74 x (i:Int)=x[i]:=by unfold rd_T74;simp [List.getD_eq_getElem?_getD,hlt]
  refine Ev.step (fun k=>by rw [tree_depth.l2]) ?_
  rw [hr,hf,w64 (by omega) (by omega),show (i:Int)+1=((i+1:Nat):Int) by omega]
  exact Ev.ifp (by omega) (Ev.ifp (by omega) (Ev.ifp (by omega) (Ev.ifp (by simp) (Ev.ifp (by simp;omega) (Ev.ifp rfl (ih (i+1) (by omega) (by omega)))))))
theorem l2_not (t:List S41) (most:Int) (x:List S74) (hx:x.length≤100000) (hw:∀ f∈x,0≤f.f0∧f.f0 < (t.length:Int)) (j:Nat) (hj:j < x.length) (hn:x[j].f1≠((rd_T41 t x[j].f0).f4.length:Int)) (d:Nat):∀ i:Nat,i≤j→j - i=d →
 Ev (fun k=>tree_depth.l2 k t x most (x.length:Int) (i:Int)) 0:=by
 induction d with
 | zero =>
  intro i hi hdd
  obtain rfl:i=j:=by omega
  have hr:rd_T74 x (i:Int)=x[i]:=by unfold rd_T74;simp [List.getD_eq_getElem?_getD,hj]
  have hwf:=hw x[i] (List.getElem_mem hj)
  refine Ev.step (fun k=>by rw [tree_depth.l2]) ?_
  rw [hr]
  exact Ev.ifp (by omega) (Ev.ifp (by omega) (Ev.ifp (by omega) (Ev.ifp hwf.1 (Ev.ifp hwf.2 (Ev.ifn hn (Ev.now _))))))
 | succ d ih =>
  intro i hi hdd
  have hlt:i < x.length:=by omega
  have hr:rd_T74 x (i:Int)=x[i]:=by unfold rd_T74;simp [List.getD_eq_getElem?_getD,hlt]
  have hwf:=hw x[i] (List.getElem_mem hlt)
  refine Ev.step (fun k=>by rw [tree_depth.l2]) ?_
  rw [hr,w64 (by omega) (by omega),show (i:Int)+1=((i+1:Nat):Int) by omega]
  refine Ev.ifp (by omega) (Ev.ifp (by omega) (Ev.ifp (by omega) (Ev.ifp hwf.1 (Ev.ifp hwf.2 ?_))))
  by_cases hc:x[i].f1=((rd_T41 t x[i].f0).f4.length:Int)
  ·exact Ev.ifp hc (ih (i+1) (by omega) (by omega))
  ·exact Ev.ifn hc (Ev.now _)
def ObT (ob:S41→Bool) (t:List S41):Prop:=∀ n,n < t.length→Ev (fun k=>tree_one.f k (rd_T41 t (n:Int)).f0 (rd_T41 t (n:Int)).f1 (rd_T41 t (n:Int)).f2 (rd_T41 t (n:Int)).f3 (rd_T41 t (n:Int)).f4) (ob (rd_T41 t (n:Int)))
theorem dp_step (ob:S41→Bool) (t:List S41) (hob:ObT ob t) (x:List S74) (most:Int) (n:Nat) (hn:n < t.length) (ho:ob (rd_T41 t (n:Int))=true) {r:Int}
 (h:Ev (fun k=>tree_depth.l1 k t x most (n:Int) t (t.length:Int) (n:Int)) r):Ev (fun k=>tree_depth.l0 k t x most t (t.length:Int) (n:Int)) r:=by
 refine Ev.step (fun k=>by rw [tree_depth.l0]) ?_
 refine Ev.ifp (by omega) (Ev.ifp (by omega) (Ev.ifp (by omega) (Ev.bind (hob n hn) ?_)))
 rw [ho]
 exact Ev.ifp rfl h
theorem set_last {α:Type} (s:List α) (x y:α) (i:Int) (h:i=(s.length:Int)):(s++[x]).set i.toNat y=s++[y]:=by
 subst h
 rw [Int.toNat_natCast]
 simp
theorem dp_top (t:List S41) (hN:t.length≤1000) (s:List S74) (hs:s.length≤2000) (p q n:Nat) (hp:p < t.length) (hq:q < (kidsOf t p).length) (hk:(kidsOf t p).length≤100000) (hn0:0 < n) (hn:n < t.length) (most:Int) {r:Int}
 (h:Ev (fun k=>if rd (kidsOf t p) (q:Int)=(n:Int) then tree_depth.l0 k t (s++[⟨(p:Int),((q+1:Nat):Int)⟩]++[⟨(n:Int),0⟩]) (mx most ((s.length+2:Nat):Int)) t (t.length:Int) ((n+1:Nat):Int) else some 0) r) :
 Ev (fun k=>tree_depth.l1 k t (s++[⟨(p:Int),(q:Int)⟩]) most (n:Int) t (t.length:Int) (n:Int)) r:=by
 have hlen:((s++[(⟨(p:Int),(q:Int)⟩:S74)]).length:Int)=(s.length:Int)+1:=by simp
 have hlen2:∀ y:S74,((s++[y]).length:Int)=(s.length:Int)+1:=by intro y;simp
 refine Ev.step (fun k=>by rw [tree_depth.l1]) ?_
 rw [hlen,w64 (by omega) (by omega),show (s.length:Int)+1 - 1=(s.length:Int) by omega,fr_last s _ _ rfl]
 refine Ev.ifp (by omega) (Ev.ifp (by omega) (Ev.ifp (by omega) (Ev.ifp (by simp) (Ev.ifp (by simp;omega) (Ev.ifn ?_ ?_)))))
 ·show ¬ (q:Int)=((kidsOf t p).length:Int)
  omega
 refine Ev.step (fun k=>by rw [tree_depth.j3]) ?_
 rw [hlen,w64 (by omega) (by omega),show (s.length:Int)+1 - 1=(s.length:Int) by omega,fr_last s _ _ rfl,set_last s _ _ _ rfl]
 refine Ev.ifp (by omega) (Ev.ifn (by omega) (Ev.ifp (by omega) (Ev.ifp (by omega) (Ev.ifp (by simp) (Ev.ifp (by simp;omega) (Ev.ifp (by simp) (Ev.ifp ?_ ?_)))))))
 ·show (q:Int) < ((kidsOf t p).length:Int)
  omega
 refine (Ev.congr (fun k=>?_) h)
 show (if rd (kidsOf t p) (q:Int)=(n:Int) then _ else _)=_
 by_cases hv:rd (kidsOf t p) (q:Int)=(n:Int)
 ·rw [if_pos hv,if_pos hv,Option.bind_some,if_pos (by simp;omega),Option.bind_some]
  dsimp only
  rw [w64 (x:=(q:Int)+1) (by omega) (by omega),w64 (x:=(n:Int)+1) (by omega) (by omega)]
  rw [show ((s++[(⟨(p:Int),(q:Int)+1⟩:S74)]++[(⟨(n:Int),0⟩:S74)]).length:Int)=((s.length+2:Nat):Int) by simp]
  rfl
 ·rw [if_neg hv,if_neg hv]
theorem mx_nat (a b:Nat):mx (a:Int) (b:Int)=((max a b:Nat):Int):=by unfold mx;split<;>omega
theorem depth_fwd (ob:S41→Bool) (t:List S41) (hN:t.length≤1000) (hk:∀ n,n < t.length→(kidsOf t n).length≤100000) (hob:ObT ob t) {ks:List Int} {n j h:Nat} (c:Ch ob t ks n j h) :
 ∀ (s:List S74) (p q:Nat) (dn:List S74) (most:Nat),p < t.length→(kidsOf t p).drop q=ks→q≤(kidsOf t p).length→Done t dn→s.length+1+dn.length≤n→n≤t.length→s.length+1≤most →
 ∃ dn',Done t dn'∧s.length+1+dn'.length≤j∧∀ r,Ev (fun k=>tree_depth.l0 k t (s++([⟨(p:Int),((q+ks.length:Nat):Int)⟩]++dn')) ((max most (s.length+1+h):Nat):Int) t (t.length:Int) (j:Int)) r →
  Ev (fun k=>tree_depth.l0 k t (s++([⟨(p:Int),(q:Int)⟩]++dn)) (most:Int) t (t.length:Int) (n:Int)) r:=by
 induction c with
 | nil n =>
  intro s p q dn most hp hks hq hd hl hn hm
  refine ⟨dn,hd,hl,fun r hr=>?_⟩
  rw [show max most (s.length+1+0)=most by omega] at hr
  exact hr
 | @cons k ks n m j h1 h2 hkn hnN ho c1 c2 ih1 ih2 =>
  intro s p q dn most hp hks hq hd hl hn hm
  have hq2:q < (kidsOf t p).length:=by
   have:=congrArg List.length hks
   simp at this
   omega
  have hdrop:=List.drop_eq_getElem_cons hq2
  rw [hks] at hdrop
  obtain ⟨hk0,hks'⟩:=List.cons.inj hdrop
  have hv:rd (kidsOf t p) (q:Int)=(n:Int):=by rw [rd_get q hq2,← hk0,hkn]
  have le1:=c1.le
  obtain ⟨dn1,hd1,hl1,g1⟩:=ih1 (s++[⟨(p:Int),((q+1:Nat):Int)⟩]) n 0 [] (max most (s.length+2)) hnN rfl (by omega) (by intro f hf;cases hf) (by simp;omega) (by omega) (by simp;omega)
  simp only [List.length_append,List.length_cons,List.length_nil] at hl1 g1
  obtain ⟨dn2,hd2,hl2,g2⟩:=ih2 s p (q+1) ([⟨(n:Int),((kidsOf t n).length:Int)⟩]++dn1) (max (max most (s.length+2)) (s.length+(0+1)+1+h1)) hp hks'.symm (by omega)
   (by
    intro f hf
    rcases List.mem_append.1 hf with hf | hf
    ·exact ⟨n,hnN,by simpa using hf⟩
    ·exact hd1 f hf) (by simp;omega) (le1.2 (by omega)) (by omega)
  refine ⟨dn2,hd2,hl2,fun r hr=>?_⟩
  refine dp_step ob t hob _ _ n hnN ho ?_
  rw [← List.append_assoc]
  refine pops t hN _ (by simp;omega) _ _ _ _ dn rfl (by omega) hd ?_
  refine dp_top t hN s (by omega) p q n hp hq2 (hk p hp) (by omega) hnN _ ?_
  refine Ev.ifp hv ?_
  rw [mx_nat]
  have g3:=g1 r
  rw [List.append_nil] at g3
  refine g3 ?_
  rw [List.append_assoc,show 0+(kidsOf t n).length=(kidsOf t n).length by omega]
  refine g2 r ?_
  rw [show q+1+ks.length=q+(k :: ks).length by simp;omega,show max (max (max most (s.length+2)) (s.length+(0+1)+1+h1)) (s.length+1+h2)=max most (s.length+1+max (h1+1) h2) by omega]
  exact hr
def Shut (ob:S41→Bool) (t:List S41):List S74→Nat→Prop
 | [],n=>n=t.length
 | f :: rest,n=>∃ m h,Ch ob t ((kidsOf t f.f0.toNat).drop f.f1.toNat) n m h∧Shut ob t rest m
def FrOk (t:List S41) (x:List S74):Prop:=∀ f∈x,∃ p q:Nat,p < t.length∧q≤(kidsOf t p).length∧f=⟨(p:Int),(q:Int)⟩
theorem shut_done (ob:S41→Bool) (t:List S41) (y:List S74) (n:Nat) (h:Shut ob t y n):∀ l:List S74,Done t l→Shut ob t (l++y) n
 | [],_=>h
 | f :: l,hd=>by
  obtain ⟨p,hp,hf⟩:=hd f (by simp)
  refine ⟨n,0,?_,shut_done ob t y n h l (fun g hg=>hd g (by simp [hg]))⟩
  rw [hf]
  dsimp only
  rw [Int.toNat_natCast,Int.toNat_natCast,List.drop_length]
  exact Ch.nil n
theorem split_done (t:List S41):∀ (m:Nat) (x:List S74),x.length=m→FrOk t x→∃ y dn,x=y++dn∧Done t dn∧(y=[]∨∃ s,∃ p q:Nat,p < t.length∧q < (kidsOf t p).length∧y=s++[⟨(p:Int),(q:Int)⟩]):=by
 intro m
 induction m with
 | zero =>
  intro x hx _
  obtain rfl:=List.eq_nil_of_length_eq_zero hx
  exact ⟨[],[],rfl,(fun f hf=>by cases hf),Or.inl rfl⟩
 | succ m ih =>
  intro x hx hw
  obtain ⟨z,f,rfl⟩:∃ z f,x=z++[f]:=⟨x.dropLast,x.getLast (by intro e;subst e;simp at hx),(List.dropLast_concat_getLast _).symm⟩
  simp at hx
  obtain ⟨p,q,hp,hq,rfl⟩:=hw f (by simp)
  by_cases hqe:q=(kidsOf t p).length
  ·obtain ⟨y,dn,hy,hd,hc⟩:=ih z hx (fun g hg=>hw g (by simp [hg]))
   refine ⟨y,dn++[⟨(p:Int),(q:Int)⟩],by rw [hy,List.append_assoc],?_,hc⟩
   intro g hg
   rcases List.mem_append.1 hg with hg | hg
   ·exact hd g hg
   ·exact ⟨p,hp,by rw [← hqe];simpa using hg⟩
  ·exact ⟨z++[⟨(p:Int),(q:Int)⟩],[],by simp,(fun f hf=>by cases hf),Or.inr ⟨z,p,q,hp,by omega,rfl⟩⟩
theorem depth_neg (ob:S41→Bool) (t:List S41) (hN:t.length≤1000) (hk:∀ n,n < t.length→(kidsOf t n).length≤100000) (hob:ObT ob t) :
 ∀ (d n:Nat),t.length - n=d→0 < n→n≤t.length→∀ (x:List S74) (most:Int),FrOk t x→x.length≤n→∃ r,Ev (fun k=>tree_depth.l0 k t x most t (t.length:Int) (n:Int)) r∧(r=0∨Shut ob t x.reverse n):=by
 intro d
 induction d with
 | zero =>
  intro n hd h0 hn x most hw hx
  obtain rfl:n=t.length:=by omega
  have h1:∀ {r},Ev (fun k=>tree_depth.l2 k t x most (x.length:Int) ((0:Nat):Int)) r→Ev (fun k=>tree_depth.l0 k t x most t (t.length:Int) (t.length:Int)) r:=by
   intro r h
   refine Ev.step (fun k=>by rw [tree_depth.l0]) ?_
   exact Ev.ifn (by omega) h
  by_cases hdn:Done t x
  ·refine ⟨_,h1 (l2_all t most x (by omega) hdn x.length 0 (by omega) (by omega)),Or.inr ?_⟩
   have:=shut_done ob t [] t.length rfl x.reverse (fun f hf=>hdn f (by simpa using hf))
   rwa [List.append_nil] at this
  ·have:∃ f,f∈x∧¬ ∃ p:Nat,p < t.length∧f=⟨(p:Int),((kidsOf t p).length:Int)⟩:=by
    apply Classical.byContradiction
    intro hc
    exact hdn (fun f hf=>Classical.byContradiction (fun h=>hc ⟨f,hf,h⟩))
   obtain ⟨f,hf,hne⟩:=this
   obtain ⟨j,hj,rfl⟩:=List.mem_iff_getElem.1 hf
   refine ⟨0,h1 (l2_not t most x (by omega) ?_ j hj ?_ j 0 (by omega) (by omega)),Or.inl rfl⟩
   ·intro f hf
    obtain ⟨p,q,hp,_,rfl⟩:=hw f hf
    dsimp only
    omega
   ·obtain ⟨p,q,hp,hq,hfe⟩:=hw _ hf
    rw [hfe] at hne ⊢
    intro e
    exact hne ⟨p,hp,by rw [show ((q:Nat):Int)=((kidsOf t p).length:Int) from e]⟩
 | succ d ih =>
  intro n hd h0 hn x most hw hx
  have hnN:n < t.length:=by omega
  cases hb:ob (rd_T41 t (n:Int)) with
  | false =>
   refine ⟨0,?_,Or.inl rfl⟩
   refine Ev.step (fun k=>by rw [tree_depth.l0]) ?_
   refine Ev.ifp (by omega) (Ev.ifp (by omega) (Ev.ifp (by omega) (Ev.bind (hob n hnN) ?_)))
   rw [hb]
   exact Ev.ifn (by simp) (Ev.now _)
  | true =>
   obtain ⟨y,dn,rfl,hdn,hc⟩:=split_done t x.length x rfl hw
   rw [List.length_append] at hx
   rcases hc with rfl | ⟨s,p,q,hp,hq,rfl⟩
   ·refine ⟨0,dp_step ob t hob _ _ n hnN hb (pops t hN _ (by simp) _ _ _ _ dn rfl (by omega) hdn ?_),Or.inl rfl⟩
    refine Ev.step (fun k=>by rw [tree_depth.l1]) ?_
    refine Ev.ifn (by simp) ?_
    refine Ev.step (fun k=>by rw [tree_depth.j3]) ?_
    exact Ev.ifp (by omega) (Ev.ifp (by simp) (Ev.now _))
   ·simp at hx
    by_cases hv:rd (kidsOf t p) (q:Int)=(n:Int)
    ·have hw2:FrOk t (s++[⟨(p:Int),((q+1:Nat):Int)⟩]++[⟨(n:Int),0⟩]):=by
      intro f hf
      simp at hf
      rcases hf with hf | rfl | rfl
      ·exact hw f (by simp [hf])
      ·exact ⟨p,q+1,hp,by omega,by simp⟩
      ·exact ⟨n,0,hnN,by omega,rfl⟩
     obtain ⟨r,hr,hcr⟩:=ih (n+1) (by omega) (by omega) (by omega) _ (mx most ((s.length+2:Nat):Int)) hw2 (by simp;omega)
     refine ⟨r,dp_step ob t hob _ _ n hnN hb (pops t hN _ (by simp;omega) _ _ _ _ dn rfl (by omega) hdn (dp_top t hN s (by omega) p q n hp hq (hk p hp) h0 hnN _ (Ev.ifp hv hr))),?_⟩
     rcases hcr with rfl | hsh
     ·exact Or.inl rfl
     refine Or.inr ?_
     simp only [List.reverse_append,List.reverse_cons,List.reverse_nil,List.nil_append,List.singleton_append,List.cons_append] at hsh ⊢
     obtain ⟨m,h1,c1,m2,h2,c2,hsr⟩:=hsh
     refine shut_done ob t _ n ?_ dn.reverse (fun f hf=>hdn f (by simpa using hf))
     refine ⟨m2,max (h1+1) h2,?_,hsr⟩
     dsimp only at c1 c2 ⊢
     rw [Int.toNat_natCast,Int.toNat_natCast] at c2 ⊢
     rw [Int.toNat_natCast] at c1
     rw [List.drop_eq_getElem_cons hq]
     refine Ch.cons ?_ hnN hb c1 c2
     rw [← rd_get q hq]
     exact hv
    ·exact ⟨0,dp_step ob t hob _ _ n hnN hb (pops t hN _ (by simp;omega) _ _ _ _ dn rfl (by omega) hdn (dp_top t hN s (by omega) p q n hp hq (hk p hp) h0 hnN _ (Ev.ifn hv (Ev.now _)))),Or.inl rfl⟩
theorem tree_depth_is (ob:S41→Bool) (t:List S41) (hk:∀ n,n < t.length→(kidsOf t n).length≤100000) (hob:ObT ob t) :
 ∃ r:Int,Ev (fun k=>tree_depth.f k t) r∧((∃ h:Nat,r=(h:Int)+1∧RT ob t h)∨r=0∧¬ ∃ h,RT ob t h):=by
 have hno:Ev (fun k=>tree_depth.j0 k t true) 0:=by
  refine Ev.step (fun k=>by rw [tree_depth.j0]) ?_
  exact Ev.ifp rfl (Ev.now _)
 by_cases h0:(t.length:Int)=0
 ·refine ⟨0,?_,Or.inr ⟨rfl,fun ⟨h,a,_⟩=>by omega⟩⟩
  refine Ev.congr (fun k=>by rw [tree_depth.f]) ?_
  exact Ev.ifp h0 hno
 by_cases h1:t.length≤1000
 case neg =>
  refine ⟨0,?_,Or.inr ⟨rfl,fun ⟨h,_,a,_⟩=>by omega⟩⟩
  refine Ev.congr (fun k=>by rw [tree_depth.f]) ?_
  refine Ev.ifn h0 ?_
  rw [decide_eq_true (by omega)]
  exact hno
 have hin:∀ {r},Ev (fun k=>tree_depth.l0 k t ([]:List S74) 0 t (t.length:Int) ((0:Nat):Int)) r→Ev (fun k=>tree_depth.f k t) r:=by
  intro r h
  refine Ev.congr (fun k=>by rw [tree_depth.f]) ?_
  refine Ev.ifn h0 ?_
  rw [decide_eq_false (by omega)]
  refine Ev.step (fun k=>by rw [tree_depth.j0]) ?_
  exact Ev.ifn (by simp) h
 have hN:0 < t.length:=by omega
 cases hb:ob (rd_T41 t ((0:Nat):Int)) with
 | false =>
  refine ⟨0,hin ?_,Or.inr ⟨rfl,fun ⟨h,_,_,a,_⟩=>by rw [show (0:Int)=((0:Nat):Int) from rfl,hb] at a;cases a⟩⟩
  refine Ev.step (fun k=>by rw [tree_depth.l0]) ?_
  refine Ev.ifp (by omega) (Ev.ifp (by omega) (Ev.ifp (by omega) (Ev.bind (hob 0 hN) ?_)))
  rw [hb]
  exact Ev.ifn (by simp) (Ev.now _)
 | true =>
  have hone:∀ {r},Ev (fun k=>tree_depth.l0 k t [⟨((0:Nat):Int),((0:Nat):Int)⟩] ((1:Nat):Int) t (t.length:Int) ((1:Nat):Int)) r→Ev (fun k=>tree_depth.f k t) r:=by
   intro r h
   refine hin (dp_step ob t hob _ _ 0 hN hb ?_)
   refine Ev.step (fun k=>by rw [tree_depth.l1]) ?_
   refine Ev.ifn (by simp) ?_
   refine Ev.step (fun k=>by rw [tree_depth.j3]) ?_
   refine Ev.ifn (by omega) (Ev.ifp (by simp) (Ev.bindc rfl ?_))
   rw [w64 (by omega) (by omega)]
   exact h
  have hw:FrOk t [⟨((0:Nat):Int),((0:Nat):Int)⟩]:=by
   intro f hf
   exact ⟨0,0,hN,by omega,by simpa using hf⟩
  by_cases hc:∃ h,Ch ob t (kidsOf t 0) 1 t.length h
  ·obtain ⟨h,c⟩:=hc
   obtain ⟨dn,hdn,hl,g⟩:=depth_fwd ob t h1 hk hob c [] 0 0 [] 1 hN rfl (by omega) (by intro f hf;cases hf) (by simp) (by omega) (by simp)
   have hdd:Done t ([⟨((0:Nat):Int),((0+(kidsOf t 0).length:Nat):Int)⟩]++dn):=by
    intro f hf
    rcases List.mem_append.1 hf with hf | hf
    ·exact ⟨0,hN,by rw [Nat.zero_add] at hf;simpa using hf⟩
    ·exact hdn f hf
   have g2:=l2_all t ((max 1 (([]:List S74).length+1+h):Nat):Int) _ (by simp at hl ⊢;omega) hdd _ 0 (by omega) rfl
   obtain ⟨R,hR⟩:∃ R:Int,R=if ((max 1 (([]:List S74).length+1+h):Nat):Int) > 16 then 0 else ((max 1 (([]:List S74).length+1+h):Nat):Int):=⟨_,rfl⟩
   rw [← hR] at g2
   have g3:=g R (by
    refine Ev.step (fun k=>by rw [tree_depth.l0]) ?_
    exact Ev.ifn (by omega) g2)
   refine ⟨R,hone g3,?_⟩
   rw [hR]
   by_cases h16:h+1≤16
   ·refine Or.inl ⟨h,?_,hN,h1,hb,c,h16⟩
    rw [if_neg (by simp;omega)]
    simp
    omega
   ·refine Or.inr ⟨if_pos (by simp;omega),fun ⟨h',_,_,_,c',hh⟩=>?_⟩
    have:=(c.det c').2
    omega
  ·obtain ⟨r,hr,hcr⟩:=depth_neg ob t h1 hk hob _ 1 rfl (by omega) (by omega) _ ((1:Nat):Int) hw (by simp)
   refine ⟨r,hone hr,Or.inr ⟨?_,fun ⟨h',_,_,_,c',_⟩=>hc ⟨_,c'⟩⟩⟩
   rcases hcr with rfl | ⟨m,h,c,hm⟩
   ·rfl
   ·exact absurd ⟨h,by rw [show m=t.length from hm] at c;exact c⟩ hc
def OneOk (x:S41) (b:Bool):Prop:=x.f3.size≤2000→Ev (fun k=>tree_one.f k x.f0 x.f1 x.f2 x.f3 x.f4) b∧Ev (fun k=>cr20_one.f k x.f0 x.f1 x.f2 x.f3 x.f4) b∧(b=true→(0≤x.f0∧x.f0≤3∧0≤x.f1∧x.f1≤2097151)∧(x.f2=true→x.f3.toList=[])∧(x.f2=false→x.f4=[])∧(x.f0=0→(x.f2=true→x.f1=16∨x.f1=17)∧(x.f2=false→Ev (fun k=>strs_Right.f k x.f1 x.f3) true∧Ev (fun k=>cr18_Right.f k x.f1 x.f3) true)))
theorem one_all:∃ ob:S41→Bool,∀ x,OneOk x (ob x):=by
 have h:∀ x:S41,∃ b,OneOk x b:=by
  intro x
  by_cases h:x.f3.size≤2000
  ·obtain ⟨b,h1,h2,h3⟩:=one_key x h
   exact ⟨b,fun _=>⟨h1,h2,h3⟩⟩
  ·exact ⟨false,fun h'=>absurd h' h⟩
 exact Classical.axiomOfChoice h
def shN (by_:Int) (x:S41):S41:=⟨x.f0,x.f1,x.f2,x.f3,x.f4.map (fun y=>wrap64 (y+by_))⟩
theorem Ch.last {ob:S41→Bool} {t:List S41} {ks:List Int} {n j h:Nat} (c:Ch ob t ks n j h) (hne:0 < ks.length):∃ l h':Nat,rd ks ((ks.length:Int) - 1)=(l:Int)∧l < t.length∧Ch ob t (kidsOf t l) (l+1) j h'∧h' < h:=by
 induction c with
 | nil n=>simp at hne
 | @cons k ks n m j h1 h2 hkn hnN ho c1 c2 ih1 ih2 =>
  cases ks with
  | nil =>
   cases c2
   exact ⟨n,h1,by simp [← hkn,rd],hnN,c1,by omega⟩
  | cons a ks =>
   obtain ⟨l,h',e,hl,c',hh⟩:=ih2 (by simp)
   refine ⟨l,h',?_,hl,c',by omega⟩
   rw [← e,show (((k :: a :: ks).length:Nat):Int) - 1=((ks.length+1:Nat):Int) by simp,show (((a :: ks).length:Nat):Int) - 1=((ks.length:Nat):Int) by simp,rd_get _ (by simp),rd_get _ (by simp)]
   rfl
theorem rdN_get (t:List S41) (n:Nat) (h:n < t.length):rd_T41 t (n:Int)=t[n]:=by unfold rd_T41;simp [List.getD_eq_getElem?_getD,h]
def win (t:List S41) (i m:Nat):List S41:=((t.take m).drop i).map (shN (wrap64 (-(i:Int))))
theorem win_len (t:List S41) (i m:Nat) (hm:m≤t.length):(win t i m).length=m - i:=by unfold win;simp;omega
theorem win_rd (t:List S41) (i m n:Nat) (hm:m≤t.length) (hi:i≤n) (hn:n < m):rd_T41 (win t i m) ((n - i:Nat):Int)=shN (wrap64 (-(i:Int))) (rd_T41 t (n:Int)):=by
 rw [rdN_get _ _ (by rw [win_len t i m hm];omega),rdN_get _ _ (by omega)]
 unfold win
 simp only [List.getElem_map,List.getElem_drop,List.getElem_take]
 congr 2
 omega
theorem Ch.wins {ob:S41→Bool} (hsh:∀ c x,x.f3.size≤2000→ob (shN c x)=ob x) {t:List S41} (hN:t.length≤1000) (hsz:∀ n,n < t.length→(rd_T41 t (n:Int)).f3.size≤2000) {ks:List Int} {n j h:Nat} (c:Ch ob t ks n j h) (i m:Nat):i≤n→j≤m→m≤t.length→Ch ob (win t i m) (ks.map (fun y=>wrap64 (y+wrap64 (-(i:Int))))) (n - i) (j - i) h:=by
 induction c with
 | nil n=>intro h1 h2 h3;exact Ch.nil _
 | @cons k ks n m' j h1 h2 hkn hnN ho c1 c2 ih1 ih2 =>
  intro hi hj hm
  have l1:=c1.le
  have l2:=c2.le
  have i1:=ih1 (by omega) (by omega) hm
  have i2:=ih2 (by omega) hj hm
  rw [List.map_cons]
  have hr:=win_rd t i m n hm hi (by omega)
  refine Ch.cons ?_ (by rw [win_len t i m hm];omega) (by rw [hr,hsh _ _ (hsz n hnN)];exact ho) ?_ i2
  ·rw [hkn,w64 (x:=-(i:Int)) (by omega) (by omega),w64 (by omega) (by omega)]
   omega
  ·rw [show n - i+1=n+1 - i by omega,show kidsOf (win t i m) (n - i)=(kidsOf t n).map (fun y=>wrap64 (y+wrap64 (-(i:Int)))) by unfold kidsOf;rw [hr];rfl]
   exact i1
theorem right_depth (ob:S41→Bool) (t:List S41) (hk:∀ n,n < t.length→(kidsOf t n).length≤100000) (hob:ObT ob t) (h:Nat) (hR:RT ob t h) :
 Ev (fun k=>tree_Right.f k t) true∧Ev (fun k=>tree_Depth.f k t) ((h:Int)+1):=by
 obtain ⟨r,hr,hc⟩:=tree_depth_is ob t hk hob
 have hr':r=(h:Int)+1:=by
  rcases hc with ⟨h',rfl,hR'⟩ | ⟨_,hn⟩
  ·rw [(hR'.2.2.2.1.det hR.2.2.2.1).2]
  ·exact absurd ⟨h,hR⟩ hn
 subst hr'
 constructor
 ·refine Ev.congr (fun k=>by rw [tree_Right.f]) ?_
  refine Ev.bind hr ?_
  rw [decide_eq_true (by omega)]
  exact Ev.now _
 ·refine Ev.congr (fun k=>by rw [tree_Depth.f]) ?_
  exact Ev.bind hr (Ev.now _)
theorem right_no (ob:S41→Bool) (t:List S41) (hk:∀ n,n < t.length→(kidsOf t n).length≤100000) (hob:ObT ob t) (hR:¬ ∃ h,RT ob t h) :
 Ev (fun k=>tree_Right.f k t) false:=by
 obtain ⟨r,hr,hc⟩:=tree_depth_is ob t hk hob
 rcases hc with ⟨h',_,hR'⟩ | ⟨rfl,_⟩
 ·exact absurd ⟨_,hR'⟩ hR
 refine Ev.congr (fun k=>by rw [tree_Right.f]) ?_
 exact Ev.bind hr (Ev.now _)
inductive Pt (ob:S41→Bool) (t:List S41) (H:Nat):List Int→Nat→Nat→List (List S41)→Prop where
 | nil (n:Nat):Pt ob t H [] n n []
 | cons {k:Int} {ks:List Int} {n m j h:Nat} {L:List (List S41)} (hk:k=(n:Int)) (hn:n < t.length) (ho:ob (rd_T41 t (n:Int))=true) (c:Ch ob t (kidsOf t n) (n+1) m h) (hh:h < H) (hm:m≤t.length) (p:Pt ob t H ks m j L):Pt ob t H (k :: ks) n j (win t n m :: L)
theorem Ch.pt {ob:S41→Bool} {t:List S41} {H:Nat} {ks:List Int} {n j h:Nat} (c:Ch ob t ks n j h):h≤H→j≤t.length→∃ L,Pt ob t H ks n j L:=by
 induction c with
 | nil n=>intro _ _;exact ⟨[],Pt.nil n⟩
 | @cons k ks n m j h1 h2 hkn hnN ho c1 c2 ih1 ih2 =>
  intro hH hj
  have l2:=c2.le
  obtain ⟨L,p⟩:=ih2 (by omega) hj
  exact ⟨_,Pt.cons hkn hnN ho c1 (by omega) (by omega) p⟩
theorem Pt.len {ob:S41→Bool} {t:List S41} {H:Nat} {ks:List Int} {n j:Nat} {L:List (List S41)} (p:Pt ob t H ks n j L):L.length=ks.length:=by
 induction p with
 | nil n=>rfl
 | cons _ _ _ _ _ _ _ ih=>simp [ih]
theorem Pt.good {ob:S41→Bool} (hsh:∀ c x,x.f3.size≤2000→ob (shN c x)=ob x) (hall:∀ x:S41,x.f3.size≤2000→Ev (fun k=>tree_one.f k x.f0 x.f1 x.f2 x.f3 x.f4) (ob x)) {t:List S41} (hN:t.length≤1000) (hsz:∀ n,n < t.length→(rd_T41 t (n:Int)).f3.size≤2000) (hk:∀ n,n < t.length→(kidsOf t n).length≤100000) {H:Nat} (h16:H+1≤16) {ks:List Int} {n j:Nat} {L:List (List S41)} (p:Pt ob t H ks n j L) :
 ∀ x∈L,∃ h:Nat,h < H∧Ev (fun k=>tree_Right.f k x) true∧Ev (fun k=>tree_Depth.f k x) ((h:Int)+1):=by
 induction p with
 | nil n=>intro x hx;cases hx
 | @cons k ks n m j h L hkn hnN ho c hh hm p ih =>
  intro x hx
  rcases List.mem_cons.1 hx with rfl | hx
  case inr=>exact ih x hx
  have hle:=c.le
  have hwl:=win_len t n m hm
  have hr:∀ q,q < (win t n m).length→rd_T41 (win t n m) (q:Int)=shN (wrap64 (-(n:Int))) (rd_T41 t ((q+n:Nat):Int)):=by
   intro q hq
   have:=win_rd t n m (q+n) hm (by omega) (by omega)
   rwa [Nat.add_sub_cancel] at this
  refine ⟨h,hh,?_⟩
  refine right_depth ob _ ?_ ?_ h ⟨by omega,by omega,?_,?_,by omega⟩
  ·intro q hq
   unfold kidsOf
   rw [hr q hq]
   have:=hk (q+n) (by omega)
   unfold kidsOf at this
   unfold shN
   simpa using this
  ·intro q hq
   refine hall _ ?_
   rw [hr q hq]
   exact hsz (q+n) (by omega)
  ·have:=hr 0 (by omega)
   rw [show (0:Int)=((0:Nat):Int) from rfl,this,hsh _ _ (hsz _ (by omega)),Nat.zero_add]
   exact ho
  ·have:=c.wins hsh hN hsz n m (by omega) (by omega) hm
   rw [show n+1 - n=1 by omega] at this
   rw [hwl]
   rw [show kidsOf (win t n m) 0=(kidsOf t n).map (fun y=>wrap64 (y+wrap64 (-(n:Int)))) by unfold kidsOf;rw [hr 0 (by omega),Nat.zero_add];rfl]
   exact this
theorem ptree_is (t:List S41) (c:Nat) (hc:c≤1000):∃ b,Ev (fun k=>cp_Tree.f k t (c:Int)) b∧(b=true→t.length≤c∧∀ n,n < t.length→(rd_T41 t (n:Int)).f3.size≤200∧(kidsOf t n).length≤100):=by
 by_cases h0:(t.length:Int) > (c:Int)
 ·refine ⟨false,?_,fun h=>by cases h⟩
  refine Ev.congr (fun k=>by rw [cp_Tree.f]) ?_
  exact Ev.ifp h0 (Ev.now _)
 have loop:∀ (d p:Nat),t.length - p=d→p≤t.length→(∀ n,n < p→(rd_T41 t (n:Int)).f3.size≤200∧(kidsOf t n).length≤100)→∃ b,Ev (fun k=>cp_Tree.l0 k t (p:Int)) b∧(b=true→∀ n,n < t.length→(rd_T41 t (n:Int)).f3.size≤200∧(kidsOf t n).length≤100):=by
  intro d
  induction d with
  | zero =>
   intro p hd hp hg
   refine ⟨true,?_,fun _ n hn=>hg n (by omega)⟩
   refine Ev.step (fun k=>by rw [cp_Tree.l0]) ?_
   exact Ev.ifn (by omega) (Ev.now _)
  | succ d ih =>
   intro p hd hp hg
   have hlt:p < t.length:=by omega
   have hs:∀ {b},Ev (fun k=>if ((rd_T41 t (p:Int)).f3.size:Int) > 200 then some false else if ((rd_T41 t (p:Int)).f4.length:Int) > 100 then some false else cp_Tree.l0 k t (((p+1:Nat)):Int)) b→Ev (fun k=>cp_Tree.l0 k t (p:Int)) b:=by
    intro b h
    refine Ev.step (fun k=>by rw [cp_Tree.l0]) ?_
    rw [w64 (x:=(p:Int)+1) (by omega) (by omega)]
    exact Ev.ifp (by omega) (Ev.ifp (by omega) h)
   by_cases h1:((rd_T41 t (p:Int)).f3.size:Int) > 200
   ·exact ⟨false,hs (Ev.ifp h1 (Ev.now _)),fun h=>by cases h⟩
   by_cases h2:((rd_T41 t (p:Int)).f4.length:Int) > 100
   ·exact ⟨false,hs (Ev.ifn h1 (Ev.ifp h2 (Ev.now _))),fun h=>by cases h⟩
   obtain ⟨b,hb,hbt⟩:=ih (p+1) (by omega) (by omega) (by
    intro n hn
    rcases Nat.lt_or_ge n p with h | h
    ·exact hg n h
    ·obtain rfl:n=p:=by omega
     exact ⟨by omega,show (rd_T41 t (n:Int)).f4.length≤100 by omega⟩)
   exact ⟨b,hs (Ev.ifn h1 (Ev.ifn h2 hb)),hbt⟩
 obtain ⟨b,hb,hbt⟩:=loop _ 0 rfl (by omega) (by intro n hn;omega)
 refine ⟨b,?_,fun h=>⟨by omega,hbt h⟩⟩
 refine Ev.congr (fun k=>by rw [cp_Tree.f]) ?_
 exact Ev.ifn h0 hb
theorem awake20:Ev (fun k=>clavigerlaw20_awake.f k) true:=Ev.from_ 60 (fun n=>by kernel_rfl)
def ofB (n:Nat):List (List S41)→List S41
 | []=>[]
 | p :: ps=>p.map (shN (n:Int))++ofB (n+p.length) ps
def blN (t:List S41) (n:Nat):List Int:=bytesOf (rd_T41 t (n:Int)).f3
def nodeL (t:List S41) (n:Nat) (cs:List Int):List Int:=idB (rd_T41 t (n:Int)).f0 (rd_T41 t (n:Int)).f1 (rd_T41 t (n:Int)).f2++lenB (cs.length:Int)++cs
inductive En (t:List S41):List Int→Nat→Nat→List Int→Prop where
 | nil (n:Nat):En t [] n n []
 | cons {k:Int} {ks:List Int} {n m j:Nat} {cs rs:List Int} (hk:k=(n:Int)) (hn:n < t.length) (c:En t (kidsOf t n) (n+1) m cs) (hf:(nodeL t n (blN t n++cs)).length≤65535) (r:En t ks m j rs):En t (k :: ks) n j (nodeL t n (blN t n++cs)++rs)
theorem En.det {t:List S41} {ks:List Int} {n j:Nat} {bs:List Int} (c:En t ks n j bs):∀ {j':Nat} {bs':List Int},En t ks n j' bs'→j=j'∧bs=bs':=by
 induction c with
 | nil n=>intro j' bs' c';cases c';exact ⟨rfl,rfl⟩
 | cons hk hn c hf r ih1 ih2 =>
  intro j' bs' c'
  cases c' with
  | cons _ _ g _ gs =>
   obtain ⟨rfl,rfl⟩:=ih1 g
   obtain ⟨rfl,rfl⟩:=ih2 gs
   exact ⟨rfl,rfl⟩
theorem En.pos {ob:S41→Bool} {t:List S41} {ks:List Int} {n j h:Nat} (c:Ch ob t ks n j h):∀ {j':Nat} {bs:List Int},En t ks n j' bs→j'=j:=by
 induction c with
 | nil n=>intro j' bs c';cases c';rfl
 | cons hk hn ho c1 c2 ih1 ih2 =>
  intro j' bs c'
  cases c' with
  | cons _ _ g _ gs =>
   obtain rfl:=ih1 g
   exact ih2 gs
theorem tagD_len (b:Int):0 < (tagD b).length∧(tagD b).length≤3:=by unfold tagD;split;simp;split<;>simp
theorem idB_len2 (a b:Int) (c:Bool):0 < (idB a b c).length∧(idB a b c).length≤4:=by
 have:=tagD_len b
 unfold idB
 split
 ·simp
 ·simp
  omega
theorem lenB_len (n:Int):(lenB n).length≤3:=by unfold lenB;split;simp;split<;>simp
theorem nodeL_len (t:List S41) (n:Nat) (cs:List Int):cs.length < (nodeL t n cs).length∧(nodeL t n cs).length≤cs.length+7:=by
 have h1:=idB_len2 (rd_T41 t (n:Int)).f0 (rd_T41 t (n:Int)).f1 (rd_T41 t (n:Int)).f2
 have h2:=lenB_len (cs.length:Int)
 unfold nodeL
 simp
 omega
def InR (ob:S41→Bool):Prop:=∀ x:S41,x.f3.size≤2000→ob x=true→(0≤x.f0∧x.f0≤3∧0≤x.f1∧x.f1≤2097151)
theorem ref_bytes_is (ob:S41→Bool) (hin:InR ob) (t:List S41) (hN:t.length≤1000) (hsz:∀ n,n < t.length→(rd_T41 t (n:Int)).f3.size≤2000) (hk:∀ n,n < t.length→(kidsOf t n).length≤100000) {ks:List Int} {n j h:Nat} (c:Ch ob t ks n j h) :
 ∀ (i q:Nat) (acc:List Int),i < t.length→ob (rd_T41 t (i:Int))=true→(kidsOf t i).drop q=ks→q≤(kidsOf t i).length→acc.length≤65535 →
 ∃ v ok,Ev (fun k=>cr20_bytes.l0 k t (i:Int) (strOfNums acc) (q:Int)) (v,ok)∧v.size≤140000∧(ok=true→∃ bs,En t ks n j bs∧(nodeL t i (acc++bs)).length≤65535∧v=strOfNums (nodeL t i (acc++bs)))∧((∃ j' bs,En t ks n j' bs∧(nodeL t i (acc++bs)).length≤65535)→ok=true):=by
 induction c with
 | nil n =>
  intro i q acc hi ho hq hql ha
  have hqe:(kidsOf t i).length≤q:=by
   have:=congrArg List.length hq
   simp at this
   omega
  obtain ⟨r1,r2,r3,r4⟩:=hin _ (hsz i hi) ho
  have hh:=ref_henc_is _ _ (rd_T41 t (i:Int)).f2 (acc.length:Int) r1 r2 r3 r4 (by omega)
  rw [if_pos (by omega)] at hh
  have h1:=idB_len2 (rd_T41 t (i:Int)).f0 (rd_T41 t (i:Int)).f1 (rd_T41 t (i:Int)).f2
  have h2:=lenB_len (acc.length:Int)
  have hln:(nodeL t i acc).length=(idB (rd_T41 t (i:Int)).f0 (rd_T41 t (i:Int)).f1 (rd_T41 t (i:Int)).f2++lenB (acc.length:Int)).length+acc.length:=by unfold nodeL;rw [List.length_append]
  have hln2:=nodeL_len t i acc
  refine ⟨strOfNums (nodeL t i acc),decide ((nodeL t i acc).length≤65535),?_,by rw [nums_size];omega,?_,?_⟩
  ·refine Ev.step (fun k=>by rw [cr20_bytes.l0]) ?_
   rw [nums_sizeI,nums_size]
   refine Ev.ifp (by omega) (Ev.ifp (by omega) (Ev.ifn (show ¬ (q:Int) < ((kidsOf t i).length:Int) by omega) (Ev.bind hh (Ev.ifp (by rw [nums_size];simp;omega) (Ev.ifp rfl ((Ev.now _).eq ?_))))))
   rw [str_append,nums_sizeI,w64 (by omega) (by omega)]
   show (strOfNums (nodeL t i acc),_)=_
   rw [hln]
   refine congrArg _ (decide_eq_decide.2 ?_)
   omega
  ·intro hok
   exact ⟨[],En.nil n,by rw [List.append_nil];exact of_decide_eq_true hok,by rw [List.append_nil]⟩
  ·rintro ⟨j',bs,e,hf⟩
   cases e
   rw [List.append_nil] at hf
   exact decide_eq_true hf
 | @cons k ks n m j h1 h2 hkn hnN hob c1 c2 ih1 ih2 =>
  intro i q acc hi ho hq hql ha
  have hq2:q < (kidsOf t i).length:=by
   have:=congrArg List.length hq
   simp at this
   omega
  have hdrop:=List.drop_eq_getElem_cons hq2
  rw [hq] at hdrop
  obtain ⟨hk0,hks'⟩:=List.cons.inj hdrop
  have hv:rd (kidsOf t i) (q:Int)=(n:Int):=by rw [rd_get q hq2,← hk0,hkn]
  have hki:=hk i hi
  have hbl:(blN t n).length≤2000:=by
   have:=hsz n hnN
   rw [← strOfNums_bytesOf (rd_T41 t (n:Int)).f3,nums_size] at this
   exact this
  obtain ⟨v,ok,he,hvs,hA,hB⟩:=ih1 n 0 (blN t n) hnN hob rfl (by omega) (by omega)
  have hef:Ev (fun k=>cr20_bytes.f k t (n:Int)) (v,ok):=by
   refine Ev.step (fun k=>by rw [cr20_bytes.f]) ?_
   refine Ev.ifp (by omega) (Ev.ifp (by omega) ?_)
   unfold blN at he
   rw [strOfNums_bytesOf] at he
   exact he
  have step:∀ {r:ByteArray × Bool},Ev (fun k=>if ok=true then (if ((strOfNums acc++v).size:Int) > 65535 then some ((⟨#[]⟩:ByteArray),false) else cr20_bytes.l0 k t (i:Int) (strOfNums acc++v) ((q+1:Nat):Int)) else some ((⟨#[]⟩:ByteArray),false)) r→Ev (fun k=>cr20_bytes.l0 k t (i:Int) (strOfNums acc) (q:Int)) r:=by
   intro r h
   refine Ev.step (fun k=>by rw [cr20_bytes.l0]) ?_
   rw [show rd (rd_T41 t (i:Int)).f4 (q:Int)=(n:Int) from hv,w64 (x:=(q:Int)+1) (by omega) (by omega)]
   refine Ev.ifp (by omega) (Ev.ifp (by omega) (Ev.ifp (show (q:Int) < ((kidsOf t i).length:Int) by omega) (Ev.ifp (by omega) (Ev.bind hef (Ev.ifp (by rw [nums_size];show acc.length+v.size≤_;omega) h)))))
  cases ok with
  | false =>
   refine ⟨_,_,step (Ev.ifn (by simp) (Ev.now _)),by decide,(fun h=>by cases h),?_⟩
   rintro ⟨j',bs,e,hf⟩
   cases e with
   | cons _ _ g gf gs=>have:=hB ⟨_,_,g,gf⟩;cases this
  | true =>
   obtain ⟨cs,g,gf,rfl⟩:=hA rfl
   rw [str_append,nums_sizeI] at step
   by_cases hbig:(acc++nodeL t n (blN t n++cs)).length≤65535
   ·obtain ⟨v2,ok2,he2,hvs2,hA2,hB2⟩:=ih2 i (q+1) (acc++nodeL t n (blN t n++cs)) hi ho hks'.symm (by omega) hbig
    refine ⟨v2,ok2,step (Ev.ifp rfl (Ev.ifn (by omega) he2)),hvs2,?_,?_⟩
    ·intro hok
     obtain ⟨rs,e,f,w⟩:=hA2 hok
     rw [List.append_assoc] at f w
     exact ⟨_,En.cons hkn hnN g gf e,f,w⟩
    ·rintro ⟨j',bs,e,hf⟩
     cases e with
     | cons _ _ g' gf' gs =>
      obtain ⟨rfl,rfl⟩:=g.det g'
      exact hB2 ⟨_,_,gs,by rw [List.append_assoc];exact hf⟩
   ·refine ⟨_,_,step (Ev.ifp rfl (Ev.ifp (by omega) (Ev.now _))),by decide,(fun h=>by cases h),?_⟩
    rintro ⟨j',bs,e,hf⟩
    cases e with
    | cons _ _ g' gf' gs =>
     obtain ⟨rfl,rfl⟩:=g.det g'
     rw [← List.append_assoc] at hf
     have h3:=Nat.le_trans (Nat.le_of_lt (nodeL_len t i _).1) hf
     rw [List.length_append] at h3
     omega
theorem En.le {t:List S41} {ks:List Int} {n j:Nat} {bs:List Int} (e:En t ks n j bs):n≤j∧(n≤t.length→j≤t.length):=by
 induction e with
 | nil n=>exact ⟨Nat.le_refl _,id⟩
 | cons hk hn c hf r ih1 ih2=>exact ⟨by omega,fun _=>ih2.2 (ih1.2 (by omega))⟩
theorem En.bd {t:List S41} {ks:List Int} {n j:Nat} {bs:List Int} (e:En t ks n j bs):bs.length+65535*n≤65535*j∧bs.length≤65535*ks.length:=by
 induction e with
 | nil n=>simp
 | cons hk hn c hf r ih1 ih2 =>
  have:=c.le
  rw [List.length_append,List.length_cons]
  omega
def Fit1 (t:List S41) (i:Nat):Prop:=∃ m cs,En t (kidsOf t i) (i+1) m cs∧(nodeL t i (blN t i++cs)).length≤65535
theorem Ch.cover {ob:S41→Bool} {t:List S41} {ks:List Int} {n j h:Nat} (c:Ch ob t ks n j h):∀ i,n≤i→i < j→ob (rd_T41 t (i:Int))=true∧∃ m h',Ch ob t (kidsOf t i) (i+1) m h'∧m≤j∧h' < h:=by
 induction c with
 | nil n=>intro i h1 h2;omega
 | @cons k ks n m j h1 h2 hk hn ho c1 c2 ih1 ih2 =>
  intro i hi hj
  have l2:=c2.le
  by_cases e:i=n
  ·subst e
   exact ⟨ho,m,h1,c1,by omega,by omega⟩
  by_cases e2:i < m
  ·obtain ⟨a,m',h',c',hm,hh⟩:=ih1 i (by omega) e2
   exact ⟨a,m',h',c',by omega,by omega⟩
  ·obtain ⟨a,m',h',c',hm,hh⟩:=ih2 i (by omega) hj
   exact ⟨a,m',h',c',by omega,by omega⟩
theorem En.cover {t:List S41} {ks:List Int} {n j:Nat} {bs:List Int} (e:En t ks n j bs):∀ i,n≤i→i < j→Fit1 t i:=by
 induction e with
 | nil n=>intro i h1 h2;omega
 | @cons k ks n m j cs rs hk hn c hf r ih1 ih2 =>
  intro i hi hj
  by_cases e:i=n
  ·subst e
   exact ⟨_,_,c,hf⟩
  by_cases e2:i < m
  ·exact ih1 i (by omega) e2
  ·exact ih2 i (by omega) hj
theorem Ch.en {ob:S41→Bool} {t:List S41} {ks:List Int} {n j h:Nat} (c:Ch ob t ks n j h):(∀ i,n≤i→i < t.length→Fit1 t i)→∃ bs,En t ks n j bs:=by
 induction c with
 | nil n=>intro _;exact ⟨[],En.nil n⟩
 | @cons k ks n m j h1 h2 hk hn ho c1 c2 ih1 ih2 =>
  intro hf
  have l1:=c1.le
  obtain ⟨m',cs,e,hfit⟩:=hf n (Nat.le_refl _) hn
  obtain rfl:=En.pos c1 e
  obtain ⟨rs,er⟩:=ih2 (fun i hi hN=>hf i (by omega) hN)
  exact ⟨_,En.cons hk hn e hfit er⟩
def hdL (t:List S41) (n:Nat) (c:Nat):Nat:=(idB (rd_T41 t (n:Int)).f0 (rd_T41 t (n:Int)).f1 (rd_T41 t (n:Int)).f2++lenB (c:Int)).length
theorem nodeL_hd (t:List S41) (n:Nat) (cs:List Int):(nodeL t n cs).length=hdL t n cs.length+cs.length:=by unfold nodeL hdL;rw [List.length_append]
def Good (t:List S41) (x:List (Nat × Nat)) (d:Nat):Prop:=x.length=t.length∧∀ p,d≤p→p < t.length→∃ m cs,En t (kidsOf t p) (p+1) m cs∧(nodeL t p (blN t p++cs)).length≤65535∧rdOf ((0,0):Nat × Nat) x (p:Int)=(fl (hdL t p (blN t p++cs).length),fl (blN t p++cs).length)
theorem sizes_in (t:List S41) (hN:t.length≤1000) (x:List (Nat × Nat)) {ks:List Int} {n j:Nat} {bs:List Int} (e:En t ks n j bs):∀ (i q s:Nat),Good t x n→(kidsOf t i).length≤100000→(kidsOf t i).drop q=ks→q≤(kidsOf t i).length→s≤65535*q+65535 →
 ∀ r,Ev (fun k=>tree_sizes.l1 k t x (i:Int) ((s+bs.length:Nat):Int) (kidsOf t i) ((kidsOf t i).length:Int) ((kidsOf t i).length:Int)) r→Ev (fun k=>tree_sizes.l1 k t x (i:Int) (s:Int) (kidsOf t i) ((kidsOf t i).length:Int) (q:Int)) r:=by
 induction e with
 | nil n =>
  intro i q s hg hki hq hql hs r h
  have hqe:(kidsOf t i).length=q:=by
   have:=congrArg List.length hq
   simp at this
   omega
  rw [← hqe]
  exact h
 | @cons k ks n m j cs rs hkn hnN c hf er ih1 ih2 =>
  intro i q s hg hki hq hql hs r h
  have hq2:q < (kidsOf t i).length:=by
   have:=congrArg List.length hq
   simp at this
   omega
  have hdrop:=List.drop_eq_getElem_cons hq2
  rw [hq] at hdrop
  obtain ⟨hk0,hks'⟩:=List.cons.inj hdrop
  have hv:rd (kidsOf t i) (q:Int)=(n:Int):=by rw [rd_get q hq2,← hk0,hkn]
  have lc:=c.le
  obtain ⟨m',cs',e',hf',hx⟩:=hg.2 n (Nat.le_refl _) hnN
  obtain ⟨rfl,rfl⟩:=c.det e'
  have hnl:=nodeL_hd t n (blN t n++cs)
  have hxl:=hg.1
  refine Ev.step (fun k=>by rw [tree_sizes.l1]) ?_
  rw [hv,hx]
  dsimp only
  rw [fadd_fl (by omega),fint_fl (by omega),fok_fl (by omega),fiok_fl (by omega),w64 (x:=(q:Int)+1) (by omega) (by omega),w64 (by omega) (by omega)]
  refine Ev.ifp (by omega) (Ev.ifp (by omega) (Ev.ifp (by omega) (Ev.ifp (by omega) (Ev.ifp (by omega) (Ev.ifp rfl (Ev.ifp rfl ?_))))))
  have:=ih2 i (q+1) (s+(hdL t n (blN t n++cs).length+(blN t n++cs).length)) ⟨hg.1,fun p hp=>hg.2 p (by omega)⟩ hki hks'.symm (by omega) (by omega) r (by
   rw [List.length_append,hnl] at h
   rw [Nat.add_assoc]
   exact h)
  exact this
theorem sizes_is (ob:S41→Bool) (hin:InR ob) (t:List S41) (hN:t.length≤1000) (hsz:∀ n,n < t.length→(rd_T41 t (n:Int)).f3.size≤2000) (hk:∀ n,n < t.length→(kidsOf t n).length≤100000)
 (hcov:∀ i,i < t.length→ob (rd_T41 t (i:Int))=true∧∃ m h',Ch ob t (kidsOf t i) (i+1) m h'):∀ (d:Nat) (x:List (Nat × Nat)),d≤t.length→Good t x d →
 ∃ y b,Ev (fun k=>tree_sizes.l0 k t x ((d:Int) - 1)) (y,b)∧((b=true∧Good t y 0)∨(b=false∧∃ i,i < t.length∧¬ Fit1 t i)):=by
 intro d
 induction d with
 | zero =>
  intro x hd hg
  refine ⟨x,true,?_,Or.inl ⟨rfl,hg⟩⟩
  refine Ev.step (fun k=>by rw [tree_sizes.l0]) ?_
  exact Ev.ifn (by omega) (Ev.now _)
 | succ d ih =>
  intro x hd hg
  have hdN:d < t.length:=by omega
  obtain ⟨ho,m,h',c⟩:=hcov d hdN
  obtain ⟨bs,e⟩:=c.en (fun i hi hiN=>by
   obtain ⟨m,cs,e,hf,_⟩:=hg.2 i hi hiN
   exact ⟨m,cs,e,hf⟩)
  obtain ⟨r1,r2,r3,r4⟩:=hin _ (hsz d hdN) ho
  have hbl:(rd_T41 t (d:Int)).f3.size=(blN t d).length:=by
   unfold blN
   conv=>lhs;rw [← strOfNums_bytesOf (rd_T41 t (d:Int)).f3,nums_size]
  have hbd:=e.bd
  have hkd:=hk d hdN
  have hszd:=hsz d hdN
  have hxl:=hg.1
  have hsum:(blN t d).length+bs.length=(blN t d++bs).length:=by rw [List.length_append]
  have go:∀ {r:List (Nat × Nat) × Bool},Ev (fun k=>tree_sizes.l1 k t x (d:Int) (((blN t d++bs).length:Nat):Int) (kidsOf t d) ((kidsOf t d).length:Int) ((kidsOf t d).length:Int)) r→Ev (fun k=>tree_sizes.l0 k t x (((d+1:Nat):Int) - 1)) r:=by
   intro r h
   refine Ev.step (fun k=>by rw [tree_sizes.l0]) ?_
   rw [show ((d+1:Nat):Int) - 1=(d:Int) by omega,hbl]
   refine Ev.ifp (by omega) (Ev.ifp (by omega) (Ev.ifp (by omega) ?_))
   refine sizes_in t hN x e d 0 (blN t d).length hg hkd rfl (by omega) (by omega) r ?_
   rw [hsum]
   exact h
  have hh:=henc_is _ _ (rd_T41 t (d:Int)).f2 ((blN t d++bs).length:Int) r1 r2 r3 r4 (by omega)
  have hsize:Ev (fun k=>head_Size.f k (rd_T41 t (d:Int)).f0 (rd_T41 t (d:Int)).f1 (rd_T41 t (d:Int)).f2 ((blN t d++bs).length:Int)) (if ((blN t d++bs).length:Int)≤65535 then (hdL t d (blN t d++bs).length:Int) else 0):=by
   refine Ev.congr (fun k=>by rw [head_Size.f]) ?_
   refine Ev.bind hh ((Ev.now _).eq ?_)
   split
   ·rw [nums_sizeI]
    rfl
   ·rfl
  have hnl:=nodeL_hd t d (blN t d++bs)
  have hno:¬ (nodeL t d (blN t d++bs)).length≤65535→∃ i,i < t.length∧¬ Fit1 t i:=by
   intro hb
   refine ⟨d,hdN,?_⟩
   rintro ⟨m',cs,e',hf⟩
   obtain ⟨rfl,rfl⟩:=e.det e'
   exact hb hf
  have h1:=idB_len2 (rd_T41 t (d:Int)).f0 (rd_T41 t (d:Int)).f1 (rd_T41 t (d:Int)).f2
  have h2:=lenB_len ((blN t d++bs).length:Int)
  have hhd:0 < hdL t d (blN t d++bs).length∧hdL t d (blN t d++bs).length≤7:=by unfold hdL;rw [List.length_append];omega
  by_cases g:((blN t d++bs).length:Int)≤65535
  case neg =>
   rw [if_neg g] at hsize
   refine ⟨[],false,go ?_,Or.inr ⟨rfl,hno (by omega)⟩⟩
   refine Ev.step (fun k=>by rw [tree_sizes.l1]) ?_
   exact Ev.ifn (by omega) (Ev.ifp (by omega) (Ev.ifp (by omega) (Ev.bind hsize (Ev.ifp rfl (Ev.now _)))))
  rw [if_pos g] at hsize
  by_cases g2:(nodeL t d (blN t d++bs)).length≤65535
  case neg =>
   refine ⟨[],false,go ?_,Or.inr ⟨rfl,hno g2⟩⟩
   refine Ev.step (fun k=>by rw [tree_sizes.l1]) ?_
   refine Ev.ifn (by omega) (Ev.ifp (by omega) (Ev.ifp (by omega) (Ev.bind hsize (Ev.ifn (by omega) ?_))))
   rw [w64 (by omega) (by omega)]
   exact Ev.ifp (by omega) (Ev.now _)
  obtain ⟨y,b,hy,hc⟩:=ih (x.set d (fl (hdL t d (blN t d++bs).length),fl (blN t d++bs).length)) (by omega) (by
   refine ⟨by rw [List.length_set];exact hxl,fun p hp hpN=>?_⟩
   by_cases e0:p=d
   ·subst e0
    refine ⟨m,bs,e,g2,?_⟩
    rw [rdOf_get _ p (by rw [List.length_set];omega),List.getElem_set_self]
   ·obtain ⟨m',cs,e',hf,hx⟩:=hg.2 p (by omega) hpN
    refine ⟨m',cs,e',hf,?_⟩
    rw [← hx,rdOf_get _ p (by rw [List.length_set];omega),rdOf_get _ p (by omega),List.getElem_set_ne (by omega)])
  refine ⟨y,b,go ?_,hc⟩
  refine Ev.step (fun k=>by rw [tree_sizes.l1]) ?_
  refine Ev.ifn (by omega) (Ev.ifp (by omega) (Ev.ifp (by omega) (Ev.bind hsize (Ev.ifn (by omega) ?_))))
  rw [w64 (x:=(hdL t d (blN t d++bs).length:Int)+_) (by omega) (by omega),w64 (x:=(d:Int) - 1) (by omega) (by omega),fl_of (by omega),fl_of (by omega),Int.toNat_natCast,Int.toNat_natCast,Int.toNat_natCast]
  exact Ev.ifn (by omega) (Ev.ifp (by omega) hy)
theorem tagD_ok {b:Int} (b0:0≤b) (b1:b≤2097151):OkB (tagD b):=by
 unfold tagD
 split
 ·exact OkB.one b0 (by omega)
 ·split
  ·exact OkB.cons (by omega) (by omega) (OkB.one (by omega) (by omega))
  ·exact OkB.cons (by omega) (by omega) (OkB.cons (by omega) (by omega) (OkB.one (by omega) (by omega)))
theorem idB_ok {a b:Int} {c:Bool} (a0:0≤a) (a1:a≤3) (b0:0≤b) (b1:b≤2097151):OkB (idB a b c):=by
 have h:0≤(if c then (32:Int) else 0)∧(if c then (32:Int) else 0)≤32:=by split<;>omega
 unfold idB
 split
 ·exact OkB.one (by omega) (by omega)
 ·exact OkB.cons (by omega) (by omega) (tagD_ok b0 b1)
theorem lenB_ok {n:Int} (h0:0≤n) (h1:n≤65535):OkB (lenB n):=by
 unfold lenB
 split
 ·exact OkB.one h0 (by omega)
 ·split
  ·exact OkB.cons (by omega) (by omega) (OkB.one h0 (by omega))
  ·exact OkB.cons (by omega) (by omega) (OkB.cons (by omega) (by omega) (OkB.one (by omega) (by omega)))
theorem enc_loop20 (ob:S41→Bool) (hin:InR ob) (t:List S41) (hN:t.length≤1000) (hsz:∀ n,n < t.length→(rd_T41 t (n:Int)).f3.size≤2000) (hall:∀ i,i < t.length→ob (rd_T41 t (i:Int))=true) (x:List (Nat × Nat)) (hg:Good t x 0) {ks:List Int} {n j:Nat} {bs:List Int} (e:En t ks n j bs) :
 ∀ (acc:List Int),acc.length≤65535*n→n≤t.length→∀ r,Ev (fun k=>tree_Encode.l0 k x (acc++bs) t (t.length:Int) (j:Int)) r→Ev (fun k=>tree_Encode.l0 k x acc t (t.length:Int) (n:Int)) r:=by
 induction e with
 | nil n=>intro acc _ _ r h;rw [List.append_nil] at h;exact h
 | @cons k ks n m j cs rs hkn hnN c hf er ih1 ih2 =>
  intro acc ha hn r h
  obtain ⟨m',cs',e',hf',hx⟩:=hg.2 n (Nat.zero_le _) hnN
  obtain ⟨rfl,rfl⟩:=c.det e'
  obtain ⟨r1,r2,r3,r4⟩:=hin _ (hsz n hnN) (hall n hnN)
  have hnl:=nodeL_hd t n (blN t n++cs)
  have hxl:=hg.1
  have hbd:=c.bd
  have lc:=c.le
  have hh:=henc_is _ _ (rd_T41 t (n:Int)).f2 ((blN t n++cs).length:Int) r1 r2 r3 r4 (by omega)
  rw [if_pos (by omega)] at hh
  have hbl:(rd_T41 t (n:Int)).f3.size=(blN t n).length:=by
   unfold blN
   conv=>lhs;rw [← strOfNums_bytesOf (rd_T41 t (n:Int)).f3,nums_size]
  have hok:=bytesOf_nums (OkB.append (idB_ok (c:=(rd_T41 t (n:Int)).f2) r1 r2 r3 r4) (lenB_ok (n:=((blN t n++cs).length:Int)) (by omega) (by omega)))
  have hls:(blN t n++cs).length=(blN t n).length+cs.length:=List.length_append
  have hdd:(idB (rd_T41 t (n:Int)).f0 (rd_T41 t (n:Int)).f1 (rd_T41 t (n:Int)).f2++lenB ((blN t n++cs).length:Int)).length=hdL t n (blN t n++cs).length:=rfl
  refine Ev.step (fun k=>by rw [tree_Encode.l0]) ?_
  rw [hx]
  dsimp only
  rw [fiok_fl (by omega),fint_fl (by omega),w64 (x:=(n:Int)+1) (by omega) (by omega)]
  refine Ev.ifp (by omega) (Ev.ifp (by omega) (Ev.ifp (by omega) (Ev.ifp (by omega) (Ev.ifp rfl (Ev.bind hh (Ev.ifp (by rw [nums_size,hdd];omega) (Ev.bindc rfl ?_)))))))
  rw [hok]
  refine Ev.ifp (by rw [List.length_append,hdd,hbl];omega) ?_
  refine ih1 (acc++(idB (rd_T41 t (n:Int)).f0 (rd_T41 t (n:Int)).f1 (rd_T41 t (n:Int)).f2++lenB ((blN t n++cs).length:Int))++blN t n) (by rw [List.length_append,List.length_append,hdd];omega) (by omega) r ?_
  refine ih2 _ (by rw [List.length_append,List.length_append,List.length_append,hdd];omega) (lc.2 (by omega)) r ?_
  unfold nodeL at h
  simp only [List.append_assoc] at h ⊢
  exact h
theorem enc_both (ob:S41→Bool) (hin:InR ob) (t:List S41) (hsz:∀ n,n < t.length→(rd_T41 t (n:Int)).f3.size≤2000) (hk:∀ n,n < t.length→(kidsOf t n).length≤100000) (hcov:∀ i,i < t.length→ob (rd_T41 t (i:Int))=true∧∃ m h',Ch ob t (kidsOf t i) (i+1) m h')
 (H:Nat) (hR:RT ob t H) (hr1:Ev (fun k=>tree_Right.f k t) true) (hr2:Ev (fun k=>cr20_Right.f k t) true):∃ e:ByteArray × Int,Ev (fun k=>tree_Encode.f k t) e∧Ev (fun k=>cr20_Encode.f k t) e∧(∀ cs,En t (kidsOf t 0) 1 t.length cs→(nodeL t 0 (blN t 0++cs)).length≤65535→e=(strOfNums (nodeL t 0 (blN t 0++cs)),0))∧(e.2=0→∃ cs,En t (kidsOf t 0) 1 t.length cs∧(nodeL t 0 (blN t 0++cs)).length≤65535∧e=(strOfNums (nodeL t 0 (blN t 0++cs)),0)):=by
 have hN:=hR.2.1
 have h0:=hR.1
 have hbl:(blN t 0).length≤65535:=by
  have:=hsz 0 h0
  rw [← strOfNums_bytesOf (rd_T41 t ((0:Nat):Int)).f3,nums_size] at this
  show (bytesOf (rd_T41 t ((0:Nat):Int)).f3).length≤65535
  omega
 obtain ⟨v,ok,hv,_,hA,hB⟩:=ref_bytes_is ob hin t hN hsz hk hR.2.2.2.1 0 0 (blN t 0) h0 hR.2.2.1 rfl (by omega) hbl
 have hvf:Ev (fun k=>cr20_bytes.f k t 0) (v,ok):=by
  refine Ev.step (fun k=>by rw [cr20_bytes.f]) ?_
  refine Ev.ifp (by omega) (Ev.ifp (by omega) ?_)
  unfold blN at hv
  rw [strOfNums_bytesOf] at hv
  exact hv
 obtain ⟨y,b,hy,hc⟩:=sizes_is ob hin t hN hsz hk hcov t.length (List.replicate t.length ((0,0):Nat × Nat)) (Nat.le_refl _) ⟨by simp,fun p h1 h2=>by omega⟩
 have hs:Ev (fun k=>tree_sizes.f k t) (y,b):=by
  refine Ev.congr (fun k=>by rw [tree_sizes.f]) ?_
  rw [w64 (by omega) (by omega),Int.toNat_natCast]
  exact Ev.ifp (by omega) (Ev.ifp (by omega) hy)
 have root:∀ bs,En t (kidsOf t 0) 1 t.length bs→(nodeL t 0 (blN t 0++bs)).length≤65535→En t [(0:Int)] 0 t.length (nodeL t 0 (blN t 0++bs)++[]):=fun bs e f=>En.cons rfl h0 e f (En.nil _)
 rcases hc with ⟨rfl,hg⟩ | ⟨rfl,i,hi,hnf⟩
 ·obtain ⟨m,cs,e,hf,_⟩:=hg.2 0 (Nat.le_refl _) h0
  obtain rfl:=En.pos hR.2.2.2.1 e
  obtain rfl:=hB ⟨_,cs,e,hf⟩
  obtain ⟨cs',e',_,rfl⟩:=hA rfl
  obtain ⟨_,rfl⟩:=e.det e'
  refine ⟨(strOfNums (nodeL t 0 (blN t 0++cs)),0),?_,?_,fun cs2 e2 _=>(by obtain ⟨_,rfl⟩:=e.det e2;rfl),fun _=>⟨cs,e,hf,rfl⟩⟩
  ·refine Ev.congr (fun k=>by rw [tree_Encode.f]) ?_
   refine Ev.bind hr1 (Ev.ifp rfl (Ev.bind hs (Ev.ifp rfl ?_)))
   refine enc_loop20 ob hin t hN hsz (fun i hi=>(hcov i hi).1) y hg (root cs e hf) [] (by simp) (by omega) _ ?_
   refine Ev.step (fun k=>by rw [tree_Encode.l0]) ?_
   rw [List.nil_append,List.append_nil]
   exact Ev.ifn (by omega) (Ev.now _)
  ·refine Ev.congr (fun k=>by rw [cr20_Encode.f]) ?_
   exact Ev.bind hr2 (Ev.ifp rfl (Ev.bind hvf (Ev.ifp rfl (Ev.now _))))
 ·have hok:ok=false:=by
   cases ok with
   | false=>rfl
   | true =>
    obtain ⟨bs,e,f,_⟩:=hA rfl
    exact absurd ((root bs e f).cover i (Nat.zero_le _) hi) hnf
  subst hok
  refine ⟨(⟨#[]⟩,4),?_,?_,fun cs2 e2 f2=>absurd ((root cs2 e2 f2).cover i (Nat.zero_le _) hi) hnf,fun h=>absurd h (by decide)⟩
  ·refine Ev.congr (fun k=>by rw [tree_Encode.f]) ?_
   exact Ev.bind hr1 (Ev.ifp rfl (Ev.bind hs (Ev.ifn (by simp) (Ev.now _))))
  ·refine Ev.congr (fun k=>by rw [cr20_Encode.f]) ?_
   exact Ev.bind hr2 (Ev.ifp rfl (Ev.bind hvf (Ev.ifn (by simp) (Ev.now _))))
theorem Ch.hle {ob:S41→Bool} {t:List S41} {ks:List Int} {n j h:Nat} (c:Ch ob t ks n j h):h+n≤j:=by
 induction c with
 | nil n=>omega
 | cons hk hn ho c1 c2 ih1 ih2=>omega
def FW (t:List Nd) (n:Nat) (f:Fo):Prop:=(t.drop n).take f.size=f.flat n
theorem fw_cons {t:List Nd} {n:Nat} {a b:Int} {c:Bool} {d:List Int} {ks r:Fo}:FW t n (.cons a b c d ks r)↔∃ h:n < t.length,t[n]=nd a b c (strOfNums d) (ks.roots (n+1))∧FW t (n+1) ks∧FW t (n+1+ks.size) r:=by
 have e:(t.drop n).take (1+ks.size+r.size)=(t.drop n).take 1++((t.drop (n+1)).take ks.size++(t.drop (n+1+ks.size)).take r.size):=by
  rw [Nat.add_assoc,List.take_add,List.drop_drop,List.take_add,List.drop_drop]
 constructor
 ·intro h
  unfold FW at h
  rw [Fo.size,e,Fo.flat] at h
  have hn:n < t.length:=by
   rcases Nat.lt_or_ge n t.length with hn | hn
   ·exact hn
   ·rw [List.drop_eq_nil_of_le hn,List.drop_eq_nil_of_le (by omega),List.drop_eq_nil_of_le (by omega)] at h
    simp at h
  rw [List.drop_eq_getElem_cons hn] at h
  simp only [List.take_succ_cons,List.take_zero,List.singleton_append,List.cons.injEq] at h
  obtain ⟨h1,h2⟩:=h
  have hl:=congrArg List.length h2
  rw [List.length_append,List.length_append,Fo.flat_len,Fo.flat_len] at hl
  have l1:((t.drop (n+1)).take ks.size).length≤ks.size:=by rw [List.length_take];omega
  have l2:((t.drop (n+1+ks.size)).take r.size).length≤r.size:=by rw [List.length_take];omega
  obtain ⟨h3,h4⟩:=List.append_inj h2 (by rw [Fo.flat_len];omega)
  exact ⟨hn,h1,h3,h4⟩
 ·rintro ⟨hn,h1,h2,h3⟩
  unfold FW at h2 h3 ⊢
  rw [Fo.size,e,h2,h3,List.drop_eq_getElem_cons hn,h1]
  rfl
theorem fw_flat (f:Fo):FW (f.flat 0) 0 f:=by
 unfold FW
 rw [List.drop_zero,← Fo.flat_len f 0,List.take_length]
def Fo.height:Fo→Nat
 | .nil=>0
 | .cons _ _ _ _ ks r=>max (ks.height+1) r.height
theorem Fo.Ok.deep:∀ {f:Fo} {dep:Nat},f.Ok dep→dep≤16→dep+f.height≤16
 | .nil,dep,_,h=>h
 | .cons a b c d ks r,dep,⟨_,_,o2,_,_,_,_,o7,o8⟩,h=>by
  have h1:=o7.deep (by omega)
  have h2:=o8.deep h
  rw [Fo.height]
  omega
theorem kidsOf_at {t:List Nd} {n:Nat} (h:n < t.length):kidsOf t n=t[n].f4:=by unfold kidsOf;rw [rdT_lt t n h]
theorem blN_at {t:List Nd} {n:Nat} (h:n < t.length):blN t n=bytesOf t[n].f3:=by unfold blN;rw [rdT_lt t n h]
theorem nodeL_at {t:List Nd} {n:Nat} (h:n < t.length) (cs:List Int):nodeL t n cs=idB t[n].f0 t[n].f1 t[n].f2++lenB (cs.length:Int)++cs:=by unfold nodeL;rw [rdT_lt t n h]
theorem fw_en (t:List Nd):∀ (f:Fo) (n dep:Nat),FW t n f→f.Ok dep→f.enc.length≤65535→En t (f.roots n) n (n+f.size) f.enc
 | .nil,n,dep,_,_,_=>.nil n
 | .cons a b c d ks r,n,dep,h,ho,hl=>by
  obtain ⟨hn,h1,h2,h3⟩:=fw_cons.1 h
  obtain ⟨_,_,_,_,o5,_,_,o7,o8⟩:=ho
  rw [Fo.enc_cons] at hl
  have hk:(d++ks.enc).length=d.length+ks.enc.length:=List.length_append
  have i1:=fw_en t ks (n+1) _ h2 o7 (by omega)
  have i2:=fw_en t r (n+1+ks.size) _ h3 o8 (by omega)
  have e1:nodeL t n (blN t n++ks.enc)=idB a b c++lenB ((d++ks.enc).length:Int)++(d++ks.enc):=by
   rw [nodeL_at hn,blN_at hn,h1]
   show idB a b c++lenB ((bytesOf (strOfNums d)++ks.enc).length:Int)++(bytesOf (strOfNums d)++ks.enc)=_
   rw [bytesOf_nums o5]
  have:=En.cons (t:=t) (k:=(n:Int)) rfl hn (by rw [kidsOf_at hn,h1];exact i1) (by rw [e1,List.length_append];show Fo.hd a b c d ks+_≤_;omega) i2
  rw [e1] at this
  rw [Fo.size,show n+(1+ks.size+r.size)=n+1+ks.size+r.size by omega]
  exact this
theorem one_true (a b:Int) (c:Bool) (d:ByteArray) (e:List Int) (hb:0≤a∧a≤3∧0≤b∧b≤2097151) (hc:c=true→d.toList=[]) (he:c=false→e=[]) (hm:a=0→(c=true→b=16∨b=17)∧(c=false→Ev (fun k=>strs_Right.f k b d) true)):Ev (fun k=>tree_one.f k a b c d e) true:=by
 refine Ev.congr (fun k=>by rw [tree_one.f]) ?_
 refine Ev.ifn (by rw [mn_lt0];omega) (Ev.ifn (by omega) ?_)
 rw [decide_eq_false (by omega)]
 refine Ev.step (fun k=>by rw [tree_one.j0]) ?_
 refine Ev.ifn (by simp) ?_
 cases c with
 | true =>
  refine Ev.ifp rfl (Ev.ifp (hc rfl) ?_)
  by_cases h0:a=0
  ·refine Ev.ifp h0 ?_
   rcases (hm h0).1 rfl with h | h
   ·exact Ev.ifp h (Ev.now _)
   ·refine Ev.ifn (by omega) ((Ev.now _).eq ?_)
    rw [h];rfl
  ·exact Ev.ifn h0 (Ev.now _)
 | false =>
  refine Ev.ifn (by simp) (Ev.ifp (by rw [he rfl];rfl) ?_)
  by_cases h0:a=0
  ·exact Ev.ifp h0 (Ev.bind ((hm h0).2 rfl) (Ev.now _))
  ·exact Ev.ifn h0 (Ev.now _)
theorem ob_of (ob:Nd→Bool) (hone:∀ x,OneOk x (ob x)) {a b:Int} {c:Bool} {d:List Int} {ks r:Fo} {dep m:Nat} (ho:(Fo.cons a b c d ks r).Ok dep) (hs:d.length≤2000):ob (nd a b c (strOfNums d) (ks.roots m))=true:=by
 obtain ⟨hb,_,_,o4,o5,o6,o7,_⟩:=ho
 have h1:=(hone (nd a b c (strOfNums d) (ks.roots m)) (by show (strOfNums d).size≤2000;rw [nums_size];exact hs)).1
 exact Ev.det h1 (one_true a b c (strOfNums d) (ks.roots m) hb (fun h=>by rw [o6 h,nums_toList_nil]) (fun h=>by rw [o7 h];rfl) (fun h=>⟨(o4 h).1,fun h2=>((o4 h).2 h2).1⟩))
def Fo.Small:Fo→Nat→Prop
 | .nil,_=>True
 | .cons _ _ _ d ks r,m=>d.length≤m∧ks.Small m∧r.Small m
theorem Fo.small_of:∀ (f:Fo) (m:Nat),f.enc.length≤m→f.Small m
 | .nil,_,_=>trivial
 | .cons a b c d ks r,m,h=>by
  rw [Fo.enc_cons] at h
  have hk:(d++ks.enc).length=d.length+ks.enc.length:=List.length_append
  exact ⟨by omega,Fo.small_of ks m (by omega),Fo.small_of r m (by omega)⟩
theorem fw_ch (ob:Nd→Bool) (hone:∀ x,OneOk x (ob x)) (t:List Nd):∀ (f:Fo) (n dep:Nat),FW t n f→f.Ok dep→f.Small 2000→Ch ob t (f.roots n) n (n+f.size) f.height
 | .nil,n,dep,_,_,_=>.nil n
 | .cons a b c d ks r,n,dep,h,ho,hs=>by
  obtain ⟨hn,h1,h2,h3⟩:=fw_cons.1 h
  have hob:=ob_of ob hone (m:=n+1) ho hs.1
  obtain ⟨_,_,_,_,o5,_,_,o7,o8⟩:=ho
  have i1:=fw_ch ob hone t ks (n+1) _ h2 o7 hs.2.1
  have i2:=fw_ch ob hone t r (n+1+ks.size) _ h3 o8 hs.2.2
  have:=Ch.cons (ob:=ob) (t:=t) (k:=(n:Int)) rfl hn (by rw [rdT_lt t n hn,h1];exact hob) (by rw [kidsOf_at hn,h1];exact i1) i2
  rw [Fo.size,show n+(1+ks.size+r.size)=n+1+ks.size+r.size by omega]
  exact this
theorem of_ch (ob:Nd→Bool) (hone:∀ x,OneOk x (ob x)) (t:List Nd) (hsz:∀ n,n < t.length→(rd_T41 t (n:Int)).f3.size≤2000) {ks:List Int} {n j h:Nat} (c:Ch ob t ks n j h):∀ {bs:List Int} {j':Nat},En t ks n j' bs→∀ dep,dep+h≤16→∃ f:Fo,f.roots n=ks∧n+f.size=j∧FW t n f∧f.enc=bs∧f.Ok dep:=by
 induction c with
 | nil n =>
  intro bs j' e dep hd
  cases e
  exact ⟨.nil,rfl,rfl,rfl,rfl,trivial⟩
 | @cons k ks n m j h1 h2 hk hn ho c1 c2 ih1 ih2 =>
  intro bs j' e dep hd
  cases e with
  | @cons _ _ _ m' _ cs rs _ _ e1 hf e2 =>
   obtain rfl:=En.pos c1 e1
   obtain ⟨f,f1,f2,f3,f4,f5⟩:=ih1 e1 (dep+1) (by omega)
   obtain ⟨r,r1,r2,r3,r4,r5⟩:=ih2 e2 dep (by omega)
   obtain ⟨q1,q2,q3,q4⟩:=((hone _ (hsz n hn)).2.2 ho)
   rw [rdT_lt t n hn] at q1 q2 q3 q4
   rw [kidsOf_at hn] at f1
   have e0:nodeL t n (blN t n++cs)=idB t[n].f0 t[n].f1 t[n].f2++lenB ((bytesOf t[n].f3++f.enc).length:Int)++(bytesOf t[n].f3++f.enc):=by rw [nodeL_at hn,blN_at hn,f4]
   have hfl:=hf
   rw [e0,List.length_append] at hfl
   subst f2
   refine ⟨.cons t[n].f0 t[n].f1 t[n].f2 (bytesOf t[n].f3) f r,by rw [Fo.roots,r1,hk],by rw [Fo.size];omega,?_,by rw [Fo.enc,e0,r4],q1,by omega,by omega,?_,bytesOf_ok _,?_,?_,f5,r5⟩
   ·rw [fw_cons]
    exact ⟨hn,by rw [f1,strOfNums_bytesOf];rfl,f3,r3⟩
   ·intro h0
    refine ⟨(q4 h0).1,fun hc=>?_⟩
    unfold Rt
    rw [strOfNums_bytesOf]
    exact (q4 h0).2 hc
   ·intro hc
    have:=q2 hc
    rw [← strOfNums_bytesOf t[n].f3,nums_toList_nil] at this
    exact this
   ·intro hc
    have hr:=f1
    rw [q3 hc] at hr
    cases f with
    | nil=>rfl
    | cons=>cases hr
theorem tree_of_fo (a b:Int) (c:Bool) (d:List Int) (ks:Fo) (ho:(Fo.cons a b c d ks .nil).Ok 0) (hz:(Fo.cons a b c d ks .nil).size≤1000) (hs:(Fo.cons a b c d ks .nil).Small 2000) (hl:(Fo.cons a b c d ks .nil).enc.length≤65535) :
 Ev (fun k=>tree_Right.f k ((Fo.cons a b c d ks .nil).flat 0)) true∧Ev (fun k=>cr20_Right.f k ((Fo.cons a b c d ks .nil).flat 0)) true∧Ev (fun k=>tree_Depth.f k ((Fo.cons a b c d ks .nil).flat 0)) ((ks.height:Int)+1)∧ks.height+1≤16 ∧
 Ev (fun k=>tree_Encode.f k ((Fo.cons a b c d ks .nil).flat 0)) (strOfNums (Fo.cons a b c d ks .nil).enc,0)∧Ev (fun k=>cr20_Encode.f k ((Fo.cons a b c d ks .nil).flat 0)) (strOfNums (Fo.cons a b c d ks .nil).enc,0):=by
 obtain ⟨ob,hone⟩:=one_all
 have hfw:=fw_flat (Fo.cons a b c d ks .nil)
 have hlen:=Fo.flat_len (Fo.cons a b c d ks .nil) 0
 have hkk:=Fo.flat_kids (Fo.cons a b c d ks .nil) 0
 have hdeep:=ho.deep (by omega)
 have hch:=fw_ch ob hone _ _ 0 0 hfw ho hs
 have hen:=fw_en _ _ 0 0 hfw ho hl
 have hob:=ob_of ob hone (m:=1) ho hs.1
 have hsz1:(Fo.cons a b c d ks .nil).size=1+ks.size+0:=rfl
 have hh1:(Fo.cons a b c d ks .nil).height=max (ks.height+1) 0:=rfl
 rw [Nat.zero_add] at hch hen
 have hen0:(Fo.cons a b c d ks .nil).enc=idB a b c++lenB ((d++ks.enc).length:Int)++(d++ks.enc):=by rw [Fo.enc,Fo.enc,List.append_nil]
 obtain ⟨hn,g1,g2,_⟩:=fw_cons.1 hfw
 have hd5:=ho.2.2.2.2.1
 generalize hT:(Fo.cons a b c d ks .nil).flat 0=t at *
 have hsz:∀ n,n < t.length→(rd_T41 t (n:Int)).f3.size≤2000:=by
  have key:∀ (f:Fo) (n:Nat),f.Small 2000→∀ x∈f.flat n,x.f3.size≤2000:=by
   intro f
   induction f with
   | nil=>intro n _ x hx;cases hx
   | cons a b c d ks r ih1 ih2 =>
    intro n hs x hx
    rw [Fo.flat] at hx
    rcases List.mem_cons.1 hx with rfl | hx
    ·show (strOfNums d).size≤2000;rw [nums_size];exact hs.1
    ·rcases List.mem_append.1 hx with hx | hx
     ·exact ih1 _ hs.2.1 x hx
     ·exact ih2 _ hs.2.2 x hx
  intro n hn
  rw [rdT_lt t n hn]
  exact key (Fo.cons a b c d ks .nil) 0 hs _ (by rw [hT];exact List.getElem_mem hn)
 have hk:∀ n,n < t.length→(kidsOf t n).length≤100000:=fun n hn=>by
  rw [kidsOf_at hn]
  have:=hkk _ (List.getElem_mem hn)
  omega
 have hob2:ObT ob t:=fun n hn=>(hone _ (hsz n hn)).1
 have hin:InR ob:=fun x hx ho=>((hone x hx).2.2 ho).1
 have hks:kidsOf t 0=ks.roots 1:=by rw [kidsOf_at hn,g1];rfl
 have hc0:Ch ob t (kidsOf t 0) 1 t.length ks.height:=by
  rw [hks]
  have:=fw_ch ob hone t ks 1 1 g2 ho.2.2.2.2.2.2.2.1 hs.2.1
  rw [hlen,hsz1]
  exact this
 have hR:RT ob t ks.height:=⟨by omega,by omega,by rw [show (0:Int)=((0:Nat):Int) from rfl,rdT_lt t 0 hn,g1];exact hob,hc0,by omega⟩
 have hrd:=right_depth ob t hk hob2 _ hR
 obtain ⟨b2,hb2,hb2t⟩:=ref_right_is ob t hk (fun n hn=>(hone _ (hsz n hn)).2.1)
 have hb2':b2=true:=hb2t.2 ⟨_,hR⟩
 subst hb2'
 obtain ⟨e,he1,he2,he3,_⟩:=enc_both ob hin t hsz hk (fun i hi=>by
  obtain ⟨x,m,h',c',_⟩:=hch.cover i (Nat.zero_le _) (by omega)
  exact ⟨x,m,h',c'⟩) _ hR hrd.1 hb2
 have hkl:(d++ks.enc).length=d.length+ks.enc.length:=List.length_append
 have henk:En t (kidsOf t 0) 1 t.length ks.enc:=by
  rw [hks]
  have hel:=Fo.enc_cons a b c d ks .nil
  have:=fw_en t ks 1 1 g2 ho.2.2.2.2.2.2.2.1 (by omega)
  rw [hlen,hsz1]
  exact this
 have hnl:nodeL t 0 (blN t 0++ks.enc)=(Fo.cons a b c d ks .nil).enc:=by
  rw [nodeL_at hn,blN_at hn,g1,hen0]
  show idB a b c++lenB ((bytesOf (strOfNums d)++ks.enc).length:Int)++(bytesOf (strOfNums d)++ks.enc)=_
  rw [bytesOf_nums hd5]
 have he:=he3 ks.enc henk (by rw [hnl];exact hl)
 rw [hnl] at he
 subst he
 exact ⟨hrd.1,hb2,hrd.2,by omega,he1,he2⟩
theorem Fo.enc_ok:∀ (f:Fo) (dep:Nat),f.Ok dep→OkB f.enc
 | .nil,_,_=>OkB.nil
 | .cons a b c d ks r,dep,⟨⟨a0,a1,b0,b1⟩,o1,_,_,o5,_,_,o7,o8⟩=>by
  rw [Fo.enc]
  exact (((idB_ok a0 a1 b0 b1).append (lenB_ok (by omega) (by omega))).append (o5.append (Fo.enc_ok ks _ o7))).append (Fo.enc_ok r _ o8)
theorem fo_of_tree (ob:Nd→Bool) (hone:∀ x,OneOk x (ob x)) (t:List Nd) (hsz:∀ n,n < t.length→(rd_T41 t (n:Int)).f3.size≤2000) (H:Nat) (hR:RT ob t H) (cs:List Int) (e:En t (kidsOf t 0) 1 t.length cs) (hf:(nodeL t 0 (blN t 0++cs)).length≤65535) :
 ∃ (a b:Int) (c:Bool) (d:List Int) (ks:Fo),t=(Fo.cons a b c d ks .nil).flat 0∧(Fo.cons a b c d ks .nil).size=t.length∧(Fo.cons a b c d ks .nil).enc=nodeL t 0 (blN t 0++cs)∧(Fo.cons a b c d ks .nil).Ok 0:=by
 have h0:=hR.1
 have c:=Ch.cons (ob:=ob) (t:=t) (k:=(0:Int)) (n:=0) rfl h0 hR.2.2.1 hR.2.2.2.1 (Ch.nil _)
 have e':=En.cons (t:=t) (k:=(0:Int)) (n:=0) rfl h0 e hf (En.nil _)
 obtain ⟨f,f1,f2,f3,f4,f5⟩:=of_ch ob hone t hsz c e' 0 (by have:=hR.2.2.2.2;omega)
 rw [List.append_nil] at f4
 have ht:t=f.flat 0:=by
  unfold FW at f3
  rw [List.drop_zero,show f.size=t.length by omega,List.take_length] at f3
  exact f3
 cases f with
 | nil=>cases f1
 | cons a b c d ks r =>
  rw [Fo.roots] at f1
  cases r with
  | nil=>exact ⟨a,b,c,d,ks,ht,by omega,f4,f5⟩
  | cons=>cases f1
theorem TreeBack (l0:List Nd) (a1:ByteArray) (g0:l0.length≤maxLen∧∀ a∈l0,ok41 a) (w1:a1.size≤140737488351232):∃ k,clavigerlaw20_TreeBack.f k l0 a1=some true:=by
 obtain ⟨l,hl,rfl⟩:=str_nums a1
 refine Ev.rounds (r:=true) ?_
 refine Ev.congr (fun k=>by rw [clavigerlaw20_TreeBack.f,nums_sizeI]) ?_
 have hnone:Ev (fun k=>clavigerlaw20_TreeBack.j0 k l0 (strOfNums l) true) true:=by
  refine Ev.step (fun k=>by rw [clavigerlaw20_TreeBack.j0]) ?_
  exact Ev.ifp rfl (Ev.bind awake20 (Ev.now _))
 obtain ⟨b,hb,hbt⟩:=ptree_is l0 60 (by omega)
 refine Ev.bind hb ?_
 cases b with
 | false=>exact Ev.ifn (by simp) hnone
 | true =>
  refine Ev.ifp rfl ?_
  by_cases hs:(l.length:Int) > 500
  ·rw [decide_eq_true hs];exact hnone
  rw [decide_eq_false hs]
  have back:Ev (fun k=>clavigerlaw20_TreeBack.j1 k (strOfNums l)) true:=by
   refine Ev.step (fun k=>by rw [clavigerlaw20_TreeBack.j1]) ?_
   cases dec_is l hl (by omega) with
   | bad code q hc hq p1 p2 p3 p4=>exact Ev.bind p1 (Ev.ifn hc (Ev.bind awake20 (Ev.now _)))
   | ok a b c d ks he ho hz p1 p2 p3 p4 =>
    obtain ⟨h1,_,h3,h4,h5,_⟩:=tree_of_fo a b c d ks ho hz (Fo.small_of _ _ (by rw [← he];omega)) (by rw [← he];omega)
    rw [← he] at h5
    exact Ev.bind p1 (Ev.ifp rfl (Ev.bind h5 (Ev.bind h1 (Ev.ifp rfl (Ev.ifp rfl (Ev.ifp rfl (Ev.bind h3 (Ev.ifp (by omega) (Ev.bind awake20 (Ev.now _))))))))))
  refine Ev.step (fun k=>by rw [clavigerlaw20_TreeBack.j0]) ?_
  refine Ev.ifn (by simp) ?_
  obtain ⟨hN,hg⟩:=hbt rfl
  obtain ⟨ob,hone⟩:=one_all
  have hsz:∀ n,n < l0.length→(rd_T41 l0 (n:Int)).f3.size≤2000:=fun n hn=>by have:=(hg n hn).1;omega
  have hk:∀ n,n < l0.length→(kidsOf l0 n).length≤100000:=fun n hn=>by have:=(hg n hn).2;omega
  have hob:ObT ob l0:=fun n hn=>(hone _ (hsz n hn)).1
  have hin:InR ob:=fun x hx ho=>((hone x hx).2.2 ho).1
  by_cases hR:∃ h,RT ob l0 h
  case neg =>
   have hr1:=right_no ob l0 hk hob hR
   have he:Ev (fun k=>tree_Encode.f k l0) (⟨#[]⟩,1):=by
    refine Ev.congr (fun k=>by rw [tree_Encode.f]) ?_
    exact Ev.bind hr1 (Ev.ifn (by simp) (Ev.now _))
   exact Ev.bind he (Ev.ifn (by decide) back)
  obtain ⟨H,hR⟩:=hR
  have hrd:=right_depth ob l0 hk hob H hR
  obtain ⟨b2,hb2,hb2t⟩:=ref_right_is ob l0 hk (fun n hn=>(hone _ (hsz n hn)).2.1)
  have hb2':b2=true:=hb2t.2 ⟨_,hR⟩
  subst hb2'
  obtain ⟨e,he1,he2,he3,he4⟩:=enc_both ob hin l0 hsz hk (fun i hi=>by
   by_cases e:i=0
   ·subst e
    exact ⟨hR.2.2.1,_,_,hR.2.2.2.1⟩
   ·obtain ⟨a,m,h',c,hm,hh⟩:=hR.2.2.2.1.cover i (by omega) hi
    exact ⟨a,m,h',c⟩) H hR hrd.1 hb2
  refine Ev.bind he1 ?_
  by_cases h2:e.2=0
  case neg=>exact Ev.ifn h2 back
  obtain ⟨cs,hen,hfit,rfl⟩:=he4 h2
  obtain ⟨a,b,c,d,ks,q1,q2,q3,q4⟩:=fo_of_tree ob hone l0 hsz H hR cs hen hfit
  have hlen:(Fo.cons a b c d ks .nil).enc.length≤65535:=by rw [q3];exact hfit
  obtain ⟨hdec,_⟩:=dec_enc _ (Fo.enc_ok _ _ q4) hlen a b c d ks rfl q4 (by rw [q2];omega)
  rw [q3,← q1] at hdec
  have hsame:=same19 l0 (by omega) (fun x hx=>by
   obtain ⟨i,hi,rfl⟩:=List.getElem_of_mem hx
   have:=(hg i hi).2
   rw [kidsOf_at hi] at this
   omega)
  have hsize:Ev (fun k=>tree_Size.f k l0) ((strOfNums (nodeL l0 0 (blN l0 0++cs))).size:Int):=by
   refine Ev.congr (fun k=>by rw [tree_Size.f]) ?_
   exact Ev.bind he1 (Ev.now _)
  exact Ev.ifp rfl (Ev.bind hdec (Ev.ifp rfl (Ev.bind hsame (Ev.ifp rfl (Ev.bind hsize (Ev.ifp rfl back))))))
end Go.Proofs.YtcbcojbhbhaimaaDoor.Pure
