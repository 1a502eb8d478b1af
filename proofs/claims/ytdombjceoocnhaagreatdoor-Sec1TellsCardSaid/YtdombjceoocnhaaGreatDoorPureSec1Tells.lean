/- A curve's key is written, and read, by the program as by the document, and is as long, for scalars of up to 200 bytes and bytes of up to 500. -/
import Derived.Test.YtdombjceoocnhaaGreatDoorPureSec1Tells0
set_option linter.unusedSectionVars false
set_option linter.unusedSimpArgs false
set_option linter.unusedVariables false
namespace Go.Proofs.YtdombjceoocnhaaGreatDoor.Pure
open Go Go.RowKit Go.Rf Go.Rf.T
def Fo.encs:Fo→List (List Int)
 | .nil=>[]
 | .cons a b c d ks r=>(Fo.cons a b c d ks .nil).enc :: r.encs
theorem Fo.CW (a b:Int) (c:Bool) (d:List Int) (ks:Fo):2≤Fo.hd a b c d ks:=by
 unfold Fo.hd
 rw [List.length_append]
 have h1:0 < (di a b c).length:=by unfold di;split<;>simp
 have h2:0 < (dm ((d++ks.enc).length:Int)).length:=by unfold dm;split;simp;split<;>simp
 omega
theorem Cond.inner {l:List Int} {T:List Nd} {F To:List Int} {O:List Nat} {e dep tl:Nat} (hC:Cond l T F To O e dep tl) (a b:Int) (c:Bool) (d:ByteArray) (p q:Nat) (h1:p≤q) (h2:q≤l.length):Cond l (upd T O++[nd a b c d []]) (F++[(p:Int)]) (To++[(q:Int)]) (O++[tl]) q (dep+1) (tl+1):=by
 have hs1:=hC.sp.snoc p q h1 h2
 refine ⟨by rw [List.length_append,tX,hC.t];rfl,hs1,fun o ho=>?_,fun x hx=>?_,by rw [List.length_append,hC.d];rfl,?_⟩
 ·rcases List.mem_append.1 ho with ho | ho
  ·have:=hC.o o ho;omega
  ·simp at ho;omega
 ·rcases List.mem_append.1 hx with hx | hx
  ·exact CF T O tl hC.k (by rw [hC.t];exact hC.o) x hx
  ·simp at hx;rw [hx];show 0≤_;omega
 ·unfold kQ
  rw [List.getLast?_append,List.getLast?_singleton]
  show (To++[(q:Int)]).getD tl 0=_
  have:=vP To [] (q:Int) 0
  rw [hC.sp.t] at this
  exact this
theorem aeB (l:List Int) (p q e:Nat) (h:q≤e):(dh l p e).take (q - p)=dh l p q:=by
 rw [dh,dh,List.take_take,show min (q - p) (e - p)=q - p by omega]
theorem Vw {l:List Int} {p q:Nat} {x y:List Int} (h:dh l p q=x++y) (hq:q≤l.length) (hp:p≤q):dh l p (p+x.length)=x∧dh l (p+x.length) q=y∧p+x.length≤q:=by
 have hl:=congrArg List.length h
 rw [pO _ _ _ hq,List.length_append] at hl
 have h2:=CG l p (p+x.length) q (by omega) (by omega)
 rw [h] at h2
 have h3:=List.append_inj h2 (by rw [pO _ _ _ (by omega)];omega)
 exact ⟨h3.1.symm,h3.2.symm,by omega⟩
theorem I5 {l:List Int} {p q:Nat} {a b:Int} {c:Bool} {d:List Int} {ks r:Fo} (h:dh l p q=(Fo.cons a b c d ks r).enc) (hq:q≤l.length) (hp:p≤q):p+Fo.hd a b c d ks+(d++ks.enc).length+r.enc.length=q∧dh l p (p+Fo.hd a b c d ks)=di a b c++dm ((d++ks.enc).length:Int) ∧
 dh l (p+Fo.hd a b c d ks) (p+Fo.hd a b c d ks+(d++ks.enc).length)=d++ks.enc∧dh l (p+Fo.hd a b c d ks+(d++ks.enc).length) q=r.enc:=by
 have hl:=congrArg List.length h
 rw [pO _ _ _ hq,Fo.jG] at hl
 rw [Fo.enc] at h
 obtain ⟨h1,h2,h3⟩:=Vw h hq hp
 rw [List.length_append] at h1 h2 h3
 have hh:(di a b c++dm ((d++ks.enc).length:Int)).length=Fo.hd a b c d ks:=rfl
 rw [hh] at h1 h2 h3
 obtain ⟨h4,h5,h6⟩:=Vw h1 (by omega) (by omega)
 rw [hh] at h4 h5
 rw [← Nat.add_assoc] at h2 h5
 exact ⟨by omega,h4,h5,h2⟩
theorem We {l:List Int} (hl:aG l) (hs:l.length≤65535) {p q e dep tl:Nat} {a b:Int} {c:Bool} {d:List Int} {ks r:Fo} (h:dh l p q=(Fo.cons a b c d ks r).enc) (hp:p≤q) (hqe:q≤e) (he:e≤l.length) (ho:(Fo.cons a b c d ks r).Ok dep) (ht:tl < 1000) :
 JU l p e dep tl a b c (Fo.hd a b c d ks) (d++ks.enc).length:=by
 obtain ⟨h1,h2,h3,h4⟩:=I5 h (by omega) hp
 obtain ⟨⟨a0,a1,b0,b1⟩,o1,o2,o3,o4,o5,o6,o7,o8⟩:=ho
 have hpos:=Fo.CW a b c d ks
 refine acK l hl hs p e (by omega) he dep tl o2 ht a b c _ _ a0 a1 b0 b1 o1 rfl hpos ?_ (by omega) ?_
 ·have:=aeB l p (p+Fo.hd a b c d ks) e (by omega)
  rw [show p+Fo.hd a b c d ks - p=Fo.hd a b c d ks by omega] at this
  rw [this,h2]
 ·rw [h3]
  intro h0
  refine ⟨(o3 h0).1,fun hc=>?_⟩
  rw [o6 hc,show d++Fo.nil.enc=d from List.append_nil d]
  exact (o3 h0).2 hc
theorem aeC (l:List Int) (hl:aG l) (hs:l.length≤65535):∀ (f:Fo) (p q e dep tl:Nat),p≤q→q≤e→e≤l.length→dh l p q=f.enc→f.Ok dep→tl+f.size≤1000→∀ (T:List Nd) (F To:List Int) (O:List Nat) (me:Nat) (R:PR),Cond l T F To (O++[me]) e dep tl →
 Ev (fun k=>bH.j3 k (q:Int) 0 (strOfNums l) (fu T me (f.roots tl)++f.flat tl) (dP (F++f.fe p) (To++f.eX p)) (iz (O++[me]))) R→Ev (fun k=>bH.j3 k (p:Int) 0 (strOfNums l) T (dP F To) (iz (O++[me]))) R:=by
 intro f
 induction f with
 | nil =>
  intro p q e dep tl hp hq he h ho ht T F To O me R hC k
  have hl0:=congrArg List.length h
  rw [pO _ _ _ (by omega)] at hl0
  obtain rfl:p=q:=by have:(Fo.nil.enc).length=0:=rfl;omega
  simp only [Fo.roots,Fo.flat,Fo.fe,Fo.eX,List.append_nil] at k
  rw [Ih T me (by rw [hC.t];exact hC.last.1)] at k
  exact k
 | cons a b c d ks r ih1 ih2 =>
  intro p q e dep tl hp hq he h ho ht T F To O me R hC k
  have hk:=We (tl:=tl) hl hs h hp hq he ho (by rw [Fo.size] at ht;omega)
  obtain ⟨g1,g2,g3,g4⟩:=I5 h (by omega) hp
  have hpos:=Fo.CW a b c d ks
  have hsz:(Fo.cons a b c d ks .nil).size=1+ks.size:=rfl
  rw [Fo.size] at ht
  obtain ⟨⟨a0,a1,b0,b1⟩,o1,o2,o3,o4,o5,o6,o7,o8⟩:=ho
  have hlen1:=Fo.jG a b c d ks .nil
  have hz:Fo.nil.enc.length=0:=rfl
  have hnx:=hC.next (Fo.cons a b c d ks .nil) p (by omega) (by omega)
  rw [hsz] at hnx
  have hlast:=hC.last
  have rest:Ev (fun k=>bH.j3 k ((p+Fo.hd a b c d ks+(d++ks.enc).length:Nat):Int) 0 (strOfNums l) (upd T (O++[me])++(Fo.cons a b c d ks .nil).flat tl) (dP (F++(Fo.cons a b c d ks .nil).fe p) (To++(Fo.cons a b c d ks .nil).eX p)) (iz (O++[me]))) R:=by
   refine ih2 _ q e dep _ (by omega) hq he g4 o8 (by omega) _ _ _ O me R hnx ?_
   rw [I4,hC.t,Ii _ _ _ _ (by rw [qp,hC.t];exact hlast.1),Ij _ _ _ _ (by rw [hC.t];exact hlast.1)]
   have e2:tl+(1+ks.size)=tl+1+ks.size:=by omega
   simp only [Fo.flat,Fo.fe,Fo.eX,Fo.roots,List.append_nil,List.append_assoc,List.cons_append,List.nil_append,List.singleton_append,e2] at k ⊢
   exact k
  refine V7 l hs T F To (O++[me]) tl hC.sp hC.o (by have:=hC.d;omega) (p:Int) (by simp) (by rw [hC.e];omega) (hk.prog T F To (O++[me]) R hC ?_)
  cases c with
  | false =>
   rw [if_neg (by decide)]
   rw [g3]
   obtain rfl:=o6 rfl
   simpa only [Fo.flat,Fo.fe,Fo.eX,Fo.roots,Fo.enc,List.append_nil,List.nil_append] using rest
  | true =>
   rw [if_pos rfl]
   obtain rfl:=o5 rfl
   have hin:=hC.inner a b true ⟨#[]⟩ p (p+Fo.hd a b true [] ks+([]++ks.enc).length) (by omega) (by omega)
   refine ih1 _ _ _ (dep+1) (tl+1) (by omega) (Nat.le_refl _) (by omega) g3 o7 (by omega) _ _ _ (O++[me]) tl R hin ?_
   have hin2:=hin.sp
   have e5:fu (upd T (O++[me])++[nd a b true ⟨#[]⟩ []]) tl (ks.roots (tl+1))++ks.flat (tl+1)=upd T (O++[me])++(Fo.cons a b true [] ks .nil).flat tl:=by
    rw [BZ (upd T (O++[me])) _ [] _ tl (by rw [tX,hC.t])]
    simp only [Fo.flat,List.append_nil,List.append_assoc,List.singleton_append]
    rfl
   have e6:F++[(p:Int)]++ks.fe (p+Fo.hd a b true [] ks)=F++(Fo.cons a b true [] ks .nil).fe p:=by
    simp only [Fo.fe,List.append_nil,List.append_assoc,List.singleton_append]
   have e7:To++[((p+Fo.hd a b true [] ks+([]++ks.enc).length:Nat):Int)]++ks.eX (p+Fo.hd a b true [] ks)=To++(Fo.cons a b true [] ks .nil).eX p:=by
    simp only [Fo.eX,List.append_nil,List.append_assoc,List.singleton_append]
   rw [e5,e6,e7]
   refine Jv l hs _ _ _ (O++[me]) tl _ hnx.sp hnx.o (by have:=hC.d;omega) (by omega) _ ?_ rest
   rw [← e7,List.append_assoc,List.singleton_append]
   have:=vP To (ks.eX (p+Fo.hd a b true [] ks)) ((p+Fo.hd a b true [] ks+([]++ks.enc).length:Nat):Int) 0
   rw [hC.sp.t] at this
   exact this
theorem afN (l:List Int) (hl:aG l) (hs:l.length≤65535) (a b:Int) (c:Bool) (d:List Int) (ks:Fo) (he:l=(Fo.cons a b c d ks .nil).enc) (ho:(Fo.cons a b c d ks .nil).Ok 0) (hz:(Fo.cons a b c d ks .nil).size≤1000):Ev (fun k=>mg.f k (strOfNums l)) ((Fo.cons a b c d ks .nil).flat 0,0,0)∧Ev (fun k=>mO.f k (strOfNums l)) ((Fo.cons a b c d ks .nil).flat 0,0,0):=by
 have hseg:dh l 0 l.length=(Fo.cons a b c d ks .nil).enc:=by rw [dh,List.drop_zero,Nat.sub_zero,List.take_length,← he]
 have hk:=We (tl:=0) hl hs hseg (Nat.zero_le _) (Nat.le_refl _) (Nat.le_refl _) ho (by omega)
 obtain ⟨g1,g2,g3,g4⟩:=I5 hseg (Nat.le_refl _) (Nat.zero_le _)
 have hpos:=Fo.CW a b c d ks
 have hn0:(Fo.nil.enc).length=0:=rfl
 have h0:l≠[]:=fun h=>by rw [h] at g1;simp at g1;omega
 have hpos':0 < l.length:=List.length_pos_iff.2 h0
 have hC:Cond l [] [] [] [] l.length 0 0:=⟨rfl,CV l,fun o h=>(by cases h),fun x h=>(by cases h),rfl,rfl⟩
 obtain ⟨⟨a0,a1,b0,b1⟩,o1,o2,o3,o4,o5,o6,o7,o8⟩:=ho
 have hlen:=Fo.jG a b c d ks .nil
 have hsp:=Fo.yJ l (Fo.cons a b c d ks .nil) [] [] 0 0 (CV l) (by rw [← he];omega)
 rw [Nat.zero_add,List.nil_append,List.nil_append] at hsp
 have hdone:=V8 l hs ((Fo.cons a b c d ks .nil).flat 0) ((Fo.cons a b c d ks .nil).fe 0) ((Fo.cons a b c d ks .nil).eX 0) _ hsp l.length (Nat.le_refl _)
 rw [if_neg (Nat.lt_irrefl _)] at hdone
 have e1:0+Fo.hd a b c d ks+(d++ks.enc).length=l.length:=by omega
 have hr:Ev (fun k=>bH.ik k 0 (strOfNums l) [] [] []) (0,0,strOfNums l,(Fo.cons a b c d ks .nil).flat 0,dP ((Fo.cons a b c d ks .nil).fe 0) ((Fo.cons a b c d ks .nil).eX 0),[]):=by
  refine hk.prog [] [] [] [] _ hC ?_
  cases c with
  | false =>
   rw [if_neg (by decide),g3]
   obtain rfl:=o6 rfl
   rw [e1]
   have e2:Fo.hd a b false d .nil+d.length=l.length:=by
    have:=e1
    rw [show Fo.nil.enc=[] from rfl,List.append_nil] at this
    omega
   have hu:upd ([]:List Nd) []=[]:=rfl
   simpa only [Fo.flat,Fo.fe,Fo.eX,Fo.roots,Fo.enc,List.append_nil,List.nil_append,Nat.zero_add,e2,hu] using hdone
  | true =>
   rw [if_pos rfl]
   obtain rfl:=o5 rfl
   have hin:=hC.inner a b true ⟨#[]⟩ 0 (0+Fo.hd a b true [] ks+([]++ks.enc).length) (by omega) (by omega)
   rw [Fo.size] at hz
   refine aeC l hl hs ks _ _ _ 1 1 (by omega) (Nat.le_refl _) (by omega) g3 o7 (by omega) _ _ _ [] 0 _ hin ?_
   have e5:fu (upd [] []++[nd a b true ⟨#[]⟩ []]) 0 (ks.roots 1)++ks.flat 1=(Fo.cons a b true [] ks .nil).flat 0:=by
    have:=BZ [] (nd a b true ⟨#[]⟩ []) [] (ks.roots 1) 0 rfl
    show fu ([]++[nd a b true ⟨#[]⟩ []]) 0 (ks.roots 1)++ks.flat 1=_
    rw [this]
    simp only [Fo.flat,List.append_nil,Nat.zero_add]
    rfl
   have e6:[]++[((0:Nat):Int)]++ks.fe (0+Fo.hd a b true [] ks)=(Fo.cons a b true [] ks .nil).fe 0:=by
    simp only [Fo.fe,List.append_nil,List.nil_append,List.singleton_append]
   have e7:[]++[((0+Fo.hd a b true [] ks+([]++ks.enc).length:Nat):Int)]++ks.eX (0+Fo.hd a b true [] ks)=(Fo.cons a b true [] ks .nil).eX 0:=by
    simp only [Fo.eX,List.append_nil,List.nil_append,List.singleton_append]
   rw [e5,e6,e7]
   refine Jv l hs _ _ _ [] 0 _ hsp (fun o h=>(by cases h)) (by decide) (by rw [Fo.size];omega) _ ?_ ?_
   ·rw [← e7];rfl
   ·rw [e1];exact hdone
 have r:=Ck l h0 hs hr
 have hp:Ev (fun k=>mg.f k (strOfNums l)) ((Fo.cons a b c d ks .nil).flat 0,0,0):=Ev.congr (fun k=>by rw [mg.f]) (Ev.bind r (Ev.ae rfl (Ev.now _)))
 refine ⟨hp,?_⟩
 cases XA l hl hs with
 | bad code q hc hq p1 p2 p3 p4 =>
  have:=hp.ky p1
  exact absurd (congrArg (fun z=>z.2.1) this).symm hc
 | ok a' b' c' d' ks' he' ho' hz' p1 p2 p3 p4 =>
  have:=hp.ky p1
  rw [this]
  exact p2
theorem JV {a b:Int}:mn a b < 0↔a < 0∨b < 0:=by unfold mn;split<;>omega
theorem afO (x:af) (hs:x.f3.size≤2000):∃ b,Ev (fun k=>iy.f k x.f0 x.f1 x.f2 x.f3 x.f4) b∧Ev (fun k=>iM.f k x.f0 x.f1 x.f2 x.f3 x.f4) b∧(b=true→(0≤x.f0∧x.f0≤3∧0≤x.f1∧x.f1≤2097151)∧(x.f2=true→x.f3.toList=[])∧(x.f2=false→x.f4=[])∧(x.f0=0→(x.f2=true→x.f1=16∨x.f1=17)∧(x.f2=false→Ev (fun k=>jE.f k x.f1 x.f3) true∧Ev (fun k=>mh.f k x.f1 x.f3) true))):=by
 obtain ⟨a,b,c,d,e⟩:=x
 obtain ⟨l,hl,rfl⟩:=IQ d
 rw [show (⟨a,b,c,strOfNums l,e⟩:af).f3.size=l.length from strOfNums_size l] at hs
 dsimp only
 obtain ⟨t,t1,t2⟩:=Gy b l hl (by omega)
 have xI:Ev (fun k=>iy.j0 k true a b c (strOfNums l) e) false:=by
  refine Ev.step (fun k=>by rw [iy.j0]) ?_
  exact Ev.ae rfl (Ev.now _)
 have vg:Ev (fun k=>iM.j0 k true a b c (strOfNums l) e) false:=by
  refine Ev.step (fun k=>by rw [iM.j0]) ?_
  exact Ev.ae rfl (Ev.now _)
 by_cases hb:0≤a∧a≤3∧0≤b∧b≤2097151
 case neg =>
  refine ⟨false,?_,?_,fun h=>by cases h⟩
  ·refine Ev.congr (fun k=>by rw [iy.f]) ?_
   by_cases h1:mn a b < 0
   ·exact Ev.ae h1 xI
   refine Ev.ak h1 ?_
   rw [JV] at h1
   by_cases h2:a > 3
   ·exact Ev.ae h2 xI
   refine Ev.ak h2 ?_
   rw [decide_eq_true (by omega)]
   exact xI
  ·refine Ev.congr (fun k=>by rw [iM.f]) ?_
   by_cases h1:a < 0
   ·exact Ev.ae h1 vg
   refine Ev.ak h1 ?_
   by_cases h2:a > 3
   ·exact Ev.ae h2 vg
   refine Ev.ak h2 ?_
   by_cases h3:b < 0
   ·exact Ev.ae h3 vg
   refine Ev.ak h3 ?_
   rw [decide_eq_true (by omega)]
   exact vg
 have s1:∀ {r},Ev (fun k=>iy.j0 k false a b c (strOfNums l) e) r→Ev (fun k=>iy.f k a b c (strOfNums l) e) r:=by
  intro r h
  refine Ev.congr (fun k=>by rw [iy.f]) ?_
  refine Ev.ak (by rw [JV];omega) (Ev.ak (by omega) ?_)
  rw [decide_eq_false (by omega)]
  exact h
 have s2:∀ {r},Ev (fun k=>iM.j0 k false a b c (strOfNums l) e) r→Ev (fun k=>iM.f k a b c (strOfNums l) e) r:=by
  intro r h
  refine Ev.congr (fun k=>by rw [iM.f]) ?_
  refine Ev.ak (by omega) (Ev.ak (by omega) (Ev.ak (by omega) ?_))
  rw [decide_eq_false (by omega)]
  exact h
 have e1:∀ k,iy.j0 (k+1) false a b c (strOfNums l) e=_:=fun k=>by rw [iy.j0]
 have e2:∀ k,iM.j0 (k+1) false a b c (strOfNums l) e=_:=fun k=>by rw [iM.j0]
 cases c with
 | true =>
  by_cases hd:(strOfNums l).toList=[]
  case neg=>exact ⟨false,s1 (Ev.step e1 (Ev.ak (by simp) (Ev.ae rfl (Ev.ak hd (Ev.now _))))),s2 (Ev.step e2 (Ev.ak (by simp) (Ev.ae rfl (Ev.ak hd (Ev.now _))))),fun h=>by cases h⟩
  by_cases h0:a=0
  case neg=>exact ⟨true,s1 (Ev.step e1 (Ev.ak (by simp) (Ev.ae rfl (Ev.ae hd (Ev.ak h0 (Ev.now _)))))),s2 (Ev.step e2 (Ev.ak (by simp) (Ev.ae rfl (Ev.ae hd (Ev.ak h0 (Ev.now _)))))),fun _=>⟨hb,fun _=>hd,(fun h=>by cases h),fun h=>absurd h h0⟩⟩
  by_cases h16:b=16
  ·exact ⟨true,s1 (Ev.step e1 (Ev.ak (by simp) (Ev.ae rfl (Ev.ae hd (Ev.ae h0 (Ev.ae h16 (Ev.now _))))))),s2 (Ev.step e2 (Ev.ak (by simp) (Ev.ae rfl (Ev.ae hd (Ev.ae h0 (Ev.ae h16 (Ev.now _))))))),fun _=>⟨hb,fun _=>hd,(fun h=>by cases h),fun _=>⟨fun _=>.inl h16,fun h=>by cases h⟩⟩⟩
  ·exact ⟨b == 17,s1 (Ev.step e1 (Ev.ak (by simp) (Ev.ae rfl (Ev.ae hd (Ev.ae h0 (Ev.ak h16 (Ev.now _))))))),s2 (Ev.step e2 (Ev.ak (by simp) (Ev.ae rfl (Ev.ae hd (Ev.ae h0 (Ev.ak h16 (Ev.now _))))))),fun h=>⟨hb,fun _=>hd,(fun h=>by cases h),fun _=>⟨fun _=>.inr (eq_of_beq h),fun h=>by cases h⟩⟩⟩
 | false =>
  by_cases he:(e.length:Int)=0
  case neg=>exact ⟨false,s1 (Ev.step e1 (Ev.ak (by simp) (Ev.ak (by simp) (Ev.ak he (Ev.now _))))),s2 (Ev.step e2 (Ev.ak (by simp) (Ev.ak (by simp) (Ev.ak he (Ev.now _))))),fun h=>by cases h⟩
  have hee:e=[]:=List.eq_nil_of_length_eq_zero (by omega)
  by_cases h0:a=0
  ·exact ⟨t,s1 (Ev.step e1 (Ev.ak (by simp) (Ev.ak (by simp) (Ev.ae he (Ev.ae h0 (Ev.bind t1 (Ev.now _))))))),s2 (Ev.step e2 (Ev.ak (by simp) (Ev.ak (by simp) (Ev.ae he (Ev.ae h0 (Ev.bind t2 (Ev.now _))))))),fun ht=>⟨hb,(fun h=>by cases h),(fun _=>hee),fun _=>⟨(fun h=>by cases h),fun _=>by subst ht;exact ⟨t1,t2⟩⟩⟩⟩
  ·exact ⟨true,s1 (Ev.step e1 (Ev.ak (by simp) (Ev.ak (by simp) (Ev.ae he (Ev.ak h0 (Ev.now _)))))),s2 (Ev.step e2 (Ev.ak (by simp) (Ev.ak (by simp) (Ev.ae he (Ev.ak h0 (Ev.now _)))))),fun _=>⟨hb,(fun h=>by cases h),(fun _=>hee),fun h=>absurd h h0⟩⟩
def aU (t:List af) (n:Nat):List Int:=(aa t (n:Int)).f4
inductive Ch (ob:af→Bool) (t:List af):List Int→Nat→Nat→Nat→Prop where
 | nil (n:Nat):Ch ob t [] n n 0
 | cons {k:Int} {ks:List Int} {n m j h1 h2:Nat} (hk:k=(n:Int)) (hn:n < t.length) (ho:ob (aa t (n:Int))=true) (h:Ch ob t (aU t n) (n+1) m h1) (hs:Ch ob t ks m j h2):Ch ob t (k :: ks) n j (max (h1+1) h2)
theorem Ch.le {ob:af→Bool} {t:List af} {ks:List Int} {n j h:Nat} (c:Ch ob t ks n j h):n≤j∧(n≤t.length→j≤t.length):=by
 induction c with
 | nil n=>exact ⟨Nat.le_refl _,id⟩
 | cons hk hn ho h hs ih1 ih2=>exact ⟨by omega,fun _=>ih2.2 (ih1.2 (by omega))⟩
theorem Ch.ky {ob:af→Bool} {t:List af} {ks:List Int} {n j h:Nat} (c:Ch ob t ks n j h):∀ {j' h':Nat},Ch ob t ks n j' h'→j=j'∧h=h':=by
 induction c with
 | nil n=>intro j' h' c';cases c';exact ⟨rfl,rfl⟩
 | cons hk hn ho h hs ih1 ih2 =>
  intro j' h' c'
  cases c' with
  | cons _ _ _ g gs =>
   obtain ⟨rfl,rfl⟩:=ih1 g
   obtain ⟨rfl,rfl⟩:=ih2 gs
   exact ⟨rfl,rfl⟩
def RT (ob:af→Bool) (t:List af) (h:Nat):Prop:=0 < t.length∧t.length≤1000∧ob (aa t 0)=true∧Ch ob t (aU t 0) 1 t.length h∧h+1≤16
theorem afP {α:Type} (s:List α) (x d:α):(s++[x]).getD s.length d=x:=by simp [List.getD_eq_getElem?_getD]
theorem adv (ob:af→Bool) (t:List af) (hN:t.length≤1000) (hk:∀ n,n < t.length→(aU t n).length≤100000)
 (cu:∀ n,n < t.length→Ev (fun k=>iM.f k (aa t (n:Int)).f0 (aa t (n:Int)).f1 (aa t (n:Int)).f2 (aa t (n:Int)).f3 (aa t (n:Int)).f4) (ob (aa t (n:Int)))) :
 ∀ (d deep i:Nat),17 - deep≤d→deep≤17→i≤t.length→∃ r:Int,Ev (fun k=>fo.f k t (i:Int) (deep:Int)) r ∧
  ((r = -1∧¬ ∃ j h,i < t.length∧ob (aa t (i:Int))=true∧Ch ob t (aU t i) (i+1) j h∧deep+h≤16)∨∃ j h:Nat,r=(j:Int)∧i < t.length∧ob (aa t (i:Int))=true∧Ch ob t (aU t i) (i+1) j h∧deep+h≤16):=by
 intro d
 induction d with
 | zero =>
  intro deep i hd Gr hi
  have hno:Ev (fun k=>fo.j0 k t (i:Int) (deep:Int) true) (-1):=by
   refine Ev.step (fun k=>by rw [fo.j0]) ?_
   exact Ev.ae rfl (Ev.now _)
  refine ⟨-1,?_,Or.inl ⟨rfl,fun ⟨j,h,_,_,_,hh⟩=>by omega⟩⟩
  refine Ev.step (fun k=>by rw [fo.f]) ?_
  by_cases g:(i:Int)≥(t.length:Int)
  ·exact Ev.ae g hno
  ·exact Ev.ak g (Ev.ae (by omega) hno)
 | succ d ih =>
  intro deep i hd Gr hi
  have hno:Ev (fun k=>fo.j0 k t (i:Int) (deep:Int) true) (-1):=by
   refine Ev.step (fun k=>by rw [fo.j0]) ?_
   exact Ev.ae rfl (Ev.now _)
  by_cases g:(i:Int)≥(t.length:Int)
  ·refine ⟨-1,?_,Or.inl ⟨rfl,fun ⟨j,h,hh,_⟩=>by omega⟩⟩
   refine Ev.step (fun k=>by rw [fo.f]) ?_
   exact Ev.ae g hno
  by_cases g2:(deep:Int) > 16
  ·refine ⟨-1,?_,Or.inl ⟨rfl,fun ⟨j,h,_,_,_,hh⟩=>by omega⟩⟩
   refine Ev.step (fun k=>by rw [fo.f]) ?_
   exact Ev.ak g (Ev.ae g2 hno)
  have xU:i < t.length:=by omega
  cases hb:ob (aa t (i:Int)) with
  | false =>
   refine ⟨-1,?_,Or.inl ⟨rfl,fun ⟨j,h,_,hh,_⟩=>by cases hh⟩⟩
   refine Ev.step (fun k=>by rw [fo.f]) ?_
   refine Ev.ak g (Ev.ak g2 (Ev.ae (by omega) (Ev.ae (by omega) (Ev.bind (cu i xU) ?_))))
   rw [hb]
   exact hno
  | true =>
   have loop:∀ (ks:List Int) (p n:Nat),(aU t i).drop p=ks→p≤(aU t i).length→n≤t.length→∃ r:Int,Ev (fun k=>fo.l0 k t (i:Int) (deep:Int) (n:Int) (p:Int)) r ∧
    ((r = -1∧¬ ∃ j h,Ch ob t ks n j h∧deep+h≤16)∨∃ j h:Nat,r=(j:Int)∧Ch ob t ks n j h∧deep+h≤16):=by
    intro ks
    induction ks with
    | nil =>
     intro p n hp hpl hn
     have hpe:p=(aU t i).length:=by
      have:=congrArg List.length hp
      simp at this
      omega
     refine ⟨(n:Int),?_,Or.inr ⟨n,0,rfl,Ch.nil n,by omega⟩⟩
     refine Ev.step (fun k=>by rw [fo.l0]) ?_
     refine Ev.ae (by omega) (Ev.ae (by omega) (Ev.ak ?_ (Ev.now _)))
     show ¬ (p:Int) < ((aU t i).length:Int)
     omega
    | cons k0 ks' ihk =>
     intro p n hp hpl hn
     have ZN:p < (aU t i).length:=by
      have:=congrArg List.length hp
      simp at this
      omega
     have hdrop:=List.drop_eq_getElem_cons ZN
     rw [hp] at hdrop
     obtain ⟨hk0,hks⟩:=List.cons.inj hdrop
     have hkl:=hk i xU
     have hrd:rd (aa t (i:Int)).f4 (p:Int)=k0:=by rw [hk0];exact jJ p ZN
     have step:∀ {r},Ev (fun k=>if rd (aa t (i:Int)).f4 (p:Int)=(n:Int) then ((fo.f k t (n:Int) (wrap64 ((deep:Int)+1))).bind fun ZO=>(if ZO < 0 then (some (-1)) else (fo.l0 k t (i:Int) (deep:Int) ZO (wrap64 ((p:Int)+1))))) else some (-1)) r→Ev (fun k=>fo.l0 k t (i:Int) (deep:Int) (n:Int) (p:Int)) r:=by
      intro r h
      refine Ev.step (fun k=>by rw [fo.l0]) ?_
      refine Ev.ae (by omega) (Ev.ae (by omega) (Ev.ae ?_ (Ev.ae (by omega) h)))
      show (p:Int) < ((aU t i).length:Int)
      omega
     rw [hrd,aO (x:=(deep:Int)+1) (by omega) (by omega),aO (x:=(p:Int)+1) (by omega) (by omega)] at step
     by_cases hkn:k0=(n:Int)
     case neg=>exact ⟨-1,step (Ev.ak hkn (Ev.now _)),Or.inl ⟨rfl,fun ⟨j,h,c,_⟩=>by cases c;contradiction⟩⟩
     obtain ⟨r1,hr1,hc1⟩:=ih (deep+1) n (by omega) (by omega) hn
     rw [show ((deep+1:Nat):Int)=(deep:Int)+1 by omega] at hr1
     rcases hc1 with ⟨rfl,hnot⟩ | ⟨j1,h1,rfl,fJ,amK,c1,hd1⟩
     ·refine ⟨-1,step (Ev.ae hkn (Ev.bind hr1 (Ev.ae (by decide) (Ev.now _)))),Or.inl ⟨rfl,fun ⟨j,h,c,hh⟩=>hnot ?_⟩⟩
      cases c with
      | cons _ hn' ho' g gs=>exact ⟨_,_,hn',ho',g,by omega⟩
     ·have hle:=c1.le
      obtain ⟨r2,hr2,hc2⟩:=ihk (p+1) j1 hks.symm (by omega) (hle.2 (by omega))
      rw [show ((p+1:Nat):Int)=(p:Int)+1 by omega] at hr2
      refine ⟨r2,step (Ev.ae hkn (Ev.bind hr1 (Ev.ak (by omega) hr2))),?_⟩
      rcases hc2 with ⟨rfl,hnot⟩ | ⟨j,h,rfl,c,hh⟩
      ·refine Or.inl ⟨rfl,fun ⟨j,h,c,hh⟩=>hnot ?_⟩
       cases c with
       | cons _ hn' ho' g gs =>
        obtain ⟨rfl,rfl⟩:=c1.ky g
        exact ⟨_,_,gs,by omega⟩
      ·exact Or.inr ⟨j,_,rfl,Ch.cons hkn fJ amK c1 c,by omega⟩
   obtain ⟨r,hr,hc⟩:=loop _ 0 (i+1) rfl (by omega) (by omega)
   refine ⟨r,?_,?_⟩
   ·refine Ev.step (fun k=>by rw [fo.f]) ?_
    refine Ev.ak g (Ev.ak g2 (Ev.ae (by omega) (Ev.ae (by omega) (Ev.bind (cu i xU) ?_))))
    rw [hb]
    refine Ev.step (fun k=>by rw [fo.j0]) ?_
    rw [aO (by omega) (by omega)]
    exact Ev.ak (by simp) hr
   ·rw [List.drop_zero] at hc
    rcases hc with ⟨rfl,hnot⟩ | ⟨j,h,rfl,c,hh⟩
    ·exact Or.inl ⟨rfl,fun ⟨j,h,_,_,c,hh⟩=>hnot ⟨j,h,c,hh⟩⟩
    ·exact Or.inr ⟨j,h,rfl,xU,rfl,c,hh⟩
theorem abx (ob:af→Bool) (t:List af) (hk:∀ n,n < t.length→(aU t n).length≤100000)
 (cu:∀ n,n < t.length→Ev (fun k=>iM.f k (aa t (n:Int)).f0 (aa t (n:Int)).f1 (aa t (n:Int)).f2 (aa t (n:Int)).f3 (aa t (n:Int)).f4) (ob (aa t (n:Int)))) :
 ∃ b,Ev (fun k=>mP.f k t) b∧(b=true↔∃ h,RT ob t h):=by
 by_cases h0:(t.length:Int) > 0
 case neg =>
  refine ⟨false,?_,by simp;intro h hh;have:=hh.1;omega⟩
  refine Ev.congr (fun k=>by rw [mP.f]) ?_
  exact Ev.ak h0 (Ev.now _)
 by_cases h1:(t.length:Int)≤1000
 case neg =>
  refine ⟨false,?_,by simp;intro h hh;have:=hh.2.1;omega⟩
  refine Ev.congr (fun k=>by rw [mP.f]) ?_
  exact Ev.ae h0 (Ev.ak h1 (Ev.now _))
 obtain ⟨r,hr,hc⟩:=adv ob t (by omega) hk cu 16 1 0 (by omega) (by omega) (by omega)
 refine ⟨r == (t.length:Int),?_,?_⟩
 ·refine Ev.congr (fun k=>by rw [mP.f]) ?_
  exact Ev.ae h0 (Ev.ae h1 (Ev.bind hr (Ev.now _)))
 ·rw [beq_iff_eq]
  rcases hc with ⟨rfl,hnot⟩ | ⟨j,h,rfl,hi,ho,c,hh⟩
  ·exact ⟨fun h=>by omega,fun ⟨h,a1,a2,a3,a4,a5⟩=>absurd ⟨_,h,a1,a3,a4,by omega⟩ hnot⟩
  ·constructor
   ·intro e
    obtain rfl:j=t.length:=by omega
    exact ⟨h,hi,by omega,ho,c,by omega⟩
   ·rintro ⟨h',a1,a2,a3,a4,a5⟩
    rw [(c.ky a4).1]
theorem JB (s:List bX) (x:bX) (i:Int) (h:i=(s.length:Int)):bE (s++[x]) i=x:=by
 subst h
 unfold bE
 rw [Int.toNat_natCast]
 exact afP _ _ _
def Done (t:List af) (l:List bX):Prop:=∀ f∈l,∃ p:Nat,p < t.length∧f=⟨(p:Int),((aU t p).length:Int)⟩
theorem Gb (t:List af) (hN:t.length≤1000) (s:List bX) (hs:s.length≤100000) (most i:Int) (r:Int):∀ (n:Nat) (l:List bX),l.length=n→l.length≤100000→Done t l →
 Ev (fun k=>bR.l1 k t s most i t (t.length:Int) i) r→Ev (fun k=>bR.l1 k t (s++l) most i t (t.length:Int) i) r:=by
 intro n
 induction n with
 | zero =>
  intro l hl _ _ h
  obtain rfl:=List.eq_nil_of_length_eq_zero hl
  rw [List.append_nil]
  exact h
 | succ n ih =>
  intro l hl h5 hd h
  obtain ⟨q,x,rfl⟩:∃ q x,l=q++[x]:=⟨l.dropLast,l.getLast (by intro e;subst e;simp at hl),(List.dropLast_concat_getLast _).symm⟩
  simp at hl h5
  have h2:=ih q hl (by omega) (fun f hf=>hd f (by simp [hf])) h
  obtain ⟨p,hp,rfl⟩:=hd x (by simp)
  have hlen:((s++(q++[(⟨(p:Int),((aU t p).length:Int)⟩:bX)])).length:Int)=(s++q).length+1:=by simp;omega
  refine Ev.step (fun k=>by rw [bR.l1]) ?_
  have Gn:(s++q).length≤200000:=by simp;omega
  rw [hlen,aO (by omega) (by omega),show ((s++q).length:Int)+1 - 1=((s++q).length:Int) by omega,← List.append_assoc,JB (s++q) _ _ rfl]
  refine Ev.ae (by omega) (Ev.ae (by omega) (Ev.ae (by omega) (Ev.ae (by simp) (Ev.ae (by simp;omega) (Ev.ae rfl (Ev.ae (by omega) ?_))))))
  rw [Int.toNat_natCast,List.take_left]
  exact h2
theorem XB (t:List af) (most:Int) (x:List bX) (hx:x.length≤100000) (hd:Done t x) (d:Nat):∀ i:Nat,i≤x.length→x.length - i=d →
 Ev (fun k=>bR.l2 k t x most (x.length:Int) (i:Int)) (if most > 16 then 0 else most):=by
 induction d with
 | zero =>
  intro i hi hdd
  refine Ev.step (fun k=>by rw [bR.l2]) ?_
  refine Ev.ak (by omega) ?_
  exact Ev.ite (fun _=>Ev.now _) (fun _=>Ev.now _)
 | succ d ih =>
  intro i hi hdd
  have hlt:i < x.length:=by omega
  obtain ⟨p,hp,hf⟩:=hd x[i] (List.getElem_mem hlt)
  have hr:bE x (i:Int)=x[i]:=by unfold bE;simp [List.getD_eq_getElem?_getD,hlt]
  refine Ev.step (fun k=>by rw [bR.l2]) ?_
  rw [hr,hf,aO (by omega) (by omega),show (i:Int)+1=((i+1:Nat):Int) by omega]
  exact Ev.ae (by omega) (Ev.ae (by omega) (Ev.ae (by omega) (Ev.ae (by simp) (Ev.ae (by simp;omega) (Ev.ae rfl (ih (i+1) (by omega) (by omega)))))))
theorem ags (t:List af) (most:Int) (x:List bX) (hx:x.length≤100000) (hw:∀ f∈x,0≤f.f0∧f.f0 < (t.length:Int)) (j:Nat) (hj:j < x.length) (hn:x[j].f1≠((aa t x[j].f0).f4.length:Int)) (d:Nat):∀ i:Nat,i≤j→j - i=d →
 Ev (fun k=>bR.l2 k t x most (x.length:Int) (i:Int)) 0:=by
 induction d with
 | zero =>
  intro i hi hdd
  obtain rfl:i=j:=by omega
  have hr:bE x (i:Int)=x[i]:=by unfold bE;simp [List.getD_eq_getElem?_getD,hj]
  have hwf:=hw x[i] (List.getElem_mem hj)
  refine Ev.step (fun k=>by rw [bR.l2]) ?_
  rw [hr]
  exact Ev.ae (by omega) (Ev.ae (by omega) (Ev.ae (by omega) (Ev.ae hwf.1 (Ev.ae hwf.2 (Ev.ak hn (Ev.now _))))))
 | succ d ih =>
  intro i hi hdd
  have hlt:i < x.length:=by omega
  have hr:bE x (i:Int)=x[i]:=by unfold bE;simp [List.getD_eq_getElem?_getD,hlt]
  have hwf:=hw x[i] (List.getElem_mem hlt)
  refine Ev.step (fun k=>by rw [bR.l2]) ?_
  rw [hr,aO (by omega) (by omega),show (i:Int)+1=((i+1:Nat):Int) by omega]
  refine Ev.ae (by omega) (Ev.ae (by omega) (Ev.ae (by omega) (Ev.ae hwf.1 (Ev.ae hwf.2 ?_))))
  by_cases hc:x[i].f1=((aa t x[i].f0).f4.length:Int)
  ·exact Ev.ae hc (ih (i+1) (by omega) (by omega))
  ·exact Ev.ak hc (Ev.now _)
def qO (ob:af→Bool) (t:List af):Prop:=∀ n,n < t.length→Ev (fun k=>iy.f k (aa t (n:Int)).f0 (aa t (n:Int)).f1 (aa t (n:Int)).f2 (aa t (n:Int)).f3 (aa t (n:Int)).f4) (ob (aa t (n:Int)))
theorem yF (ob:af→Bool) (t:List af) (cu:qO ob t) (x:List bX) (most:Int) (n:Nat) (hn:n < t.length) (ho:ob (aa t (n:Int))=true) {r:Int}
 (h:Ev (fun k=>bR.l1 k t x most (n:Int) t (t.length:Int) (n:Int)) r):Ev (fun k=>bR.l0 k t x most t (t.length:Int) (n:Int)) r:=by
 refine Ev.step (fun k=>by rw [bR.l0]) ?_
 refine Ev.ae (by omega) (Ev.ae (by omega) (Ev.ae (by omega) (Ev.bind (cu n hn) ?_)))
 rw [ho]
 exact Ev.ae rfl h
theorem aeD {α:Type} (s:List α) (x y:α) (i:Int) (h:i=(s.length:Int)):(s++[x]).set i.toNat y=s++[y]:=by
 subst h
 rw [Int.toNat_natCast]
 simp
theorem JW (t:List af) (hN:t.length≤1000) (s:List bX) (hs:s.length≤2000) (p q n:Nat) (hp:p < t.length) (hq:q < (aU t p).length) (hk:(aU t p).length≤100000) (hn0:0 < n) (hn:n < t.length) (most:Int) {r:Int}
 (h:Ev (fun k=>if rd (aU t p) (q:Int)=(n:Int) then bR.l0 k t (s++[⟨(p:Int),((q+1:Nat):Int)⟩]++[⟨(n:Int),0⟩]) (mx most ((s.length+2:Nat):Int)) t (t.length:Int) ((n+1:Nat):Int) else some 0) r) :
 Ev (fun k=>bR.l1 k t (s++[⟨(p:Int),(q:Int)⟩]) most (n:Int) t (t.length:Int) (n:Int)) r:=by
 have hlen:((s++[(⟨(p:Int),(q:Int)⟩:bX)]).length:Int)=(s.length:Int)+1:=by simp
 have anF:∀ y:bX,((s++[y]).length:Int)=(s.length:Int)+1:=by intro y;simp
 refine Ev.step (fun k=>by rw [bR.l1]) ?_
 rw [hlen,aO (by omega) (by omega),show (s.length:Int)+1 - 1=(s.length:Int) by omega,JB s _ _ rfl]
 refine Ev.ae (by omega) (Ev.ae (by omega) (Ev.ae (by omega) (Ev.ae (by simp) (Ev.ae (by simp;omega) (Ev.ak ?_ ?_)))))
 ·show ¬ (q:Int)=((aU t p).length:Int)
  omega
 refine Ev.step (fun k=>by rw [bR.j3]) ?_
 rw [hlen,aO (by omega) (by omega),show (s.length:Int)+1 - 1=(s.length:Int) by omega,JB s _ _ rfl,aeD s _ _ _ rfl]
 refine Ev.ae (by omega) (Ev.ak (by omega) (Ev.ae (by omega) (Ev.ae (by omega) (Ev.ae (by simp) (Ev.ae (by simp;omega) (Ev.ae (by simp) (Ev.ae ?_ ?_)))))))
 ·show (q:Int) < ((aU t p).length:Int)
  omega
 refine (Ev.congr (fun k=>?_) h)
 show (if rd (aU t p) (q:Int)=(n:Int) then _ else _)=_
 by_cases hv:rd (aU t p) (q:Int)=(n:Int)
 ·rw [if_pos hv,if_pos hv,Option.bind_some,if_pos (by simp;omega),Option.bind_some]
  dsimp only
  rw [aO (x:=(q:Int)+1) (by omega) (by omega),aO (x:=(n:Int)+1) (by omega) (by omega)]
  rw [show ((s++[(⟨(p:Int),(q:Int)+1⟩:bX)]++[(⟨(n:Int),0⟩:bX)]).length:Int)=((s.length+2:Nat):Int) by simp]
  rfl
 ·rw [if_neg hv,if_neg hv]
theorem agt (a b:Nat):mx (a:Int) (b:Int)=((max a b:Nat):Int):=by unfold mx;split<;>omega
theorem adw (ob:af→Bool) (t:List af) (hN:t.length≤1000) (hk:∀ n,n < t.length→(aU t n).length≤100000) (cu:qO ob t) {ks:List Int} {n j h:Nat} (c:Ch ob t ks n j h) :
 ∀ (s:List bX) (p q:Nat) (dn:List bX) (most:Nat),p < t.length→(aU t p).drop q=ks→q≤(aU t p).length→Done t dn→s.length+1+dn.length≤n→n≤t.length→s.length+1≤most →
 ∃ TY,Done t TY∧s.length+1+TY.length≤j∧∀ r,Ev (fun k=>bR.l0 k t (s++([⟨(p:Int),((q+ks.length:Nat):Int)⟩]++TY)) ((max most (s.length+1+h):Nat):Int) t (t.length:Int) (j:Int)) r →
  Ev (fun k=>bR.l0 k t (s++([⟨(p:Int),(q:Int)⟩]++dn)) (most:Int) t (t.length:Int) (n:Int)) r:=by
 induction c with
 | nil n =>
  intro s p q dn most hp hks hq hd hl hn hm
  refine ⟨dn,hd,hl,fun r hr=>?_⟩
  rw [show max most (s.length+1+0)=most by omega] at hr
  exact hr
 | @cons k ks n m j h1 h2 hkn fJ ho c1 c2 ih1 ih2 =>
  intro s p q dn most hp hks hq hd hl hn hm
  have hq2:q < (aU t p).length:=by
   have:=congrArg List.length hks
   simp at this
   omega
  have hdrop:=List.drop_eq_getElem_cons hq2
  rw [hks] at hdrop
  obtain ⟨hk0,vk⟩:=List.cons.inj hdrop
  have hv:rd (aU t p) (q:Int)=(n:Int):=by rw [jJ q hq2,← hk0,hkn]
  have le1:=c1.le
  obtain ⟨dn1,hd1,hl1,g1⟩:=ih1 (s++[⟨(p:Int),((q+1:Nat):Int)⟩]) n 0 [] (max most (s.length+2)) fJ rfl (by omega) (by intro f hf;cases hf) (by simp;omega) (by omega) (by simp;omega)
  simp only [List.length_append,List.length_cons,List.length_nil] at hl1 g1
  obtain ⟨dn2,hd2,hl2,g2⟩:=ih2 s p (q+1) ([⟨(n:Int),((aU t n).length:Int)⟩]++dn1) (max (max most (s.length+2)) (s.length+(0+1)+1+h1)) hp vk.symm (by omega)
   (by
    intro f hf
    rcases List.mem_append.1 hf with hf | hf
    ·exact ⟨n,fJ,by simpa using hf⟩
    ·exact hd1 f hf) (by simp;omega) (le1.2 (by omega)) (by omega)
  refine ⟨dn2,hd2,hl2,fun r hr=>?_⟩
  refine yF ob t cu _ _ n fJ ho ?_
  rw [← List.append_assoc]
  refine Gb t hN _ (by simp;omega) _ _ _ _ dn rfl (by omega) hd ?_
  refine JW t hN s (by omega) p q n hp hq2 (hk p hp) (by omega) fJ _ ?_
  refine Ev.ae hv ?_
  rw [agt]
  have g3:=g1 r
  rw [List.append_nil] at g3
  refine g3 ?_
  rw [List.append_assoc,show 0+(aU t n).length=(aU t n).length by omega]
  refine g2 r ?_
  rw [show q+1+ks.length=q+(k :: ks).length by simp;omega,show max (max (max most (s.length+2)) (s.length+(0+1)+1+h1)) (s.length+1+h2)=max most (s.length+1+max (h1+1) h2) by omega]
  exact hr
def Shut (ob:af→Bool) (t:List af):List bX→Nat→Prop
 | [],n=>n=t.length
 | f :: rest,n=>∃ m h,Ch ob t ((aU t f.f0.toNat).drop f.f1.toNat) n m h∧Shut ob t rest m
def Gc (t:List af) (x:List bX):Prop:=∀ f∈x,∃ p q:Nat,p < t.length∧q≤(aU t p).length∧f=⟨(p:Int),(q:Int)⟩
theorem Ik (ob:af→Bool) (t:List af) (y:List bX) (n:Nat) (h:Shut ob t y n):∀ l:List bX,Done t l→Shut ob t (l++y) n
 | [],_=>h
 | f :: l,hd=>by
  obtain ⟨p,hp,hf⟩:=hd f (by simp)
  refine ⟨n,0,?_,Ik ob t y n h l (fun g hg=>hd g (by simp [hg]))⟩
  rw [hf]
  dsimp only
  rw [Int.toNat_natCast,Int.toNat_natCast,List.drop_length]
  exact Ch.nil n
theorem acL (t:List af):∀ (m:Nat) (x:List bX),x.length=m→Gc t x→∃ y dn,x=y++dn∧Done t dn∧(y=[]∨∃ s,∃ p q:Nat,p < t.length∧q < (aU t p).length∧y=s++[⟨(p:Int),(q:Int)⟩]):=by
 intro m
 induction m with
 | zero =>
  intro x hx _
  obtain rfl:=List.eq_nil_of_length_eq_zero hx
  exact ⟨[],[],rfl,(fun f hf=>by cases hf),Or.inl rfl⟩
 | succ m ih =>
  intro x hx hw
  obtain ⟨z,f,rfl⟩:∃ z f,x=z++[f]:=⟨x.dropLast,x.getLast (by intro e;subst e;simp at hx),(List.dropLast_concat_getLast _).symm⟩
  simp at hx
  obtain ⟨p,q,hp,hq,rfl⟩:=hw f (by simp)
  by_cases hqe:q=(aU t p).length
  ·obtain ⟨y,dn,hy,hd,hc⟩:=ih z hx (fun g hg=>hw g (by simp [hg]))
   refine ⟨y,dn++[⟨(p:Int),(q:Int)⟩],by rw [hy,List.append_assoc],?_,hc⟩
   intro g hg
   rcases List.mem_append.1 hg with hg | hg
   ·exact hd g hg
   ·exact ⟨p,hp,by rw [← hqe];simpa using hg⟩
  ·exact ⟨z++[⟨(p:Int),(q:Int)⟩],[],by simp,(fun f hf=>by cases hf),Or.inr ⟨z,p,q,hp,by omega,rfl⟩⟩
theorem adx (ob:af→Bool) (t:List af) (hN:t.length≤1000) (hk:∀ n,n < t.length→(aU t n).length≤100000) (cu:qO ob t) :
 ∀ (d n:Nat),t.length - n=d→0 < n→n≤t.length→∀ (x:List bX) (most:Int),Gc t x→x.length≤n→∃ r,Ev (fun k=>bR.l0 k t x most t (t.length:Int) (n:Int)) r∧(r=0∨Shut ob t x.reverse n):=by
 intro d
 induction d with
 | zero =>
  intro n hd h0 hn x most hw hx
  obtain rfl:n=t.length:=by omega
  have h1:∀ {r},Ev (fun k=>bR.l2 k t x most (x.length:Int) ((0:Nat):Int)) r→Ev (fun k=>bR.l0 k t x most t (t.length:Int) (t.length:Int)) r:=by
   intro r h
   refine Ev.step (fun k=>by rw [bR.l0]) ?_
   exact Ev.ak (by omega) h
  by_cases hdn:Done t x
  ·refine ⟨_,h1 (XB t most x (by omega) hdn x.length 0 (by omega) (by omega)),Or.inr ?_⟩
   have:=Ik ob t [] t.length rfl x.reverse (fun f hf=>hdn f (by simpa using hf))
   rwa [List.append_nil] at this
  ·have:∃ f,f∈x∧¬ ∃ p:Nat,p < t.length∧f=⟨(p:Int),((aU t p).length:Int)⟩:=by
    apply Classical.byContradiction
    intro hc
    exact hdn (fun f hf=>Classical.byContradiction (fun h=>hc ⟨f,hf,h⟩))
   obtain ⟨f,hf,hne⟩:=this
   obtain ⟨j,hj,rfl⟩:=List.mem_iff_getElem.1 hf
   refine ⟨0,h1 (ags t most x (by omega) ?_ j hj ?_ j 0 (by omega) (by omega)),Or.inl rfl⟩
   ·intro f hf
    obtain ⟨p,q,hp,_,rfl⟩:=hw f hf
    dsimp only
    omega
   ·obtain ⟨p,q,hp,hq,hfe⟩:=hw _ hf
    rw [hfe] at hne ⊢
    intro e
    exact hne ⟨p,hp,by rw [show ((q:Nat):Int)=((aU t p).length:Int) from e]⟩
 | succ d ih =>
  intro n hd h0 hn x most hw hx
  have fJ:n < t.length:=by omega
  cases hb:ob (aa t (n:Int)) with
  | false =>
   refine ⟨0,?_,Or.inl rfl⟩
   refine Ev.step (fun k=>by rw [bR.l0]) ?_
   refine Ev.ae (by omega) (Ev.ae (by omega) (Ev.ae (by omega) (Ev.bind (cu n fJ) ?_)))
   rw [hb]
   exact Ev.ak (by simp) (Ev.now _)
  | true =>
   obtain ⟨y,dn,rfl,hdn,hc⟩:=acL t x.length x rfl hw
   rw [List.length_append] at hx
   rcases hc with rfl | ⟨s,p,q,hp,hq,rfl⟩
   ·refine ⟨0,yF ob t cu _ _ n fJ hb (Gb t hN _ (by simp) _ _ _ _ dn rfl (by omega) hdn ?_),Or.inl rfl⟩
    refine Ev.step (fun k=>by rw [bR.l1]) ?_
    refine Ev.ak (by simp) ?_
    refine Ev.step (fun k=>by rw [bR.j3]) ?_
    exact Ev.ae (by omega) (Ev.ae (by simp) (Ev.now _))
   ·simp at hx
    by_cases hv:rd (aU t p) (q:Int)=(n:Int)
    ·have hw2:Gc t (s++[⟨(p:Int),((q+1:Nat):Int)⟩]++[⟨(n:Int),0⟩]):=by
      intro f hf
      simp at hf
      rcases hf with hf | rfl | rfl
      ·exact hw f (by simp [hf])
      ·exact ⟨p,q+1,hp,by omega,by simp⟩
      ·exact ⟨n,0,fJ,by omega,rfl⟩
     obtain ⟨r,hr,hcr⟩:=ih (n+1) (by omega) (by omega) (by omega) _ (mx most ((s.length+2:Nat):Int)) hw2 (by simp;omega)
     refine ⟨r,yF ob t cu _ _ n fJ hb (Gb t hN _ (by simp;omega) _ _ _ _ dn rfl (by omega) hdn (JW t hN s (by omega) p q n hp hq (hk p hp) h0 fJ _ (Ev.ae hv hr))),?_⟩
     rcases hcr with rfl | hsh
     ·exact Or.inl rfl
     refine Or.inr ?_
     simp only [List.reverse_append,List.reverse_cons,List.reverse_nil,List.nil_append,List.singleton_append,List.cons_append] at hsh ⊢
     obtain ⟨m,h1,c1,m2,h2,c2,hsr⟩:=hsh
     refine Ik ob t _ n ?_ dn.reverse (fun f hf=>hdn f (by simpa using hf))
     refine ⟨m2,max (h1+1) h2,?_,hsr⟩
     dsimp only at c1 c2 ⊢
     rw [Int.toNat_natCast,Int.toNat_natCast] at c2 ⊢
     rw [Int.toNat_natCast] at c1
     rw [List.drop_eq_getElem_cons hq]
     refine Ch.cons ?_ fJ hb c1 c2
     rw [← jJ q hq]
     exact hv
    ·exact ⟨0,yF ob t cu _ _ n fJ hb (Gb t hN _ (by simp;omega) _ _ _ _ dn rfl (by omega) hdn (JW t hN s (by omega) p q n hp hq (hk p hp) h0 fJ _ (Ev.ak hv (Ev.now _)))),Or.inl rfl⟩
theorem aa9 (ob:af→Bool) (t:List af) (hk:∀ n,n < t.length→(aU t n).length≤100000) (cu:qO ob t) :
 ∃ r:Int,Ev (fun k=>bR.f k t) r∧((∃ h:Nat,r=(h:Int)+1∧RT ob t h)∨r=0∧¬ ∃ h,RT ob t h):=by
 have hno:Ev (fun k=>bR.j0 k t true) 0:=by
  refine Ev.step (fun k=>by rw [bR.j0]) ?_
  exact Ev.ae rfl (Ev.now _)
 by_cases h0:(t.length:Int)=0
 ·refine ⟨0,?_,Or.inr ⟨rfl,fun ⟨h,a,_⟩=>by omega⟩⟩
  refine Ev.congr (fun k=>by rw [bR.f]) ?_
  exact Ev.ae h0 hno
 by_cases h1:t.length≤1000
 case neg =>
  refine ⟨0,?_,Or.inr ⟨rfl,fun ⟨h,_,a,_⟩=>by omega⟩⟩
  refine Ev.congr (fun k=>by rw [bR.f]) ?_
  refine Ev.ak h0 ?_
  rw [decide_eq_true (by omega)]
  exact hno
 have hin:∀ {r},Ev (fun k=>bR.l0 k t ([]:List bX) 0 t (t.length:Int) ((0:Nat):Int)) r→Ev (fun k=>bR.f k t) r:=by
  intro r h
  refine Ev.congr (fun k=>by rw [bR.f]) ?_
  refine Ev.ak h0 ?_
  rw [decide_eq_false (by omega)]
  refine Ev.step (fun k=>by rw [bR.j0]) ?_
  exact Ev.ak (by simp) h
 have hN:0 < t.length:=by omega
 cases hb:ob (aa t ((0:Nat):Int)) with
 | false =>
  refine ⟨0,hin ?_,Or.inr ⟨rfl,fun ⟨h,_,_,a,_⟩=>by rw [show (0:Int)=((0:Nat):Int) from rfl,hb] at a;cases a⟩⟩
  refine Ev.step (fun k=>by rw [bR.l0]) ?_
  refine Ev.ae (by omega) (Ev.ae (by omega) (Ev.ae (by omega) (Ev.bind (cu 0 hN) ?_)))
  rw [hb]
  exact Ev.ak (by simp) (Ev.now _)
 | true =>
  have hone:∀ {r},Ev (fun k=>bR.l0 k t [⟨((0:Nat):Int),((0:Nat):Int)⟩] ((1:Nat):Int) t (t.length:Int) ((1:Nat):Int)) r→Ev (fun k=>bR.f k t) r:=by
   intro r h
   refine hin (yF ob t cu _ _ 0 hN hb ?_)
   refine Ev.step (fun k=>by rw [bR.l1]) ?_
   refine Ev.ak (by simp) ?_
   refine Ev.step (fun k=>by rw [bR.j3]) ?_
   refine Ev.ak (by omega) (Ev.ae (by simp) (Ev.bU rfl ?_))
   rw [aO (by omega) (by omega)]
   exact h
  have hw:Gc t [⟨((0:Nat):Int),((0:Nat):Int)⟩]:=by
   intro f hf
   exact ⟨0,0,hN,by omega,by simpa using hf⟩
  by_cases hc:∃ h,Ch ob t (aU t 0) 1 t.length h
  ·obtain ⟨h,c⟩:=hc
   obtain ⟨dn,hdn,hl,g⟩:=adw ob t h1 hk cu c [] 0 0 [] 1 hN rfl (by omega) (by intro f hf;cases hf) (by simp) (by omega) (by simp)
   have hdd:Done t ([⟨((0:Nat):Int),((0+(aU t 0).length:Nat):Int)⟩]++dn):=by
    intro f hf
    rcases List.mem_append.1 hf with hf | hf
    ·exact ⟨0,hN,by rw [Nat.zero_add] at hf;simpa using hf⟩
    ·exact hdn f hf
   have g2:=XB t ((max 1 (([]:List bX).length+1+h):Nat):Int) _ (by simp at hl ⊢;omega) hdd _ 0 (by omega) rfl
   obtain ⟨R,hR⟩:∃ R:Int,R=if ((max 1 (([]:List bX).length+1+h):Nat):Int) > 16 then 0 else ((max 1 (([]:List bX).length+1+h):Nat):Int):=⟨_,rfl⟩
   rw [← hR] at g2
   have g3:=g R (by
    refine Ev.step (fun k=>by rw [bR.l0]) ?_
    exact Ev.ak (by omega) g2)
   refine ⟨R,hone g3,?_⟩
   rw [hR]
   by_cases h16:h+1≤16
   ·refine Or.inl ⟨h,?_,hN,h1,hb,c,h16⟩
    rw [if_neg (by simp;omega)]
    simp
    omega
   ·refine Or.inr ⟨if_pos (by simp;omega),fun ⟨h',_,_,_,c',hh⟩=>?_⟩
    have:=(c.ky c').2
    omega
  ·obtain ⟨r,hr,hcr⟩:=adx ob t h1 hk cu _ 1 rfl (by omega) (by omega) _ ((1:Nat):Int) hw (by simp)
   refine ⟨r,hone hr,Or.inr ⟨?_,fun ⟨h',_,_,_,c',_⟩=>hc ⟨_,c'⟩⟩⟩
   rcases hcr with rfl | ⟨m,h,c,hm⟩
   ·rfl
   ·exact absurd ⟨h,by rw [show m=t.length from hm] at c;exact c⟩ hc
def wN (x:af) (b:Bool):Prop:=x.f3.size≤2000→Ev (fun k=>iy.f k x.f0 x.f1 x.f2 x.f3 x.f4) b∧Ev (fun k=>iM.f k x.f0 x.f1 x.f2 x.f3 x.f4) b∧(b=true→(0≤x.f0∧x.f0≤3∧0≤x.f1∧x.f1≤2097151)∧(x.f2=true→x.f3.toList=[])∧(x.f2=false→x.f4=[])∧(x.f0=0→(x.f2=true→x.f1=16∨x.f1=17)∧(x.f2=false→Ev (fun k=>jE.f k x.f1 x.f3) true∧Ev (fun k=>mh.f k x.f1 x.f3) true)))
theorem Xa:∃ ob:af→Bool,∀ x,wN x (ob x):=by
 have h:∀ x:af,∃ b,wN x b:=by
  intro x
  by_cases h:x.f3.size≤2000
  ·obtain ⟨b,h1,h2,h3⟩:=afO x h
   exact ⟨b,fun _=>⟨h1,h2,h3⟩⟩
  ·exact ⟨false,fun h'=>absurd h' h⟩
 exact Classical.axiomOfChoice h
def mM (iE:Int) (x:af):af:=⟨x.f0,x.f1,x.f2,x.f3,x.f4.map (fun y=>wrap64 (y+iE))⟩
theorem Wh (iE:Int) (a b:Int) (c:Bool) (d:ByteArray) (l:List Int) (hl:l.length≤100000) :
 Ev (fun k=>kD.f k a b c d l iE) (a,b,c,d,l.map (fun y=>wrap64 (y+iE))):=by
 have loop:∀ (nA pre:List Int),pre.length+nA.length≤100000→Ev (fun k=>kD.l0 k iE ((pre.length+nA.length:Nat):Int) (pre.length:Int) a b c d (pre++nA)) (a,b,c,d,pre++nA.map (fun y=>wrap64 (y+iE))):=by
  intro nA
  induction nA with
  | nil =>
   intro pre hp
   refine Ev.step (fun k=>by rw [kD.l0]) ?_
   exact Ev.ak (by simp) (Ev.now _)
  | cons x nA ih =>
   intro pre hp
   simp at hp
   refine Ev.step (fun k=>by rw [kD.l0]) ?_
   have hlt:pre.length < (pre++x :: nA).length:=by simp
   rw [jJ pre.length hlt,aO (x:=(pre.length:Int)+1) (by omega) (by omega)]
   refine Ev.ae (by simp;omega) (Ev.ae (by omega) (Ev.ae (by simp;omega) ?_))
   have:=ih (pre++[wrap64 (x+iE)]) (by simp;omega)
   simp only [List.length_append,List.length_cons,List.length_nil,List.append_assoc,List.singleton_append] at this
   rw [show pre.length+(x :: nA).length=pre.length+(0+1)+nA.length by simp;omega,List.map_cons]
   rw [show (pre++x :: nA).set (pre.length:Int).toNat (wrap64 ((pre++x :: nA)[pre.length]+iE))=pre++wrap64 (x+iE) :: nA by rw [Int.toNat_natCast];simp,show (pre.length:Int)+1=((pre.length+(0+1):Nat):Int) by omega]
   exact this
 refine Ev.congr (fun k=>by rw [kD.f]) ?_
 refine Ev.bU (a:=l) (by rw [vJ.f,if_pos (by rw [List.length_nil];omega)];rfl) ?_
 have:=loop l [] (by simp;omega)
 simp only [List.length_nil,Nat.zero_add,List.nil_append] at this
 exact this
theorem Ch.last {ob:af→Bool} {t:List af} {ks:List Int} {n j h:Nat} (c:Ch ob t ks n j h) (hne:0 < ks.length):∃ l h':Nat,rd ks ((ks.length:Int) - 1)=(l:Int)∧l < t.length∧Ch ob t (aU t l) (l+1) j h'∧h' < h:=by
 induction c with
 | nil n=>simp at hne
 | @cons k ks n m j h1 h2 hkn fJ ho c1 c2 ih1 ih2 =>
  cases ks with
  | nil =>
   cases c2
   exact ⟨n,h1,by simp [← hkn,rd],fJ,c1,by omega⟩
  | cons a ks =>
   obtain ⟨l,h',e,hl,c',hh⟩:=ih2 (by simp)
   refine ⟨l,h',?_,hl,c',by omega⟩
   rw [← e,show (((k :: a :: ks).length:Nat):Int) - 1=((ks.length+1:Nat):Int) by simp,show (((a :: ks).length:Nat):Int) - 1=((ks.length:Nat):Int) by simp,jJ _ (by simp),jJ _ (by simp)]
   rfl
theorem ab4 (ob:af→Bool) (t:List af) (hN:t.length≤1000) (hk:∀ n,n < t.length→(aU t n).length≤100000):∀ (h i j:Nat),i < t.length→Ch ob t (aU t i) (i+1) j h→Ev (fun k=>mi.f k t (i:Int)) (j:Int):=by
 intro h
 induction h using Nat.strongRecOn with
 | ind h ih =>
  intro i j hi c
  refine Ev.congr (fun k=>by rw [mi.f]) ?_
  refine Ev.step (fun k=>by rw [mi.l0]) ?_
  refine Ev.ae (by omega) (Ev.ae (by omega) ?_)
  by_cases h0:0 < (aU t i).length
  ·obtain ⟨l,h',e,hl,c',hh⟩:=c.last h0
   have:=hk i hi
   refine Ev.ae (show ((aU t i).length:Int) > 0 by omega) ?_
   rw [show ((aa t (i:Int)).f4.length:Int)=((aU t i).length:Int) from rfl,aO (x:=((aU t i).length:Int) - 1) (by omega) (by omega)]
   refine Ev.ae (by omega) (Ev.ae (show ((aU t i).length:Int) - 1 < ((aU t i).length:Int) by omega) ?_)
   rw [show rd (aa t (i:Int)).f4 (((aU t i).length:Int) - 1)=(l:Int) from e]
   have:=ih h' hh l j hl c'
   refine Ev.congr (fun k=>?_) this
   rw [mi.f]
  ·have e:aU t i=[]:=List.eq_nil_of_length_eq_zero (by omega)
   rw [e] at c
   cases c
   refine Ev.ak (show ¬ ((aU t i).length:Int) > 0 by omega) ?_
   rw [aO (by omega) (by omega)]
   exact Ev.now _
theorem vY (t:List af) (n:Nat) (h:n < t.length):aa t (n:Int)=t[n]:=by unfold aa;simp [List.getD_eq_getElem?_getD,h]
def win (t:List af) (i m:Nat):List af:=((t.take m).drop i).map (mM (wrap64 (-(i:Int))))
theorem JC (t:List af) (i m:Nat) (hm:m≤t.length):(win t i m).length=m - i:=by unfold win;simp;omega
theorem XC (t:List af) (i m n:Nat) (hm:m≤t.length) (hi:i≤n) (hn:n < m):aa (win t i m) ((n - i:Nat):Int)=mM (wrap64 (-(i:Int))) (aa t (n:Int)):=by
 rw [vY _ _ (by rw [JC t i m hm];omega),vY _ _ (by omega)]
 unfold win
 simp only [List.getElem_map,List.getElem_drop,List.getElem_take]
 congr 2
 omega
theorem Ch.wins {ob:af→Bool} (hsh:∀ c x,x.f3.size≤2000→ob (mM c x)=ob x) {t:List af} (hN:t.length≤1000) (hsz:∀ n,n < t.length→(aa t (n:Int)).f3.size≤2000) {ks:List Int} {n j h:Nat} (c:Ch ob t ks n j h) (i m:Nat):i≤n→j≤m→m≤t.length→Ch ob (win t i m) (ks.map (fun y=>wrap64 (y+wrap64 (-(i:Int))))) (n - i) (j - i) h:=by
 induction c with
 | nil n=>intro h1 h2 h3;exact Ch.nil _
 | @cons k ks n m' j h1 h2 hkn fJ ho c1 c2 ih1 ih2 =>
  intro hi hj hm
  have l1:=c1.le
  have l2:=c2.le
  have i1:=ih1 (by omega) (by omega) hm
  have i2:=ih2 (by omega) hj hm
  rw [List.map_cons]
  have hr:=XC t i m n hm hi (by omega)
  refine Ch.cons ?_ (by rw [JC t i m hm];omega) (by rw [hr,hsh _ _ (hsz n fJ)];exact ho) ?_ i2
  ·rw [hkn,aO (x:=-(i:Int)) (by omega) (by omega),aO (by omega) (by omega)]
   omega
  ·rw [show n - i+1=n+1 - i by omega,show aU (win t i m) (n - i)=(aU t n).map (fun y=>wrap64 (y+wrap64 (-(i:Int)))) by unfold aU;rw [hr];rfl]
   exact i1
theorem BO (ob:af→Bool) (t:List af) (hk:∀ n,n < t.length→(aU t n).length≤100000) (cu:qO ob t) (h:Nat) (hR:RT ob t h) :
 Ev (fun k=>mf.f k t) true∧Ev (fun k=>BQ.f k t) ((h:Int)+1):=by
 obtain ⟨r,hr,hc⟩:=aa9 ob t hk cu
 have hr':r=(h:Int)+1:=by
  rcases hc with ⟨h',rfl,hR'⟩ | ⟨_,hn⟩
  ·rw [(hR'.2.2.2.1.ky hR.2.2.2.1).2]
  ·exact absurd ⟨h,hR⟩ hn
 subst hr'
 constructor
 ·refine Ev.congr (fun k=>by rw [mf.f]) ?_
  refine Ev.bind hr ?_
  rw [decide_eq_true (by omega)]
  exact Ev.now _
 ·refine Ev.congr (fun k=>by rw [BQ.f]) ?_
  exact Ev.bind hr (Ev.now _)
theorem agu (ob:af→Bool) (t:List af) (hk:∀ n,n < t.length→(aU t n).length≤100000) (cu:qO ob t) (H:Nat) (hR:RT ob t H) (i j h:Nat) (hi:i < t.length) (c:Ch ob t (aU t i) (i+1) j h) (hj:j≤t.length) :
 Ev (fun k=>jc.f k t (i:Int)) (win t i j):=by
 have hN:=hR.2.1
 have hle:=c.le
 refine Ev.congr (fun k=>by rw [jc.f]) ?_
 refine Ev.ak (by omega) (Ev.ak (by omega) (Ev.bind (BO ob t hk cu H hR).1 ?_))
 refine Ev.step (fun k=>by rw [jc.j0]) ?_
 refine Ev.ak (by simp) (Ev.bind (ab4 ob t hN hk h i j hi c) (Ev.ae (by omega) (Ev.ae (by omega) (Ev.ae (by omega) (Ev.bU rfl ?_)))))
 rw [Int.toNat_natCast,Int.toNat_natCast]
 have hy:∀ x∈(t.take j).drop i,x.f4.length≤100000:=by
  intro x hx
  obtain ⟨n,hn,rfl⟩:=List.mem_iff_getElem.1 (List.mem_of_mem_take (List.mem_of_mem_drop hx))
  have:=hk n hn
  unfold aU at this
  rwa [vY t n hn] at this
 have hyl:((t.take j).drop i).length≤1000:=by simp;omega
 unfold win
 obtain ⟨y,hyd⟩:∃ y,y=(t.take j).drop i:=⟨_,rfl⟩
 rw [← hyd] at hy hyl ⊢
 have loop:∀ (d p:Nat) (acc:List af),y.length - p=d→p≤y.length→acc.length=p →
  Ev (fun k=>jc.l0 k (i:Int) acc y (y.length:Int) (p:Int)) (acc++(y.drop p).map (mM (wrap64 (-(i:Int))))):=by
  intro d
  induction d with
  | zero =>
   intro p acc hd hp ha
   refine Ev.step (fun k=>by rw [jc.l0]) ?_
   rw [List.drop_eq_nil_of_le (by omega),List.map_nil,List.append_nil]
   exact Ev.ak (by omega) (Ev.now _)
  | succ d ih =>
   intro p acc hd hp ha
   have hlt:p < y.length:=by omega
   refine Ev.step (fun k=>by rw [jc.l0]) ?_
   rw [vY _ p hlt,aO (x:=(p:Int)+1) (by omega) (by omega),List.drop_eq_getElem_cons hlt,List.map_cons]
   refine Ev.ae (by omega) (Ev.ae (by omega) (Ev.ae (by omega) (Ev.bind (Wh _ _ _ _ _ _ (hy _ (List.getElem_mem hlt))) (Ev.ae (by omega) ?_))))
   have:=ih (p+1) (acc++[mM (wrap64 (-(i:Int))) y[p]]) (by omega) (by omega) (by simp;omega)
   rw [List.append_assoc,List.singleton_append] at this
   exact this
 have:=loop _ 0 [] rfl (by omega) rfl
 rw [List.drop_zero,List.nil_append] at this
 exact this
inductive Pt (ob:af→Bool) (t:List af) (H:Nat):List Int→Nat→Nat→List (List af)→Prop where
 | nil (n:Nat):Pt ob t H [] n n []
 | cons {k:Int} {ks:List Int} {n m j h:Nat} {L:List (List af)} (hk:k=(n:Int)) (hn:n < t.length) (ho:ob (aa t (n:Int))=true) (c:Ch ob t (aU t n) (n+1) m h) (hh:h < H) (hm:m≤t.length) (p:Pt ob t H ks m j L):Pt ob t H (k :: ks) n j (win t n m :: L)
theorem Ch.pt {ob:af→Bool} {t:List af} {H:Nat} {ks:List Int} {n j h:Nat} (c:Ch ob t ks n j h):h≤H→j≤t.length→∃ L,Pt ob t H ks n j L:=by
 induction c with
 | nil n=>intro _ _;exact ⟨[],Pt.nil n⟩
 | @cons k ks n m j h1 h2 hkn fJ ho c1 c2 ih1 ih2 =>
  intro hH hj
  have l2:=c2.le
  obtain ⟨L,p⟩:=ih2 (by omega) hj
  exact ⟨_,Pt.cons hkn fJ ho c1 (by omega) (by omega) p⟩
theorem Pt.len {ob:af→Bool} {t:List af} {H:Nat} {ks:List Int} {n j:Nat} {L:List (List af)} (p:Pt ob t H ks n j L):L.length=ks.length:=by
 induction p with
 | nil n=>rfl
 | cons _ _ _ _ _ _ _ ih=>simp [ih]
theorem Pt.good {ob:af→Bool} (hsh:∀ c x,x.f3.size≤2000→ob (mM c x)=ob x) (hall:∀ x:af,x.f3.size≤2000→Ev (fun k=>iy.f k x.f0 x.f1 x.f2 x.f3 x.f4) (ob x)) {t:List af} (hN:t.length≤1000) (hsz:∀ n,n < t.length→(aa t (n:Int)).f3.size≤2000) (hk:∀ n,n < t.length→(aU t n).length≤100000) {H:Nat} (h16:H+1≤16) {ks:List Int} {n j:Nat} {L:List (List af)} (p:Pt ob t H ks n j L) :
 ∀ x∈L,∃ h:Nat,h < H∧Ev (fun k=>mf.f k x) true∧Ev (fun k=>BQ.f k x) ((h:Int)+1):=by
 induction p with
 | nil n=>intro x hx;cases hx
 | @cons k ks n m j h L hkn fJ ho c hh hm p ih =>
  intro x hx
  rcases List.mem_cons.1 hx with rfl | hx
  case inr=>exact ih x hx
  have hle:=c.le
  have hwl:=JC t n m hm
  have hr:∀ q,q < (win t n m).length→aa (win t n m) (q:Int)=mM (wrap64 (-(n:Int))) (aa t ((q+n:Nat):Int)):=by
   intro q hq
   have:=XC t n m (q+n) hm (by omega) (by omega)
   rwa [Nat.add_sub_cancel] at this
  refine ⟨h,hh,?_⟩
  refine BO ob _ ?_ ?_ h ⟨by omega,by omega,?_,?_,by omega⟩
  ·intro q hq
   unfold aU
   rw [hr q hq]
   have:=hk (q+n) (by omega)
   unfold aU at this
   unfold mM
   simpa using this
  ·intro q hq
   refine hall _ ?_
   rw [hr q hq]
   exact hsz (q+n) (by omega)
  ·have:=hr 0 (by omega)
   rw [show (0:Int)=((0:Nat):Int) from rfl,this,hsh _ _ (hsz _ (by omega)),Nat.zero_add]
   exact ho
  ·have:=c.wins hsh hN hsz n m (by omega) (by omega) hm
   rw [show n+1 - n=1 by omega] at this
   rw [hwl]
   rw [show aU (win t n m) 0=(aU t n).map (fun y=>wrap64 (y+wrap64 (-(n:Int)))) by unfold aU;rw [hr 0 (by omega),Nat.zero_add];rfl]
   exact this
theorem afQ (ob:af→Bool) (t:List af) (hk:∀ n,n < t.length→(aU t n).length≤100000) (cu:qO ob t) (H:Nat) (hR:RT ob t H) (L:List (List af)) (j:Nat) (p0:Pt ob t H (aU t 0) 1 j L):Ev (fun k=>kW.f k t) L:=by
 have loop:∀ {ks:List Int} {n:Nat} {L:List (List af)},Pt ob t H ks n j L→∀ (q:Nat) (acc:List (List af)),(aU t 0).drop q=ks→q≤(aU t 0).length→acc.length=q→Ev (fun k=>kW.l0 k t acc (aU t 0) ((aU t 0).length:Int) (q:Int)) (acc++L):=by
  clear p0
  intro ks n L p
  induction p with
  | nil n =>
   intro q acc hq qP ha
   have:(aU t 0).length≤q:=by
    have:=congrArg List.length hq
    simp at this
    omega
   refine Ev.step (fun k=>by rw [kW.l0]) ?_
   rw [List.append_nil]
   exact Ev.ak (by omega) (Ev.now _)
  | @cons k ks n m j h L hkn fJ ho c hh hm p ih =>
   intro q acc hq qP ha
   have hq2:q < (aU t 0).length:=by
    have:=congrArg List.length hq
    simp at this
    omega
   have hdrop:=List.drop_eq_getElem_cons hq2
   rw [hq] at hdrop
   obtain ⟨hk0,vk⟩:=List.cons.inj hdrop
   have hv:rd (aU t 0) (q:Int)=(n:Int):=by rw [jJ q hq2,← hk0,hkn]
   have hk1:=hk 0 hR.1
   refine Ev.step (fun k=>by rw [kW.l0]) ?_
   rw [hv,aO (x:=(q:Int)+1) (by omega) (by omega)]
   refine Ev.ae (by omega) (Ev.ae (by omega) (Ev.ae (by omega) (Ev.bind (agu ob t hk cu H hR n m h fJ c hm) (Ev.ae (by omega) ?_))))
   have:=ih (q+1) (acc++[win t n m]) vk.symm (by omega) (by simp;omega)
   rw [List.append_assoc,List.singleton_append] at this
   exact this
 refine Ev.congr (fun k=>by rw [kW.f]) ?_
 refine Ev.bind (BO ob t hk cu H hR).1 (Ev.ae rfl (Ev.ae (by have:=hR.1;omega) ?_))
 have:=loop p0 0 [] rfl (by omega) rfl
 rw [List.nil_append] at this
 exact this
theorem aiv (off:Int) (bQ:List (List af)) (bF cO:Int) (y:List af) (hy:y.length≤1000) (hk:∀ x∈y,x.f4.length≤100000) {r:List af}:∀ (d p:Nat) (acc:List af),y.length - p=d→p≤y.length→acc.length+d≤100000 →
 Ev (fun k=>fQ.l0 k (acc++(y.drop p).map (mM off)) bQ bF (wrap64 (cO+1))) r→Ev (fun k=>fQ.l1 k acc off bQ bF cO y (y.length:Int) (p:Int)) r:=by
 intro d
 induction d with
 | zero =>
  intro p acc hd hp ha h
  refine Ev.step (fun k=>by rw [fQ.l1]) ?_
  rw [List.drop_eq_nil_of_le (by omega),List.map_nil,List.append_nil] at h
  exact Ev.ak (by omega) h
 | succ d ih =>
  intro p acc hd hp ha h
  have hlt:p < y.length:=by omega
  refine Ev.step (fun k=>by rw [fQ.l1]) ?_
  rw [vY _ p hlt,aO (x:=(p:Int)+1) (by omega) (by omega)]
  rw [List.drop_eq_getElem_cons hlt,List.map_cons] at h
  refine Ev.ae (by omega) (Ev.ae (by omega) (Ev.ae (by omega) (Ev.bind (Wh _ _ _ _ _ _ (hk _ (List.getElem_mem hlt))) (Ev.ae (by omega) ?_))))
  refine ih (p+1) (acc++[mM off y[p]]) (by omega) (by omega) (by simp;omega) ?_
  rw [List.append_assoc,List.singleton_append]
  exact h
theorem aby (iE:Int) (l:List Int) (hl:l.length≤100000):Ev (fun k=>lL.f k l iE) (l.map (fun y=>wrap64 (y+iE))):=by
 have loop:∀ (d p:Nat) (acc:List Int),l.length - p=d→p≤l.length→acc.length=p→Ev (fun k=>lL.l0 k l iE acc (p:Int)) (acc++(l.drop p).map (fun y=>wrap64 (y+iE))):=by
  intro d
  induction d with
  | zero =>
   intro p acc hd hp ha
   refine Ev.step (fun k=>by rw [lL.l0]) ?_
   rw [List.drop_eq_nil_of_le (by omega),List.map_nil,List.append_nil]
   exact Ev.ak (by omega) (Ev.now _)
  | succ d ih =>
   intro p acc hd hp ha
   have hlt:p < l.length:=by omega
   refine Ev.step (fun k=>by rw [lL.l0]) ?_
   rw [jJ p hlt,aO (x:=(p:Int)+1) (by omega) (by omega),List.drop_eq_getElem_cons hlt,List.map_cons]
   refine Ev.ae (by omega) (Ev.ae (by omega) (Ev.ae (by omega) ?_))
   have:=ih (p+1) (acc++[wrap64 (l[p]+iE)]) (by omega) (by omega) (by simp;omega)
   rw [List.append_assoc,List.singleton_append] at this
   exact this
 refine Ev.congr (fun k=>by rw [lL.f]) ?_
 have:=loop _ 0 [] rfl (by omega) rfl
 rw [List.drop_zero,List.nil_append] at this
 exact this
def oV (n:Nat):List (List af)→List af
 | []=>[]
 | p :: ps=>p.map (mM (n:Int))++oV (n+p.length) ps
theorem TZ (LL:List (List af)) (q:Nat) (h:q < LL.length):bz LL (q:Int)=LL[q]:=by unfold bz;simp [List.getD_eq_getElem?_getD,h]
theorem ady (off:Int) (LL:List (List af)) (q:Nat) (hq:q < LL.length) (hL:LL.length≤1000) (hy:(LL[q]).length≤1000) (hk:∀ x∈LL[q],x.f4.length≤100000) {r:List af}:∀ (d p:Nat) (acc:List af),(LL[q]).length - p=d→p≤(LL[q]).length→acc.length+d≤100000 →
 Ev (fun k=>fT.l0 k LL (acc++((LL[q]).drop p).map (mM off)) (((q+1:Nat)):Int)) r→Ev (fun k=>fT.l1 k LL acc (q:Int) off (p:Int)) r:=by
 intro d
 induction d with
 | zero =>
  intro p acc hd hp ha h
  refine Ev.step (fun k=>by rw [fT.l1]) ?_
  rw [List.drop_eq_nil_of_le (by omega),List.map_nil,List.append_nil] at h
  rw [TZ LL q hq,aO (x:=(q:Int)+1) (by omega) (by omega)]
  exact Ev.ae (by omega) (Ev.ae (by omega) (Ev.ak (by omega) h))
 | succ d ih =>
  intro p acc hd hp ha h
  have hlt:p < (LL[q]).length:=by omega
  refine Ev.step (fun k=>by rw [fT.l1]) ?_
  rw [TZ LL q hq,vY _ p hlt,aO (x:=(p:Int)+1) (by omega) (by omega)]
  rw [List.drop_eq_getElem_cons hlt,List.map_cons] at h
  refine Ev.ae (by omega) (Ev.ae (by omega) (Ev.ae (by omega) (Ev.ae (by omega) (Ev.bind (aby _ _ (hk _ (List.getElem_mem hlt))) (Ev.ae (by omega) ?_)))))
  refine ih (p+1) (acc++[mM off (LL[q])[p]]) (by omega) (by omega) (by simp;omega) ?_
  rw [List.append_assoc,List.singleton_append]
  exact h
def dE (t:List af) (n:Nat):List Int:=bytesOf (aa t (n:Int)).f3
def fM (t:List af) (n:Nat) (cs:List Int):List Int:=di (aa t (n:Int)).f0 (aa t (n:Int)).f1 (aa t (n:Int)).f2++dm (cs.length:Int)++cs
inductive En (t:List af):List Int→Nat→Nat→List Int→Prop where
 | nil (n:Nat):En t [] n n []
 | cons {k:Int} {ks:List Int} {n m j:Nat} {cs rs:List Int} (hk:k=(n:Int)) (hn:n < t.length) (c:En t (aU t n) (n+1) m cs) (hf:(fM t n (dE t n++cs)).length≤65535) (r:En t ks m j rs):En t (k :: ks) n j (fM t n (dE t n++cs)++rs)
theorem En.ky {t:List af} {ks:List Int} {n j:Nat} {bs:List Int} (c:En t ks n j bs):∀ {j':Nat} {bs':List Int},En t ks n j' bs'→j=j'∧bs=bs':=by
 induction c with
 | nil n=>intro j' bs' c';cases c';exact ⟨rfl,rfl⟩
 | cons hk hn c hf r ih1 ih2 =>
  intro j' bs' c'
  cases c' with
  | cons _ _ g _ gs =>
   obtain ⟨rfl,rfl⟩:=ih1 g
   obtain ⟨rfl,rfl⟩:=ih2 gs
   exact ⟨rfl,rfl⟩
theorem En.pos {ob:af→Bool} {t:List af} {ks:List Int} {n j h:Nat} (c:Ch ob t ks n j h):∀ {j':Nat} {bs:List Int},En t ks n j' bs→j'=j:=by
 induction c with
 | nil n=>intro j' bs c';cases c';rfl
 | cons hk hn ho c1 c2 ih1 ih2 =>
  intro j' bs c'
  cases c' with
  | cons _ _ g _ gs =>
   obtain rfl:=ih1 g
   exact ih2 gs
theorem aeE (b:Int):0 < (fB b).length∧(fB b).length≤3:=by unfold fB;split;simp;split<;>simp
theorem Cm (a b:Int) (c:Bool):0 < (di a b c).length∧(di a b c).length≤4:=by
 have:=aeE b
 unfold di
 split
 ·simp
 ·simp
  omega
theorem Cn (n:Int):(dm n).length≤3:=by unfold dm;split;simp;split<;>simp
theorem Vx (t:List af) (n:Nat) (cs:List Int):cs.length < (fM t n cs).length∧(fM t n cs).length≤cs.length+7:=by
 have h1:=Cm (aa t (n:Int)).f0 (aa t (n:Int)).f1 (aa t (n:Int)).f2
 have h2:=Cn (cs.length:Int)
 unfold fM
 simp
 omega
def BH (ob:af→Bool):Prop:=∀ x:af,x.f3.size≤2000→ob x=true→(0≤x.f0∧x.f0≤3∧0≤x.f1∧x.f1≤2097151)
theorem abz (ob:af→Bool) (hin:BH ob) (t:List af) (hN:t.length≤1000) (hsz:∀ n,n < t.length→(aa t (n:Int)).f3.size≤2000) (hk:∀ n,n < t.length→(aU t n).length≤100000) {ks:List Int} {n j h:Nat} (c:Ch ob t ks n j h) :
 ∀ (i q:Nat) (acc:List Int),i < t.length→ob (aa t (i:Int))=true→(aU t i).drop q=ks→q≤(aU t i).length→acc.length≤65535 →
 ∃ v ok,Ev (fun k=>iV.l0 k t (i:Int) (strOfNums acc) (q:Int)) (v,ok)∧v.size≤140000∧(ok=true→∃ bs,En t ks n j bs∧(fM t i (acc++bs)).length≤65535∧v=strOfNums (fM t i (acc++bs)))∧((∃ j' bs,En t ks n j' bs∧(fM t i (acc++bs)).length≤65535)→ok=true):=by
 induction c with
 | nil n =>
  intro i q acc hi ho hq qP ha
  have hqe:(aU t i).length≤q:=by
   have:=congrArg List.length hq
   simp at this
   omega
  obtain ⟨r1,r2,r3,r4⟩:=hin _ (hsz i hi) ho
  have hh:=GV _ _ (aa t (i:Int)).f2 (acc.length:Int) r1 r2 r3 r4 (by omega)
  rw [if_pos (by omega)] at hh
  have h1:=Cm (aa t (i:Int)).f0 (aa t (i:Int)).f1 (aa t (i:Int)).f2
  have h2:=Cn (acc.length:Int)
  have hln:(fM t i acc).length=(di (aa t (i:Int)).f0 (aa t (i:Int)).f1 (aa t (i:Int)).f2++dm (acc.length:Int)).length+acc.length:=by unfold fM;rw [List.length_append]
  have anR:=Vx t i acc
  refine ⟨strOfNums (fM t i acc),decide ((fM t i acc).length≤65535),?_,by rw [ek];omega,?_,?_⟩
  ·refine Ev.step (fun k=>by rw [iV.l0]) ?_
   rw [dL,ek]
   refine Ev.ae (by omega) (Ev.ae (by omega) (Ev.ak (show ¬ (q:Int) < ((aU t i).length:Int) by omega) (Ev.bind hh (Ev.ae (by rw [ek];simp;omega) (Ev.ae rfl ((Ev.now _).eq ?_))))))
   rw [lI,dL,aO (by omega) (by omega)]
   show (strOfNums (fM t i acc),_)=_
   rw [hln]
   refine congrArg _ (decide_eq_decide.2 ?_)
   omega
  ·intro hok
   exact ⟨[],En.nil n,by rw [List.append_nil];exact of_decide_eq_true hok,by rw [List.append_nil]⟩
  ·rintro ⟨j',bs,e,hf⟩
   cases e
   rw [List.append_nil] at hf
   exact decide_eq_true hf
 | @cons k ks n m j h1 h2 hkn fJ cu c1 c2 ih1 ih2 =>
  intro i q acc hi ho hq qP ha
  have hq2:q < (aU t i).length:=by
   have:=congrArg List.length hq
   simp at this
   omega
  have hdrop:=List.drop_eq_getElem_cons hq2
  rw [hq] at hdrop
  obtain ⟨hk0,vk⟩:=List.cons.inj hdrop
  have hv:rd (aU t i) (q:Int)=(n:Int):=by rw [jJ q hq2,← hk0,hkn]
  have hki:=hk i hi
  have hbl:(dE t n).length≤2000:=by
   have:=hsz n fJ
   rw [← qb (aa t (n:Int)).f3,ek] at this
   exact this
  obtain ⟨v,ok,he,hvs,hA,hB⟩:=ih1 n 0 (dE t n) fJ cu rfl (by omega) (by omega)
  have hef:Ev (fun k=>iV.f k t (n:Int)) (v,ok):=by
   refine Ev.step (fun k=>by rw [iV.f]) ?_
   refine Ev.ae (by omega) (Ev.ae (by omega) ?_)
   unfold dE at he
   rw [qb] at he
   exact he
  have step:∀ {r:ByteArray × Bool},Ev (fun k=>if ok=true then (if ((strOfNums acc++v).size:Int) > 65535 then some ((⟨#[]⟩:ByteArray),false) else iV.l0 k t (i:Int) (strOfNums acc++v) ((q+1:Nat):Int)) else some ((⟨#[]⟩:ByteArray),false)) r→Ev (fun k=>iV.l0 k t (i:Int) (strOfNums acc) (q:Int)) r:=by
   intro r h
   refine Ev.step (fun k=>by rw [iV.l0]) ?_
   rw [show rd (aa t (i:Int)).f4 (q:Int)=(n:Int) from hv,aO (x:=(q:Int)+1) (by omega) (by omega)]
   refine Ev.ae (by omega) (Ev.ae (by omega) (Ev.ae (show (q:Int) < ((aU t i).length:Int) by omega) (Ev.ae (by omega) (Ev.bind hef (Ev.ae (by rw [ek];show acc.length+v.size≤_;omega) h)))))
  cases ok with
  | false =>
   refine ⟨_,_,step (Ev.ak (by simp) (Ev.now _)),by decide,(fun h=>by cases h),?_⟩
   rintro ⟨j',bs,e,hf⟩
   cases e with
   | cons _ _ g gf gs=>have:=hB ⟨_,_,g,gf⟩;cases this
  | true =>
   obtain ⟨cs,g,gf,rfl⟩:=hA rfl
   rw [lI,dL] at step
   by_cases hbig:(acc++fM t n (dE t n++cs)).length≤65535
   ·obtain ⟨v2,ok2,he2,MG,hA2,hB2⟩:=ih2 i (q+1) (acc++fM t n (dE t n++cs)) hi ho vk.symm (by omega) hbig
    refine ⟨v2,ok2,step (Ev.ae rfl (Ev.ak (by omega) he2)),MG,?_,?_⟩
    ·intro hok
     obtain ⟨rs,e,f,w⟩:=hA2 hok
     rw [List.append_assoc] at f w
     exact ⟨_,En.cons hkn fJ g gf e,f,w⟩
    ·rintro ⟨j',bs,e,hf⟩
     cases e with
     | cons _ _ g' gf' gs =>
      obtain ⟨rfl,rfl⟩:=g.ky g'
      exact hB2 ⟨_,_,gs,by rw [List.append_assoc];exact hf⟩
   ·refine ⟨_,_,step (Ev.ae rfl (Ev.ae (by omega) (Ev.now _))),by decide,(fun h=>by cases h),?_⟩
    rintro ⟨j',bs,e,hf⟩
    cases e with
    | cons _ _ g' gf' gs =>
     obtain ⟨rfl,rfl⟩:=g.ky g'
     rw [← List.append_assoc] at hf
     have h3:=Nat.le_trans (Nat.le_of_lt (Vx t i _).1) hf
     rw [List.length_append] at h3
     omega
theorem En.le {t:List af} {ks:List Int} {n j:Nat} {bs:List Int} (e:En t ks n j bs):n≤j∧(n≤t.length→j≤t.length):=by
 induction e with
 | nil n=>exact ⟨Nat.le_refl _,id⟩
 | cons hk hn c hf r ih1 ih2=>exact ⟨by omega,fun _=>ih2.2 (ih1.2 (by omega))⟩
theorem En.bd {t:List af} {ks:List Int} {n j:Nat} {bs:List Int} (e:En t ks n j bs):bs.length+65535*n≤65535*j∧bs.length≤65535*ks.length:=by
 induction e with
 | nil n=>simp
 | cons hk hn c hf r ih1 ih2 =>
  have:=c.le
  rw [List.length_append,List.length_cons]
  omega
def Gd (t:List af) (i:Nat):Prop:=∃ m cs,En t (aU t i) (i+1) m cs∧(fM t i (dE t i++cs)).length≤65535
theorem Ch.cover {ob:af→Bool} {t:List af} {ks:List Int} {n j h:Nat} (c:Ch ob t ks n j h):∀ i,n≤i→i < j→ob (aa t (i:Int))=true∧∃ m h',Ch ob t (aU t i) (i+1) m h'∧m≤j∧h' < h:=by
 induction c with
 | nil n=>intro i h1 h2;omega
 | @cons k ks n m j h1 h2 hk hn ho c1 c2 ih1 ih2 =>
  intro i hi hj
  have l2:=c2.le
  by_cases e:i=n
  ·subst e
   exact ⟨ho,m,h1,c1,by omega,by omega⟩
  by_cases e2:i < m
  ·obtain ⟨a,m',h',c',hm,hh⟩:=ih1 i (by omega) e2
   exact ⟨a,m',h',c',by omega,by omega⟩
  ·obtain ⟨a,m',h',c',hm,hh⟩:=ih2 i (by omega) hj
   exact ⟨a,m',h',c',by omega,by omega⟩
theorem En.cover {t:List af} {ks:List Int} {n j:Nat} {bs:List Int} (e:En t ks n j bs):∀ i,n≤i→i < j→Gd t i:=by
 induction e with
 | nil n=>intro i h1 h2;omega
 | @cons k ks n m j cs rs hk hn c hf r ih1 ih2 =>
  intro i hi hj
  by_cases e:i=n
  ·subst e
   exact ⟨_,_,c,hf⟩
  by_cases e2:i < m
  ·exact ih1 i (by omega) e2
  ·exact ih2 i (by omega) hj
theorem Ch.en {ob:af→Bool} {t:List af} {ks:List Int} {n j h:Nat} (c:Ch ob t ks n j h):(∀ i,n≤i→i < t.length→Gd t i)→∃ bs,En t ks n j bs:=by
 induction c with
 | nil n=>intro _;exact ⟨[],En.nil n⟩
 | @cons k ks n m j h1 h2 hk hn ho c1 c2 ih1 ih2 =>
  intro hf
  have l1:=c1.le
  obtain ⟨m',cs,e,hfit⟩:=hf n (Nat.le_refl _) hn
  obtain rfl:=En.pos c1 e
  obtain ⟨rs,er⟩:=ih2 (fun i hi hN=>hf i (by omega) hN)
  exact ⟨_,En.cons hk hn e hfit er⟩
def o9 (t:List af) (n:Nat) (c:Nat):Nat:=(di (aa t (n:Int)).f0 (aa t (n:Int)).f1 (aa t (n:Int)).f2++dm (c:Int)).length
theorem I6 (t:List af) (n:Nat) (cs:List Int):(fM t n cs).length=o9 t n cs.length+cs.length:=by unfold fM o9;rw [List.length_append]
def Good (t:List af) (x:List (Nat × Nat)) (d:Nat):Prop:=x.length=t.length∧∀ p,d≤p→p < t.length→∃ m cs,En t (aU t p) (p+1) m cs∧(fM t p (dE t p++cs)).length≤65535∧iH ((0,0):Nat × Nat) x (p:Int)=(fl (o9 t p (dE t p++cs).length),fl (dE t p++cs).length)
theorem aeF (t:List af) (hN:t.length≤1000) (x:List (Nat × Nat)) {ks:List Int} {n j:Nat} {bs:List Int} (e:En t ks n j bs):∀ (i q s:Nat),Good t x n→(aU t i).length≤100000→(aU t i).drop q=ks→q≤(aU t i).length→s≤65535*q+65535 →
 ∀ r,Ev (fun k=>gP.l1 k t x (i:Int) ((s+bs.length:Nat):Int) (aU t i) ((aU t i).length:Int) ((aU t i).length:Int)) r→Ev (fun k=>gP.l1 k t x (i:Int) (s:Int) (aU t i) ((aU t i).length:Int) (q:Int)) r:=by
 induction e with
 | nil n =>
  intro i q s hg hki hq qP hs r h
  have hqe:(aU t i).length=q:=by
   have:=congrArg List.length hq
   simp at this
   omega
  rw [← hqe]
  exact h
 | @cons k ks n m j cs rs hkn fJ c hf er ih1 ih2 =>
  intro i q s hg hki hq qP hs r h
  have hq2:q < (aU t i).length:=by
   have:=congrArg List.length hq
   simp at this
   omega
  have hdrop:=List.drop_eq_getElem_cons hq2
  rw [hq] at hdrop
  obtain ⟨hk0,vk⟩:=List.cons.inj hdrop
  have hv:rd (aU t i) (q:Int)=(n:Int):=by rw [jJ q hq2,← hk0,hkn]
  have lc:=c.le
  obtain ⟨m',cs',e',hf',hx⟩:=hg.2 n (Nat.le_refl _) fJ
  obtain ⟨rfl,rfl⟩:=c.ky e'
  have hnl:=I6 t n (dE t n++cs)
  have hxl:=hg.1
  refine Ev.step (fun k=>by rw [gP.l1]) ?_
  rw [hv,hx]
  dsimp only
  rw [Jo (by omega),Cz (by omega),JN (by omega),Cy (by omega),aO (x:=(q:Int)+1) (by omega) (by omega),aO (by omega) (by omega)]
  refine Ev.ae (by omega) (Ev.ae (by omega) (Ev.ae (by omega) (Ev.ae (by omega) (Ev.ae (by omega) (Ev.ae rfl (Ev.ae rfl ?_))))))
  have:=ih2 i (q+1) (s+(o9 t n (dE t n++cs).length+(dE t n++cs).length)) ⟨hg.1,fun p hp=>hg.2 p (by omega)⟩ hki vk.symm (by omega) (by omega) r (by
   rw [List.length_append,hnl] at h
   rw [Nat.add_assoc]
   exact h)
  exact this
theorem aeG (ob:af→Bool) (hin:BH ob) (t:List af) (hN:t.length≤1000) (hsz:∀ n,n < t.length→(aa t (n:Int)).f3.size≤2000) (hk:∀ n,n < t.length→(aU t n).length≤100000)
 (Gf:∀ i,i < t.length→ob (aa t (i:Int))=true∧∃ m h',Ch ob t (aU t i) (i+1) m h'):∀ (d:Nat) (x:List (Nat × Nat)),d≤t.length→Good t x d →
 ∃ y b,Ev (fun k=>gP.l0 k t x ((d:Int) - 1)) (y,b)∧((b=true∧Good t y 0)∨(b=false∧∃ i,i < t.length∧¬ Gd t i)):=by
 intro d
 induction d with
 | zero =>
  intro x hd hg
  refine ⟨x,true,?_,Or.inl ⟨rfl,hg⟩⟩
  refine Ev.step (fun k=>by rw [gP.l0]) ?_
  exact Ev.ak (by omega) (Ev.now _)
 | succ d ih =>
  intro x hd hg
  have hdN:d < t.length:=by omega
  obtain ⟨ho,m,h',c⟩:=Gf d hdN
  obtain ⟨bs,e⟩:=c.en (fun i hi xU=>by
   obtain ⟨m,cs,e,hf,_⟩:=hg.2 i hi xU
   exact ⟨m,cs,e,hf⟩)
  obtain ⟨r1,r2,r3,r4⟩:=hin _ (hsz d hdN) ho
  have hbl:(aa t (d:Int)).f3.size=(dE t d).length:=by
   unfold dE
   conv=>lhs;rw [← qb (aa t (d:Int)).f3,ek]
  have hbd:=e.bd
  have hkd:=hk d hdN
  have anS:=hsz d hdN
  have hxl:=hg.1
  have hsum:(dE t d).length+bs.length=(dE t d++bs).length:=by rw [List.length_append]
  have go:∀ {r:List (Nat × Nat) × Bool},Ev (fun k=>gP.l1 k t x (d:Int) (((dE t d++bs).length:Nat):Int) (aU t d) ((aU t d).length:Int) ((aU t d).length:Int)) r→Ev (fun k=>gP.l0 k t x (((d+1:Nat):Int) - 1)) r:=by
   intro r h
   refine Ev.step (fun k=>by rw [gP.l0]) ?_
   rw [show ((d+1:Nat):Int) - 1=(d:Int) by omega,hbl]
   refine Ev.ae (by omega) (Ev.ae (by omega) (Ev.ae (by omega) ?_))
   refine aeF t hN x e d 0 (dE t d).length hg hkd rfl (by omega) (by omega) r ?_
   rw [hsum]
   exact h
  have hh:=WK _ _ (aa t (d:Int)).f2 ((dE t d++bs).length:Int) r1 r2 r3 r4 (by omega)
  have hsize:Ev (fun k=>tZ.f k (aa t (d:Int)).f0 (aa t (d:Int)).f1 (aa t (d:Int)).f2 ((dE t d++bs).length:Int)) (if ((dE t d++bs).length:Int)≤65535 then (o9 t d (dE t d++bs).length:Int) else 0):=by
   refine Ev.congr (fun k=>by rw [tZ.f]) ?_
   refine Ev.bind hh ((Ev.now _).eq ?_)
   split
   ·rw [dL]
    rfl
   ·rfl
  have hnl:=I6 t d (dE t d++bs)
  have hno:¬ (fM t d (dE t d++bs)).length≤65535→∃ i,i < t.length∧¬ Gd t i:=by
   intro hb
   refine ⟨d,hdN,?_⟩
   rintro ⟨m',cs,e',hf⟩
   obtain ⟨rfl,rfl⟩:=e.ky e'
   exact hb hf
  have h1:=Cm (aa t (d:Int)).f0 (aa t (d:Int)).f1 (aa t (d:Int)).f2
  have h2:=Cn ((dE t d++bs).length:Int)
  have hhd:0 < o9 t d (dE t d++bs).length∧o9 t d (dE t d++bs).length≤7:=by unfold o9;rw [List.length_append];omega
  by_cases g:((dE t d++bs).length:Int)≤65535
  case neg =>
   rw [if_neg g] at hsize
   refine ⟨[],false,go ?_,Or.inr ⟨rfl,hno (by omega)⟩⟩
   refine Ev.step (fun k=>by rw [gP.l1]) ?_
   exact Ev.ak (by omega) (Ev.ae (by omega) (Ev.ae (by omega) (Ev.bind hsize (Ev.ae rfl (Ev.now _)))))
  rw [if_pos g] at hsize
  by_cases g2:(fM t d (dE t d++bs)).length≤65535
  case neg =>
   refine ⟨[],false,go ?_,Or.inr ⟨rfl,hno g2⟩⟩
   refine Ev.step (fun k=>by rw [gP.l1]) ?_
   refine Ev.ak (by omega) (Ev.ae (by omega) (Ev.ae (by omega) (Ev.bind hsize (Ev.ak (by omega) ?_))))
   rw [aO (by omega) (by omega)]
   exact Ev.ae (by omega) (Ev.now _)
  obtain ⟨y,b,hy,hc⟩:=ih (x.set d (fl (o9 t d (dE t d++bs).length),fl (dE t d++bs).length)) (by omega) (by
   refine ⟨by rw [List.length_set];exact hxl,fun p hp hpN=>?_⟩
   by_cases e0:p=d
   ·subst e0
    refine ⟨m,bs,e,g2,?_⟩
    rw [Cj _ p (by rw [List.length_set];omega),List.getElem_set_self]
   ·obtain ⟨m',cs,e',hf,hx⟩:=hg.2 p (by omega) hpN
    refine ⟨m',cs,e',hf,?_⟩
    rw [← hx,Cj _ p (by rw [List.length_set];omega),Cj _ p (by omega),List.getElem_set_ne (by omega)])
  refine ⟨y,b,go ?_,hc⟩
  refine Ev.step (fun k=>by rw [gP.l1]) ?_
  refine Ev.ak (by omega) (Ev.ae (by omega) (Ev.ae (by omega) (Ev.bind hsize (Ev.ak (by omega) ?_))))
  rw [aO (x:=(o9 t d (dE t d++bs).length:Int)+_) (by omega) (by omega),aO (x:=(d:Int) - 1) (by omega) (by omega),Yc (by omega),Yc (by omega),Int.toNat_natCast,Int.toNat_natCast,Int.toNat_natCast]
  exact Ev.ak (by omega) (Ev.ae (by omega) hy)
theorem afR {b:Int} (b0:0≤b) (b1:b≤2097151):aG (fB b):=by
 unfold fB
 split
 ·exact aG.one b0 (by omega)
 ·split
  ·exact aG.cons (by omega) (by omega) (aG.one (by omega) (by omega))
  ·exact aG.cons (by omega) (by omega) (aG.cons (by omega) (by omega) (aG.one (by omega) (by omega)))
theorem agv {a b:Int} {c:Bool} (a0:0≤a) (a1:a≤3) (b0:0≤b) (b1:b≤2097151):aG (di a b c):=by
 have h:0≤(if c then (32:Int) else 0)∧(if c then (32:Int) else 0)≤32:=by split<;>omega
 unfold di
 split
 ·exact aG.one (by omega) (by omega)
 ·exact aG.cons (by omega) (by omega) (afR b0 b1)
theorem afS {n:Int} (h0:0≤n) (h1:n≤65535):aG (dm n):=by
 unfold dm
 split
 ·exact aG.one h0 (by omega)
 ·split
  ·exact aG.cons (by omega) (by omega) (aG.one h0 (by omega))
  ·exact aG.cons (by omega) (by omega) (aG.cons (by omega) (by omega) (aG.one (by omega) (by omega)))
theorem acM (ob:af→Bool) (hin:BH ob) (t:List af) (hN:t.length≤1000) (hsz:∀ n,n < t.length→(aa t (n:Int)).f3.size≤2000) (hall:∀ i,i < t.length→ob (aa t (i:Int))=true) (x:List (Nat × Nat)) (hg:Good t x 0) {ks:List Int} {n j:Nat} {bs:List Int} (e:En t ks n j bs) :
 ∀ (acc:List Int),acc.length≤65535*n→n≤t.length→∀ r,Ev (fun k=>jb.l0 k x (acc++bs) t (t.length:Int) (j:Int)) r→Ev (fun k=>jb.l0 k x acc t (t.length:Int) (n:Int)) r:=by
 induction e with
 | nil n=>intro acc _ _ r h;rw [List.append_nil] at h;exact h
 | @cons k ks n m j cs rs hkn fJ c hf er ih1 ih2 =>
  intro acc ha hn r h
  obtain ⟨m',cs',e',hf',hx⟩:=hg.2 n (Nat.zero_le _) fJ
  obtain ⟨rfl,rfl⟩:=c.ky e'
  obtain ⟨r1,r2,r3,r4⟩:=hin _ (hsz n fJ) (hall n fJ)
  have hnl:=I6 t n (dE t n++cs)
  have hxl:=hg.1
  have hbd:=c.bd
  have lc:=c.le
  have hh:=WK _ _ (aa t (n:Int)).f2 ((dE t n++cs).length:Int) r1 r2 r3 r4 (by omega)
  rw [if_pos (by omega)] at hh
  have hbl:(aa t (n:Int)).f3.size=(dE t n).length:=by
   unfold dE
   conv=>lhs;rw [← qb (aa t (n:Int)).f3,ek]
  have hok:=qU (aG.append (agv (c:=(aa t (n:Int)).f2) r1 r2 r3 r4) (afS (n:=((dE t n++cs).length:Int)) (by omega) (by omega)))
  have hls:(dE t n++cs).length=(dE t n).length+cs.length:=List.length_append
  have hdd:(di (aa t (n:Int)).f0 (aa t (n:Int)).f1 (aa t (n:Int)).f2++dm ((dE t n++cs).length:Int)).length=o9 t n (dE t n++cs).length:=rfl
  refine Ev.step (fun k=>by rw [jb.l0]) ?_
  rw [hx]
  dsimp only
  rw [Cy (by omega),Cz (by omega),aO (x:=(n:Int)+1) (by omega) (by omega)]
  refine Ev.ae (by omega) (Ev.ae (by omega) (Ev.ae (by omega) (Ev.ae (by omega) (Ev.ae rfl (Ev.bind hh (Ev.ae (by rw [ek,hdd];omega) (Ev.bU rfl ?_)))))))
  rw [hok]
  refine Ev.ae (by rw [List.length_append,hdd,hbl];omega) ?_
  refine ih1 (acc++(di (aa t (n:Int)).f0 (aa t (n:Int)).f1 (aa t (n:Int)).f2++dm ((dE t n++cs).length:Int))++dE t n) (by rw [List.length_append,List.length_append,hdd];omega) (by omega) r ?_
  refine ih2 _ (by rw [List.length_append,List.length_append,List.length_append,hdd];omega) (lc.2 (by omega)) r ?_
  unfold fM at h
  simp only [List.append_assoc] at h ⊢
  exact h
theorem aeH (ob:af→Bool) (hin:BH ob) (t:List af) (hsz:∀ n,n < t.length→(aa t (n:Int)).f3.size≤2000) (hk:∀ n,n < t.length→(aU t n).length≤100000) (Gf:∀ i,i < t.length→ob (aa t (i:Int))=true∧∃ m h',Ch ob t (aU t i) (i+1) m h')
 (H:Nat) (hR:RT ob t H) (hr1:Ev (fun k=>mf.f k t) true) (hr2:Ev (fun k=>mP.f k t) true):∃ e:ByteArray × Int,Ev (fun k=>jb.f k t) e∧Ev (fun k=>pF.f k t) e∧(∀ cs,En t (aU t 0) 1 t.length cs→(fM t 0 (dE t 0++cs)).length≤65535→e=(strOfNums (fM t 0 (dE t 0++cs)),0))∧(e.2=0→∃ cs,En t (aU t 0) 1 t.length cs∧(fM t 0 (dE t 0++cs)).length≤65535∧e=(strOfNums (fM t 0 (dE t 0++cs)),0)):=by
 have hN:=hR.2.1
 have h0:=hR.1
 have hbl:(dE t 0).length≤65535:=by
  have:=hsz 0 h0
  rw [← qb (aa t ((0:Nat):Int)).f3,ek] at this
  show (bytesOf (aa t ((0:Nat):Int)).f3).length≤65535
  omega
 obtain ⟨v,ok,hv,_,hA,hB⟩:=abz ob hin t hN hsz hk hR.2.2.2.1 0 0 (dE t 0) h0 hR.2.2.1 rfl (by omega) hbl
 have hvf:Ev (fun k=>iV.f k t 0) (v,ok):=by
  refine Ev.step (fun k=>by rw [iV.f]) ?_
  refine Ev.ae (by omega) (Ev.ae (by omega) ?_)
  unfold dE at hv
  rw [qb] at hv
  exact hv
 obtain ⟨y,b,hy,hc⟩:=aeG ob hin t hN hsz hk Gf t.length (List.replicate t.length ((0,0):Nat × Nat)) (Nat.le_refl _) ⟨by simp,fun p h1 h2=>by omega⟩
 have hs:Ev (fun k=>gP.f k t) (y,b):=by
  refine Ev.congr (fun k=>by rw [gP.f]) ?_
  rw [aO (by omega) (by omega),Int.toNat_natCast]
  exact Ev.ae (by omega) (Ev.ae (by omega) hy)
 have root:∀ bs,En t (aU t 0) 1 t.length bs→(fM t 0 (dE t 0++bs)).length≤65535→En t [(0:Int)] 0 t.length (fM t 0 (dE t 0++bs)++[]):=fun bs e f=>En.cons rfl h0 e f (En.nil _)
 rcases hc with ⟨rfl,hg⟩ | ⟨rfl,i,hi,hnf⟩
 ·obtain ⟨m,cs,e,hf,_⟩:=hg.2 0 (Nat.le_refl _) h0
  obtain rfl:=En.pos hR.2.2.2.1 e
  obtain rfl:=hB ⟨_,cs,e,hf⟩
  obtain ⟨cs',e',_,rfl⟩:=hA rfl
  obtain ⟨_,rfl⟩:=e.ky e'
  refine ⟨(strOfNums (fM t 0 (dE t 0++cs)),0),?_,?_,fun cs2 e2 _=>(by obtain ⟨_,rfl⟩:=e.ky e2;rfl),fun _=>⟨cs,e,hf,rfl⟩⟩
  ·refine Ev.congr (fun k=>by rw [jb.f]) ?_
   refine Ev.bind hr1 (Ev.ae rfl (Ev.bind hs (Ev.ae rfl ?_)))
   refine acM ob hin t hN hsz (fun i hi=>(Gf i hi).1) y hg (root cs e hf) [] (by simp) (by omega) _ ?_
   refine Ev.step (fun k=>by rw [jb.l0]) ?_
   rw [List.nil_append,List.append_nil]
   exact Ev.ak (by omega) (Ev.now _)
  ·refine Ev.congr (fun k=>by rw [pF.f]) ?_
   exact Ev.bind hr2 (Ev.ae rfl (Ev.bind hvf (Ev.ae rfl (Ev.now _))))
 ·have hok:ok=false:=by
   cases ok with
   | false=>rfl
   | true =>
    obtain ⟨bs,e,f,_⟩:=hA rfl
    exact absurd ((root bs e f).cover i (Nat.zero_le _) hi) hnf
  subst hok
  refine ⟨(⟨#[]⟩,4),?_,?_,fun cs2 e2 f2=>absurd ((root cs2 e2 f2).cover i (Nat.zero_le _) hi) hnf,fun h=>absurd h (by decide)⟩
  ·refine Ev.congr (fun k=>by rw [jb.f]) ?_
   exact Ev.bind hr1 (Ev.ae rfl (Ev.bind hs (Ev.ak (by simp) (Ev.now _))))
  ·refine Ev.congr (fun k=>by rw [pF.f]) ?_
   exact Ev.bind hr2 (Ev.ae rfl (Ev.bind hvf (Ev.ak (by simp) (Ev.now _))))
theorem Ch.hle {ob:af→Bool} {t:List af} {ks:List Int} {n j h:Nat} (c:Ch ob t ks n j h):h+n≤j:=by
 induction c with
 | nil n=>omega
 | cons hk hn ho c1 c2 ih1 ih2=>omega
def FW (t:List Nd) (n:Nat) (f:Fo):Prop:=(t.drop n).take f.size=f.flat n
theorem qy {t:List Nd} {n:Nat} {a b:Int} {c:Bool} {d:List Int} {ks r:Fo}:FW t n (.cons a b c d ks r)↔∃ h:n < t.length,t[n]=nd a b c (strOfNums d) (ks.roots (n+1))∧FW t (n+1) ks∧FW t (n+1+ks.size) r:=by
 have e:(t.drop n).take (1+ks.size+r.size)=(t.drop n).take 1++((t.drop (n+1)).take ks.size++(t.drop (n+1+ks.size)).take r.size):=by
  rw [Nat.add_assoc,List.take_add,List.drop_drop,List.take_add,List.drop_drop]
 constructor
 ·intro h
  unfold FW at h
  rw [Fo.size,e,Fo.flat] at h
  have hn:n < t.length:=by
   rcases Nat.lt_or_ge n t.length with hn | hn
   ·exact hn
   ·rw [List.drop_eq_nil_of_le hn,List.drop_eq_nil_of_le (by omega),List.drop_eq_nil_of_le (by omega)] at h
    simp at h
  rw [List.drop_eq_getElem_cons hn] at h
  simp only [List.take_succ_cons,List.take_zero,List.singleton_append,List.cons.injEq] at h
  obtain ⟨h1,h2⟩:=h
  have hl:=congrArg List.length h2
  rw [List.length_append,List.length_append,Fo.gD,Fo.gD] at hl
  have l1:((t.drop (n+1)).take ks.size).length≤ks.size:=by rw [List.length_take];omega
  have l2:((t.drop (n+1+ks.size)).take r.size).length≤r.size:=by rw [List.length_take];omega
  obtain ⟨h3,h4⟩:=List.append_inj h2 (by rw [Fo.gD];omega)
  exact ⟨hn,h1,h3,h4⟩
 ·rintro ⟨hn,h1,h2,h3⟩
  unfold FW at h2 h3 ⊢
  rw [Fo.size,e,h2,h3,List.drop_eq_getElem_cons hn,h1]
  rfl
theorem aiw {t:List Nd} {n:Nat} {f:Fo} (h:FW t n f) (hn:n≤t.length):n+f.size≤t.length:=by
 have hl:=congrArg List.length h
 rw [Fo.gD,List.length_take,List.length_drop] at hl
 omega
theorem CJ (f:Fo):FW (f.flat 0) 0 f:=by
 unfold FW
 rw [List.drop_zero,← Fo.gD f 0,List.take_length]
def Fo.jK:Fo→Nat
 | .nil=>0
 | .cons _ _ _ _ ks r=>max (ks.jK+1) r.jK
theorem Fo.Ok.deep:∀ {f:Fo} {dep:Nat},f.Ok dep→dep≤16→dep+f.jK≤16
 | .nil,dep,_,h=>h
 | .cons a b c d ks r,dep,⟨_,_,o2,_,_,_,_,o7,o8⟩,h=>by
  have h1:=o7.deep (by omega)
  have h2:=o8.deep h
  rw [Fo.jK]
  omega
theorem qY {t:List Nd} {n:Nat} (h:n < t.length):aU t n=t[n].f4:=by unfold aU;rw [jZ t n h]
theorem XD {t:List Nd} {n:Nat} (h:n < t.length):dE t n=bytesOf t[n].f3:=by unfold dE;rw [jZ t n h]
theorem Wi {t:List Nd} {n:Nat} (h:n < t.length) (cs:List Int):fM t n cs=di t[n].f0 t[n].f1 t[n].f2++dm (cs.length:Int)++cs:=by unfold fM;rw [jZ t n h]
theorem DT (t:List Nd):∀ (f:Fo) (n dep:Nat),FW t n f→f.Ok dep→f.enc.length≤65535→En t (f.roots n) n (n+f.size) f.enc
 | .nil,n,dep,_,_,_=>.nil n
 | .cons a b c d ks r,n,dep,h,ho,hl=>by
  obtain ⟨hn,h1,h2,h3⟩:=qy.1 h
  obtain ⟨_,_,_,_,o5,_,_,o7,o8⟩:=ho
  rw [Fo.jG] at hl
  have hk:(d++ks.enc).length=d.length+ks.enc.length:=List.length_append
  have i1:=DT t ks (n+1) _ h2 o7 (by omega)
  have i2:=DT t r (n+1+ks.size) _ h3 o8 (by omega)
  have e1:fM t n (dE t n++ks.enc)=di a b c++dm ((d++ks.enc).length:Int)++(d++ks.enc):=by
   rw [Wi hn,XD hn,h1]
   show di a b c++dm ((bytesOf (strOfNums d)++ks.enc).length:Int)++(bytesOf (strOfNums d)++ks.enc)=_
   rw [qU o5]
  have:=En.cons (t:=t) (k:=(n:Int)) rfl hn (by rw [qY hn,h1];exact i1) (by rw [e1,List.length_append];show Fo.hd a b c d ks+_≤_;omega) i2
  rw [e1] at this
  rw [Fo.size,show n+(1+ks.size+r.size)=n+1+ks.size+r.size by omega]
  exact this
theorem aeI (a b:Int) (c:Bool) (d:ByteArray) (e:List Int) (hb:0≤a∧a≤3∧0≤b∧b≤2097151) (hc:c=true→d.toList=[]) (he:c=false→e=[]) (hm:a=0→(c=true→b=16∨b=17)∧(c=false→Ev (fun k=>jE.f k b d) true)):Ev (fun k=>iy.f k a b c d e) true:=by
 refine Ev.congr (fun k=>by rw [iy.f]) ?_
 refine Ev.ak (by rw [JV];omega) (Ev.ak (by omega) ?_)
 rw [decide_eq_false (by omega)]
 refine Ev.step (fun k=>by rw [iy.j0]) ?_
 refine Ev.ak (by simp) ?_
 cases c with
 | true =>
  refine Ev.ae rfl (Ev.ae (hc rfl) ?_)
  by_cases h0:a=0
  ·refine Ev.ae h0 ?_
   rcases (hm h0).1 rfl with h | h
   ·exact Ev.ae h (Ev.now _)
   ·refine Ev.ak (by omega) ((Ev.now _).eq ?_)
    rw [h];rfl
  ·exact Ev.ak h0 (Ev.now _)
 | false =>
  refine Ev.ak (by simp) (Ev.ae (by rw [he rfl];rfl) ?_)
  by_cases h0:a=0
  ·exact Ev.ae h0 (Ev.bind ((hm h0).2 rfl) (Ev.now _))
  ·exact Ev.ak h0 (Ev.now _)
theorem DU (ob:Nd→Bool) (hone:∀ x,wN x (ob x)) {a b:Int} {c:Bool} {d:List Int} {ks r:Fo} {dep m:Nat} (ho:(Fo.cons a b c d ks r).Ok dep) (hs:d.length≤2000):ob (nd a b c (strOfNums d) (ks.roots m))=true:=by
 obtain ⟨hb,_,_,o4,o5,o6,o7,_⟩:=ho
 have h1:=(hone (nd a b c (strOfNums d) (ks.roots m)) (by show (strOfNums d).size≤2000;rw [ek];exact hs)).1
 exact Ev.ky h1 (aeI a b c (strOfNums d) (ks.roots m) hb (fun h=>by rw [o6 h,iR]) (fun h=>by rw [o7 h];rfl) (fun h=>⟨(o4 h).1,fun h2=>((o4 h).2 h2).1⟩))
def Fo.Small:Fo→Nat→Prop
 | .nil,_=>True
 | .cons _ _ _ d ks r,m=>d.length≤m∧ks.Small m∧r.Small m
theorem Fo.Co:∀ (f:Fo) (m:Nat),f.enc.length≤m→f.Small m
 | .nil,_,_=>trivial
 | .cons a b c d ks r,m,h=>by
  rw [Fo.jG] at h
  have hk:(d++ks.enc).length=d.length+ks.enc.length:=List.length_append
  exact ⟨by omega,Fo.Co ks m (by omega),Fo.Co r m (by omega)⟩
theorem wO (ob:Nd→Bool) (hone:∀ x,wN x (ob x)) (t:List Nd):∀ (f:Fo) (n dep:Nat),FW t n f→f.Ok dep→f.Small 2000→Ch ob t (f.roots n) n (n+f.size) f.jK
 | .nil,n,dep,_,_,_=>.nil n
 | .cons a b c d ks r,n,dep,h,ho,hs=>by
  obtain ⟨hn,h1,h2,h3⟩:=qy.1 h
  have cu:=DU ob hone (m:=n+1) ho hs.1
  obtain ⟨_,_,_,_,o5,_,_,o7,o8⟩:=ho
  have i1:=wO ob hone t ks (n+1) _ h2 o7 hs.2.1
  have i2:=wO ob hone t r (n+1+ks.size) _ h3 o8 hs.2.2
  have:=Ch.cons (ob:=ob) (t:=t) (k:=(n:Int)) rfl hn (by rw [jZ t n hn,h1];exact cu) (by rw [qY hn,h1];exact i1) i2
  rw [Fo.size,show n+(1+ks.size+r.size)=n+1+ks.size+r.size by omega]
  exact this
theorem acN (a b:Int) (c:Bool) (d:List Int) (ks:Fo) (ho:(Fo.cons a b c d ks .nil).Ok 0) (hz:(Fo.cons a b c d ks .nil).size≤1000) (hs:(Fo.cons a b c d ks .nil).Small 2000) (hl:(Fo.cons a b c d ks .nil).enc.length≤65535) :
 Ev (fun k=>mf.f k ((Fo.cons a b c d ks .nil).flat 0)) true∧Ev (fun k=>mP.f k ((Fo.cons a b c d ks .nil).flat 0)) true∧Ev (fun k=>BQ.f k ((Fo.cons a b c d ks .nil).flat 0)) ((ks.jK:Int)+1)∧ks.jK+1≤16 ∧
 Ev (fun k=>jb.f k ((Fo.cons a b c d ks .nil).flat 0)) (strOfNums (Fo.cons a b c d ks .nil).enc,0)∧Ev (fun k=>pF.f k ((Fo.cons a b c d ks .nil).flat 0)) (strOfNums (Fo.cons a b c d ks .nil).enc,0):=by
 obtain ⟨ob,hone⟩:=Xa
 have hfw:=CJ (Fo.cons a b c d ks .nil)
 have hlen:=Fo.gD (Fo.cons a b c d ks .nil) 0
 have hkk:=Fo.qo (Fo.cons a b c d ks .nil) 0
 have aix:=ho.deep (by omega)
 have hch:=wO ob hone _ _ 0 0 hfw ho hs
 have hen:=DT _ _ 0 0 hfw ho hl
 have cu:=DU ob hone (m:=1) ho hs.1
 have hsz1:(Fo.cons a b c d ks .nil).size=1+ks.size+0:=rfl
 have vz:(Fo.cons a b c d ks .nil).jK=max (ks.jK+1) 0:=rfl
 rw [Nat.zero_add] at hch hen
 have ZM:(Fo.cons a b c d ks .nil).enc=di a b c++dm ((d++ks.enc).length:Int)++(d++ks.enc):=by rw [Fo.enc,Fo.enc,List.append_nil]
 obtain ⟨hn,g1,g2,_⟩:=qy.1 hfw
 have hd5:=ho.2.2.2.2.1
 generalize hT:(Fo.cons a b c d ks .nil).flat 0=t at *
 have hsz:∀ n,n < t.length→(aa t (n:Int)).f3.size≤2000:=by
  have key:∀ (f:Fo) (n:Nat),f.Small 2000→∀ x∈f.flat n,x.f3.size≤2000:=by
   intro f
   induction f with
   | nil=>intro n _ x hx;cases hx
   | cons a b c d ks r ih1 ih2 =>
    intro n hs x hx
    rw [Fo.flat] at hx
    rcases List.mem_cons.1 hx with rfl | hx
    ·show (strOfNums d).size≤2000;rw [ek];exact hs.1
    ·rcases List.mem_append.1 hx with hx | hx
     ·exact ih1 _ hs.2.1 x hx
     ·exact ih2 _ hs.2.2 x hx
  intro n hn
  rw [jZ t n hn]
  exact key (Fo.cons a b c d ks .nil) 0 hs _ (by rw [hT];exact List.getElem_mem hn)
 have hk:∀ n,n < t.length→(aU t n).length≤100000:=fun n hn=>by
  rw [qY hn]
  have:=hkk _ (List.getElem_mem hn)
  omega
 have amL:qO ob t:=fun n hn=>(hone _ (hsz n hn)).1
 have hin:BH ob:=fun x hx ho=>((hone x hx).2.2 ho).1
 have hks:aU t 0=ks.roots 1:=by rw [qY hn,g1];rfl
 have hc0:Ch ob t (aU t 0) 1 t.length ks.jK:=by
  rw [hks]
  have:=wO ob hone t ks 1 1 g2 ho.2.2.2.2.2.2.2.1 hs.2.1
  rw [hlen,hsz1]
  exact this
 have hR:RT ob t ks.jK:=⟨by omega,by omega,by rw [show (0:Int)=((0:Nat):Int) from rfl,jZ t 0 hn,g1];exact cu,hc0,by omega⟩
 have hrd:=BO ob t hk amL _ hR
 obtain ⟨b2,hb2,amM⟩:=abx ob t hk (fun n hn=>(hone _ (hsz n hn)).2.1)
 have hb2':b2=true:=amM.2 ⟨_,hR⟩
 subst hb2'
 obtain ⟨e,he1,he2,he3,_⟩:=aeH ob hin t hsz hk (fun i hi=>by
  obtain ⟨x,m,h',c',_⟩:=hch.cover i (Nat.zero_le _) (by omega)
  exact ⟨x,m,h',c'⟩) _ hR hrd.1 hb2
 have hkl:(d++ks.enc).length=d.length+ks.enc.length:=List.length_append
 have amN:En t (aU t 0) 1 t.length ks.enc:=by
  rw [hks]
  have hel:=Fo.jG a b c d ks .nil
  have:=DT t ks 1 1 g2 ho.2.2.2.2.2.2.2.1 (by omega)
  rw [hlen,hsz1]
  exact this
 have hnl:fM t 0 (dE t 0++ks.enc)=(Fo.cons a b c d ks .nil).enc:=by
  rw [Wi hn,XD hn,g1,ZM]
  show di a b c++dm ((bytesOf (strOfNums d)++ks.enc).length:Int)++(bytesOf (strOfNums d)++ks.enc)=_
  rw [qU hd5]
 have he:=he3 ks.enc amN (by rw [hnl];exact hl)
 rw [hnl] at he
 subst he
 exact ⟨hrd.1,hb2,hrd.2,by omega,he1,he2⟩
def Fo.parts:Fo→List (List Nd)
 | .nil=>[]
 | .cons a b c d ks r=>(Fo.cons a b c d ks .nil).flat 0 :: r.parts
theorem Fo.Il:∀ f:Fo,f.parts.length≤f.size
 | .nil=>Nat.le_refl _
 | .cons a b c d ks r=>by rw [Fo.parts,Fo.size,List.length_cons];have:=Fo.Il r;omega
theorem Fo.GX (a b:Int) (c:Bool) (d:List Int) (ks:Fo) (n:Nat):(Fo.cons a b c d ks .nil).flat n=nd a b c (strOfNums d) (ks.roots (n+1)) :: ks.flat (n+1):=by
 rw [Fo.flat,Fo.flat,List.append_nil]
theorem Fo.UD (n m:Nat) (iE:Int) (h:(n:Int)+iE=(m:Int)):∀ (f:Fo) (j:Nat),n+j+f.size≤1000000→m+j+f.size≤1000000→(f.roots (n+j)).map (fun y=>wrap64 (y+iE))=f.roots (m+j)
 | .nil,_,_,_=>rfl
 | .cons a b c d ks r,j,h1,h2=>by
  rw [Fo.size] at h1 h2
  rw [Fo.roots,Fo.roots,List.map_cons]
  have i:=Fo.UD n m iE h r (j+1+ks.size) (by omega) (by omega)
  rw [show n+(j+1+ks.size)=n+j+1+ks.size by omega,show m+(j+1+ks.size)=m+j+1+ks.size by omega] at i
  rw [i,aO (by omega) (by omega)]
  congr 1
  omega
theorem Fo.yc (n m:Nat) (iE:Int) (h:(n:Int)+iE=(m:Int)):∀ (f:Fo) (j:Nat),n+j+f.size≤1000000→m+j+f.size≤1000000→(f.flat (n+j)).map (mM iE)=f.flat (m+j)
 | .nil,_,_,_=>rfl
 | .cons a b c d ks r,j,h1,h2=>by
  rw [Fo.size] at h1 h2
  rw [Fo.flat,Fo.flat,List.map_cons,List.map_append]
  have i0:=Fo.UD n m iE h ks (j+1) (by omega) (by omega)
  have i1:=Fo.yc n m iE h ks (j+1) (by omega) (by omega)
  have i2:=Fo.yc n m iE h r (j+1+ks.size) (by omega) (by omega)
  rw [show n+(j+1)=n+j+1 by omega,show m+(j+1)=m+j+1 by omega] at i0 i1
  rw [show n+(j+1+ks.size)=n+j+1+ks.size by omega,show m+(j+1+ks.size)=m+j+1+ks.size by omega] at i2
  rw [i1,i2]
  congr 1
  show (⟨a,b,c,strOfNums d,((ks.roots (n+j+1)).map fun y=>wrap64 (y+iE))⟩:Nd)=⟨a,b,c,strOfNums d,ks.roots (m+j+1)⟩
  rw [i0]
theorem Wj {LL:List (List Nd)} {q:Nat} {a b:Int} {c:Bool} {d:List Int} {ks r:Fo} (h:LL.drop q=(Fo.cons a b c d ks r).parts):∃ hq:q < LL.length,LL[q]=(Fo.cons a b c d ks .nil).flat 0∧LL.drop (q+1)=r.parts:=by
 have hq:q < LL.length:=by
  rcases Nat.lt_or_ge q LL.length with g | g
  ·exact g
  ·rw [List.drop_eq_nil_of_le g,Fo.parts] at h;cases h
 rw [List.drop_eq_getElem_cons hq,Fo.parts] at h
 obtain ⟨h1,h2⟩:=List.cons.inj h
 exact ⟨hq,h1,h2⟩
theorem aiy (a b:Int) (LL:List (List Nd)) (hLL:LL.length≤1000):∀ (g:Fo) (q:Nat) (kd:List Int) (body:List Nd),LL.drop q=g.parts→q≤LL.length→kd.length+g.size≤1000→body.length+1+g.size≤1000 →
 Ev (fun k=>fQ.l0 k (nd a b true ⟨#[]⟩ kd :: body) LL (LL.length:Int) (q:Int)) (nd a b true ⟨#[]⟩ (kd++g.roots (body.length+1)) :: (body++g.flat (body.length+1))):=by
 intro g
 induction g with
 | nil =>
  intro q kd body hq qP _ _
  have:LL.length≤q:=by
   have:=congrArg List.length hq
   simp [Fo.parts] at this
   omega
  refine Ev.step (fun k=>by rw [fQ.l0]) ?_
  rw [Fo.roots,Fo.flat,List.append_nil,List.append_nil]
  exact Ev.ak (by omega) (Ev.now _)
 | cons a' b' c' d' ks r _ ih =>
  intro q kd body hq qP hkd hb
  obtain ⟨hlt,e1,e2⟩:=Wj hq
  rw [Fo.size] at hkd hb
  have hl1:(LL[q]).length=1+ks.size:=by rw [e1,Fo.gD];rfl
  have hkk:=Fo.qo (Fo.cons a' b' c' d' ks .nil) 0
  have hv:bz LL (q:Int)=LL[q]:=by unfold bz;simp [List.getD_eq_getElem?_getD,hlt]
  have hx7:((nd a b true ⟨#[]⟩ kd :: body).length:Int)=((body.length+1:Nat):Int):=by simp
  have hr0:aa (nd a b true ⟨#[]⟩ kd :: body) 0=nd a b true ⟨#[]⟩ kd:=rfl
  refine Ev.step (fun k=>by rw [fQ.l0]) ?_
  rw [hv,hx7,hr0]
  refine Ev.ae (by omega) (Ev.ae (by omega) (Ev.ae (by omega) (Ev.ae (by omega) (Ev.ae (by omega) (Ev.ae (by show kd.length < _;omega) ?_)))))
  refine Ev.step (fun k=>by rw [fQ.j1]) ?_
  refine aiv ((body.length+1:Nat):Int) LL _ _ (LL[q]) (by omega) (fun x hx=>by have:=hkk x (e1 ▸ hx);rw [Fo.size] at this;simp only [Fo.size] at this;omega) _ 0 _ rfl (by omega) (by simp;omega) ?_
  have es:=Fo.yc 0 (body.length+1) ((body.length+1:Nat):Int) (by omega) (Fo.cons a' b' c' d' ks .nil) 0 (by simp only [Fo.size];omega) (by simp only [Fo.size];omega)
  rw [List.drop_zero,e1,es,Nat.add_zero,aO (x:=(q:Int)+1) (by omega) (by omega)]
  have hbl:(body++(Fo.cons a' b' c' d' ks .nil).flat (body.length+1)).length=body.length+1+ks.size:=by rw [List.length_append,Fo.gD];simp only [Fo.size];omega
  have:=ih (q+1) (kd++[((body.length+1:Nat):Int)]) (body++(Fo.cons a' b' c' d' ks .nil).flat (body.length+1)) e2 (by omega) (by simp;omega) (by rw [hbl];omega)
  rw [hbl] at this
  refine this.eq ?_
  simp only [Fo.roots,Fo.flat,List.append_nil,List.append_assoc,List.cons_append,List.nil_append,List.singleton_append,show body.length+1+ks.size+1=body.length+1+1+ks.size by omega]
theorem U2 (a b:Int) (g:Fo) (h:g.size≤999):Ev (fun k=>fQ.f k a b g.parts) ((Fo.cons a b true [] g .nil).flat 0):=by
 have hp:=g.Il
 refine Ev.congr (fun k=>by rw [fQ.f]) ?_
 have:=aiy a b g.parts (by omega) g 0 [] [] (by rw [List.drop_zero]) (by omega) (by simp;omega) (by simp;omega)
 refine this.eq ?_
 rw [Fo.GX]
 rfl
def Fo.app:Fo→Fo→Fo
 | .nil,g=>g
 | .cons a b c d ks r,g=>.cons a b c d ks (r.app g)
theorem adz (a b:Int) (LL:List (List Nd)) (hLL:LL.length≤1000):∀ (g:Fo) (q:Nat) (kd:List Int) (body:List Nd),LL.drop q=g.parts→q≤LL.length→kd.length+g.size≤1000→body.length+1+g.size≤1000 →
 Ev (fun k=>fT.l0 k LL (nd a b true ⟨#[]⟩ kd :: body) (q:Int)) (nd a b true ⟨#[]⟩ (kd++g.roots (body.length+1)) :: (body++g.flat (body.length+1))):=by
 intro g
 induction g with
 | nil =>
  intro q kd body hq qP _ _
  have:LL.length≤q:=by
   have:=congrArg List.length hq
   simp [Fo.parts] at this
   omega
  refine Ev.step (fun k=>by rw [fT.l0]) ?_
  rw [Fo.roots,Fo.flat,List.append_nil,List.append_nil]
  exact Ev.ak (by omega) (Ev.now _)
 | cons a' b' c' d' ks r _ ih =>
  intro q kd body hq qP hkd hb
  obtain ⟨hlt,e1,e2⟩:=Wj hq
  rw [Fo.size] at hkd hb
  have hl1:(LL[q]).length=1+ks.size:=by rw [e1,Fo.gD];rfl
  have hkk:=Fo.qo (Fo.cons a' b' c' d' ks .nil) 0
  have hx7:((nd a b true ⟨#[]⟩ kd :: body).length:Int)=((body.length+1:Nat):Int):=by simp
  have hr0:aa (nd a b true ⟨#[]⟩ kd :: body) 0=nd a b true ⟨#[]⟩ kd:=rfl
  refine Ev.step (fun k=>by rw [fT.l0]) ?_
  rw [TZ LL q hlt,hx7,hr0]
  refine Ev.ae (by omega) (Ev.ae (by omega) (Ev.ae (by omega) (Ev.ae (by omega) (Ev.ae (by show kd.length < _;omega) ?_))))
  refine Ev.step (fun k=>by rw [fT.j1]) ?_
  refine ady ((body.length+1:Nat):Int) LL q hlt (by omega) (by omega) (fun x hx=>by have:=hkk x (e1 ▸ hx);simp only [Fo.size] at this;omega) _ 0 _ rfl (by omega) (by simp;omega) ?_
  have es:=Fo.yc 0 (body.length+1) ((body.length+1:Nat):Int) (by omega) (Fo.cons a' b' c' d' ks .nil) 0 (by simp only [Fo.size];omega) (by simp only [Fo.size];omega)
  rw [List.drop_zero,e1,es,Nat.add_zero]
  have hbl:(body++(Fo.cons a' b' c' d' ks .nil).flat (body.length+1)).length=body.length+1+ks.size:=by rw [List.length_append,Fo.gD];simp only [Fo.size];omega
  have:=ih (q+1) (kd++[((body.length+1:Nat):Int)]) (body++(Fo.cons a' b' c' d' ks .nil).flat (body.length+1)) e2 (by omega) (by simp;omega) (by rw [hbl];omega)
  rw [hbl] at this
  refine this.eq ?_
  simp only [Fo.roots,Fo.flat,List.append_nil,List.append_assoc,List.cons_append,List.nil_append,List.singleton_append,show body.length+1+ks.size+1=body.length+1+1+ks.size by omega]
theorem Vy (a b:Int) (g:Fo) (h:g.size≤999):Ev (fun k=>fT.f k a b g.parts) ((Fo.cons a b true [] g .nil).flat 0):=by
 have hp:=g.Il
 refine Ev.congr (fun k=>by rw [fT.f]) ?_
 have:=adz a b g.parts (by omega) g 0 [] [] (by rw [List.drop_zero]) (by omega) (by simp;omega) (by simp;omega)
 refine this.eq ?_
 rw [Fo.GX]
 rfl
structure Tr (ob:Nd→Bool) (t:List Nd) (H:Nat):Prop where
 one:∀ x,wN x (ob x)
 sz:∀ n,n < t.length→(aa t (n:Int)).f3.size≤2000
 kd:∀ n,n < t.length→(aU t n).length≤100000
 rt:RT ob t H
theorem Tr.obT {ob:Nd→Bool} {t:List Nd} {H:Nat} (h:Tr ob t H):qO ob t:=fun n hn=>(h.one _ (h.sz n hn)).1
theorem aiz (a b:Int) (c:Bool) (d:List Int) (ks:Fo) (ho:(Fo.cons a b c d ks .nil).Ok 0) (hz:(Fo.cons a b c d ks .nil).size≤1000) (hs:(Fo.cons a b c d ks .nil).Small 2000):∃ ob,Tr ob ((Fo.cons a b c d ks .nil).flat 0) ks.jK:=by
 obtain ⟨ob,hone⟩:=Xa
 have hfw:=CJ (Fo.cons a b c d ks .nil)
 have hlen:=Fo.gD (Fo.cons a b c d ks .nil) 0
 have hkk:=Fo.qo (Fo.cons a b c d ks .nil) 0
 have aix:=ho.deep (by omega)
 have cu:=DU ob hone (m:=1) ho hs.1
 have hsz1:(Fo.cons a b c d ks .nil).size=1+ks.size+0:=rfl
 have vz:(Fo.cons a b c d ks .nil).jK=max (ks.jK+1) 0:=rfl
 obtain ⟨hn,g1,g2,_⟩:=qy.1 hfw
 generalize hT:(Fo.cons a b c d ks .nil).flat 0=t at *
 have hsz:∀ n,n < t.length→(aa t (n:Int)).f3.size≤2000:=by
  have key:∀ (f:Fo) (n:Nat),f.Small 2000→∀ x∈f.flat n,x.f3.size≤2000:=by
   intro f
   induction f with
   | nil=>intro n _ x hx;cases hx
   | cons a b c d ks r ih1 ih2 =>
    intro n hs x hx
    rw [Fo.flat] at hx
    rcases List.mem_cons.1 hx with rfl | hx
    ·show (strOfNums d).size≤2000;rw [ek];exact hs.1
    ·rcases List.mem_append.1 hx with hx | hx
     ·exact ih1 _ hs.2.1 x hx
     ·exact ih2 _ hs.2.2 x hx
  intro n hn
  rw [jZ t n hn]
  exact key (Fo.cons a b c d ks .nil) 0 hs _ (by rw [hT];exact List.getElem_mem hn)
 refine ⟨ob,hone,hsz,fun n hn=>?_,by omega,by omega,by rw [show (0:Int)=((0:Nat):Int) from rfl,jZ t 0 hn,g1];exact cu,?_,by omega⟩
 ·rw [qY hn]
  have:=hkk _ (List.getElem_mem hn)
  omega
 ·have hks:aU t 0=ks.roots 1:=by rw [qY hn,g1];rfl
  rw [hks]
  have:=wO ob hone t ks 1 1 g2 ho.2.2.2.2.2.2.2.1 hs.2.1
  rw [hlen,hsz1]
  exact this
theorem adA {t:List Nd} {n:Nat} {a b:Int} {c:Bool} {d:List Int} {ks r:Fo} (h:FW t n (.cons a b c d ks r)):FW t n (.cons a b c d ks .nil):=by
 obtain ⟨h1,h2,h3,_⟩:=qy.1 h
 exact qy.2 ⟨h1,h2,h3,by unfold FW;rw [Fo.size,Fo.flat,List.take_zero]⟩
theorem agw {t:List Nd} {n:Nat} {a b:Int} {c:Bool} {d:List Int} {ks:Fo} (h:FW t n (.cons a b c d ks .nil)) (hl:n+(1+ks.size)≤1000):win t n (n+1+ks.size)=(Fo.cons a b c d ks .nil).flat 0:=by
 unfold win
 rw [List.drop_take,show n+1+ks.size - n=(Fo.cons a b c d ks .nil).size by simp only [Fo.size];omega,h,aO (by omega) (by omega)]
 exact Fo.yc n 0 (-(n:Int)) (by omega) _ 0 (by simp only [Fo.size];omega) (by simp only [Fo.size];omega)
theorem Yh {ob:Nd→Bool} (hone:∀ x,wN x (ob x)) {t:List Nd} {H:Nat} (ht:t.length≤1000):∀ (f:Fo) (n dep:Nat),FW t n f→f.Ok dep→f.Small 2000→f.jK≤H→n≤t.length→Pt ob t H (f.roots n) n (n+f.size) f.parts
 | .nil,n,_,_,_,_,_,_=>.nil n
 | .cons a b c d ks r,n,dep,h,ho,hs,hh,hn=>by
  have hle:=aiw h hn
  obtain ⟨h1,h2,h3,h4⟩:=qy.1 h
  rw [Fo.jK] at hh
  rw [Fo.size] at hle
  have i:=Yh (H:=H) hone ht r (n+1+ks.size) dep h4 ho.2.2.2.2.2.2.2.2 hs.2.2 (by omega) (by omega)
  rw [Fo.roots,Fo.parts,Fo.size,← agw (adA h) (by omega),show n+(1+ks.size+r.size)=n+1+ks.size+r.size by omega]
  refine Pt.cons (m:=n+1+ks.size) (h:=ks.jK) rfl h1 ?_ ?_ (Nat.lt_of_lt_of_le (Nat.lt_succ_self _) (Nat.le_trans (Nat.le_max_left _ _) hh)) (by omega) i
  ·rw [jZ t n h1,h2]
   exact DU ob hone ho hs.1
  ·rw [qY h1,h2]
   exact wO ob hone t ks (n+1) _ h3 ho.2.2.2.2.2.2.2.1 hs.2.1
theorem abA (a b:Int) (c:Bool) (d:List Int) (ks:Fo) (ho:(Fo.cons a b c d ks .nil).Ok 0) (hz:(Fo.cons a b c d ks .nil).size≤1000) (hs:(Fo.cons a b c d ks .nil).Small 2000):Ev (fun k=>kW.f k ((Fo.cons a b c d ks .nil).flat 0)) ks.parts:=by
 obtain ⟨ob,T⟩:=aiz a b c d ks ho hz hs
 have hfw:=CJ (Fo.cons a b c d ks .nil)
 have hlen:=Fo.gD (Fo.cons a b c d ks .nil) 0
 obtain ⟨hn,g1,g2,_⟩:=qy.1 hfw
 generalize (Fo.cons a b c d ks .nil).flat 0=t at *
 have p:=Yh (H:=ks.jK) T.one (by omega) ks 1 1 g2 ho.2.2.2.2.2.2.2.1 hs.2.1 (Nat.le_refl _) (by omega)
 refine afQ ob t T.kd T.obT ks.jK T.rt ks.parts (1+ks.size) ?_
 rw [qY hn,g1]
 exact p
inductive TE (t:List Nd):Prop
 | no (h1:Ev (fun k=>jb.f k t) (⟨#[]⟩,1)) (h2:Ev (fun k=>mP.f k t) false)
 | yes (e:ByteArray × Int) (h1:Ev (fun k=>jb.f k t) e) (h2:Ev (fun k=>mP.f k t) true) (h3:Ev (fun k=>pF.f k t) e)
  (h4:e.2=0→∃ (a b:Int) (c:Bool) (d:List Int) (ks:Fo),t=(Fo.cons a b c d ks .nil).flat 0∧(Fo.cons a b c d ks .nil).Ok 0∧(Fo.cons a b c d ks .nil).enc.length≤65535∧e.1=strOfNums (Fo.cons a b c d ks .nil).enc)
def Fo.By:Fo→Prop
 | .nil=>True
 | .cons _ _ _ d ks r=>aG d∧ks.By∧r.By
theorem Fo.Ok.by:∀ {f:Fo} {dep:Nat},f.Ok dep→f.By
 | .nil,_,_=>trivial
 | .cons _ _ _ _ _ _,_,h=>⟨h.2.2.2.2.1,Fo.Ok.by h.2.2.2.2.2.2.2.1,Fo.Ok.by h.2.2.2.2.2.2.2.2⟩
theorem VR {l m:List Int} (hl:aG l) (hm:aG m) (h:strOfNums l=strOfNums m):l=m:=by
 rw [← qU hl,← qU hm,h]
theorem Fo.I7:∀ f:Fo,2*f.size≤f.enc.length
 | .nil=>Nat.zero_le _
 | .cons a b c d ks r=>by
  rw [Fo.jG,Fo.size]
  have h1:=Fo.I7 ks
  have h2:=Fo.I7 r
  have h3:=Fo.CW a b c d ks
  rw [List.length_append]
  omega
theorem Fo.Ok.less:∀ {f:Fo} {dep SX:Nat},f.Ok dep→SX≤dep→f.Ok SX
 | .nil,_,_,_,_=>trivial
 | .cons a b c d ks r,dep,SX,h,hd=>⟨h.1,h.2.1,by have:=h.2.2.1;omega,h.2.2.2.1,h.2.2.2.2.1,h.2.2.2.2.2.1,h.2.2.2.2.2.2.1,Fo.Ok.less h.2.2.2.2.2.2.2.1 (by omega),Fo.Ok.less h.2.2.2.2.2.2.2.2 hd⟩
theorem Fo.Ok.one {a b:Int} {c:Bool} {d:List Int} {ks r:Fo} {dep:Nat} (h:(Fo.cons a b c d ks r).Ok dep):(Fo.cons a b c d ks .nil).Ok 0:=Fo.Ok.less (dep:=dep) ⟨h.1,h.2.1,h.2.2.1,h.2.2.2.1,h.2.2.2.2.1,h.2.2.2.2.2.1,h.2.2.2.2.2.2.1,h.2.2.2.2.2.2.2.1,trivial⟩ (Nat.zero_le _)
theorem Fo.Ok.rest {a b:Int} {c:Bool} {d:List Int} {ks r:Fo} {dep:Nat} (h:(Fo.cons a b c d ks r).Ok dep):r.Ok dep:=h.2.2.2.2.2.2.2.2
theorem Fo.Ok.kids {a b:Int} {c:Bool} {d:List Int} {ks r:Fo} {dep:Nat} (h:(Fo.cons a b c d ks r).Ok dep):ks.Ok (dep+1):=h.2.2.2.2.2.2.2.1
theorem Fo.qz (a b:Int) (c:Bool) (d:List Int) (ks r:Fo):(Fo.cons a b c d ks .nil).enc.length≤(Fo.cons a b c d ks r).enc.length∧r.enc.length≤(Fo.cons a b c d ks r).enc.length∧ks.enc.length≤(Fo.cons a b c d ks r).enc.length∧d.length≤(Fo.cons a b c d ks r).enc.length:=by
 rw [Fo.jG,Fo.jG,List.length_append]
 simp only [Fo.enc,List.length_nil]
 omega
theorem toList_inj {x y:ByteArray} (h:x.toList=y.toList):x=y:=by
 rw [ByteArray.toList_eq,ByteArray.toList_eq] at h
 exact ByteArray.ext (Array.toList_inj.1 h)
theorem xJ {a b:Int} {c:Bool} {d:List Int} {ks r:Fo} {dep:Nat} (h:(Fo.cons a b c d ks r).Ok dep) (ha:a=0) (h16:b≠16) (Gr:b≠17):c=false∧ks=.nil∧Rt b d:=by
 obtain ⟨_,_,_,hm,_,_,hk,_⟩:=h
 have:=hm ha
 cases c with
 | true=>rcases this.1 rfl with h | h<;>contradiction
 | false=>exact ⟨rfl,hk rfl,this.2 rfl⟩
theorem CK {a b:Int} {c:Bool} {d:List Int} {ks r:Fo} {dep:Nat} (h:(Fo.cons a b c d ks r).Ok dep) (hk:ks≠.nil):c=true∧d=[]:=by
 obtain ⟨_,_,_,_,_,hd,hk',_⟩:=h
 cases c with
 | true=>exact ⟨rfl,hd rfl⟩
 | false=>exact absurd (hk' rfl) hk
theorem agx (c:List Int) (hc:aG c):(gG c).1.length≤20:=by
 unfold gG
 split
 ·split
  ·rename_i h;obtain ⟨a,b,r,e,h18,_⟩:=vO h;rw [e];simp only [List.length_cons];omega
  ·simp
 ·simp
theorem adB (l:List Int) (hl:aG l) (hs:l.length≤1000000):Ev (fun k=>gI.f k (strOfNums l)) (gG l):=by
 rw [← WU l hl]
 exact Ud l hl hs
theorem zR {t:List Nd} {n:Nat} {a b:Int} {c:Bool} {d:List Int} {ks r:Fo} (h:FW t n (.cons a b c d ks r)):n < t.length∧aa t (n:Int)=nd a b c (strOfNums d) (ks.roots (n+1))∧FW t (n+1) ks∧FW t (n+1+ks.size) r:=by
 obtain ⟨h1,h2,h3,h4⟩:=qy.1 h
 exact ⟨h1,by rw [jZ t n h1,h2],h3,h4⟩
theorem Uo:∀ (a b:List UInt8),decide (Lib.compareBytes a b < 0)=Op.bytesLess a b
 | [],[]=>rfl
 | [],_ :: _=>rfl
 | _ :: _,[]=>rfl
 | a :: x,b :: y=>by
  rw [Lib.compareBytes,Op.bytesLess]
  by_cases h1:a < b
  ·rw [if_pos h1]
   simp [h1]
  ·rw [if_neg h1]
   by_cases h2:b < a
   ·rw [if_pos h2]
    have h3:(a == b)=false:=beq_eq_false_iff_ne.2 (fun e=>by subst e;exact h1 h2)
    simp [h1,h3]
   ·rw [if_neg h2,Uo x y]
    have h3:a=b:=UInt8.le_antisymm (UInt8.not_lt.1 h2) (UInt8.not_lt.1 h1)
    subst h3
    simp [h1]
theorem I8 (p:UInt8→Bool):∀ l:List UInt8,(∀ x∈l.dropWhile p,p x=true)→∀ x∈l,p x=true
 | [],_,x,hx=>by cases hx
 | a :: l,h,x,hx=>by
  by_cases ha:p a=true
  ·rw [List.dropWhile_cons,if_pos ha] at h
   rcases List.mem_cons.1 hx with rfl | hx
   ·exact ha
   ·exact I8 p l h x hx
  ·rw [List.dropWhile_cons,if_neg ha] at h
   exact absurd (h a (by simp)) ha
theorem Vz (l:List UInt8):Lib.trimB l 0=[]↔∀ b∈l,b=0:=by
 unfold Lib.trimB Lib.trimLeftB Lib.trimRightB
 constructor
 ·intro h b hb
  have h1:∀ x∈(l.reverse.dropWhile (· == 0)).reverse,(x == 0)=true:=by
   have h2:=I8 (· == 0) ((l.reverse.dropWhile (· == 0)).reverse) (by rw [h];intro x hx;cases hx)
   exact h2
  have h3:=I8 (· == 0) l.reverse (fun x hx=>h1 x (List.mem_reverse.2 hx)) b (List.mem_reverse.2 hb)
  exact beq_iff_eq.1 h3
 ·intro h
  have h1:l.reverse.dropWhile (· == 0)=[]:=by
   have:∀ m:List UInt8,(∀ x∈m,x=0)→m.dropWhile (· == 0)=[]:=by
    intro m
    induction m with
    | nil=>intro _;rfl
    | cons a m ih =>
     intro hm
     rw [List.dropWhile_cons,if_pos (beq_iff_eq.2 (hm a (by simp)))]
     exact ih (fun x hx=>hm x (List.mem_cons_of_mem _ hx))
   exact this _ (fun x hx=>h x (List.mem_reverse.1 hx))
  rw [h1]
  rfl
theorem afT (s:ByteArray) (i:Nat) (h:i < s.size):bt s (i:Int)=((s.data.toList.getD i 0).toNat:Int):=by
 have hl:i < s.data.toList.length:=by rw [Array.length_toList];exact h
 unfold bt
 rw [dif_pos (by simpa using h)]
 rw [List.getD_eq_getElem?_getD,List.getElem?_eq_getElem hl]
 rfl
def Gg (c:Int):ByteArray:=(tJ.f 200 c).getD ⟨#[]⟩
theorem four {c:Int} (h1:1≤c) (h4:c≤4):c=1∨c=2∨c=3∨c=4:=by omega
theorem adC {c:Int} (h1:1≤c) (h4:c≤4):Ev (fun k=>tJ.f k c) (Gg c):=by
 rcases four h1 h4 with rfl | rfl | rfl | rfl
 ·exact Ev.from_ 80 (fun n=>by kernel_rfl)
 ·exact Ev.from_ 80 (fun n=>by kernel_rfl)
 ·exact Ev.from_ 80 (fun n=>by kernel_rfl)
 ·exact Ev.from_ 80 (fun n=>by kernel_rfl)
def CL (o s:ByteArray):Bool:=s.data.toList.any (fun b=>!(b == 0)) && Op.bytesLess s.toList o.toList
def fD (c:Int):Int:=if c=1 then 28 else if c=2 then 32 else if c=3 then 48 else if c=4 then 66 else 0
theorem Hm {c:Int} (h:¬ (1≤c∧c≤4)):fD c=0:=by
 unfold fD
 rw [if_neg (by omega),if_neg (by omega),if_neg (by omega),if_neg (by omega)]
theorem Wl {c:Int} (h:¬ (1≤c∧c≤4)):jD.f c=some ((⟨#[]⟩:ByteArray),(⟨#[]⟩:ByteArray),(⟨#[]⟩:ByteArray),0):=by
 unfold jD.f pz.f
 rw [Option.bind_some]
 by_cases h1:c < 1
 ·rw [if_pos h1]
 ·rw [if_neg h1,if_pos (by omega)]
theorem U3 (c:Int):∃ a b o,jD.f c=some (a,b,o,fD c):=by
 by_cases h:1≤c∧c≤4
 ·have key:∀ n:Int,(jD.f n).map (fun t=>t.2.2.2)=some (fD n)→∃ a b o,jD.f n=some (a,b,o,fD n):=fun n hn=>by
   cases hh:jD.f n with
   | none=>rw [hh] at hn;cases hn
   | some t =>
    rw [hh] at hn
    exact ⟨t.1,t.2.1,t.2.2.1,by rw [← Option.some.inj hn]⟩
  rcases four h.1 h.2 with rfl | rfl | rfl | rfl
  ·exact key 1 (by kernel_rfl)
  ·exact key 2 (by kernel_rfl)
  ·exact key 3 (by kernel_rfl)
  ·exact key 4 (by kernel_rfl)
 ·exact ⟨_,_,_,by rw [Wl h,Hm h]⟩
theorem Ho {c:Int} (h0:¬ fD c=0):1≤c∧c≤4:=by
 unfold fD at h0
 by_cases c1:c=1
 ·omega
 by_cases c2:c=2
 ·omega
 by_cases c3:c=3
 ·omega
 by_cases c4:c=4
 ·omega
 ·rw [if_neg c1,if_neg c2,if_neg c3,if_neg c4] at h0
  exact absurd rfl h0
def rA (c:Int) (s:ByteArray):Bool:=if fD c=0 then false else if (s.size:Int)=fD c then CL (Gg c) s else false
theorem Xb (l:List UInt8):(l.any (fun b=>!(b == 0))) = !decide (∀ b∈l,b=0):=by
 by_cases hz:∀ b∈l,b=0
 ·rw [decide_eq_true hz,List.any_eq_false.2 (fun x hx=>by simp [hz x hx])]
  rfl
 ·rw [decide_eq_false hz,List.any_eq_true.2]
  ·rfl
  ·exact Classical.byContradiction fun hn=>hz fun b hb=>Classical.byContradiction fun hne=>hn ⟨b,hb,by simp [hne]⟩
theorem acO (c:Int) (s:ByteArray) (hs:s.size≤1000000):Ev (fun k=>jB.f k c s) (rA c s):=by
 unfold rA
 obtain ⟨n,a,o,hw⟩:=U3 c
 have xI:Ev (fun k=>jB.j0 k c s true) false:=by
  refine Ev.step (fun k=>by rw [jB.j0]) ?_
  exact Ev.ae rfl (Ev.now _)
 by_cases h0:fD c=0
 ·rw [if_pos h0]
  exact Ev.congr (fun k=>by rw [jB.f]) (Ev.bU hw (Ev.ae h0 xI))
 by_cases h1:(s.size:Int)=fD c
 ·have hb:((s.size:Int) != fD c)=false:=by rw [h1];simp
  have hc:=Ho h0
  have o1:=adC hc.1 hc.2
  rw [if_neg h0,if_pos h1]
  generalize Gg c=o at *
  refine Ev.congr (fun k=>by rw [jB.f]) (Ev.bU hw (Ev.ak h0 ?_))
  show Ev (fun k=>jB.j0 k c s ((s.size:Int) != fD c)) _
  rw [hb]
  refine Ev.step (fun k=>by rw [jB.j0]) ?_
  refine Ev.ak (by simp) ?_
  refine Ev.bU (a:=⟨(Lib.trimB s.data.toList 0).toArray⟩) (by
   unfold qd.f
   rw [if_pos ⟨rfl,by omega⟩,if_pos (by decide)]
   rfl) ?_
  by_cases hz:∀ b∈s.data.toList,b=0
  ·refine Ev.ae ?_ ((Ev.now _).eq ?_)
   ·rw [(Vz _).2 hz,toList_data]
   ·unfold CL
    rw [Xb,decide_eq_true hz]
    rfl
  ·refine Ev.ak ?_ ?_
   ·rw [toList_data]
    intro e
    exact hz ((Vz _).1 e)
   ·refine Ev.bind o1 ?_
    refine Ev.bU rfl ?_
    refine (Ev.now _).eq ?_
    unfold CL
    rw [Xb,decide_eq_false hz,Uo,toList_data,toList_data]
    rfl
 ·have hb:((s.size:Int) != fD c)=true:=bne_iff_ne.2 h1
  rw [if_neg h0,if_neg h1]
  refine Ev.congr (fun k=>by rw [jB.f]) (Ev.bU hw (Ev.ak h0 ?_))
  show Ev (fun k=>jB.j0 k c s ((s.size:Int) != fD c)) _
  rw [hb]
  exact xI
theorem adD {c:Int} (h1:1≤c) (h4:c≤4):Ev (fun k=>tT.f k c) (Gg c):=by
 rcases four h1 h4 with rfl | rfl | rfl | rfl
 ·exact Ev.from_ 200 (fun n=>by kernel_rfl)
 ·exact Ev.from_ 200 (fun n=>by kernel_rfl)
 ·exact Ev.from_ 200 (fun n=>by kernel_rfl)
 ·exact Ev.from_ 200 (fun n=>by kernel_rfl)
theorem aaK (c:Int) (s o:ByteArray) (hs:s.size≤1000000) (ho:Ev (fun k=>tT.f k c) o) (d:Nat):∀ (i:Nat) (f:Bool),i≤s.size→s.size - i=d →
 Ev (fun k=>gL.l0 k c s f (i:Int)) ((f || (s.data.toList.drop i).any (fun b=>!(b == 0))) && Op.bytesLess s.toList o.toList):=by
 have hl:s.data.toList.length=s.size:=Array.length_toList
 induction d with
 | zero =>
  intro i f hi hd
  refine Ev.step (fun k=>by rw [gL.l0]) ?_
  refine Ev.ak (by omega) ?_
  rw [List.drop_eq_nil_of_le (by omega)]
  cases f with
  | true=>exact Ev.ae rfl (Ev.bind ho ((Ev.now _).eq (by simp)))
  | false=>exact Ev.ak (by simp) ((Ev.now _).eq (by simp))
 | succ d ih =>
  intro i f hi hd
  have hlt:i < s.data.toList.length:=by omega
  have hd2:s.data.toList.drop i=s.data.toList.getD i 0 :: s.data.toList.drop (i+1):=by
   rw [List.drop_eq_getElem_cons hlt,List.getD_eq_getElem?_getD,List.getElem?_eq_getElem hlt]
   rfl
  refine Ev.step (fun k=>by rw [gL.l0]) ?_
  refine Ev.ae (by omega) ?_
  refine Ev.ae (by omega) ?_
  rw [afT s i (by omega),aO (by omega) (by omega),hd2,List.any_cons]
  by_cases h0:((s.data.toList.getD i 0).toNat:Int)=0
  ·refine Ev.ae h0 ?_
   have e:s.data.toList.getD i 0=0:=UInt8.toNat_inj.1 (by simpa using h0)
   refine (ih (i+1) f (by omega) (by omega)).eq ?_
   rw [e];rfl
  ·refine Ev.ak h0 ?_
   have e:¬ s.data.toList.getD i 0=0:=fun e=>h0 (by rw [e];rfl)
   refine (ih (i+1) true (by omega) (by omega)).eq ?_
   have e2:(s.data.toList.getD i 0 == 0)=false:=beq_eq_false_iff_ne.2 e
   rw [e2]
   simp
theorem qZ (c:Int):lK.f c=some (fD c):=by
 unfold lK.f fD
 repeat' split
 all_goals rfl
theorem acP (c:Int) (s:ByteArray) (hs:s.size≤1000000):Ev (fun k=>gL.f k c s) (rA c s):=by
 unfold rA
 have vg:Ev (fun k=>gL.j0 k c s true) false:=by
  refine Ev.step (fun k=>by rw [gL.j0]) ?_
  exact Ev.ae rfl (Ev.now _)
 by_cases h0:fD c=0
 ·rw [if_pos h0]
  exact Ev.congr (fun k=>by rw [gL.f]) (Ev.bU (qZ c) (Ev.ae h0 vg))
 by_cases h1:(s.size:Int)=fD c
 ·have hb:((s.size:Int) != fD c)=false:=by rw [h1];simp
  have hc:=Ho h0
  have o2:=adD hc.1 hc.2
  rw [if_neg h0,if_pos h1]
  refine Ev.congr (fun k=>by rw [gL.f]) (Ev.bU (qZ c) (Ev.ak h0 ?_))
  show Ev (fun k=>gL.j0 k c s ((s.size:Int) != fD c)) _
  rw [hb]
  refine Ev.step (fun k=>by rw [gL.j0]) ?_
  refine Ev.ak (by simp) ?_
  refine (aaK c s _ hs o2 _ 0 false (by omega) rfl).eq ?_
  unfold CL
  simp
 ·have hb:((s.size:Int) != fD c)=true:=bne_iff_ne.2 h1
  rw [if_neg h0,if_neg h1]
  refine Ev.congr (fun k=>by rw [gL.f]) (Ev.bU (qZ c) (Ev.ak h0 ?_))
  show Ev (fun k=>gL.j0 k c s ((s.size:Int) != fD c)) _
  rw [hb]
  exact vg
def kU (q:Nat→Bool):Int × Bool:=if q 0=true then (1,true) else if q 1=true then (2,true) else if q 2=true then (3,true) else if q 3=true then (4,true) else (0,false)
def jq:List fE:=match pz.f with
 | some t=>[⟨t.1,t.2.1,t.2.2.1,t.2.2.2.1⟩,⟨t.2.2.2.2.1,t.2.2.2.2.2.1,t.2.2.2.2.2.2.1,t.2.2.2.2.2.2.2.1⟩,⟨t.2.2.2.2.2.2.2.2.1,t.2.2.2.2.2.2.2.2.2.1,t.2.2.2.2.2.2.2.2.2.2.1,t.2.2.2.2.2.2.2.2.2.2.2.1⟩,⟨t.2.2.2.2.2.2.2.2.2.2.2.2.1,t.2.2.2.2.2.2.2.2.2.2.2.2.2.1,t.2.2.2.2.2.2.2.2.2.2.2.2.2.2.1,t.2.2.2.2.2.2.2.2.2.2.2.2.2.2.2⟩]
 | none=>[]
def vo {α:Type} (p:α→Bool):List α→Nat→Int
 | [],_=>-1
 | x :: r,i=>if p x=true then (i:Int) else vo p r (i+1)
theorem acQ (l:List fE) (hl:l.length≤1000) (g:ByteArray→ByteArray→ByteArray→Int→Option Bool) (p:fE→Bool) (hg:∀ x:fE,g x.f0 x.f1 x.f2 x.f3=some (p x)):∀ (d i:Nat),i≤l.length→l.length - i=d →
 Ev (fun k=>ma.l0 k g l (l.length:Int) (i:Int)) (vo p (l.drop i) i):=by
 intro d
 induction d with
 | zero =>
  intro i hi hd
  refine Ev.step (fun k=>by rw [ma.l0]) ?_
  rw [List.drop_eq_nil_of_le (by omega)]
  exact Ev.ak (by omega) (Ev.now _)
 | succ d ih =>
  intro i hi hd
  have hlt:i < l.length:=by omega
  refine Ev.step (fun k=>by rw [ma.l0]) ?_
  have e:ji l (i:Int)=l[i]:=by unfold ji;simp [List.getD_eq_getElem?_getD,hlt]
  rw [List.drop_eq_getElem_cons hlt,vo,e,hg,aO (x:=(i:Int)+1) (by omega) (by omega)]
  refine Ev.ae (by omega) (Ev.ae (by omega) (Ev.ae (by omega) (Ev.bU rfl ?_)))
  exact Ev.ite (fun _=>Ev.now _) (fun _=>ih (i+1) (by omega) (by omega))
theorem aeJ (g:ByteArray→ByteArray→ByteArray→Int→Option Bool) (p:fE→Bool) (hg:∀ x:fE,g x.f0 x.f1 x.f2 x.f3=some (p x)):Ev (fun k=>tL.f k g) (kU fun i=>p (ji jq (i:Int))):=by
 refine Ev.congr (fun k=>by rw [tL.f]) ?_
 obtain ⟨t,ht⟩:∃ t,pz.f=some t:=⟨_,rfl⟩
 have hrows:jq=[⟨t.1,t.2.1,t.2.2.1,t.2.2.2.1⟩,⟨t.2.2.2.2.1,t.2.2.2.2.2.1,t.2.2.2.2.2.2.1,t.2.2.2.2.2.2.2.1⟩,⟨t.2.2.2.2.2.2.2.2.1,t.2.2.2.2.2.2.2.2.2.1,t.2.2.2.2.2.2.2.2.2.2.1,t.2.2.2.2.2.2.2.2.2.2.2.1⟩,⟨t.2.2.2.2.2.2.2.2.2.2.2.2.1,t.2.2.2.2.2.2.2.2.2.2.2.2.2.1,t.2.2.2.2.2.2.2.2.2.2.2.2.2.2.1,t.2.2.2.2.2.2.2.2.2.2.2.2.2.2.2⟩]:=by
  unfold jq
  rw [ht]
 have e:jq=[ji jq 0,ji jq 1,ji jq 2,ji jq 3]:=by rw [hrows];rfl
 have hlen:jq.length=4:=by rw [hrows];rfl
 refine Ev.bU ht ?_
 rw [← hrows]
 have h:=acQ jq (by omega) g p hg _ 0 (Nat.zero_le _) rfl
 refine Ev.bind (a:=vo p jq 0) (Ev.congr (fun k=>by rw [ma.f];rfl) h) ((Ev.now _).eq ?_)
 have key:∀ a b c d:fE,(wrap64 (vo p [a,b,c,d] 0+1),decide (vo p [a,b,c,d] 0≥0))=if p a=true then ((1:Int),true) else if p b=true then (2,true) else if p c=true then (3,true) else if p d=true then (4,true) else (0,false):=by
  intro a b c d
  simp only [vo]
  rcases Bool.eq_false_or_eq_true (p a) with ha | ha
  ·simp only [ha,if_true];decide +kernel
  rcases Bool.eq_false_or_eq_true (p b) with hb | hb
  ·simp only [ha,hb,if_true,Bool.false_eq_true,if_false];decide +kernel
  rcases Bool.eq_false_or_eq_true (p c) with hc | hc
  ·simp only [ha,hb,hc,if_true,Bool.false_eq_true,if_false];decide +kernel
  rcases Bool.eq_false_or_eq_true (p d) with hd | hd
  ·simp only [ha,hb,hc,hd,if_true,Bool.false_eq_true,if_false];decide +kernel
  ·simp only [ha,hb,hc,hd,Bool.false_eq_true,if_false];decide +kernel
 have:=key (ji jq 0) (ji jq 1) (ji jq 2) (ji jq 3)
 rw [← e] at this
 exact this
def cA (i:Nat):List Int:=(mR.f ((i:Int)+1)).getD []
theorem adE:((List.range 4).all fun i=>decide ((ji jq (i:Int)).f1=strOfNums (iO ((cA i).map num))) && decide ((ji jq (i:Int)).f3=fD ((i:Int)+1)) && decide (fU (cA i)=true) && decide (mR.f ((i:Int)+1)=some (cA i)))=true:=by decide +kernel
theorem SY (i:Nat) (h:i < 4):(ji jq (i:Int)).f1=strOfNums (iO ((cA i).map num))∧(ji jq (i:Int)).f3=fD ((i:Int)+1)∧fU (cA i)=true∧mR.f ((i:Int)+1)=some (cA i):=by
 have h1:=List.all_eq_true.1 adE i (List.mem_range.2 h)
 simp only [Bool.and_eq_true,decide_eq_true_eq] at h1
 exact ⟨h1.1.1.1,h1.1.1.2,h1.1.2,h1.2⟩
theorem adF {q q':Nat→Bool} (h:∀ i,i < 4→q i=q' i):kU q=kU q':=by
 unfold kU
 rw [h 0 (by decide),h 1 (by decide),h 2 (by decide),h 3 (by decide)]
theorem adG (i:Nat) (h:i < 4) (l:List Int):((ji jq (i:Int)).f1.toList == (if fU l=true then strOfNums (iO (l.map num)) else ⟨#[]⟩).toList)=decide (cA i=l):=by
 obtain ⟨r1,_,r3,_⟩:=SY i h
 rw [r1]
 by_cases hl:fU l=true
 ·rw [if_pos hl]
  by_cases he:cA i=l
  ·rw [he];simp
  ·rw [decide_eq_false he]
   refine beq_eq_false_iff_ne.2 (fun e=>he ?_)
   have e2:=(qV (IX _) (IX _)).1 e
   have h1:=Ia r3
   rw [e2,Ia hl] at h1
   exact ((Prod.mk.inj h1).1).symm
 ·rw [if_neg hl,decide_eq_false (fun e=>hl (by rw [← e];exact r3))]
  refine beq_eq_false_iff_ne.2 (fun e=>?_)
  have e2:=(qV (l:=iO ((cA i).map num)) (m:=[]) (IX _) aG.nil).1 e
  have h1:=Ia r3
  rw [e2] at h1
  have h2:SS (oM [])=([],false):=by decide +kernel
  rw [h2] at h1
  exact absurd (Prod.mk.inj h1).2 (by decide)
theorem ab5 (l:List Int) (hs:l.length≤1000):Ev (fun k=>ui.f k l) (kU fun i=>decide (cA i=l)):=by
 refine Ev.congr (fun k=>by rw [ui.f]) ?_
 refine Ev.bind (ab0 l (by omega)) ?_
 refine Ev.bind (aeJ _ (fun x=>x.f1.toList == (if fU l=true then strOfNums (iO (l.map num)) else ⟨#[]⟩).toList) (fun _=>rfl)) ((Ev.now _).eq ?_)
 exact adF fun i hi=>adG i hi l
theorem adH (a b:List Int) (h:a.length≤1000):Ev (fun k=>lN.f k a b) (decide (a=b)):=by
 refine Ev.congr (fun k=>by rw [lN.f]) ?_
 by_cases hl:a.length=b.length
 case neg =>
  refine Ev.ak (by omega) ((Ev.now _).eq ?_)
  rw [decide_eq_false (fun e=>hl (by rw [e]))]
 refine Ev.ae (by omega) ?_
 have loop:∀ d i:Nat,i≤a.length→a.length - i=d→Ev (fun k=>lN.l0 k a b (i:Int)) (decide (a.drop i=b.drop i)):=by
  intro d
  induction d with
  | zero =>
   intro i hi hd
   refine Ev.step (fun k=>by rw [lN.l0]) ?_
   refine Ev.ak (by omega) ((Ev.now _).eq ?_)
   rw [List.drop_eq_nil_of_le (by omega),List.drop_eq_nil_of_le (by omega),decide_eq_true rfl]
  | succ d ih =>
   intro i hi hd
   refine Ev.step (fun k=>by rw [lN.l0]) ?_
   rw [aO (by omega) (by omega)]
   refine Ev.ae (by omega) (Ev.ae (by omega) (Ev.ae (by omega) ?_))
   have ha:i < a.length:=by omega
   have hb:i < b.length:=by omega
   rw [jJ i ha,jJ i hb,List.drop_eq_getElem_cons ha,List.drop_eq_getElem_cons hb]
   by_cases he:a[i]=b[i]
   ·refine Ev.ae he ((ih (i+1) (by omega) (by omega)).eq ?_)
    rw [he]
    simp only [List.cons.injEq,true_and]
   ·refine Ev.ak he ((Ev.now _).eq ?_)
    exact (decide_eq_false (fun e=>he (List.cons.inj e).1)).symm
 have:=loop _ 0 (by omega) rfl
 simpa using this
theorem XE:∀ i,i < 4→(cA i).length≤1000:=by
 intro i h
 have:i=0∨i=1∨i=2∨i=3:=by omega
 rcases this with rfl | rfl | rfl | rfl<;>decide
theorem ab6 (l:List Int):Ev (fun k=>kE.f k l) (kU fun i=>decide (cA i=l)):=by
 have step:∀ (i:Nat) (r:Int × Bool),i < 4→Ev (fun k=>kE.l0 k l ((i:Int)+2)) r→Ev (fun k=>kE.l0 k l ((i:Int)+1)) (if decide (cA i=l)=true then ((i:Int)+1,true) else r):=by
  intro i r hi h
  refine Ev.step (fun k=>by rw [kE.l0]) ?_
  rw [aO (by omega) (by omega),show (i:Int)+1+1=(i:Int)+2 by omega]
  refine Ev.ae (by omega) (Ev.bU (SY i hi).2.2.2 (Ev.bind (adH (cA i) l (XE i hi)) ?_))
  by_cases he:decide (cA i=l)=true
  ·rw [if_pos he];exact Ev.ae he (Ev.now _)
  ·rw [if_neg he];exact Ev.ak he h
 have last:Ev (fun k=>kE.l0 k l (((3:Nat):Int)+2)) (0,false):=by
  refine Ev.step (fun k=>by rw [kE.l0]) ?_
  exact Ev.ak (by decide) (Ev.now _)
 have h:=step 0 _ (by decide) (step 1 _ (by decide) (step 2 _ (by decide) (step 3 _ (by decide) last)))
 refine Ev.congr (fun k=>by rw [kE.f]) ?_
 exact h
theorem Xc (c:Int):qf.f c=some (fD c):=by
 obtain ⟨a,b,o,h⟩:=U3 c
 unfold qf.f
 rw [h]
 rfl
theorem agy (c:Int):∃ l:List Int,l.length≤1000∧Ev (fun k=>qW.f k c) l∧mR.f c=some l:=by
 by_cases h:1≤c∧c≤4
 ·rcases four h.1 h.2 with rfl | rfl | rfl | rfl
  ·exact ⟨cA 0,by decide,Ev.from_ 80 (fun n=>by kernel_rfl),rfl⟩
  ·exact ⟨cA 1,by decide,Ev.from_ 80 (fun n=>by kernel_rfl),rfl⟩
  ·exact ⟨cA 2,by decide,Ev.from_ 80 (fun n=>by kernel_rfl),rfl⟩
  ·exact ⟨cA 3,by decide,Ev.from_ 80 (fun n=>by kernel_rfl),rfl⟩
 ·refine ⟨[],by decide,?_,?_⟩
  ·refine Ev.congr (fun k=>by rw [qW.f]) ?_
   refine Ev.bU (Wl h) ?_
   refine Ev.bind (a:=(([]:List Int),false)) (Ev.from_ 20 (fun n=>by kernel_rfl)) ?_
   exact Ev.now _
  ·unfold mR.f
   rw [if_neg (by omega),if_neg (by omega),if_neg (by omega),if_neg (by omega)]
def lG (no:Int):List Int:=fI (numsOf (cA (no - 1).toNat))
def jh (name x:List Int):Fo:=.cons 0 16 true [] (.cons 0 2 false [1] .nil (.cons 0 4 false x .nil (.cons 2 0 true [] (.cons 0 6 false name .nil .nil) .nil))) .nil
def ny (no:Int) (s:ByteArray):Int:=if fD no=0 then 8 else if fD no=(s.size:Int) then (if rA no s=true then 0 else 10) else 9
theorem Yi (no:Int) (s:ByteArray) (hs:s.size≤1000000):Ev (fun k=>qw.f k no s) (ny no s):=by
 unfold ny
 refine Ev.congr (fun k=>by rw [qw.f]) (Ev.bU (Xc no) ?_)
 refine Ev.ite (fun _=>Ev.now _) (fun _=>Ev.ite (fun _=>Ev.bind (acO no s hs) (Ev.ite (fun _=>Ev.now _) (fun _=>Ev.now _))) (fun _=>Ev.now _))
theorem adI {no:Int} {s:ByteArray} (h:ny no s=0):(1≤no∧no≤4)∧(s.size:Int)=fD no∧fD no≠0∧rA no s=true:=by
 unfold ny at h
 by_cases h0:fD no=0
 ·rw [if_pos h0] at h;cases h
 rw [if_neg h0] at h
 by_cases h1:fD no=(s.size:Int)
 ·rw [if_pos h1] at h
  by_cases h2:rA no s=true
  ·exact ⟨Ho h0,h1.symm,h0,h2⟩
  ·rw [if_neg h2] at h;cases h
 ·rw [if_neg h1] at h;cases h
theorem vU {no:Int} (h:1≤no∧no≤4):fU (cA (no - 1).toNat)=true∧mR.f no=some (cA (no - 1).toNat)∧(cA (no - 1).toNat).length≤1000:=by
 have h1:=SY (no - 1).toNat (by omega)
 have e:(((no - 1).toNat:Nat):Int)+1=no:=by omega
 rw [e] at h1
 exact ⟨h1.2.2.1,h1.2.2.2,XE _ (by omega)⟩
theorem aba {no:Int} (h:1≤no∧no≤4):Ev (fun k=>qW.f k no) (cA (no - 1).toNat):=by
 obtain ⟨l,_,h1,h2⟩:=agy no
 rw [(vU h).2.1] at h2
 rw [Option.some.inj h2]
 exact h1
theorem adJ:Ev (fun k=>lH.f k 1) ⟨#[1]⟩:=(aaJ 1 (by decide) (by decide)).eq (by kernel_rfl)
theorem afU {no:Int} (h:1≤no∧no≤4) (x:List Int):Ev (fun k=>qj.f k no (strOfNums x)) ((Fo.cons 0 2 false [1] .nil .nil).flat 0,(Fo.cons 0 4 false x .nil .nil).flat 0,(Fo.cons 2 0 true [] (.cons 0 6 false (lG no) .nil .nil) .nil).flat 0):=by
 obtain ⟨hr,_,hl⟩:=vU h
 have e1:=aa5 (cA (no - 1).toNat) hl
 rw [if_pos hr] at e1
 refine Ev.congr (fun k=>by rw [qj.f]) ?_
 refine Ev.bind (aba h) (Ev.bind e1 (Ev.bind adJ (Ev.bU rfl (Ev.bU rfl (Ev.bU rfl ?_)))))
 exact Ev.bind (U2 2 0 (.cons 0 6 false (lG no) .nil .nil) (by simp only [Fo.size];omega)) (Ev.now _)
theorem afV (name x:List Int):Ev (fun k=>qc.f k ((Fo.cons 0 2 false [1] .nil .nil).flat 0) ((Fo.cons 0 4 false x .nil .nil).flat 0) ((Fo.cons 2 0 true [] (.cons 0 6 false name .nil .nil) .nil).flat 0)) ((jh name x).flat 0):=by
 refine Ev.congr (fun k=>by rw [qc.f]) ?_
 exact Ev.bind (U2 0 16 (.cons 0 2 false [1] .nil (.cons 0 4 false x .nil (.cons 2 0 true [] (.cons 0 6 false name .nil .nil) .nil))) (by simp only [Fo.size];omega)) (Ev.now _)
theorem Mt {b:Int} {d:List Int} (hd:aG d) (hl:d.length≤65535) (h:Ev (fun k=>jE.f k b (strOfNums d)) true):Rt b d:=by
 obtain ⟨t,h1,h2⟩:=Gy b d hd hl
 rw [← Ev.ky h h1] at h2
 exact ⟨h,h2⟩
theorem afW:Rt 2 [1]:=Mt (aG.cons (by decide) (by decide) aG.nil) (by decide) (by
 refine Ev.congr (fun k=>by rw [jE.f]) ?_
 exact Ev.ak (by decide) (Ev.ae rfl (Ev.bU (BK [1] (aG.cons (by decide) (by decide) aG.nil)) ((Ev.now _).eq (by decide)))))
theorem afX {x:List Int} (hx:aG x) (hl:x.length≤65535):Rt 4 x:=Mt hx hl (by
 refine Ev.congr (fun k=>by rw [jE.f]) ?_
 exact Ev.ak (by decide) (Ev.ak (by decide) (Ev.ak (by decide) (Ev.ae rfl (Ev.now _)))))
theorem aeK {arcs:List Int} (h:fU arcs=true) (hl:(fI (numsOf arcs)).length≤65535):Rt 6 (fI (numsOf arcs)):=Mt (vX _) hl (by
 refine Ev.congr (fun k=>by rw [jE.f]) ?_
 refine Ev.ak (by decide) (Ev.ak (by decide) (Ev.ak (by decide) (Ev.ak (by decide) (Ev.ak (by decide) (Ev.ae rfl (Ev.bind (GG _ (vX _) (by omega)) ((Ev.now _).eq ?_)))))))
 rw [Ui (l:=fI (numsOf arcs)) (arcs:=arcs) ⟨h,rfl⟩])
theorem afY:∀ i,i < 4→(fI (numsOf (cA i))).length≤20:=by
 intro i h
 have:i=0∨i=1∨i=2∨i=3:=by omega
 rcases this with rfl | rfl | rfl | rfl<;>decide +kernel
theorem zS (a b:Int) (c:Bool) (d:List Int) (ks:Fo):Fo.hd a b c d ks≤7:=by
 unfold Fo.hd
 rw [List.length_append]
 have:=(Cm a b c).2
 have:=Cn ((d++ks.enc).length:Int)
 omega
theorem Xd (name x:List Int):(jh name x).enc.length≤36+name.length+x.length:=by
 unfold jh
 have h1:=zS 0 16 true [] (.cons 0 2 false [1] .nil (.cons 0 4 false x .nil (.cons 2 0 true [] (.cons 0 6 false name .nil .nil) .nil)))
 have h2:=zS 0 2 false [1] .nil
 have h3:=zS 0 4 false x .nil
 have h4:=zS 2 0 true [] (.cons 0 6 false name .nil .nil)
 have h5:=zS 0 6 false name .nil
 rw [Fo.jG,List.length_append,Fo.jG,Fo.jG,Fo.jG,List.length_append,List.length_append,List.length_append,Fo.jG]
 simp only [Fo.enc,List.length_append,List.length_nil,List.length_cons]
 omega
theorem agz {name x:List Int} (h6:Rt 6 name) (hn:aG name) (hnl:name.length≤1000) (hx:aG x) (hxl:x.length≤1000):(jh name x).Ok 0:=by
 have hl:=Xd name x
 have h1:=Fo.qz 0 16 true [] (.cons 0 2 false [1] .nil (.cons 0 4 false x .nil (.cons 2 0 true [] (.cons 0 6 false name .nil .nil) .nil))) .nil
 have h2:=Fo.qz 0 2 false [1] .nil (.cons 0 4 false x .nil (.cons 2 0 true [] (.cons 0 6 false name .nil .nil) .nil))
 have h3:=Fo.qz 0 4 false x .nil (.cons 2 0 true [] (.cons 0 6 false name .nil .nil) .nil)
 have h4:=Fo.qz 2 0 true [] (.cons 0 6 false name .nil .nil) .nil
 unfold jh at hl ⊢
 refine ⟨by decide,by rw [List.nil_append];omega,by decide,fun _=>⟨fun _=>.inl rfl,fun h=>by cases h⟩,aG.nil,fun _=>rfl,(fun h=>by cases h),?_,trivial⟩
 refine ⟨by decide,by simp [Fo.enc],by decide,fun _=>⟨(fun h=>by cases h),fun _=>afW⟩,aG.cons (by decide) (by decide) aG.nil,(fun h=>by cases h),fun _=>rfl,trivial,?_⟩
 refine ⟨by decide,by rw [Fo.enc,List.append_nil];omega,by decide,fun _=>⟨(fun h=>by cases h),fun _=>afX hx (by omega)⟩,hx,(fun h=>by cases h),fun _=>rfl,trivial,?_⟩
 refine ⟨by decide,by rw [List.nil_append];omega,by decide,(fun h=>by cases h),aG.nil,fun _=>rfl,(fun h=>by cases h),?_,trivial⟩
 exact ⟨by decide,by rw [Fo.enc,List.append_nil];omega,by decide,fun _=>⟨(fun h=>by cases h),fun _=>h6⟩,hn,(fun h=>by cases h),fun _=>rfl,trivial,trivial⟩
theorem agA {no:Int} (h:1≤no∧no≤4):Rt 6 (lG no)∧aG (lG no)∧(lG no).length≤20:=by
 have hl:=afY (no - 1).toNat (by omega)
 exact ⟨aeK (vU h).1 (by omega),vX _,hl⟩
theorem Yj (no:Int) (x:List Int) (hx:aG x) (hl:x.length≤500):∃ e,Ev (fun k=>pE.f k no (strOfNums x)) e∧Ev (fun k=>nD.f k no (strOfNums x)) e∧e.2=ny no (strOfNums x)∧(ny no (strOfNums x)=0→e.1=strOfNums (jh (lG no) x).enc∧(jh (lG no) x).Ok 0):=by
 have hm:=Yi no (strOfNums x) (by rw [ek];omega)
 have hsc:=acP no (strOfNums x) (by rw [ek];omega)
 by_cases h0:ny no (strOfNums x)=0
 ·obtain ⟨hno,hw,hw0,hs⟩:=adI h0
  obtain ⟨n1,n2,n3⟩:=agA hno
  have hok:=agz n1 n2 (by omega) hx (by omega)
  have hle:=Xd (lG no) x
  obtain ⟨_,_,_,_,T1,T2⟩:=acN 0 16 true [] _ hok (by rw [show (Fo.cons 0 16 true [] (.cons 0 2 false [1] .nil (.cons 0 4 false x .nil (.cons 2 0 true [] (.cons 0 6 false (lG no) .nil .nil) .nil))) .nil).size=5 from rfl];omega) (Fo.Co _ _ (by show (jh (lG no) x).enc.length≤2000;omega)) (by show (jh (lG no) x).enc.length≤65535;omega)
  refine ⟨(strOfNums (jh (lG no) x).enc,0),?_,?_,h0.symm,fun _=>⟨rfl,hok⟩⟩
  ·refine Ev.congr (fun k=>by rw [pE.f]) ?_
   exact Ev.bind hm (Ev.ae h0 (Ev.bind (afU hno x) (Ev.bind (afV (lG no) x) (Ev.bind T1 (Ev.now _)))))
  ·have e17:=Uc (cA (no - 1).toNat) (vU hno).2.2
   rw [if_pos (vU hno).1] at e17
   rw [hs] at hsc
   refine Ev.congr (fun k=>by rw [nD.f]) ?_
   refine Ev.bU (qZ no) (Ev.ak hw0 (Ev.bU (qZ no) (Ev.ae hw (Ev.bind hsc (Ev.ae rfl (Ev.bU (vU hno).2.1 (Ev.bind e17 (Ev.bU rfl ?_))))))))
   refine Ev.bind (Vy 2 0 (.cons 0 6 false (lG no) .nil .nil) (by simp only [Fo.size];omega)) (Ev.bU rfl (Ev.bU rfl ?_))
   exact Ev.bind (Vy 0 16 (.cons 0 2 false [1] .nil (.cons 0 4 false x .nil (.cons 2 0 true [] (.cons 0 6 false (lG no) .nil .nil) .nil))) (by simp only [Fo.size];omega)) (Ev.bind T2 (Ev.now _))
 ·refine ⟨(⟨#[]⟩,ny no (strOfNums x)),?_,?_,rfl,fun h=>absurd h h0⟩
  ·refine Ev.congr (fun k=>by rw [pE.f]) ?_
   exact Ev.bind hm (Ev.ak h0 (Ev.now _))
  ·refine Ev.congr (fun k=>by rw [nD.f]) ?_
   unfold ny at h0 ⊢
   refine Ev.bU (qZ no) ?_
   by_cases w0:fD no=0
   ·rw [if_pos w0];exact Ev.ae w0 (Ev.now _)
   rw [if_neg w0] at h0 ⊢
   refine Ev.ak w0 (Ev.bU (qZ no) ?_)
   by_cases w1:fD no=((strOfNums x).size:Int)
   ·rw [if_pos w1] at h0 ⊢
    refine Ev.ae w1.symm (Ev.bind hsc ?_)
    by_cases w2:rA no (strOfNums x)=true
    ·rw [if_pos w2] at h0;exact absurd rfl h0
    ·rw [if_neg w2];exact Ev.ak w2 (Ev.now _)
   ·rw [if_neg w1];exact Ev.ak (fun h=>w1 h.symm) (Ev.now _)
def kz (f:Fo) (n:Nat) (cl tg kn:Int):Bool:=match f with
 | .nil=>false
 | .cons a b _ _ ks _=>decide (a=cl∧b=tg∧((ks.roots (n+1)).length:Int)=kn)
theorem Bi (f:Fo) (n:Nat) (cl tg kn:Int):jH.f (f.flat n) cl tg kn=some (kz f n cl tg kn):=by
 cases f with
 | nil=>rfl
 | cons a b c d ks r =>
  unfold jH.f
  rw [Fo.flat]
  have hl:((nd a b c (strOfNums d) (ks.roots (n+1)) :: (ks.flat (n+1)++r.flat (n+1+ks.size))).length:Int) > 0:=by rw [List.length_cons];omega
  rw [if_pos hl,if_pos hl]
  show (if a=cl then (if b=tg then some (((ks.roots (n+1)).length:Int) == kn) else some false) else some false)=some (decide (a=cl∧b=tg∧((ks.roots (n+1)).length:Int)=kn))
  by_cases h1:a=cl
  ·rw [if_pos h1]
   by_cases h2:b=tg
   ·rw [if_pos h2]
    by_cases h3:((ks.roots (n+1)).length:Int)=kn
    ·rw [decide_eq_true ⟨h1,h2,h3⟩,beq_iff_eq.2 h3]
    ·rw [decide_eq_false (fun h=>h3 h.2.2),beq_eq_false_iff_ne.2 h3]
   ·rw [if_neg h2,decide_eq_false (fun h=>h2 h.2.1)]
  ·rw [if_neg h1,decide_eq_false (fun h=>h1 h.1)]
theorem aeL {d:List Int} (hd:aG d) (h:(sO d).1=1):d=[1]:=by
 unfold sO at h
 by_cases hc:d.length≤8∧nO d=true
 ·rw [if_pos hc] at h
  have h1:=(afs d hd hc.1 hc.2).1
  rw [show iI d=1 from h] at h1
  rw [← h1]
  decide +kernel
 ·rw [if_neg hc] at h;cases h
theorem three {ks:Fo} {n:Nat} (h:((ks.roots n).length:Int)=3):∃ a0 b0 c0 d0 k0 a1 b1 c1 d1 k1 a2 b2 c2 d2 k2,ks=.cons a0 b0 c0 d0 k0 (.cons a1 b1 c1 d1 k1 (.cons a2 b2 c2 d2 k2 .nil)):=by
 rcases ks with _ | ⟨a0,b0,c0,d0,k0,_ | ⟨a1,b1,c1,d1,k1,_ | ⟨a2,b2,c2,d2,k2,_ | ⟨a3,b3,c3,d3,k3,r⟩⟩⟩⟩
 ·simp [Fo.roots] at h
 ·simp [Fo.roots] at h
 ·simp [Fo.roots] at h
 ·exact ⟨_,_,_,_,_,_,_,_,_,_,_,_,_,_,_,rfl⟩
 ·simp only [Fo.roots,List.length_cons] at h;omega
theorem Wm (a b:Int) (c:Bool) (d:List Int) (ks:Fo) (ho:(Fo.cons a b c d ks .nil).Ok 0) (hs:(Fo.cons a b c d ks .nil).enc.length≤2000) :
 (∃ nm x,Fo.cons a b c d ks .nil=jh nm x∧Ev (fun k=>pG.f k ((Fo.cons a b c d ks .nil).flat 0)) ((Fo.cons 0 2 false [1] .nil .nil).flat 0,(Fo.cons 0 4 false x .nil .nil).flat 0,(Fo.cons 2 0 true [] (.cons 0 6 false nm .nil .nil) .nil).flat 0,true)) ∨
 ((¬ ∃ nm x,Fo.cons a b c d ks .nil=jh nm x)∧∃ p q r,Ev (fun k=>pG.f k ((Fo.cons a b c d ks .nil).flat 0)) (p,q,r,false)):=by
 have hz:=Fo.I7 (Fo.cons a b c d ks .nil)
 have kids:=abA a b c d ks ho (by omega) (Fo.Co _ _ hs)
 have i0:=Bi (Fo.cons a b c d ks .nil) 0 0 16 3
 by_cases h:kz (Fo.cons a b c d ks .nil) 0 0 16 3=true
 case neg =>
  refine .inr ⟨fun ⟨nm,x,e⟩=>h (by rw [e];rfl),[],[],[],?_⟩
  refine Ev.congr (fun k=>by rw [pG.f]) ?_
  exact Ev.bind kids (Ev.bU i0 (Ev.ak h (Ev.now _)))
 obtain ⟨rfl,rfl,h3⟩:=of_decide_eq_true h
 obtain ⟨a0,b0,c0,d0,k0,a1,b1,c1,d1,k1,a2,b2,c2,d2,k2,rfl⟩:=three h3
 obtain ⟨rfl,rfl⟩:=CK ho (by simp)
 have o0:=ho.kids
 have o1:=o0.rest
 have o2:=o1.rest
 have j0:=Bi (Fo.cons a0 b0 c0 d0 k0 .nil) 0 0 2 0
 have j1:=Bi (Fo.cons a1 b1 c1 d1 k1 .nil) 0 0 4 0
 have j2:=Bi (Fo.cons a2 b2 c2 d2 k2 .nil) 0 2 0 1
 have j3:=Bi k2 1 0 6 0
 have hd:=aaI d0 o0.2.2.2.2.1
 have BI:∀ nm x,Fo.cons 0 16 true [] (.cons a0 b0 c0 d0 k0 (.cons a1 b1 c1 d1 k1 (.cons a2 b2 c2 d2 k2 .nil))) .nil=jh nm x→kz (Fo.cons a0 b0 c0 d0 k0 .nil) 0 0 2 0=true∧(sO d0).1=1∧kz (Fo.cons a1 b1 c1 d1 k1 .nil) 0 0 4 0=true∧kz (Fo.cons a2 b2 c2 d2 k2 .nil) 0 2 0 1=true∧kz k2 1 0 6 0=true:=fun nm x e=>by
  simp only [jh,Fo.cons.injEq] at e
  obtain ⟨_,_,_,_,⟨rfl,rfl,rfl,rfl,rfl,rfl,rfl,rfl,rfl,rfl,rfl,rfl,rfl,rfl,rfl,_⟩,_⟩:=e
  exact ⟨rfl,by decide +kernel,rfl,rfl,rfl⟩
 have run:∀ {R},Ev (fun k=>if kz (Fo.cons a0 b0 c0 d0 k0 .nil) 0 0 2 0=true then (if (sO d0).1=1 then (if kz (Fo.cons a1 b1 c1 d1 k1 .nil) 0 0 4 0=true then (if kz (Fo.cons a2 b2 c2 d2 k2 .nil) 0 2 0 1=true then (some ((Fo.cons a0 b0 c0 d0 k0 .nil).flat 0,(Fo.cons a1 b1 c1 d1 k1 .nil).flat 0,(Fo.cons a2 b2 c2 d2 k2 .nil).flat 0,kz k2 1 0 6 0)) else (some ((Fo.cons a0 b0 c0 d0 k0 .nil).flat 0,(Fo.cons a1 b1 c1 d1 k1 .nil).flat 0,(Fo.cons a2 b2 c2 d2 k2 .nil).flat 0,false))) else (some ((Fo.cons a0 b0 c0 d0 k0 .nil).flat 0,(Fo.cons a1 b1 c1 d1 k1 .nil).flat 0,(Fo.cons a2 b2 c2 d2 k2 .nil).flat 0,false))) else (some ((Fo.cons a0 b0 c0 d0 k0 .nil).flat 0,(Fo.cons a1 b1 c1 d1 k1 .nil).flat 0,(Fo.cons a2 b2 c2 d2 k2 .nil).flat 0,false))) else (some ((Fo.cons a0 b0 c0 d0 k0 .nil).flat 0,(Fo.cons a1 b1 c1 d1 k1 .nil).flat 0,(Fo.cons a2 b2 c2 d2 k2 .nil).flat 0,false))) R →
  Ev (fun k=>pG.f k ((Fo.cons 0 16 true [] (.cons a0 b0 c0 d0 k0 (.cons a1 b1 c1 d1 k1 (.cons a2 b2 c2 d2 k2 .nil))) .nil).flat 0)) R:=fun {R} hR=>by
  refine Ev.congr (fun k=>by rw [pG.f]) ?_
  refine Ev.bind kids (Ev.bU i0 (Ev.ae h (Ev.ae (by simp [Fo.parts]) (Ev.ae (by simp [Fo.parts]) (Ev.ae (by simp [Fo.parts]) (Ev.ae (by simp [Fo.parts,Fo.flat,bz]) (Ev.bind hd (Ev.bU j0 ?_))))))))
  by_cases g0:kz (Fo.cons a0 b0 c0 d0 k0 .nil) 0 0 2 0=true
  case neg=>simp only [if_neg g0] at hR;exact Ev.ak g0 hR
  refine Ev.ae g0 ?_
  by_cases g1:(sO d0).1=1
  case neg=>simp only [if_pos g0,if_neg g1] at hR;exact Ev.ak g1 hR
  refine Ev.ae g1 (Ev.bU j1 ?_)
  by_cases g2:kz (Fo.cons a1 b1 c1 d1 k1 .nil) 0 0 4 0=true
  case neg=>simp only [if_pos g0,if_pos g1,if_neg g2] at hR;exact Ev.ak g2 hR
  refine Ev.ae g2 (Ev.bU j2 ?_)
  by_cases g3:kz (Fo.cons a2 b2 c2 d2 k2 .nil) 0 2 0 1=true
  case neg=>simp only [if_pos g0,if_pos g1,if_pos g2,if_neg g3] at hR;exact Ev.ak g3 hR
  simp only [if_pos g0,if_pos g1,if_pos g2,if_pos g3] at hR
  refine Ev.ae g3 (Ev.ae (by simp [Fo.parts,Fo.flat,bz];omega) (Ev.bU (a:=kz k2 1 0 6 0) ?_ hR))
  have e:(bz (Fo.cons a0 b0 c0 d0 k0 (.cons a1 b1 c1 d1 k1 (.cons a2 b2 c2 d2 k2 .nil))).parts 2).drop 1=k2.flat 1:=by
   show ((Fo.cons a2 b2 c2 d2 k2 .nil).flat 0).drop 1=_
   rw [Fo.GX]
   rfl
  rw [e]
  exact j3
 by_cases g0:kz (Fo.cons a0 b0 c0 d0 k0 .nil) 0 0 2 0=true
 case neg=>exact .inr ⟨fun ⟨nm,x,e⟩=>g0 (BI nm x e).1,_,_,_,run (Ev.ak g0 (Ev.now _))⟩
 by_cases g1:(sO d0).1=1
 case neg=>exact .inr ⟨fun ⟨nm,x,e⟩=>g1 (BI nm x e).2.1,_,_,_,run (Ev.ae g0 (Ev.ak g1 (Ev.now _)))⟩
 by_cases g2:kz (Fo.cons a1 b1 c1 d1 k1 .nil) 0 0 4 0=true
 case neg=>exact .inr ⟨fun ⟨nm,x,e⟩=>g2 (BI nm x e).2.2.1,_,_,_,run (Ev.ae g0 (Ev.ae g1 (Ev.ak g2 (Ev.now _))))⟩
 by_cases g3:kz (Fo.cons a2 b2 c2 d2 k2 .nil) 0 2 0 1=true
 case neg=>exact .inr ⟨fun ⟨nm,x,e⟩=>g3 (BI nm x e).2.2.2.1,_,_,_,run (Ev.ae g0 (Ev.ae g1 (Ev.ae g2 (Ev.ak g3 (Ev.now _)))))⟩
 by_cases g4:kz k2 1 0 6 0=true
 case neg=>exact .inr ⟨fun ⟨nm,x,e⟩=>g4 (BI nm x e).2.2.2.2,_,_,_,run (Ev.ae g0 (Ev.ae g1 (Ev.ae g2 (Ev.ae g3 ((Ev.now _).eq (by rw [Bool.eq_false_iff.2 g4]))))))⟩
 obtain ⟨rfl,rfl,_⟩:=of_decide_eq_true g0
 obtain ⟨rfl,rfl,_⟩:=xJ o0 rfl (by decide) (by decide)
 obtain rfl:=aeL o0.2.2.2.2.1 g1
 obtain ⟨rfl,rfl,_⟩:=of_decide_eq_true g2
 obtain ⟨rfl,rfl,_⟩:=xJ o1 rfl (by decide) (by decide)
 obtain ⟨rfl,rfl,hk⟩:=of_decide_eq_true g3
 rcases k2 with _ | ⟨a3,b3,c3,d3,k3,_ | ⟨a4,b4,c4,d4,k4,r4⟩⟩
 ·cases g4
 ·obtain ⟨rfl,rfl⟩:=CK o2 (by simp)
  obtain ⟨rfl,rfl,_⟩:=of_decide_eq_true g4
  obtain ⟨rfl,rfl,_⟩:=xJ o2.kids rfl (by decide) (by decide)
  exact .inl ⟨d3,d1,rfl,run (Ev.ae g0 (Ev.ae g1 (Ev.ae g2 (Ev.ae g3 (Ev.now _)))))⟩
 ·simp only [Fo.roots,List.length_cons] at hk;omega
def JX (t:List Nd):Prop:=(t.length:Int)=5∧(((aa t 0).f4).length:Int)=3∧(aa t 0).f0=0∧(aa t 0).f1=16∧(aa t 1).f0=0∧(aa t 1).f1=2∧(aa t 1).f3.toList=([1]:List UInt8) ∧
 (aa t 2).f0=0∧(aa t 2).f1=4∧(aa t 3).f0=2∧(aa t 3).f1=0∧(((aa t 3).f4).length:Int)=1∧(aa t 4).f0=0∧(aa t 4).f1=6
def BJ:Int × ByteArray × Int:=(0,⟨#[]⟩,5)
theorem DV {t:List Nd}:Ev (fun k=>ed.j0 k t true) BJ:=by
 refine Ev.step (fun k=>by rw [ed.j0]) ?_
 exact Ev.ae rfl (Ev.now _)
theorem zT {t:List Nd}:Ev (fun k=>ed.j1 k t true) BJ:=by
 refine Ev.step (fun k=>by rw [ed.j1]) ?_
 exact Ev.ae rfl (Ev.now _)
theorem zU {t:List Nd}:Ev (fun k=>ed.j2 k t true) BJ:=by
 refine Ev.step (fun k=>by rw [ed.j2]) ?_
 exact Ev.ae rfl (Ev.now _)
theorem Mv {x y:Int} (h:¬ x=y):(x != y)=true:=bne_iff_ne.2 h
theorem Mw {x y:Int} (h:x=y):(x != y)=false:=by rw [h];simp
theorem Yk {s:ByteArray} {t:List Nd} (ht:0 < t.length) (hd:Ev (fun k=>mO.f k s) (t,0,0)) {R:Int × ByteArray × Int} (hR:JX t→Ev (fun k=>ed.j2 k t false) R) (hN:¬ JX t→R=BJ):Ev (fun k=>ed.f k s) R:=by
 refine Ev.congr (fun k=>by rw [ed.f]) (Ev.bind hd (Ev.ae rfl ?_))
 have c1':∀ h:(t.length:Int)=5,(4:Int) < (t.length:Int):=fun h=>by omega
 by_cases c1:(t.length:Int)=5
 case neg=>rw [hN fun h=>c1 h.1];exact Ev.ak c1 DV
 refine Ev.ae c1 (Ev.ae (show (0:Int) < (t.length:Int) by omega) ?_)
 by_cases c2:(((aa t 0).f4).length:Int)=3
 case neg=>rw [hN fun h=>c2 h.2.1];exact Ev.ak c2 DV
 refine Ev.ae c2 ?_
 by_cases c3:(aa t 0).f0=0
 case neg=>rw [hN fun h=>c3 h.2.2.1];exact Ev.ak c3 DV
 refine Ev.ae c3 ?_
 by_cases c4:(aa t 0).f1=16
 case neg=>rw [hN fun h=>c4 h.2.2.2.1,Mv c4];exact DV
 rw [Mw c4]
 refine Ev.step (fun k=>by rw [ed.j0]) ?_
 refine (Ev.ak (by simp) (Ev.ae (show (1:Int) < (t.length:Int) by omega) ?_))
 by_cases c5:(aa t 1).f0=0
 case neg=>rw [hN fun h=>c5 h.2.2.2.2.1];exact Ev.ak c5 zT
 refine Ev.ae c5 ?_
 by_cases c6:(aa t 1).f1=2
 case neg=>rw [hN fun h=>c6 h.2.2.2.2.2.1];exact Ev.ak c6 zT
 refine Ev.ae c6 ?_
 by_cases c7:(aa t 1).f3.toList=([1]:List UInt8)
 case neg=>rw [hN fun h=>c7 h.2.2.2.2.2.2.1];exact Ev.ak c7 zT
 refine Ev.ae c7 (Ev.ae (show (2:Int) < (t.length:Int) by omega) ?_)
 by_cases c8:(aa t 2).f0=0
 case neg=>rw [hN fun h=>c8 h.2.2.2.2.2.2.2.1];exact Ev.ak c8 zT
 refine Ev.ae c8 ?_
 by_cases c9:(aa t 2).f1=4
 case neg=>rw [hN fun h=>c9 h.2.2.2.2.2.2.2.2.1,Mv c9];exact zT
 rw [Mw c9]
 refine Ev.step (fun k=>by rw [ed.j1]) ?_
 refine (Ev.ak (by simp) (Ev.ae (show (3:Int) < (t.length:Int) by omega) ?_))
 by_cases ca:(aa t 3).f0=2
 case neg=>rw [hN fun h=>ca h.2.2.2.2.2.2.2.2.2.1];exact Ev.ak ca zU
 refine Ev.ae ca ?_
 by_cases cb:(aa t 3).f1=0
 case neg=>rw [hN fun h=>cb h.2.2.2.2.2.2.2.2.2.2.1];exact Ev.ak cb zU
 refine Ev.ae cb ?_
 by_cases cc:(((aa t 3).f4).length:Int)=1
 case neg=>rw [hN fun h=>cc h.2.2.2.2.2.2.2.2.2.2.2.1];exact Ev.ak cc zU
 refine Ev.ae cc (Ev.ae (show (4:Int) < (t.length:Int) by omega) ?_)
 by_cases cd:(aa t 4).f0=0
 case neg=>rw [hN fun h=>cd h.2.2.2.2.2.2.2.2.2.2.2.2.1];exact Ev.ak cd zU
 refine Ev.ae cd ?_
 by_cases ce:(aa t 4).f1=6
 case neg=>rw [hN fun h=>ce h.2.2.2.2.2.2.2.2.2.2.2.2.2,Mv ce];exact zU
 rw [Mw ce]
 exact hR ⟨c1,c2,c3,c4,c5,c6,c7,c8,c9,ca,cb,cc,cd,ce⟩
theorem VA (a b:Int) (c:Bool) (d:List Int) (ks:Fo) (ho:(Fo.cons a b c d ks .nil).Ok 0):JX ((Fo.cons a b c d ks .nil).flat 0)↔∃ nm x,Fo.cons a b c d ks .nil=jh nm x:=by
 constructor
 ·rintro ⟨h1,h2,h3,h4,h5,h6,h7,h8,h9,ha,hb,hc,hd,he⟩
  have hfw:=CJ (Fo.cons a b c d ks .nil)
  rw [Fo.gD] at h1
  obtain ⟨_,r0,f0,_⟩:=zR hfw
  rw [show ((0:Nat):Int)=0 from rfl] at r0
  rw [r0] at h2 h3 h4
  have h2:((ks.roots (0+1)).length:Int)=3:=h2
  obtain rfl:a=0:=h3
  obtain rfl:b=16:=h4
  obtain ⟨a0,b0,c0,d0,k0,a1,b1,c1,d1,k1,a2,b2,c2,d2,k2,rfl⟩:=three h2
  obtain ⟨rfl,rfl⟩:=CK ho (by simp)
  have o0:=ho.kids
  have o1:=o0.rest
  have o2:=o1.rest
  obtain ⟨_,r1,_,f1⟩:=zR f0
  rw [show ((0+1:Nat):Int)=1 from rfl] at r1
  rw [r1] at h5 h6 h7
  obtain rfl:a0=0:=h5
  obtain rfl:b0=2:=h6
  obtain ⟨rfl,rfl,_⟩:=xJ o0 rfl (by decide) (by decide)
  obtain rfl:d0=[1]:=(Ub o0.2.2.2.2.1 [1]).1 h7
  obtain ⟨_,r2,_,f2⟩:=zR f1
  rw [show ((0+1+1+Fo.nil.size:Nat):Int)=2 from rfl] at r2
  rw [r2] at h8 h9
  obtain rfl:a1=0:=h8
  obtain rfl:b1=4:=h9
  obtain ⟨rfl,rfl,_⟩:=xJ o1 rfl (by decide) (by decide)
  obtain ⟨_,r3,f3,_⟩:=zR f2
  rw [show ((0+1+1+Fo.nil.size+1+Fo.nil.size:Nat):Int)=3 from rfl] at r3
  rw [r3] at ha hb hc
  obtain rfl:a2=2:=ha
  obtain rfl:b2=0:=hb
  have hc:((k2.roots (0+1+1+Fo.nil.size+1+Fo.nil.size+1)).length:Int)=1:=hc
  rcases k2 with _ | ⟨a3,b3,c3,d3,k3,_ | ⟨a4,b4,c4,d4,k4,r4⟩⟩
  ·simp [Fo.roots] at hc
  ·obtain ⟨rfl,rfl⟩:=CK o2 (by simp)
   obtain ⟨_,r4,_,_⟩:=zR f3
   rw [show ((0+1+1+Fo.nil.size+1+Fo.nil.size+1:Nat):Int)=4 from rfl] at r4
   rw [r4] at hd he
   obtain rfl:a3=0:=hd
   obtain rfl:b3=6:=he
   obtain ⟨rfl,rfl,_⟩:=xJ o2.kids rfl (by decide) (by decide)
   exact ⟨d3,d1,rfl⟩
  ·simp only [Fo.roots,List.length_cons] at hc;omega
 ·rintro ⟨nm,x,e⟩
  rw [e]
  exact ⟨rfl,rfl,rfl,rfl,rfl,rfl,(Ub (aG.cons (by decide) (by decide) aG.nil) [1]).2 rfl,rfl,rfl,rfl,rfl,rfl,rfl,rfl⟩
theorem XF (q:Nat→Bool):kU q=(0,false)∨∃ i,i < 4∧q i=true∧kU q=((i:Int)+1,true):=by
 unfold kU
 by_cases h0:q 0=true
 ·exact .inr ⟨0,by decide,h0,by rw [if_pos h0];rfl⟩
 by_cases h1:q 1=true
 ·exact .inr ⟨1,by decide,h1,by rw [if_neg h0,if_pos h1];rfl⟩
 by_cases h2:q 2=true
 ·exact .inr ⟨2,by decide,h2,by rw [if_neg h0,if_neg h1,if_pos h2];rfl⟩
 by_cases h3:q 3=true
 ·exact .inr ⟨3,by decide,h3,by rw [if_neg h0,if_neg h1,if_neg h2,if_pos h3];rfl⟩
 ·exact .inl (by rw [if_neg h0,if_neg h1,if_neg h2,if_neg h3])
def jl (nm x:List Int):Int × ByteArray × Int :=
 if (kU fun i=>decide (cA i=(gG nm).1)).2=true then (if ny (kU fun i=>decide (cA i=(gG nm).1)).1 (strOfNums x)=0 then ((kU fun i=>decide (cA i=(gG nm).1)).1,strOfNums x,0) else (0,⟨#[]⟩,ny (kU fun i=>decide (cA i=(gG nm).1)).1 (strOfNums x))) else (0,⟨#[]⟩,8)
theorem Xe {nm x:List Int} (h:(kU fun i=>decide (cA i=(gG nm).1))=(0,false)):jl nm x=(0,⟨#[]⟩,8):=by unfold jl;rw [h];rfl
theorem Wn {nm x:List Int} {no:Int} (h:(kU fun i=>decide (cA i=(gG nm).1))=(no,true)):jl nm x=if ny no (strOfNums x)=0 then (no,strOfNums x,0) else (0,⟨#[]⟩,ny no (strOfNums x)):=by unfold jl;rw [h];rfl
theorem adK (nm x l:List Int) (hl:aG l) (he:l=(jh nm x).enc) (ho:(jh nm x).Ok 0) (hs:l.length≤500):Ev (fun k=>nC.f k (strOfNums l)) (jl nm x)∧Ev (fun k=>ed.f k (strOfNums l)) (jl nm x):=by
 have hnm:aG nm:=ho.kids.rest.rest.kids.2.2.2.2.1
 have hx:aG x:=ho.kids.rest.2.2.2.2.1
 have hls:nm.length≤l.length∧x.length≤l.length:=by
  rw [he]
  have h1:=Fo.qz 0 16 true [] (.cons 0 2 false [1] .nil (.cons 0 4 false x .nil (.cons 2 0 true [] (.cons 0 6 false nm .nil .nil) .nil))) .nil
  have h2:=Fo.qz 0 2 false [1] .nil (.cons 0 4 false x .nil (.cons 2 0 true [] (.cons 0 6 false nm .nil .nil) .nil))
  have h3:=Fo.qz 0 4 false x .nil (.cons 2 0 true [] (.cons 0 6 false nm .nil .nil) .nil)
  have h4:=Fo.qz 2 0 true [] (.cons 0 6 false nm .nil .nil) .nil
  have h5:=Fo.qz 0 6 false nm .nil .nil
  unfold jh
  omega
 obtain ⟨p1,p2⟩:=afN l hl (by omega) 0 16 true [] _ he ho (by rw [show (Fo.cons 0 16 true [] (.cons 0 2 false [1] .nil (.cons 0 4 false x .nil (.cons 2 0 true [] (.cons 0 6 false nm .nil .nil) .nil))) .nil).size=5 from rfl];omega)
 have hdl:=agx nm hnm
 have by1:=ab5 (gG nm).1 (by omega)
 have by2:=ab6 (gG nm).1
 have dn:=GG nm hnm (by omega)
 have dr:=adB nm hnm (by omega)
 obtain ⟨e,e1,e2,e3,e4⟩:=Yj (kU fun i=>decide (cA i=(gG nm).1)).1 x hx (by omega)
 have may:=Yi (kU fun i=>decide (cA i=(gG nm).1)).1 (strOfNums x) (by rw [ek];omega)
 constructor
 ·refine Ev.congr (fun k=>by rw [nC.f]) (Ev.bind p1 (Ev.ae rfl ?_))
  rcases Wm 0 16 true [] _ ho (by rw [show (Fo.cons 0 16 true [] (.cons 0 2 false [1] .nil (.cons 0 4 false x .nil (.cons 2 0 true [] (.cons 0 6 false nm .nil .nil) .nil))) .nil).enc=l from he.symm];omega) with ⟨nm',x',e',ht⟩ | ⟨hn,_⟩
  ·simp only [jh,Fo.cons.injEq] at e'
   obtain ⟨_,_,_,_,⟨_,_,_,_,_,_,_,_,rfl,_,_,_,_,_,⟨_,_,_,rfl,_⟩,_⟩,_⟩:=e'
   refine Ev.bind ht (Ev.ae rfl (Ev.ae (by show (1:Int) < (((Fo.cons 2 0 true [] (.cons 0 6 false nm .nil .nil) .nil).flat 0).length:Int);rw [Fo.gD];simp only [Fo.size];omega) (Ev.bind (a:=gG nm) dn (Ev.bind by1 (Ev.ae (by show (0:Int) < (((Fo.cons 0 4 false x .nil .nil).flat 0).length:Int);rw [Fo.gD];simp only [Fo.size];omega) (Ev.bind may ?_))))))
   rcases XF (fun i=>decide (cA i=(gG nm).1)) with h | ⟨i,hi,_,h⟩
   ·rw [Xe h,h]
    exact Ev.ak (show ¬ (8:Int)=0 by decide) (Ev.now _)
   ·rw [Wn h,h]
    exact Ev.ite (fun _=>Ev.now _) (fun _=>Ev.now _)
  ·exact absurd ⟨nm,x,rfl⟩ hn
 ·refine Yk (by rw [Fo.gD];simp only [Fo.size];omega) p2 (fun hc=>?_) (fun hn=>absurd ((VA 0 16 true [] _ ho).2 ⟨nm,x,rfl⟩) hn)
  refine Ev.step (fun k=>by rw [ed.j2]) ?_
  refine Ev.ak (by simp) (Ev.ae (by rw [Fo.gD];simp only [Fo.size];omega) (Ev.bind (a:=gG nm) dr (Ev.bind by2 ?_)))
  rcases XF (fun i=>decide (cA i=(gG nm).1)) with h | ⟨i,hi,_,h⟩
  ·rw [Xe h,h]
   exact Ev.ak (by simp) (Ev.now _)
  ·rw [Wn h]
   rw [h] at e2 e3 ⊢
   refine Ev.ae rfl (Ev.ae (by rw [Fo.gD];simp only [Fo.size];omega) (Ev.bind e2 ?_))
   rw [e3]
   exact Ev.ite (fun _=>Ev.now _) (fun _=>Ev.now _)
theorem aiA (l:List Int) (hl:aG l) (hs:l.length≤500):∃ R,Ev (fun k=>nC.f k (strOfNums l)) R∧Ev (fun k=>ed.f k (strOfNums l)) R∧((R=(0,⟨#[]⟩,R.2.2)∧R.2.2≠0)∨∃ nm x,l=(jh nm x).enc∧(jh nm x).Ok 0∧R=jl nm x):=by
 cases XA l hl (by omega) with
 | bad code q hc hq p1 p2 _ _ =>
  refine ⟨(0,⟨#[]⟩,code),?_,?_,.inl ⟨rfl,hc⟩⟩
  ·refine Ev.congr (fun k=>by rw [nC.f]) ?_
   exact Ev.bind p1 (Ev.ak hc (Ev.now _))
  ·refine Ev.congr (fun k=>by rw [ed.f]) ?_
   exact Ev.bind p2 (Ev.ak hc (Ev.now _))
 | ok a b c d ks he ho hz p1 p2 _ _ =>
  by_cases hS:∃ nm x,Fo.cons a b c d ks .nil=jh nm x
  ·obtain ⟨nm,x,e⟩:=hS
   rw [e] at he ho
   obtain ⟨h1,h2⟩:=adK nm x l hl he ho hs
   exact ⟨_,h1,h2,.inr ⟨nm,x,he,ho,rfl⟩⟩
  ·refine ⟨BJ,?_,Yk (by rw [Fo.gD];simp only [Fo.size];omega) p2 (fun hc=>absurd ((VA a b c d ks ho).1 hc) hS) (fun _=>rfl),.inl ⟨rfl,by decide⟩⟩
   rcases Wm a b c d ks ho (by rw [← he];omega) with ⟨nm,x,e,_⟩ | ⟨_,p,q,r,ht⟩
   ·exact absurd ⟨nm,x,e⟩ hS
   ·refine Ev.congr (fun k=>by rw [nC.f]) ?_
    exact Ev.bind p1 (Ev.ae rfl (Ev.bind ht (Ev.ak (by simp) (Ev.now _))))
theorem hd2 (a b:Int) (c:Bool) (d:List Int) (ks:Fo) (h:b < 31) (hl:(d++ks.enc).length < 128):Fo.hd a b c d ks=2:=by
 unfold Fo.hd
 rw [rY (by omega),di,if_pos h]
 rfl
theorem agB (no:Int):∃ n:Int,Ev (fun k=>pI.f k no) n∧Ev (fun k=>mU.f k no) n∧(1≤no∧no≤4→n=11+((lG no).length:Int)+fD no):=by
 by_cases h:1≤no∧no≤4
 ·rcases four h.1 h.2 with rfl | rfl | rfl | rfl
  ·exact ⟨44,Ev.from_ 200 (fun n=>by kernel_rfl),Ev.from_ 200 (fun n=>by kernel_rfl),fun _=>by decide +kernel⟩
  ·exact ⟨51,Ev.from_ 200 (fun n=>by kernel_rfl),Ev.from_ 200 (fun n=>by kernel_rfl),fun _=>by decide +kernel⟩
  ·exact ⟨64,Ev.from_ 200 (fun n=>by kernel_rfl),Ev.from_ 200 (fun n=>by kernel_rfl),fun _=>by decide +kernel⟩
  ·exact ⟨82,Ev.from_ 400 (fun n=>by kernel_rfl),Ev.from_ 400 (fun n=>by kernel_rfl),fun _=>by decide +kernel⟩
 ·refine ⟨0,?_,?_,fun hh=>absurd hh h⟩
  ·refine Ev.congr (fun k=>by rw [pI.f]) (Ev.bU (Xc no) (Ev.ae (Hm h) (Ev.now _)))
  ·refine Ev.congr (fun k=>by rw [mU.f]) (Ev.bU (qZ no) (Ev.ae (Hm h) (Ev.now _)))
theorem ZP:Ev (fun k=>qR.f k) true:=Ev.from_ 200 (fun n=>by kernel_rfl)
theorem Sec1Tells (a0:Int) (a1 a2:ByteArray) (_:(Lit.int .i64 a0).wf=true) (_:a1.size≤140737488351232) (_:a2.size≤140737488351232):∃ k,l9.f k a0 a1 a2=some true:=by
 obtain ⟨x,hx,rfl⟩:=IQ a1
 obtain ⟨l,hl,rfl⟩:=IQ a2
 refine Ev.rounds (r:=true) ?_
 refine Ev.congr (fun k=>by rw [l9.f,dL,dL]) ?_
 have hnone:Ev (fun k=>l9.j0 k a0 (strOfNums x) (strOfNums l) true) true:=by
  refine Ev.step (fun k=>by rw [l9.j0]) ?_
  exact Ev.ae rfl (Ev.bind ZP (Ev.now _))
 by_cases c0:(x.length:Int) > 200
 ·exact Ev.ae c0 hnone
 refine Ev.ak c0 ?_
 by_cases c1:(l.length:Int) > 500
 ·rw [decide_eq_true c1];exact hnone
 rw [decide_eq_false c1]
 obtain ⟨e,e1,e2,_⟩:=Yj a0 x hx (by omega)
 obtain ⟨R,r1,r2,_⟩:=aiA l hl (by omega)
 obtain ⟨n,s1,s2,_⟩:=agB a0
 refine Ev.step (fun k=>by rw [l9.j0]) ?_
 exact Ev.ak (by simp) (Ev.bind e1 (Ev.bind e2 (Ev.bind r1 (Ev.bind r2 (Ev.ae rfl (Ev.ae rfl (Ev.ae rfl (Ev.ae rfl (Ev.ae rfl (Ev.bind s1 (Ev.bind s2 (Ev.ae rfl (Ev.bind ZP (Ev.now _))))))))))))))
inductive Gs:List (List Int)→Fo→Prop
 | nil:Gs [] .nil
 | cons {z:List Int} {Z:List (List Int)} {a b:Int} {c:Bool} {d:List Int} {ks g:Fo} (he:z=(Fo.cons a b c d ks .nil).enc) (ho:(Fo.cons a b c d ks .nil).Ok 0)
  (p1:Ev (fun k=>mg.f k (strOfNums z)) ((Fo.cons a b c d ks .nil).flat 0,0,0)) (p2:Ev (fun k=>mO.f k (strOfNums z)) ((Fo.cons a b c d ks .nil).flat 0,0,0)) (h:Gs Z g):Gs (z :: Z) (.cons a b c d ks g)
theorem Gs.enc {Z:List (List Int)} {g:Fo} (h:Gs Z g):g.enc=Z.flatten:=by
 induction h with
 | nil=>rfl
 | cons he ho p1 p2 h ih=>rw [List.flatten_cons,← ih,he,Fo.enc,Fo.enc,Fo.enc,List.append_nil]
theorem Gs.ok {Z:List (List Int)} {g:Fo} (h:Gs Z g):g.Ok 0:=by
 induction h with
 | nil=>trivial
 | cons he ho p1 p2 h ih=>exact ⟨ho.1,ho.2.1,ho.2.2.1,ho.2.2.2.1,ho.2.2.2.2.1,ho.2.2.2.2.2.1,ho.2.2.2.2.2.2.1,ho.2.2.2.2.2.2.2.1,ih⟩
end Go.Proofs.YtdombjceoocnhaaGreatDoor.Pure
