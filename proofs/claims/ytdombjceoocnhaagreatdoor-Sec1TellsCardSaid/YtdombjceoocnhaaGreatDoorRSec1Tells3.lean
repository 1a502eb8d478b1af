import Derived.Test.YtdombjceoocnhaaGreatDoorRSec1Tells2
set_option linter.unusedSectionVars false
set_option linter.unusedSimpArgs false
set_option linter.unusedVariables false
namespace Go.Rf
open Go.RowKit
section
variable [gp]
mutual
def D.bnd (n:Nat):D→Bool
 | .v _=>true
 | .ptr i _=>Nat.blt i n
 | .agg cs=>uV n cs
 | .aD cs=>uV n cs
 | .fn _ cs=>uV n cs
def uV (n:Nat):List D→Bool
 | []=>true
 | d :: ds=>match d.bnd n with
  | true=>uV n ds
  | false=>false
end
def Root.bnd (n:Nat):Root→Bool
 | .t _=>true
 | .b i _=>Nat.blt i n
def X.bnd (n:Nat):X→Bool
 | .d y=>D.bnd n y
 | .al p=>Root.bnd n p.root
 | .pa r _ _ _=>Root.bnd n r
 | .dead=>true
def Ae (n:Nat):List (Nat × X)→Bool
 | []=>true
 | (_,x) :: l=>match x.bnd n with
  | true=>Ae n l
  | false=>false
def gH.bnd (n:Nat):gH→Bool
 | .cells cs=>uV n cs
 | _=>true
def Af (n:Nat):List gH→Bool
 | []=>true
 | b :: l=>match b.bnd n with
  | true=>Af n l
  | false=>false
theorem U8 {n:Nat}:∀ {l:List (Nat × X)} {t:Nat} {x:X},Ae n l=true→look l t=some x→x.bnd n=true
 | [],_,_,_,h=>by simp [look] at h
 | (k,y) :: l,t,x,hb,h=>by
  simp only [Ae] at hb
  split at hb
  ·rename_i hy
   simp only [look] at h
   cases hk:Nat.beq t k with
   | true=>rw [hk] at h;cases h;exact hy
   | false=>rw [hk] at h;exact U8 hb h
  ·cases hb
theorem VN {n:Nat}:∀ {l:List gH} {i:Nat} {b:gH},Af n l=true→l[i]? = some b→b.bnd n=true
 | [],_,_,_,h=>by simp at h
 | c :: l,i,b,hb,h=>by
  simp only [Af] at hb
  split at hb
  ·rename_i hc
   cases i with
   | zero=>simp only [List.getElem?_cons_zero,Option.some.injEq] at h;subst h;exact hc
   | succ i=>simp only [List.getElem?_cons_succ] at h;exact VN hb h
  ·cases hb
def G.shrink (g:G) (n:Nat):G :=
 { g with n:=n,own:=fun b=>match g.own b with
     | some (.inr id)=>if id < n then some (.inr id) else none
     | x=>x,TB:=fun i=>if i < n then g.TB i else [] }
mutual
theorem aV.shrink {g:G} {n:Nat} {w:World} {v:Value} {d:D} {T:List Nat}:aV g w v d T→d.bnd n=true→aV (g.shrink n) w v d T
 | .v h,_=>.v h
 | .ptr (id:=id) h,hb=>aV.ptr (g:=g.shrink n) (by simpa [D.bnd,G.shrink] using hb)
 | .agg h,hb=>.agg (h.shrink (by simpa [D.bnd] using hb))
 | .aD h,hb=>.aD (h.shrink (by simpa [D.bnd] using hb))
 | .fn h,hb=>.fn (h.shrink (by simpa [D.bnd] using hb))
theorem bZ.shrink {g:G} {n:Nat} {w:World} {vs:List Value} {ds:List D} {T:List Nat}:bZ g w vs ds T→uV n ds=true→bZ (g.shrink n) w vs ds T
 | .nil,_=>.nil
 | .cons (d:=d) h1 h2,hb=>by
  simp only [uV] at hb
  cases hc:d.bnd n with
  | false=>rw [hc] at hb;cases hb
  | true=>rw [hc] at hb;exact .cons (h1.shrink hc) (h2.shrink hb)
end
section
variable {C:Ctx} {g:G} {st:St} {a:Act} {w:World}
theorem Uw {n b t:Nat}:(g.shrink n).own b=some (.inl t)↔g.own b=some (.inl t):=by
 simp only [G.shrink]
 split
 ·rename_i id h;rw [h];split<;>simp
 ·rfl
theorem BN {n b i:Nat} (hi:i < n):(g.shrink n).own b=some (.inr i)↔g.own b=some (.inr i):=by
 simp only [G.shrink]
 split
 ·rename_i id h
  rw [h]
  split
  ·rfl
  ·rename_i hn
   constructor
   ·intro e;cases e
   ·intro e;cases e;exact (hn hi).elim
 ·rfl
theorem Ha {n:Nat} (hn:n≤g.n) {r:Root} (hb:r.bnd n=true):dW (g.shrink n) a w r=dW g a w r:=by
 cases r with
 | t x=>rfl
 | b id c =>
  have hi:id < n:=by simpa [Root.bnd] using hb
  simp only [dW]
  have e1:(id < (g.shrink n).n∧(g.shrink n).own ((g.shrink n).loc id)=some (.inr id))=(id < g.n∧g.own (g.loc id)=some (.inr id)):=by
   apply propext
   constructor
   ·rintro ⟨h1,h2⟩;exact ⟨Nat.lt_of_lt_of_le hi hn,(BN hi).1 h2⟩
   ·rintro ⟨h1,h2⟩;exact ⟨hi,(BN hi).2 h2⟩
  simp only [e1]
  rfl
theorem Ug {n b:Nat} {r:Root} (hb:r.bnd n=true):(g.shrink n).own b=some r.holder↔g.own b=some r.holder:=by
 cases r with
 | t x=>exact Uw
 | b id c=>exact BN (by simpa [Root.bnd] using hb)
theorem jM.shrink {n:Nat} (hn:n≤g.n) {v:Value} {x:X} {T:List Nat} (h:jM g a w v x T) (hb:x.bnd n=true):jM (g.shrink n) a w v x T:=by
 cases x with
 | d d=>exact aV.shrink h hb
 | al p =>
  refine ⟨h.1,?_⟩
  have h:=h.2
  cases p with
  | top r =>
   have hb:Root.bnd n r=true:=hb
   simp only [pv] at h ⊢;rw [Ha hn hb];exact h
  | iY r sz i j =>
   have hb:Root.bnd n r=true:=hb
   simp only [pv] at h ⊢
   rw [Ha hn hb]
   cases hq:(dW g a w r).bind Value.ownBlock with
   | none=>rw [hq] at h;cases h
   | some b =>
    rw [hq] at h
    simp only at h ⊢
    by_cases ho:g.own b=some r.holder
    ·rw [if_pos ho] at h;rw [if_pos ((Ug hb).2 ho)];exact h
    ·rw [if_neg ho] at h;cases h
 | pa r sz i j =>
  obtain ⟨h1,b,h2,h3,h4⟩:=h
  exact ⟨h1,b,by rw [Ha hn hb];exact h2,(Ug hb).2 h3,h4⟩
 | dead=>trivial
theorem aH.shrink (S:aH C g st a w) {n:Nat} (hn:n≤st.box.length) (hE:Ae n st.env=true) (hB:Af n (st.box.take n)=true) (hL:C.L.length≤n):aH C (g.shrink n) ⟨st.env,st.box.take n⟩ a w:=by
 have hgn:n≤g.n:=by rw [S.n];exact hn
 refine ⟨S.defers,S.tmps,S.os,S.tape,S.output,S.size,S.frame,S.aL,S.dM,?_,?_,S.nV,?_,?_,?_,fun i l h=>⟨Nat.lt_of_lt_of_le (List.getElem?_eq_some_iff.1 h).1 hL,(S.kK i l h).2⟩,S.tab⟩
 ·simp only [List.length_take,G.shrink];omega
 ·intro t x hx
  obtain ⟨h1,h2,h3⟩:=S.env t x hx
  exact ⟨h1,h2.shrink hgn (U8 hE hx),fun b hb=>Uw.2 (h3 b hb)⟩
 ·intro id b hb
  have hi:id < n:=by
   rcases Nat.lt_or_ge id n with h | h
   ·exact h
   ·rw [List.getElem?_eq_none (by rw [List.length_take];omega)] at hb;cases hb
  have hb':st.box[id]? = some b:=by rw [List.getElem?_take] at hb;split at hb<;>simp_all
  obtain ⟨h1,h2⟩:=S.box id b hb'
  have hT:(g.shrink n).TB id=g.TB id:=by simp [G.shrink,hi]
  rw [hT]
  refine ⟨?_,fun c hc=>(BN hi).2 (h2 c hc)⟩
  have hbb:=VN hB hb
  cases b with
  | cells cs =>
   obtain ⟨cur,e,A,k1,k2,k3,k4⟩:=h1
   exact ⟨cur,e,A,k1,k2,k3.shrink hbb,k4⟩
  | iter s pos=>exact h1
  | gone=>exact h1
 ·intro id
  simp only [G.shrink]
  split
  ·exact S.mr id
  ·exact List.nodup_nil
 ·intro b h ho
  have:g.own b=some h:=by
   simp only [G.shrink] at ho
   split at ho
   ·rename_i id hq
    split at ho
    ·rw [hq];exact ho
    ·cases ho
   ·exact ho
  exact S.own b h this
end
theorem Wk.oV {C:Ctx} {L:Nat} (hL:C.L.length=L) (n:Nat) (ks:List (Nat × Nat)) {st:St} {env:List (Nat × X)} {box:List gH} (h:rM st.env ks=some env) (hE:(Nat.ble n st.box.length && Ae n env && Af n (st.box.take n) && Nat.ble L n)=true) (hb:st.box.take n=box):Wk C st ⟨env,box⟩:=by
 subst hb
 intro g a w S
 obtain ⟨g',S'⟩:=Wk.of ks h rfl g a w S
 simp only [Bool.and_eq_true] at hE
 exact ⟨_,S'.shrink (Nat.le_of_ble_eq_true hE.1.1.1) hE.1.1.2 hE.1.2 (by rw [hL];exact Nat.le_of_ble_eq_true hE.2)⟩
theorem Wk.box {C:Ctx} (id:Nat) {st st':St} {c d:List V} (hb:st.box[id]? = some (.cells (dv c))) (f:aZ c d) (h:Wk C { st with box:=st.box.set id (.cells (dv d)) } st'):Wk C st st':=fun g a w S=>by
 have hid:id < st.box.length:=(List.getElem?_eq_some_iff.1 hb).1
 refine h g a w (S.change (fun h=>h=.inr id) S.defers S.tmps rfl rfl rfl (Nat.le_refl _) (fun _ h=>h) (fun _ h=>.inl h) S.dM (by simpa using S.n) (Nat.le_refl _) (fun _ _=>rfl) (fun _ _ _=>rfl)
  (fun b h ho _=>ho) (fun t _=>⟨rfl,rfl⟩) (fun i hi=>⟨rfl,?_⟩) (fun t y hy=>?_) (fun i b hb' hc=>?_) (fun t h=>by cases h) (fun i h=>by cases h;exact S.mr id) (fun b h ho=>.inl ⟨ho,(S.own b h ho).2.2⟩))
 ·rw [List.getElem?_set_ne (fun e=>hi (by rw [e]))]
 ·by_cases hr:∀ h,y.fV=some h→¬ h=.inr id
  ·exact .inl ⟨(fun e=>by cases e),.inl ⟨hy,hr⟩⟩
  ·obtain ⟨h1,h2,h3⟩:=S.env t y hy
   exact .inr ⟨h1,h2,h3⟩
 ·cases hc
  rw [List.getElem?_set_self hid] at hb'
  cases hb'
  obtain ⟨h1,h2⟩:=S.box id _ hb
  exact ⟨h1.ML f,h2⟩
theorem Wk.fx {C:Ctx} (t:Nat) {st st':St} {x u:V} (hl:look st.env t=some (.d (.v x))) (hf:Fit x u) (h:Wk C { st with env:=(t,.d (.v u)) :: st.env } st'):Wk C st st':=fun g a w S=>by
 obtain ⟨k1,k2,k3⟩:=S.env t _ hl
 refine h g a w (S.change (fun _=>False) S.defers S.tmps rfl rfl rfl (Nat.le_refl _) (fun _ h=>h) (fun _ h=>.inl h) S.dM S.n (Nat.le_refl _) (fun _ _=>rfl) (fun _ _ _=>rfl)
  (fun b h ho _=>ho) (fun t _=>⟨rfl,rfl⟩) (fun i _=>⟨rfl,rfl⟩) (fun s y hy=>?_) (fun id b _ h=>h.elim) (fun t h=>h.elim) (fun i h=>h.elim) (fun b h ho=>.inl ⟨ho,(S.own b h ho).2.2⟩))
 simp only [look] at hy
 cases hb:Nat.beq s t with
 | true =>
  rw [hb] at hy
  cases hy
  have:=Nat.eq_of_beq_eq_true hb
  subst this
  exact .inr ⟨k1,.v ((aV.inv k2).fit hf),k3⟩
 | false =>
  rw [hb] at hy
  exact .inl ⟨fun h=>h,.inl ⟨hy,fun _ _ h=>h⟩⟩
def Ag:Nat→List D→List (Nat × X)
 | _,[]=>[]
 | i,u :: us=>(i,.d u) :: Ag (i+1) us
def CQ (us:List D) (bs:List (List V)):St:={ env:=Ag 0 us,box:=bs.map fun c=>.cells (dv c) }
theorem U9:∀ {us:List D} {k t:Nat} {x:X},look (Ag k us) t=some x→∃ u,us[t - k]? = some u∧k≤t∧x=.d u
 | [],_,_,_,h=>by simp [Ag,look] at h
 | u :: us,k,t,x,h=>by
  simp only [Ag,look] at h
  cases hb:Nat.beq t k with
  | true =>
   rw [hb] at h
   have:=Nat.eq_of_beq_eq_true hb
   subst this
   cases h
   exact ⟨u,by simp,Nat.le_refl _,rfl⟩
  | false =>
   rw [hb] at h
   obtain ⟨v,h1,h2,h3⟩:=U9 h
   refine ⟨v,?_,by omega,h3⟩
   rw [show t - k=(t - (k+1))+1 by omega,List.getElem?_cons_succ]
   exact h1
def eO (n:Nat):List (Option Root × V)→Bool
 | []=>true
 | (some (.b id _),_) :: l=>match Nat.ble n id with
  | true=>eO n l
  | false=>false
 | _ :: l=>eO n l
theorem vW {n:Nat}:∀ {l:List (Option Root × V)},eO n l=true→∀ q u,(some q,u)∈l→∀ i,i < n→q.holder≠.inr i
 | [],_,q,u,h=>by cases h
 | (none,_) :: l,hf,q,u,h=>by
  rcases List.mem_cons.1 h with h | h
  ·cases h
  ·exact vW (by simpa only [eO] using hf) q u h
 | (some (.t x),_) :: l,hf,q,u,h=>by
  rcases List.mem_cons.1 h with h | h
  ·cases h;intro i _ e;cases e
  ·exact vW (by simpa only [eO] using hf) q u h
 | (some (.b id c),_) :: l,hf,q,u,h=>by
  simp only [eO] at hf
  split at hf
  ·rename_i hle
   have hle:=Nat.le_of_ble_eq_true hle
   rcases List.mem_cons.1 h with h | h
   ·cases h
    intro i hi e
    simp only [Root.holder,Sum.inr.injEq] at e
    omega
   ·exact vW hf q u h
  ·cases hf
def MU (fn:Func) (st:St) (n:Nat):Option D:=match fn.results.toList with
 | [.tmp t]=>match look st.env t with
  | some (.d d)=>match d.bI with
   | true=>match d.bnd n with
    | true=>some d
    | false=>none
   | false=>none
  | _=>none
 | _=>none
def MV (P:Program) (fn:Func) (r:D) (bs':List (List V)):Exit→St→Prop
 | .normal,st | .ret,st=>(∃ l7,uw st (List.range bs'.length)=some l7∧cz l7 bs') ∧
  ((∃ l u,r=.v u∧nY P st fn.results.toList=some l∧mX l=true∧eO bs'.length l=true∧Fit (nk l) u)∨MU fn st bs'.length=some r)
 | _,_=>False
theorem vM {P:Program} {f:FuncId} {fn:Func} {c:Code} {us:List D} {bs bs':List (List V)} {r:D} (hf:P.funcs[f]? = some fn) (hb:fn.body=some c) (hname:(fn.name == "runtime.NumGoroutine")=false) (hN:(Nat.ble us.length fn.ntmps && Nat.beq bs.length bs'.length)=true)
 (h:∀ C:Ctx,C.N=fn.ntmps→C.L.length=bs.length→Good P C c (MV P fn r bs') (CQ us bs)):lY P f us bs r bs':=by
 rw [Bool.and_eq_true] at hN
 have hNb:=Nat.eq_of_beq_eq_true hN.2
 have hN:=Nat.le_of_ble_eq_true hN.1
 refine ⟨fun vs w=>by
  have h1:fn.name ≠ "runtime.NumGoroutine" := by simpa using hname
  simp [callFunc,hf,h1,hb],fun g w vs hgn hp htab hr hB hown=>?_⟩
 let C:Ctx:={ W:=w,p0:=g.aL,Fz:=fun b=>∃ h,g.own b=some h,N:=fn.ntmps,L:=(List.range bs.length).map g.loc }
 have Z0:C.L.length=bs.length:=by simp [C]
 let gi:G:={ aL:=g.aL,own:=fun b=>(match g.own b with
   | some (.inr i)=>if i < g.n then some (.inr i) else none
   | _=>none),n:=g.n,loc:=g.loc,TE:=fun _=>[],TB:=fun i=>if i < g.n then g.TB i else [] }
 have kgi:dI g gi w w:=⟨fun _ h=>h,Nat.le_refl _,fun _ _=>rfl,fun _ _=>rfl⟩
 have hvl:vs.length=us.length:=hr.length
 have agV:∀ b h,gi.own b=some h→∃ i,h=.inr i∧i < g.n∧g.own b=some (.inr i):=fun b h ho=>by
  simp only [gi] at ho
  split at ho
  ·rename_i i hi
   split at ho
   ·rename_i hl;cases ho;exact ⟨i,rfl,hl,hi⟩
   ·cases ho
  ·cases ho
 have get:∀ {vs:List Value} {us:List D} {t:Nat} {u:D},bZ g w vs us []→us[t]? = some u→∃ v,vs[t]? = some v∧aV g w v u []:=by
  intro vs us t u h hu
  obtain ⟨v,Tc,h1,h2,h3,_⟩:=h.get hu
  have:Tc=[]:=List.eq_nil_iff_forall_not_mem.2 fun b hb=>by cases h3 b hb
  subst this
  exact ⟨v,h1,h2⟩
 have S:aH C gi (CQ us bs) { tmps:=vs.toArray++Array.replicate (fn.ntmps - vs.toArray.size) undef,defers:=[] } w:=by
  refine ⟨rfl,?_,rfl,rfl,rfl,Nat.le_refl _,fun _ _ _=>rfl,fun b hb=>.inl hb,hp,?_,?_,fun _=>List.nodup_nil,fun id b hb=>?_,fun i=>?_,fun b h ho=>?_,fun i l h=>?_,htab⟩
  ·simp [C,hvl];omega
  ·simp only [gi,CQ,List.length_map];exact hgn
  ·intro t x hx
   obtain ⟨u,h1,_,rfl⟩:=U9 hx
   rw [Nat.sub_zero] at h1
   obtain ⟨v,h2,h3⟩:=get hr h1
   have htl:t < vs.length:=(List.getElem?_eq_some_iff.1 h2).1
   refine ⟨?_,?_,fun b hb=>by cases hb⟩
   ·show t < fn.ntmps;omega
   ·have e:({ tmps:=vs.toArray++Array.replicate (fn.ntmps - vs.toArray.size) undef,defers:=[] }:Act).tmps.getD t undef=v:=by
     rw [Array.getD_eq_getD_getElem?,Array.getElem?_append_left (by simpa using htl)]
     simp [h2]
    show aV gi w _ u []
    rw [e]
    exact h3.keep kgi (fun _ h=>by cases h)
  ·simp only [CQ,List.getElem?_map,Option.map_eq_some_iff] at hb
   obtain ⟨c,hc,rfl⟩:=hb
   have hid:id < g.n:=by rw [hgn];exact (List.getElem?_eq_some_iff.1 hc).1
   obtain ⟨h1,_,h3⟩:=hB id c hc
   have eT:gi.TB id=g.TB id:=by simp only [gi];rw [if_pos hid]
   rw [eT]
   refine ⟨h1.gV rfl,fun b hb=>?_⟩
   simp only [gi,h3 b hb]
   rw [if_pos hid]
  ·simp only [gi]
   split
   ·rename_i hi
    rw [hgn] at hi
    exact (hB i _ (List.getElem?_eq_getElem hi)).2.1
   ·exact List.nodup_nil
  ·obtain ⟨i,rfl,_,h1⟩:=agV b h ho
   have:=hown b _ h1
   exact ⟨.inr ⟨_,h1⟩,this.1,this.2⟩
  ·have hi:i < bs.length:=by rw [← Z0];exact (List.getElem?_eq_some_iff.1 h).1
   refine ⟨by simp only [gi];omega,?_⟩
   simp only [C,List.getElem?_map,List.getElem?_range hi,Option.map_some,Option.some.injEq] at h
   exact h
 refine calls_of_wp hf hb (wp_mono (h C rfl Z0 gi _ w S) fun e a w' ⟨g1,st',S',hq⟩=>?_)
 have main:((∃ l7,uw st' (List.range bs'.length)=some l7∧cz l7 bs')∧((∃ l u,r=.v u∧nY P st' fn.results.toList=some l∧mX l=true∧eO bs'.length l=true∧Fit (nk l) u)∨MU fn st' bs'.length=some r)) →
  a.defers=[]∧∃ v,(results fn a.tmps).run P w'=.ok v w'∧∃ (v':Value) (T:List Nat) (g':G),Ending.returned v=.returned v'∧Aa g g' w w'∧aV g' w' v' r T∧T.Nodup∧(∀ b∈T,g'.own b=some (.inl 0))∧pU g' w' bs':=by
  rintro ⟨⟨l7,aiS,agW⟩,hres⟩
  refine ⟨S'.defers,?_⟩
  obtain ⟨hl1,hbx⟩:=G7 aiS
  have hloc:∀ i,i < bs.length→g1.loc i=g.loc i∧i < g1.n:=fun i hi=>by
   have:=S'.kK i (g.loc i) (by simp only [C,List.getElem?_map,List.getElem?_range hi,Option.map_some])
   exact ⟨this.2,this.1⟩
  have close:∀ (T:List Nat),(∀ b∈T,∃ h,g1.own b=some h∧∀ i,i < bs'.length→h≠.inr i) →
   ∃ g':G,g'.n=g.n∧(∀ i,i < g.n→g'.loc i=g.loc i)∧(∀ b,g1.aL b→g'.aL b)∧Aa g g' w w'∧(∀ b∈T,g'.own b=some (.inl 0))∧pU g' w' bs':=by
   intro T hT
   refine ⟨{ aL:=fun b=>g.aL b∨g1.aL b,own:=fun b=>if b∈T then some (.inl 0) else (match g1.own b with
     | some (.inr i)=>if i < g.n then some (.inr i) else none
     | _=>none),n:=g.n,loc:=g.loc,TE:=fun _=>[],TB:=g1.TB },rfl,fun _ _=>rfl,fun _ h=>.inr h,?_,fun b hb=>by simp [hb],?_⟩
   ·have own':∀ b h,(if b∈T then some (Sum.inl 0) else match g1.own b with
     | some (.inr i)=>if i < g.n then some (Sum.inr i) else none
     | _=>none)=some h→∃ h',g1.own b=some h':=fun b h ho=>by
     split at ho
     ·rename_i hb
      obtain ⟨h',h1,_⟩:=hT b hb
      exact ⟨h',h1⟩
     ·split at ho
      ·rename_i i hi;exact ⟨_,hi⟩
      ·cases ho
    refine ⟨S'.os,S'.tape,S'.output,S'.size,fun b hb hn=>S'.frame b hb (fun ⟨h,hh⟩=>by rw [hn] at hh;cases hh),rfl,fun _ _=>rfl,fun b h=>.inl h,?_,?_,?_⟩
    ·rintro b (h | h)
     ·exact .inl h
     ·exact S'.aL b h
    ·rintro b (h | h)
     ·exact Nat.lt_of_lt_of_le (hp b h) S'.size
     ·exact S'.dM b h
    ·intro b h ho
     obtain ⟨h',h1⟩:=own' b h ho
     obtain ⟨k1,k2,k3⟩:=S'.own b h' h1
     refine ⟨k1,k2,?_⟩
     rintro (h | h)
     ·rcases k1 with k1 | ⟨h'',k1⟩
      ·have:=hp b h
       have k1:w.heap.size≤b:=k1
       omega
      ·exact (hown b _ k1).2 h
     ·exact k3 h
   ·intro i d hd
    have hi:i < bs'.length:=(List.getElem?_eq_some_iff.1 hd).1
    obtain ⟨c1,hc1,fc⟩:=agW.get hd
    obtain ⟨c2,hc2,aiT⟩:=hbx i i (by rw [List.getElem?_range hi])
    rw [hc1] at hc2
    cases hc2
    obtain ⟨h1,h2⟩:=S'.box i _ aiT
    have hib:i < bs.length:=by rw [hNb];exact hi
    rw [(hloc i hib).1] at h1
    have h1:=h1.ML fc
    refine ⟨?_,S'.mr i,fun b hb=>?_⟩
    ·obtain ⟨cur,e,A,q1,q2,q3,q4⟩:=h1
     refine ⟨cur,e,A,q1,q2,?_,q4⟩
     exact (q3.jO.keep ⟨fun b hb=>.inr hb,fun _ _=>rfl⟩ (fun _ _=>rfl)).dv
    ·have xP:=h2 b hb
     have hnT:b∉T:=fun hm=>by
      obtain ⟨h',h3,h4⟩:=hT b hm
      rw [xP] at h3
      exact h4 i hi (Option.some.inj h3).symm
     show (if b∈T then _ else _)=_
     rw [if_neg hnT,xP]
     show (if i < g.n then _ else _)=_
     rw [if_pos (by rw [hgn];exact hib)]
  rcases hres with ⟨l,u,rfl,hl,hd,hlow,hfit⟩ | hres
  ·obtain ⟨vs',T,h1,h2,h3,h4⟩:=vV (P:=P) S' hl hd
   obtain ⟨g',n1,n2,n3,n4,n5,n6⟩:=close T (fun b hb=>by
    obtain ⟨q,u',h5,h6⟩:=h4 b hb
    exact ⟨_,h6,fun i hi=>vW hlow q u' h5 i hi⟩)
   have fin:∀ v,aP g1.aL w' v (nk l) T→(results fn a.tmps).run P w'=.ok v w'→∃ v,(results fn a.tmps).run P w'=.ok v w'∧∃ (v':Value) (T:List Nat) (g':G),Ending.returned v=.returned v'∧Aa g g' w w'∧aV g' w' v' (.v u) T∧T.Nodup∧(∀ b∈T,g'.own b=some (.inl 0))∧pU g' w' bs':=fun v hR hrun =>
    ⟨v,hrun,v,T,g',rfl,n4,.v ((hR.keep ⟨n3,fun _ _=>rfl⟩ (fun _ _=>rfl)).fit hfit),h3,n5,n6⟩
   have hm:(results fn a.tmps).run P w'=.ok (if h:vs'.toArray.size=1 then vs'.toArray[0] else .tuple vs'.toArray) w':=by
    rw [G9,Sem.run_bind,Array.mapM_eq_mapM_toList,Sem.run_map,h1]
    rfl
   by_cases hsz:vs'.length=1
   ·match vs',h2,hm,hsz with
    | [v],h2,hm,_ =>
     have hll:l.length=1:=by have:=h2.length;simpa using this.symm
     match l,hll,h2,fin with
     | [(ro,u)],_,h2,fin =>
      generalize hT':T=T0 at h2 fin
      cases h2 with
      | @cons _ _ _ _ A B r1 r2 =>
       cases r2
       refine fin v (by rw [List.append_nil];exact r1) (by rw [hm];simp)
   ·refine fin (.tuple vs'.toArray) ?_ (by rw [hm];simp [hsz])
    have hll:l.length≠1:=by have:=h2.length;simp at this;omega
    have:nk l=.aD (l.map (·.2)):=by
     unfold nk
     split
     ·simp at hll
     ·rfl
    rw [this]
    exact .aD h2
  ·unfold MU at hres
   split at hres
   ·rename_i t hrs
    split at hres
    ·rename_i d hl
     split at hres
     ·rename_i hno
      split at hres
      ·rename_i aiU
       cases hres
       obtain ⟨g',n1,n2,n3,n4,n5,n6⟩:=close [] (by simp)
       obtain ⟨_,hR,_⟩:=S'.env t _ hl
       have hR:aV g1 w' (a.tmps.getD t undef) r (g1.TE t):=hR
       have hT:=hR.bI hno
       rw [hT] at hR
       refine ⟨a.tmps.getD t undef,?_,_,[],g',rfl,n4,?_,List.nodup_nil,n5,n6⟩
       ·rw [G9,Sem.run_bind,Array.mapM_eq_mapM_toList,Sem.run_map,hrs]
        simp [jl]
       ·have h1:aV (g1.shrink bs'.length) w' (a.tmps.getD t undef) r []:=hR.shrink aiU
        have hn':(g1.shrink bs'.length).n=g'.n:=by rw [n1,hgn,hNb];rfl
        refine aV.keep (g:=g1.shrink bs'.length) ⟨n3,Nat.le_of_eq hn',fun i hi=>?_,fun _ _=>rfl⟩ h1 (fun _ h=>by cases h)
        have hi:i < bs'.length:=hi
        rw [n2 i (by rw [hgn,hNb];exact hi)]
        exact (hloc i (by rw [hNb];exact hi)).1.symm
      ·cases hres
     ·cases hres
    ·cases hres
   ·cases hres
 cases e with
 | normal=>exact main hq
 | ret=>exact main hq
 | _=>exact hq.elim
def Ke (P:Program) (fn:Func) (st:St) (n:Nat):Option (V × List (List V)):=match nY P st fn.results.toList with
 | some l=>match mX l with
  | true=>match eO n l with
   | true=>match uw st (List.range n) with
    | some bs=>some (nk l,bs)
    | none=>none
   | false=>none
  | false=>none
 | none=>none
theorem yu {P:Program} {fn:Func} {st:St} {u r:V} {bs bs':List (List V)} {n:Nat} (hf:Fit u r) (Tu:cz bs bs') (h:Ke P fn st n=some (u,bs)) (hn:bs'.length=n):MV P fn (.v r) bs' .normal st:=by
 subst hn
 unfold Ke at h
 split at h
 ·rename_i l hl
  split at h
  ·rename_i hd
   split at h
   ·rename_i hw
    split at h
    ·rename_i l7 hb
     cases h
     exact ⟨⟨_,hb,Tu⟩,.inl ⟨l,r,rfl,hl,hd,hw,hf⟩⟩
    ·cases h
   ·cases h
  ·cases h
 ·cases h
theorem gT {P:Program} {fn:Func} {st:St} {u r:V} {bs bs':List (List V)} {n:Nat} (hf:Fit u r) (Tu:cz bs bs') (h:Ke P fn st n=some (u,bs)) (hn:bs'.length=n):MV P fn (.v r) bs' .ret st:=yu hf Tu h hn
def ren (p:List Nat) (id:Nat):Nat:=match idxOf id p with
 | some j=>j
 | none=>id
mutual
def D.ren (p:List Nat):D→D
 | .v x=>.v x
 | .ptr i o=>.ptr (Rf.ren p i) o
 | .agg cs=>.agg (uC p cs)
 | .aD cs=>.aD (uC p cs)
 | .fn f cs=>.fn f (uC p cs)
def uC (p:List Nat):List D→List D
 | []=>[]
 | d :: ds=>d.ren p :: uC p ds
end
def Root.ren (p:List Nat):Root→Root
 | .t x=>.t x
 | .b i c=>.b (Rf.ren p i) c
def Pl.ren (p:List Nat):Pl→Pl
 | .top r=>.top (r.ren p)
 | .iY r sz i j=>.iY (r.ren p) sz i j
def X.ren (p:List Nat):X→X
 | .d x=>.d (x.ren p)
 | .al q=>.al (q.ren p)
 | .pa r sz i j=>.pa (r.ren p) sz i j
 | .dead=>.dead
def Ah (p:List Nat):List (Nat × X)→List (Nat × X)
 | []=>[]
 | (t,x) :: l=>(t,x.ren p) :: Ah p l
def gH.ren (p:List Nat):gH→gH
 | .cells cs=>.cells (uC p cs)
 | b=>b
def D8 (p:List Nat) (bx:List gH):List gH:=p.map fun i=>match bx[i]? with
 | some b=>b.ren p
 | none=>.gone
def jr (p:List Nat) (n:Nat):Bool:=Nat.beq p.length n && yP p && p.all (fun i=>Nat.blt i n)
theorem Va (p:List Nat):∀ (l:List (Nat × X)) (t:Nat),look (Ah p l) t=(look l t).map (X.ren p)
 | [],_=>rfl
 | (k,x) :: l,t=>by
  simp only [Ah,look]
  cases Nat.beq t k with
  | true=>rfl
  | false=>exact Va p l t
section
variable {p:List Nat} {n:Nat}
theorem adX (hp:jr p n=true) {id:Nat} (hid:id < n):∃ j,idxOf id p=some j∧j < n:=by
 simp only [jr,Bool.and_eq_true] at hp
 obtain ⟨⟨h1,h2⟩,h3⟩:=hp
 have h1:=Nat.eq_of_beq_eq_true h1
 have h2:=Cb h2
 cases hj:idxOf id p with
 | some j=>exact ⟨j,rfl,by rw [← h1];exact (List.getElem?_eq_some_iff.1 (vR hj)).1⟩
 | none =>
  exfalso
  have hn:=G6 hj
  have hsub:p ⊆ (List.range n).erase id:=fun x hx=>by
   have hx':x < n:=by simpa using List.all_eq_true.1 h3 x hx
   exact (List.mem_erase_of_ne (fun e:x=id=>hn (by rw [← e];exact hx))).2 (List.mem_range.2 hx')
  have:=List.Nodup.length_le_of_subset h2 hsub
  rw [List.length_erase_of_mem (List.mem_range.2 hid),List.length_range] at this
  omega
theorem qD (hp:jr p n=true) {id:Nat} (hid:id < n):ren p id < n∧p[ren p id]? = some id:=by
 obtain ⟨j,h1,h2⟩:=adX hp hid
 simp only [ren,h1]
 exact ⟨h2,vR h1⟩
theorem CR (hp:jr p n=true) {id:Nat} (hid:¬ id < n):ren p id=id:=by
 simp only [jr,Bool.and_eq_true] at hp
 cases hj:idxOf id p with
 | some j =>
  have:=List.all_eq_true.1 hp.2 id (List.mem_of_getElem? (vR hj))
  exact (hid (by simpa using this)).elim
 | none=>simp only [ren,hj]
theorem ae0 (hp:jr p n=true) {i j:Nat} (h:ren p i=ren p j):i=j:=by
 by_cases hi:i < n
 ·by_cases hj:j < n
  ·have h1:=(qD hp hi).2
   rw [h,(qD hp hj).2] at h1
   exact (Option.some.inj h1).symm
  ·rw [CR hp hj] at h
   have:=(qD hp hi).1
   omega
 ·by_cases hj:j < n
  ·rw [CR hp hi] at h
   have:=(qD hp hj).1
   omega
  ·rw [CR hp hi,CR hp hj] at h;exact h
end
def wW (p:List Nat):Nat ⊕ Nat→Nat ⊕ Nat
 | .inl t=>.inl t
 | .inr i=>.inr (ren p i)
def G.ren (g:G) (p:List Nat):G :=
 { aL:=g.aL,own:=fun b=>(g.own b).map (wW p),n:=g.n,loc:=fun k=>match p[k]? with
     | some i=>g.loc i
     | none=>g.loc k,TE:=g.TE,TB:=fun k=>match p[k]? with
     | some i=>g.TB i
     | none=>g.TB k }
section
variable {C:Ctx} {g:G} {st:St} {a:Act} {w:World} {p:List Nat}
theorem G.Jl (hp:jr p g.n=true) {id:Nat} (hid:id < g.n):(g.ren p).loc (Rf.ren p id)=g.loc id:=by simp only [G.ren,(qD hp hid).2]
theorem G.af5 (hp:jr p g.n=true) {id:Nat} (hid:id < g.n):(g.ren p).TB (Rf.ren p id)=g.TB id:=by simp only [G.ren,(qD hp hid).2]
theorem UL (r:Root):(r.ren p).holder=wW p r.holder:=by cases r<;>rfl
theorem adY (hp:jr p g.n=true) {h k:Nat ⊕ Nat} (e:wW p h=wW p k):h=k:=by
 cases h<;>cases k<;>simp only [wW,Sum.inl.injEq,Sum.inr.injEq,reduceCtorEq] at e
 ·rw [e]
 ·rw [ae0 hp e]
theorem yD (hp:jr p g.n=true) {b:Nat} {h:Nat ⊕ Nat}:(g.ren p).own b=some (wW p h)↔g.own b=some h:=by
 simp only [G.ren,Option.map_eq_some_iff]
 constructor
 ·rintro ⟨k,h1,h2⟩
  rw [h1,adY hp h2]
 ·intro h1;exact ⟨h,h1,rfl⟩
mutual
theorem aV.ren (hp:jr p g.n=true) {v:Value} {d:D} {T:List Nat}:aV g w v d T→aV (g.ren p) w v (d.ren p) T
 | .v h=>.v h
 | .ptr h=>by
  rw [← G.Jl hp h,D.ren]
  exact .ptr (qD hp h).1
 | .agg h=>by rw [D.ren];exact .agg (h.ren hp)
 | .aD h=>by rw [D.ren];exact .aD (h.ren hp)
 | .fn h=>by rw [D.ren];exact .fn (h.ren hp)
theorem bZ.ren (hp:jr p g.n=true) {vs:List Value} {ds:List D} {T:List Nat}:bZ g w vs ds T→bZ (g.ren p) w vs (uC p ds) T
 | .nil=>.nil
 | .cons h1 h2=>by rw [uC];exact .cons (h1.ren hp) (h2.ren hp)
end
theorem Jm (hp:jr p g.n=true) {r:Root} {v:Value} (h:dW g a w r=some v):dW (g.ren p) a w (r.ren p)=some v:=by
 cases r with
 | t x=>exact h
 | b id c =>
  simp only [dW,Root.ren] at h ⊢
  split at h
  ·rename_i hc
   have e1:=G.Jl hp hc.1
   have e2:(g.ren p).own (g.loc id)=some (.inr (Rf.ren p id)):=(yD hp (h:=.inr id)).2 hc.2
   rw [if_pos ⟨(qD hp hc.1).1,by rw [e1];exact e2⟩,e1]
   exact h
  ·cases h
theorem jM.ren (hp:jr p g.n=true) {v:Value} {x:X} {T:List Nat} (h:jM g a w v x T):jM (g.ren p) a w v (x.ren p) T:=by
 cases x with
 | d d=>exact aV.ren hp h
 | al q =>
  refine ⟨h.1,?_⟩
  have h:=h.2
  cases q with
  | top r=>exact Jm hp h
  | iY r sz i j =>
   simp only [pv,Pl.ren] at h ⊢
   cases hv:dW g a w r with
   | none=>rw [hv] at h;cases h
   | some u =>
    rw [hv] at h
    rw [Jm hp hv]
    simp only [Option.bind_some] at h ⊢
    cases hb:u.ownBlock with
    | none=>rw [hb] at h;cases h
    | some b =>
     rw [hb] at h
     simp only at h ⊢
     split at h
     ·rename_i ho
      rw [if_pos (by rw [UL];exact (yD hp).2 ho)];exact h
     ·cases h
 | pa r sz i j =>
  obtain ⟨h1,b,h2,h3,h4⟩:=h
  refine ⟨h1,b,?_,by rw [UL];exact (yD hp).2 h3,h4⟩
  cases hu:dW g a w r with
  | none=>rw [hu] at h2;cases h2
  | some u=>rw [hu] at h2;rw [Jm hp hu];exact h2
 | dead=>trivial
theorem aH.ren (S:aH C g st a w) (hp:jr p st.box.length=true) (hL:C.L.length=0∨∀ i,i < C.L.length→p[i]? = some i):aH C (g.ren p) ⟨Ah p st.env,D8 p st.box⟩ a w:=by
 have hp':jr p g.n=true:=by rw [S.n];exact hp
 have hpl:p.length=g.n:=by simp only [jr,Bool.and_eq_true] at hp';exact Nat.eq_of_beq_eq_true hp'.1.1
 refine ⟨S.defers,S.tmps,S.os,S.tape,S.output,S.size,S.frame,S.aL,S.dM,?_,?_,S.nV,?_,?_,?_,?_,S.tab⟩
 ·simp only [G.ren,D8,List.length_map];exact hpl.symm
 ·intro t x hx
  simp only [Va] at hx
  cases hl:look st.env t with
  | none=>rw [hl] at hx;cases hx
  | some y =>
   rw [hl] at hx
   simp only [Option.map_some,Option.some.injEq] at hx
   subst hx
   obtain ⟨h1,h2,h3⟩:=S.env t y hl
   exact ⟨h1,jM.ren hp' h2,fun b hb=>(yD hp' (h:=.inl t)).2 (h3 b hb)⟩
 ·intro k b hb
  simp only [D8,List.getElem?_map,Option.map_eq_some_iff] at hb
  obtain ⟨i,hi,rfl⟩:=hb
  have hin:i < g.n:=by
   simp only [jr,Bool.and_eq_true] at hp'
   simpa using List.all_eq_true.1 hp'.2 i (List.mem_of_getElem? hi)
  have hil:i < st.box.length:=by rw [← S.n];exact hin
  have hk:Rf.ren p i=k:=by
   have hd:p.Nodup:=by simp only [jr,Bool.and_eq_true] at hp';exact Cb hp'.1.2
   exact Hw hd (qD hp' hin).2 hi
  obtain ⟨b0,hb0⟩:∃ b0,st.box[i]? = some b0:=⟨_,List.getElem?_eq_getElem hil⟩
  obtain ⟨h1,h2⟩:=S.box i b0 hb0
  rw [hb0,← hk,G.Jl hp' hin,G.af5 hp' hin]
  refine ⟨?_,fun b hb=>(yD hp' (h:=.inr i)).2 (h2 b hb)⟩
  cases b0 with
  | cells cs =>
   obtain ⟨cur,e,A,q1,q2,q3,q4⟩:=h1
   exact ⟨cur,e,A,q1,q2,q3.ren hp',q4⟩
  | iter s pos=>exact h1
  | gone=>exact h1
 ·intro k
  simp only [G.ren]
  split
  ·exact S.mr _
  ·exact S.mr _
 ·intro b h ho
  simp only [G.ren,Option.map_eq_some_iff] at ho
  obtain ⟨k,h1,_⟩:=ho
  exact S.own b k h1
 ·intro i l h
  obtain ⟨h1,h2⟩:=S.kK i l h
  have hlt:=(List.getElem?_eq_some_iff.1 h).1
  refine ⟨h1,?_⟩
  rcases hL with hL | hL
  ·omega
  ·simp only [G.ren,hL i hlt];exact h2
end
theorem aH.pK {C:Ctx} {g:G} {st:St} {a:Act} {w:World} (S:aH C g st a w) {t id off:Nat} {us:List V} (ht:look st.env t=some (.d (.ptr id off))) (hb:st.box[id]? = some (.cells (dv us))) :
 ∃ g',aH C g' { env:=(t,.d (.v (.pt ((aX us).drop off)))) :: kill (jw id) st.env,box:=st.box.set id .gone } a w:=by
 obtain ⟨Bj,htx,hto⟩:=S.env t _ ht
 have htx:aV g w (a.tmps.getD t undef) (.ptr id off) (g.TE t):=htx
 obtain ⟨⟨cur,el,A,hT,hh,hr,hc1⟩,hown⟩:=S.box id _ hb
 have hid:id < st.box.length:=(List.getElem?_eq_some_iff.1 hb).1
 have hTt:g.TE t=[]:=htx.bI rfl
 have hx:a.tmps.getD t undef=.pointer (some ⟨g.loc id,off,none⟩):=by
  generalize a.tmps.getD t undef=v at htx
  generalize g.TE t=T at htx
  cases htx
  rfl
 let g':G:={ g with aL:=g.aL.share (g.TB id),own:=fun b=>if b∈g.TB id then none else g.own b,TB:=fun i=>if i=id then [] else g.TB i }
 have k:dI g g' w w:=⟨fun b hb=>.inl hb,Nat.le_refl _,fun _ _=>rfl,fun _ _=>rfl⟩
 have hm:∀ b h,g.own b=some h→h≠.inr id→b∉g.TB id:=fun b h ho hn hb=>hn (by rw [hown b hb] at ho;exact (Option.some.inj ho).symm)
 refine ⟨g',S.change (fun h=>h=.inr id) S.defers S.tmps rfl rfl rfl (Nat.le_refl _) (fun b hb=>.inl hb) ?_ ?_ (by simpa using S.n) (Nat.le_refl _) (fun _ _=>rfl) (fun _ _ _=>rfl) ?_ ?_ ?_ ?_ ?_ ?_ ?_ ?_⟩
 ·rintro b (hb | hb)
  ·exact .inl hb
  ·exact .inr (.inr ⟨_,hown b hb⟩)
 ·rintro b (hb | hb)
  ·exact S.dM b hb
  ·exact (S.own b _ (hown b hb)).2.1
 ·intro b h ho hc
  simp only [g']
  rw [if_neg (hm b h ho hc),ho]
 ·intro t' _;exact ⟨rfl,rfl⟩
 ·intro i hi
  have hi':i≠id:=fun e=>hi (by rw [e])
  exact ⟨by simp [g',hi'],by rw [List.getElem?_set_ne (fun e=>hi' e.symm)]⟩
 ·intro s y hy
  simp only [look] at hy
  cases hbq:Nat.beq s t with
  | true =>
   have:=Nat.eq_of_beq_eq_true hbq
   subst this
   rw [hbq] at hy
   cases hy
   have eT:g'.TE s=[]:=hTt
   refine .inr ⟨Bj,?_,by rw [eT];simp⟩
   rw [eT,hx]
   have hsh:=(hr.jO.share (S:=g.TB id) (fun b hb=>by rw [hT];simp [hb]))
   obtain ⟨A1,B1,gu,_,hd⟩:=hsh.cut off
   have hB:=(List.append_eq_nil_iff.1 gu.symm).2
   subst hB
   refine .v (.pt hd (fun u hu=>hc1 u (List.mem_of_mem_drop hu)) (.inr (by rw [hT];simp)) (fun j u hj=>?_))
   rw [List.getElem?_drop] at hj
   simp only [World.cell?,hh]
   simpa using hj
  | false =>
   rw [hbq] at hy
   simp only [mQ] at hy
   refine .inl ⟨(fun e=>by cases e),?_⟩
   cases hl:look st.env s with
   | none=>rw [hl] at hy;cases hy
   | some z =>
    rw [hl] at hy
    simp only [Option.map_some,Option.some.injEq] at hy
    by_cases hdd:y=.dead
    ·exact .inr ⟨hdd,z,rfl⟩
    ·rcases X.iL (jw id) z with h | ⟨h,_⟩
     ·exact (hdd (by rw [← hy,h])).elim
     ·rw [h] at hy
      subst hy
      exact .inl ⟨rfl,X.vN (q:=.b id 0) h hdd⟩
 ·intro i b hb' hc
  cases hc
  rw [List.getElem?_set_self hid] at hb'
  cases hb'
  have:g'.TB id=[]:=by simp [g']
  rw [this]
  exact ⟨rfl,by simp⟩
 ·intro s hs;cases hs
 ·intro i hi
  cases hi
  simp [g']
 ·intro b h ho
  simp only [g'] at ho
  split at ho
  ·cases ho
  ·rename_i hnb
   refine .inl ⟨ho,?_⟩
   rintro (h1 | h1)
   ·exact (S.own b h ho).2.2 h1
   ·exact hnb h1
theorem Good.YA {P:Program} {C:Ctx} {Q:Exit→St→Prop} {st:St} (id:Nat) {us ds:List V} {c:Code} (hb:st.box[id]? = some (.cells (dv us))) (f:aZ us ds) (h:Good P C c Q { st with box:=st.box.set id (.cells (dv ds)) }):Good P C c Q st :=
 (Wk.box id hb f (fun g a w S=>⟨g,S⟩)).good h
def XN (t id off:Nat) (us':List V) (st:St):St:={ env:=(t,.d (.v (.pt us'))) :: kill (jw id) st.env,box:=st.box.set id .gone }
theorem Good.pK {P:Program} {C:Ctx} {Q:Exit→St→Prop} {st:St} (t id off:Nat) {us us':List V} {c:Code} (ht:look st.env t=some (.d (.ptr id off))) (hb:st.box[id]? = some (.cells (dv us))) (hu:(aX us).drop off=us') (h:Good P C c Q (XN t id off us' st)):Good P C c Q st:=fun g a w S=>by
 subst hu
 obtain ⟨g',S'⟩:=S.pK ht hb
 exact h g' a w S'
theorem Wk.aL {C:Ctx} {st st':St} (t id off:Nat) {us us':List V} (ht:look st.env t=some (.d (.ptr id off))) (hb:st.box[id]? = some (.cells (dv us))) (hu:(aX us).drop off=us') (h:Wk C (XN t id off us' st) st'):Wk C st st':=fun g a w S=>by
 subst hu
 obtain ⟨g',S'⟩:=S.pK ht hb
 exact h g' a w S'
abbrev S (s:ByteArray):V:=.lit (.string s)
abbrev I (n:Int):V:=.lit (.int .i64 n)
abbrev K (k:IntKind) (n:Int):V:=.lit (.int k n)
abbrev B (b:Bool):V:=.lit (.bool b)
abbrev Fl (n:Nat):V:=.lit (.float .f64 n)
abbrev Cx (p:Nat × Nat):V:=.lit (.complex .f64 p.1 p.2)
section
variable {P:Program} {C:Ctx} {Q:Exit→St→Prop} {st st':St}
def aiV (I:St→Prop) (Q:Exit→St→Prop):Exit→St→Prop
 | .normal,st=>I st
 | e,st=>Q e st
theorem Good.cut (I:St→Prop) {c:Code} (h:Good P C c (aiV I Q) st) (k:∀ st,I st→Q .normal st):Good P C c Q st :=
 h.mono fun e st h=>by
  cases e with
  | normal=>exact k st h
  | _=>exact h
theorem uu.mono {c:Code}:∀ {m n:Nat} {st:St},m≤n→uu P C c Q m st→uu P C c Q n st
 | 0,_,_,_,h=>h.elim
 | m+1,0,_,h,_=>by omega
 | m+1,n+1,st,h,r=>Good.mono r fun e st' h'=>by
  cases e with
  | normal=>exact uu.mono (Nat.le_of_succ_le_succ h) h'
  | _=>exact h'
theorem Good.dN {x:Code} (I:Nat→St→Prop) (n:Nat) (h0:I n st) (hs:∀ n,(∀ st,¬ I 0 st)∧∀ st,I (n+1) st→Good P C x (thenS (fun st=>∃ m,m≤n∧I m st) Q) st):Good P C (.loop x) Q st:=by
 refine Good.loop n ?_
 have all:∀ n m st,m≤n→I m st→uu P C x Q m st:=by
  intro n
  induction n with
  | zero =>
   intro m st hm h
   have:m=0:=by omega
   subst this
   exact ((hs 0).1 st h).elim
  | succ n ih =>
   intro m st hm h
   cases m with
   | zero=>exact ((hs 0).1 st h).elim
   | succ m =>
    refine ((hs m).2 st h).mono fun e st' h'=>?_
    cases e with
    | normal =>
     obtain ⟨m',hm',hI⟩:=h'
     exact (ih m' st' (by omega) hI).mono hm'
    | _=>exact h'
 exact all n n st (Nat.le_refl _) h0
theorem Good.share (t:Nat) {d u:D} {c:Code} (ht:look st.env t=some (.d d)) (hu:d.shr=u) (h:Good P C c Q (st.jN t (.d u))):Good P C c Q st:=fun g a w S=>by
 subst hu
 exact h _ a w (S.jI ht).2
end
theorem aT {α:Type} (f:α→V) (l:List α):((l.map f).length:Int)=(l.length:Int):=by rw [List.length_map]
theorem gz {α:Type} (f:α→V) {l:List α} {n:Int} (c:n < (l.length:Int)):n < ((l.map f).length:Int):=by rw [List.length_map];exact c
theorem sU {α:Type} (f:α→V) {l:List α} {n:Int} {m:Nat} {X:V} (c:n < (l.length:Int)):n < (((l.map f).set m X).length:Int):=by rw [List.length_set,List.length_map];exact c
theorem sV {α:Type} (f:α→V) {l:List α} {n:Int} (c:n≤(l.length:Int)):n≤((l.map f).length:Int):=by rw [List.length_map];exact c
theorem aF {α:Type} (f:α→V) (d:α) {l:List α} {n:Int} (h0:0≤n) (c:n < (l.length:Int)):(l.map f)[n.toNat]? = some (f (l.getD n.toNat d)):=by
 have:n.toNat < l.length:=by omega
 rw [List.getElem?_map,List.getD_eq_getElem?_getD,List.getElem?_eq_getElem this]
 rfl
theorem wX {α:Type} (f:α→V) {l:List α} {n:Nat} {x:α}:(l.map f).set n (f x)=(l.set n x).map f:=by rw [List.map_set]
theorem sW {α:Type} (f:α→V) {l:List α} {n:Int} {X:V} (h0:0≤n) (c:n < (l.length:Int)):((l.map f).set n.toNat X)[n.toNat]? = some X:=by
 by_cases h:n.toNat < l.length
 ·rw [List.getElem?_set_self (by rw [List.length_map];exact h)]
 ·omega
theorem setH {α:Type} (f:α→V) {l:List α} {n:Nat} {X:V} {x:α}:((l.map f).set n X).set n (f x)=(l.set n x).map f:=by rw [List.set_set,List.map_set]
theorem dY {α:Type} (f:α→V) (l m:List α) {es:List V} (h:aZ es (m.map f)):aZ (l.map f++es) ((l++m).map f):=by
 rw [List.map_append];exact (aZ.refl _).app h
theorem XO {α:Type} (f:α→V) {l:List α} {n:Nat}:(l.map f).take n=(l.take n).map f:=List.map_take.symm
theorem aiW {α:Type} (f:α→V) {l:List α} {n m:Nat}:((l.map f).drop n).take (m - n)=((l.take m).drop n).map f:=by
 rw [List.drop_take,List.map_take,List.map_drop]
theorem yG {α:Type} (f:α→V) {l:List α} {n:Nat}:((l.map f).drop n).take ((l.map f).length - n)=(l.drop n).map f:=by
 rw [List.take_of_length_le (by rw [List.length_drop];exact Nat.le_refl _),List.map_drop]
theorem aS {α:Type} (o:Option Nat) (sz:Nat) (f g:α→V) (l:List α) (h:∀ x,(f x).shr=g x):(V.row o sz (l.map f)).shr=.row none sz (l.map g):=by
 rw [V.shr,qx,List.map_map]
 congr 1
 exact List.map_congr_left fun x _=>h x
theorem bM {α:Type} [BEq α] [LawfulBEq α] {a b:α} (h:a=b):(a != b)=false:=by rw [h];exact bne_self_eq_false b
theorem eB {b:Bool} (h:b=false):(!b)=true:=by rw [h];rfl
theorem fw {b:Bool} (h:b=true):(!b)=false:=by rw [h];rfl
theorem ifN {α:Type} {p:Prop} [Decidable p] {x:Option α} {r:α} (h:(if p then none else x)=some r):¬ p∧x=some r:=by
 by_cases c:p
 ·rw [if_pos c] at h;cases h
 ·rw [if_neg c] at h;exact ⟨c,h⟩
theorem dV (l:List UInt8):(⟨l.toArray⟩:ByteArray).toList=l:=by rw [ByteArray.toList_eq]
def wz (l:Nat):List (Nat × Code × (Nat→St→Prop))→Option (Nat→St→Prop)
 | []=>none
 | (k,_,I) :: ls=>match Nat.beq l k with
  | true=>some I
  | false=>wz l ls
def Db (c:Code) (ls:List (Nat × Code × (Nat→St→Prop))) (b:Nat→Prop) (Q:Exit→St→Prop):Exit→St→Prop
 | .goto l,st=>match wz l ls with
  | some I=>∃ n,b n∧I n st
  | none=>findLabel c l=none∧Q (.goto l) st
 | e,st=>Q e st
theorem Vb {l:Nat}:∀ {ls:List (Nat × Code × (Nat→St→Prop))} {I:Nat→St→Prop},wz l ls=some I→∃ R,(l,R,I)∈ls
 | [],_,h=>by simp [wz] at h
 | (k,R,I') :: ls,I,h=>by
  simp only [wz] at h
  split at h
  ·rename_i hb
   cases h
   rw [Nat.eq_of_beq_eq_true hb]
   exact ⟨R,by simp⟩
  ·obtain ⟨R',hm⟩:=Vb h
   exact ⟨R',by simp [hm]⟩
theorem All.get {α:Type} {f:α→Prop}:∀ {l:List α},All (l.map f)→∀ x∈l,f x
 | [],_,x,h=>by cases h
 | y :: l,.cons h t,x,hx=>by
  rcases List.mem_cons.1 hx with rfl | hx
  ·exact h
  ·exact t.get x hx
theorem Good.scope {P:Program} {C:Ctx} {c:Code} {Q:Exit→St→Prop} {st:St} (ls:List (Nat × Code × (Nat→St→Prop))) (hR:All (ls.map fun x=>findLabel c x.1=some x.2.1))
 (first:Good P C c (Db c ls (fun _=>True) Q) st) (pass:All (ls.map fun x=>∀ n st,x.2.2 n st→Good P C x.2.1 (Db c ls (fun m=>m < n) Q) st)):Good P C (.scope c) Q st:=by
 intro g a w S b k cs
 have hg:∀ l R,findLabel c l=some R→gotoIn l (.inScope c :: k)=some (.code R :: .inScope c :: k):=fun l R hf=>by simp [gotoIn,hf]
 have key:∀ n l I g st a w,wz l ls=some I→I n st→aH C g st a w→∃ R,findLabel c l=some R∧∃ e a' w',(∃ g st,aH C g st a' w'∧Q e st)∧Arrives P (lone (b.at a (.code R :: .inScope c :: k)) cs w) b k cs e a' w':=by
  intro n
  induction n using Nat.strongRecOn with
  | _ n ih =>
   intro l I g st a w hl hI S
   obtain ⟨R,hm⟩:=Vb hl
   have hf:findLabel c l=some R:=hR.get _ hm
   refine ⟨R,hf,?_⟩
   obtain ⟨e,a₁,w₁,⟨g₁,lW,lZ,hq⟩,harr⟩:=pass.get _ hm n st hI g a w S b (.inScope c :: k) cs
   cases e with
   | normal=>exact ⟨.normal,a₁,w₁,⟨g₁,lW,lZ,hq⟩,Steps.trans harr (.one step_inScope)⟩
   | exit id=>exact ⟨.exit id,a₁,w₁,⟨g₁,lW,lZ,hq⟩,fun k' hk=>harr k' (by simp [exitTo,hk])⟩
   | goto l' =>
    simp only [Db] at hq
    split at hq
    ·rename_i I' hl'
     obtain ⟨n',hlt,hI'⟩:=hq
     obtain ⟨R',hf',e₂,a₂,w₂,hq₂,harr₂⟩:=ih n' hlt l' I' g₁ lW a₁ w₁ hl' hI' lZ
     exact ⟨e₂,a₂,w₂,hq₂,.of_steps (harr _ (hg l' R' hf')) harr₂⟩
    ·exact ⟨.goto l',a₁,w₁,⟨g₁,lW,lZ,hq.2⟩,fun k' hk=>harr k' (by simp [gotoIn,hq.1,hk])⟩
   | ret=>exact ⟨_,a₁,w₁,⟨g₁,lW,lZ,hq⟩,harr⟩
   | panic ch=>exact ⟨_,a₁,w₁,⟨g₁,lW,lZ,hq⟩,harr⟩
   | outgrown=>exact ⟨_,a₁,w₁,⟨g₁,lW,lZ,hq⟩,harr⟩
 obtain ⟨e,a₁,w₁,⟨g₁,lW,lZ,hq⟩,harr⟩:=first g a w S b (.inScope c :: k) cs
 cases e with
 | normal=>exact ⟨.normal,a₁,w₁,⟨g₁,lW,lZ,hq⟩,.head step_scope (Steps.trans harr (.one step_inScope))⟩
 | exit id=>exact ⟨.exit id,a₁,w₁,⟨g₁,lW,lZ,hq⟩,fun k' hk=>.head step_scope (harr k' (by simp [exitTo,hk]))⟩
 | goto l' =>
  simp only [Db] at hq
  split at hq
  ·rename_i I' hl'
   obtain ⟨n',_,hI'⟩:=hq
   obtain ⟨R',hf',e₂,a₂,w₂,hq₂,harr₂⟩:=key n' l' I' g₁ lW a₁ w₁ hl' hI' lZ
   exact ⟨e₂,a₂,w₂,hq₂,.of_steps (.head step_scope (harr _ (hg l' R' hf'))) harr₂⟩
  ·exact ⟨.goto l',a₁,w₁,⟨g₁,lW,lZ,hq.2⟩,fun k' hk=>.head step_scope (harr k' (by simp [gotoIn,hq.1,hk]))⟩
 | ret=>exact ⟨_,a₁,w₁,⟨g₁,lW,lZ,hq⟩,.of_steps (.one step_scope) harr⟩
 | panic ch=>exact ⟨_,a₁,w₁,⟨g₁,lW,lZ,hq⟩,.of_steps (.one step_scope) harr⟩
 | outgrown=>exact ⟨_,a₁,w₁,⟨g₁,lW,lZ,hq⟩,.of_steps (.one step_scope) harr⟩
def Gq (o e:Nat):Option Nat:=match o with
 | 0=>none
 | _+1=>some e
def rd (xs:List Int) (i:Int):Int:=xs.getD i.toNat 0
def iH {α:Type} (d:α) (xs:List α) (i:Int):α:=xs.getD i.toNat d
def bytesOf (s:ByteArray):List Int:=s.data.toList.map fun b=>(b.toNat:Int)
theorem oK {α β:Type} {a:α} {f:α→Option β} {r:Option β} (h:(some a).bind f=r):f a=r:=h
theorem Dc {α:Type} (f:α→V) (n:Nat) (x:α):List.replicate n (f x)=(List.replicate n x).map f:=by rw [List.map_replicate]
theorem Kg {m:Int} {L:Nat} (h:m.toNat≤L):m≤(L:Int):=by omega
theorem ay {a a':V} {l l':List V} (h:a.shr=a') (t:aX l=l'):aX (a :: l)=a' :: l':=by rw [aX,h,t]
theorem bJ {l l':List V} (h:aX l=l'):V.pt (aX l)=.pt l':=by rw [h]
theorem aiX {l l':List V} (h:aX l=l'):(V.agg l).shr=.agg l':=by rw [V.shr,h]
theorem eZ {α:Type} (f:α→V) {l:List α} {L:Nat} (c:l.length < L):(l.map f).length+1≤L:=by rw [List.length_map];exact c
theorem XP {α:Type} (f:α→V) {l:List α} {n L:Nat} (c:l.length+n < L):(l.map f).length+n≤L:=by rw [List.length_map];omega
theorem yR {α β:Type} (f:α→V) (g:β→V) {l:List α} {m:List β} {L:Nat} (c:l.length+m.length < L):(l.map f).length+(m.map g).length≤L:=by rw [List.length_map,List.length_map];omega
theorem ack (s:ByteArray):mo s=(bytesOf s).map (K .u8):=by
 unfold mo bytesOf
 rw [List.map_map];rfl
theorem D9 (l:List Int) (s:ByteArray):aZ (l.map (K .u8)++mo s) ((l++bytesOf s).map (K .u8)):=by
 rw [List.map_append,ack];exact aZ.refl _
theorem Ea (f:Int→V) {l:List Int} {s:ByteArray} {L:Nat} (c:l.length+s.size < L):(l.map f).length+(mo s).length≤L:=by
 rw [List.length_map,mo,List.length_map,Array.length_toList]
 exact Nat.le_of_lt c
theorem lg (l:List Int):CP (l.map (K .u8)) (strOfNums l):=⟨l,rfl,rfl⟩
theorem eP {a b l m:List UInt8} (h:a=l) (k:b=m):Value.bool (a == b)=.bool (l == m):=by rw [h,k]
theorem uD {a b l m:List UInt8} (h:a=l) (k:b=m):Value.bool (!(a == b))=.bool (l != m):=by rw [h,k];rfl
theorem Eb {o:Option Nat} {sz:Nat} {m n:List V} (h:aZ m n):Fit (.row o sz m) (.row o sz n):=.row h
def dG {α:Type} (P:Program) (s:Sem α):Prop:=∀ w w' w1 x,s.run P w=.ok x w1→w1=w∧s.run P w'=.ok x w'
section
variable {P:Program} {α β:Type}
theorem dG.pure (a:α):dG P (pure a:Sem α):=fun w w' w1 x h=>by
 simp only [Sem.run_pure,Result.ok.injEq] at h ⊢
 obtain ⟨rfl,rfl⟩:=h
 exact ⟨rfl,by simp⟩
theorem dG.halt (h:Halt):dG P (.halt h:Sem α):=fun w w' w1 x hh=>by cases hh
theorem dG.stuck (s:String):dG P (Go.stuck s:Sem α):=.halt _
theorem dG.Kh (s:Unsupported):dG P (unsupported s:Sem α):=.halt _
theorem dG.bind {x:Sem α} {f:α→Sem β} (hx:dG P x) (hf:∀ a,dG P (f a)):dG P (x >>= f):=fun w w' w1 b h=>by
 simp only [Sem.run_bind] at h ⊢
 cases hr:x.run P w with
 | ok a w2 =>
  rw [hr] at h
  simp only [Result.andThen_ok] at h
  obtain ⟨rfl,e⟩:=hx w w' w2 a hr
  rw [e]
  simp only [Result.andThen_ok]
  exact hf a w2 w' w1 b h
 | halt q w2=>rw [hr] at h;cases h
theorem dG.prog:dG P program:=fun w w' w1 x h=>by
 simp only [run_program,Result.ok.injEq] at h ⊢
 obtain ⟨rfl,rfl⟩:=h
 exact ⟨rfl,by simp⟩
theorem dG.underlying (t:TypeId):dG P (underlying t):=by
 unfold Go.underlying
 refine .bind .prog fun p=>?_
 split
 ·exact .pure _
 ·exact .stuck _
theorem dG.info (t:TypeId):dG P (typeInfo t):=by
 unfold typeInfo
 refine .bind .prog fun p=>?_
 split
 ·exact .pure _
 ·exact .stuck _
theorem dG.sizeOf (t:TypeId):dG P (sizeOf t):=.bind (.info t) fun i=>.pure _
theorem dG.isAgg (t:TypeId):dG P (isAgg t):=by
 unfold Go.isAgg
 refine .bind (.underlying t) fun d=>?_
 split<;>exact .pure _
theorem dG.part (t:TypeId) (cs:Array Value) (o:Nat):dG P (part t cs o):=by
 unfold Go.part
 refine .bind (.isAgg t) fun b=>?_
 split
 ·exact .bind (.sizeOf t) fun n=>.pure _
 ·split
  ·exact .pure _
  ·exact .stuck _
theorem dG.asIntOf (v:Value):dG P (asIntOf v):=by
 unfold Go.asIntOf
 split
 ·exact .pure _
 ·exact .Kh _
 ·exact .stuck _
theorem dG.asBool (v:Value):dG P (asBool v):=by
 unfold Go.asBool
 split
 ·exact .pure _
 ·exact .stuck _
theorem dG.asAgg (v:Value):dG P (asAgg v):=by
 unfold Go.asAgg
 split
 ·exact .pure _
 ·exact .stuck _
theorem dG.sureAddr (v:Value):dG P (Instr.sureAddr v):=by
 unfold Instr.sureAddr
 split
 ·exact .pure _
 ·exact .stuck _
def mY {α:Type} (P:Program) (s:Sem α):Prop:=∀ w w1 x,s.run P w≠.ok x w1
theorem mY.indep {s:Sem α} (h:mY P s):dG P s:=fun w w' w1 x hh=>(h w w1 x hh).elim
theorem mY.halt (h:Halt):mY P (.halt h:Sem α):=fun w w1 x hh=>by cases hh
theorem mY.bind {x:Sem α} {f:α→Sem β} (hf:∀ a,mY P (f a)):mY P (x >>= f):=fun w w1 b h=>by
 simp only [Sem.run_bind] at h
 cases hr:x.run P w with
 | ok a w2=>rw [hr] at h;exact hf a _ _ _ h
 | halt q w2=>rw [hr] at h;cases h
theorem mY.rt (e:RuntimeError):mY P (runtimePanic e:Sem α):=by
 unfold runtimePanic
 refine .bind fun p=>?_
 cases e<;>first | exact .halt _ | (unfold goPanic;exact .halt _) | (unfold goPanic;exact .bind fun _=>.bind fun _=>.halt _)
theorem mY.bounds (k:IntKind) (x y:Int) (c:BoundsCode):mY P (boundsPanic k x y c:Sem α):=by
 unfold boundsPanic
 dsimp only
 split<;>exact .bind fun b=>.rt _
theorem dG.zero (t:TypeId):dG P (zeroValue t):=by
 unfold zeroValue
 refine .bind (.info t) fun i=>?_
 split
 ·exact .pure _
 ·exact .Kh _
theorem dG.indexAt (t:TypeId) (x i:Value):dG P (Instr.indexAt t x i):=by
 unfold Instr.indexAt
 repeat' (first | exact .pure _ | exact .stuck _ | exact .Kh _ | exact (mY.bounds _ _ _ _).indep | exact .sizeOf _ | exact .underlying _ | exact .sureAddr _ | exact .asIntOf _ | (refine .bind ?_ fun q=>?_) | split | dsimp only)
theorem dG.extract (x:Value) (i:Nat):dG P (Instr.extract x i):=by
 unfold Instr.extract
 repeat' (first | exact .pure _ | exact .stuck _ | split)
theorem dG.field (t:TypeId) (x:Value) (i:Nat):dG P (Instr.field t x i):=by
 unfold Instr.field
 repeat' (first | exact .pure _ | exact .stuck _ | exact .underlying _ | exact .asAgg _ | exact .part _ _ _ | (refine .bind ?_ fun q=>?_) | split)
theorem dG.index (t:TypeId) (x i:Value):dG P (Instr.index t x i):=by
 unfold Instr.index
 repeat' (first | exact .pure _ | exact .stuck _ | exact (mY.bounds _ _ _ _).indep | exact .sizeOf _ | exact .underlying _ | exact .asIntOf _ | exact .part _ _ _ | (refine .bind ?_ fun q=>?_) | split | dsimp only)
theorem dG.mapM {α β:Type} {f:α→Sem β} (hf:∀ a,dG P (f a)):∀ l:List α,dG P (l.mapM f)
 | []=>by rw [List.mapM_nil];exact .pure _
 | a :: l=>by
  rw [List.mapM_cons]
  exact .bind (hf a) fun b=>.bind (dG.mapM hf l) fun bs=>.pure _
theorem dG.mapA {α β:Type} {f:α→Sem β} (hf:∀ a,dG P (f a)) (l:Array α):dG P (l.mapM f):=by
 rw [Array.mapM_eq_mapM_toList]
 intro w w' w1 x h
 simp only [Sem.run_map] at h ⊢
 cases hr:(l.toList.mapM f).run P w with
 | ok a w2 =>
  rw [hr] at h
  obtain ⟨e1,e2⟩:=dG.mapM hf l.toList w w' w2 a hr
  rw [e2]
  simp only [Result.andThen_ok,Result.ok.injEq] at h ⊢
  exact ⟨by rw [← h.2,e1],h.1,trivial⟩
 | halt q w2=>rw [hr] at h;cases h
theorem dG.build (t:TypeId) (ps:Array (Nat × Value)):dG P (Instr.build t ps):=by
 unfold Instr.build
 repeat' (first | exact .pure _ | exact .stuck _ | exact .zero _ | exact .sizeOf _ | exact .underlying _ | exact .mapA (fun f=>.bind (.sizeOf _) fun _=>.pure _) _ | (refine .bind ?_ fun q=>?_) | split)
end
section
variable {P:Program}
def rq (ρ:Operand→Value):Op→Bool
 | .move _ | .assign _ | .field _ _ _ | .extract _ _ | .build _ _ | .indexAddr _ _ _ | .pick _ _ _=>true
 | .nilCheck x=>match ρ x with
  | .pointer (some _)=>true
  | _=>false
 | _=>false
theorem dG.op {ρ:Operand→Value} {o:Oper} (h:rq ρ o.op=true):dG P (execOp ρ o):=by
 unfold execOp
 cases ho:o.op<;>rw [ho] at h<;>simp only [rq] at h<;>try (cases h;done)
 all_goals dsimp only
 case move=>exact .pure _
 case assign=>exact .pure _
 case pick=>exact .bind (.asBool _) fun _=>.pure _
 case build=>exact .bind (.build _ _) fun _=>.pure _
 case field=>exact .bind (.field _ _ _) fun _=>.pure _
 case indexAddr=>exact .bind (.indexAt _ _ _) fun _=>.pure _
 case extract=>exact .bind (.extract _ _) fun _=>.pure _
 case nilCheck x =>
  split at h
  ·rename_i a hx;rw [hx];exact .pure _
  ·cases h
end
def Ctx.still (p:aW) (w:World) (N:Nat):Ctx:={ W:=w,p0:=p,Fz:=fun _=>False,N:=N }
def jm (p:aW) (N:Nat) (q:List (Nat × X)) (a:Act) (w:World):Prop:=∃ g,aH (Ctx.still p w N) g ⟨q,[]⟩ a w
section
variable {P:Program} {C:Ctx}
theorem jm.aiY {p:aW} {N:Nat} {q:List (Nat × X)} {g:G} {a:Act} {w:World} (S:aH (Ctx.still p w N) g ⟨q,[]⟩ a w) (b:Nat) (h:g.aL b):p b:=by
 rcases S.aL b h with h1 | h1 | h1
 ·exact h1
 ·have:=S.dM b h
  simp only [Ctx.still] at h1
  omega
 ·exact h1.elim
theorem adZ {o:Oper} {a:Act} {w:World} {next:Act→World→Prop} (hi:dG P (execOp a.eval o)) (hv:∀ w' x,(execOp a.eval o).run P w=.ok x w'→∃ v,x=.value v) (h:o.wp P a w next fun _ _ _=>False) :
 ∃ v,(∀ w',(execOp a.eval o).run P w'=.ok (.value v) w')∧next (a.put o.dst v) w:=by
 unfold Oper.wp at h
 cases hr:(execOp a.eval o).run P w with
 | halt q w1 =>
  rw [hr] at h
  cases q<;>simp only [Oper.upon] at h
 | ok x w1 =>
  obtain ⟨v,rfl⟩:=hv _ _ hr
  rw [hr,Oper.upon_value] at h
  obtain ⟨rfl,_⟩:=hi w w w1 _ hr
  exact ⟨v,fun w'=>(hi w1 w' w1 _ hr).2,h⟩
theorem abN {ρ:Operand→Value} {o:Oper} (h:rq ρ o.op=true) {w w':World} {x:Next} (hr:(execOp ρ o).run P w=.ok x w'):∃ v,x=.value v:=by
 have De:∀ (s:Sem Value),((do let v ← s;pure (Next.value v):Sem Next).run P w=.ok x w')→∃ v,x=.value v:=fun s hs=>by
  simp only [Sem.run_bind] at hs
  cases hq:s.run P w with
  | ok v w2=>rw [hq] at hs;simp only [Result.andThen_ok,Sem.run_pure,Result.ok.injEq] at hs;exact ⟨v,hs.1.symm⟩
  | halt q w2=>rw [hq] at hs;cases hs
 have Df:∀ {w w':World} (v:Value),((pure (Next.value v):Sem Next).run P w=.ok x w')→∃ v,x=.value v:=fun v hs=>by
  simp only [Sem.run_pure,Result.ok.injEq] at hs;exact ⟨v,hs.1.symm⟩
 unfold execOp at hr
 cases ho:o.op<;>rw [ho] at h hr<;>simp only [rq] at h<;>try (cases h;done)
 all_goals dsimp only at hr
 case move=>exact Df _ hr
 case assign=>exact Df _ hr
 case pick c y z =>
  simp only [Sem.run_bind] at hr
  cases hq:(asBool (ρ c)).run P w with
  | ok v w2=>rw [hq] at hr;exact Df _ hr
  | halt q w2=>rw [hq] at hr;cases hr
 case build=>exact De _ hr
 case field=>exact De _ hr
 case indexAddr=>exact De _ hr
 case extract=>exact De _ hr
 case nilCheck y =>
  split at h
  ·rename_i b hx;rw [hx] at hr;exact Df _ hr
  ·cases h
end
section
variable {P:Program} {ops:Array Oper} {Q:Exit→Act→World→Prop}
def anyS (P:Program) (ops:Array Oper) (Q:Exit→Act→World→Prop) (S:Array Bool→World→Prop):Nat→Array Bool→Act→World→Prop
 | 0,L,a,w=>Region.ready .any ops L=[]∧Q .normal a w
 | n+1,L,a,w=>(Region.ready .any ops L=[]→Q .normal a w) ∧
  ∀ i∈Region.ready .any ops L,wpOp P ops Q i (fun a' w'=>S (L.setIfInBounds i true) w'∧anyS P ops Q S n (L.setIfInBounds i true) a' w') a w
theorem anyS.any {S:Array Bool→World→Prop}:∀ (n:Nat) (L:Array Bool) (a:Act) (w:World),anyS P ops Q S n L a w→wpAny P .any ops Q n L a w
 | 0,_,_,_,h=>h
 | n+1,_,_,_,h=>⟨h.1,fun i hi=>wpOp_mono (fun a' w' h'=>anyS.any n _ a' w' h'.2) (h.2 i hi)⟩
def Shut (ops:Array Oper) (L:Array Bool):Prop:=∀ j o,ops[j]? = some o→L.getD j false=true→∀ e∈o.after,Region.binds .any e=true→L.getD e.on false=true
theorem Shut.add {L:Array Bool} (h:Shut ops L) {i:Nat} (hi:i∈Region.ready .any ops L):Shut ops (L.setIfInBounds i true):=by
 intro j o hj hl e he hb
 by_cases hij:i=j
 ·subst hij
  obtain ⟨_,o',ho',hall⟩:=mem_ready.1 hi
  rw [hj] at ho'
  cases ho'
  exact getD_set_true (hall e he hb)
 ·rw [getD_set_ne false hij] at hl
  exact getD_set_true (h j o hj hl e he hb)
def direct (ops:Array Oper) (j:Nat):List Nat:=match ops[j]? with
 | some o=>(o.after.toList.filter fun e=>Region.binds .any e).map (·.on)
 | none=>[]
def yS (ops:Array Oper) (i:Nat):List Nat→Nat→Bool
 | [],j=>(direct ops j).contains i
 | d :: p,j=>(direct ops j).contains d && yS ops i p d
theorem Shut.direct {L:Array Bool} (h:Shut ops L) {j b:Nat} (hj:L.getD j false=true) (hb:b∈direct ops j):L.getD b false=true:=by
 unfold Rf.direct at hb
 split at hb
 ·rename_i o ho
  simp only [List.mem_map,List.mem_filter] at hb
  obtain ⟨e,⟨h1,h2⟩,rfl⟩:=hb
  exact h j o ho hj e (Array.mem_toList_iff.1 h1) h2
 ·cases hb
theorem Shut.path {L:Array Bool} (h:Shut ops L) {i:Nat}:∀ {p:List Nat} {j:Nat},L.getD j false=true→yS ops i p j=true→L.getD i false=true
 | [],j,hj,hp=>h.direct hj (by simpa [yS] using hp)
 | d :: p,j,hj,hp=>by
  simp only [yS,Bool.and_eq_true] at hp
  exact Shut.path h (p:=p) (h.direct hj (by simpa using hp.1)) hp.2
def SL (P:Program) (ops:Array Oper) (Sq:World→Prop) (L:Array Bool) (w:World):Prop:=(∀ j o,ops[j]? = some o→L.getD j false=true→jL P o.op=true)→Sq w
theorem SL.iff {Sq:World→Prop} {L:Array Bool} {w:World} {i:Nat} {o:Oper} (hi:ops[i]? = some o) (hc:jL P o.op=true):SL P ops Sq (L.setIfInBounds i true) w↔SL P ops Sq L w:=by
 unfold SL
 constructor
 ·intro h k
  refine h fun j o' hj hl=>?_
  by_cases hij:i=j
  ·subst hij;rw [hi] at hj;cases hj;exact hc
  ·rw [getD_set_ne false hij] at hl;exact k j o' hj hl
 ·intro h k
  refine h fun j o' hj hl=>?_
  exact k j o' hj (getD_set_true hl)
def Xo (P:Program) (ops:Array Oper) (i:Nat) (ps:List (List Nat)):Bool:=(List.range ops.size).all fun j=>match ops[j]? with
 | some o=>jL P o.op || ps.any fun p=>yS ops i p j
 | none=>true
theorem UM {Sq:World→Prop} {L:Array Bool} {w:World} {i:Nat} {ps:List (List Nat)} (hS:Shut ops L) (ha:Xo P ops i ps=true) (hn:L.getD i true=false) (h:SL P ops Sq L w):Sq w:=by
 refine h fun j o hj hl=>?_
 have hlt:=(Array.getElem?_eq_some_iff.1 hj).1
 have:=List.all_eq_true.1 ha j (List.mem_range.2 hlt)
 simp only [hj,Bool.or_eq_true] at this
 rcases this with h1 | h1
 ·exact h1
 ·obtain ⟨p,_,hp⟩:=List.any_eq_true.1 h1
  have:=hS.path hl hp
  rcases Nat.lt_or_ge i L.size with h' | h'
  ·simp [h'] at hn this;rw [hn] at this;cases this
  ·simp [Array.getElem?_eq_none h'] at hn
theorem anyS.first {Sq R:World→Prop} {i:Nat} {oi:Oper} {v:Value} (hi:ops[i]? = some oi) (hs:Region.noSelect ops=true) (hR:∀ L w,Shut ops L→L.getD i true=false→SL P ops Sq L w→R w) (hc:jL P oi.op=true)
 (hQ:∀ c a w,Q (.panic c) (a.put oi.dst v) w→Q (.panic c) a w) :
 ∀ (n:Nat) (L:Array Bool) (a:Act) (w:World),Shut ops L →
  (∀ j oj,ops[j]? = some oj→j≠i→L.getD j true=false→(∀ e∈oj.after,Region.binds .any e=true→e.on≠i)→oi.apart ops oj=true) →
  i∈Region.ready .any ops L→YieldsIf P ops R oi v a→SL P ops Sq L w →
  anyS P ops Q (SL P ops Sq) n (L.setIfInBounds i true) (a.put oi.dst v) w→anyS P ops Q (SL P ops Sq) (n+1) L a w:=by
 intro n
 have hsel:=Region.noSelect_spec hs
 induction n with
 | zero =>
  intro L a w hsh hfree hr hy hS H
  refine ⟨fun h=>(by rw [h] at hr;cases hr),fun j hj=>?_⟩
  by_cases hji:j=i
  ·subst hji
   exact hy.wpOp hi (hR L w hsh (mem_ready.1 hr).1 hS) ⟨(SL.iff hi hc).2 hS,H⟩
  ·have:=ready_mono hj hji
   rw [H.1] at this
   cases this
 | succ n ih =>
  intro L a w hsh hfree hr hy hS H
  refine ⟨fun h=>(by rw [h] at hr;cases hr),fun j hj=>?_⟩
  by_cases hji:j=i
  ·subst hji
   exact hy.wpOp hi (hR L w hsh (mem_ready.1 hr).1 hS) ⟨(SL.iff hi hc).2 hS,H⟩
  ·have h1:=H.2 j (ready_mono hj hji)
   obtain ⟨hjun,oj,hoj,hall⟩:=mem_ready.1 hj
   have hnot:∀ e∈oj.after,Region.binds .any e=true→e.on≠i:=fun e he hb heq=>by
    have h1:=hall e he hb
    have h0:=(mem_ready.1 hr).1
    rw [heq] at h1
    rcases Nat.lt_or_ge i L.size with h' | h'
    ·simp [h'] at h0 h1;rw [h0] at h1;cases h1
    ·simp [Array.getElem?_eq_none h'] at h1
   have h2:=wpOp_putIf hoj (hfree j oj hoj hji hjun hnot) (fun cs b=>hsel i oi cs b hi) (fun cs b=>hsel j oj cs b hoj) hQ hy h1
   refine wpOp_mono (fun a' w' h3=>?_) h2
   obtain ⟨hy',hS',H'⟩:=h3
   have hcomm:(L.setIfInBounds i true).setIfInBounds j true=(L.setIfInBounds j true).setIfInBounds i true:=Array.setIfInBounds_comm _ _ (fun e=>hji e.symm)
   rw [hcomm] at hS' H'
   have YB:=(SL.iff (L:=L.setIfInBounds j true) hi hc).1 hS'
   refine ⟨YB,ih (L.setIfInBounds j true) a' w' (hsh.add hj) (fun k ok hk hki hun hno=>?_) (ready_mono hr (Ne.symm hji)) hy' YB H'⟩
   refine hfree k ok hk hki ?_ hno
   by_cases hjk:j=k
   ·subst hjk;exact hjun
   ·rw [getD_set_ne true hjk] at hun;exact hun
end
section
variable {P:Program} {C:Ctx}
theorem ae1 {o:Oper} {a:Act} {w:World} {next:Act→World→Prop} {Q:Exit→Act→World→Prop} (h:o.wp P a w next Q) :
 o.wp P a w (fun a' w'=>next a' w'∧((∃ v,a'=a.put o.dst v)∨a'.defers≠[])) Q:=by
 unfold Oper.wp at h ⊢
 generalize (execOp a.eval o).run P w=r at *
 cases r with
 | ok n w' =>
  cases n<;>simp only [Oper.upon] at h ⊢
  case value u=>exact ⟨h,.inl ⟨u,rfl⟩⟩
  case skip=>exact ⟨h,.inl ⟨undef,rfl⟩⟩
  case defer d=>exact ⟨h,.inr (by cases o.dst<;>simp [Act.put])⟩
  case enter f args =>
   refine Calls.mono h fun e w'' he=>?_
   cases e with
   | returned u=>exact ⟨he,.inl ⟨u,rfl⟩⟩
   | panicked c=>exact he
   | outgrown=>exact he
  case row row args=>exact Rows.mono h fun u w'' he=>⟨he,.inl ⟨u,rfl⟩⟩
 | halt x w' =>
  cases x<;>simp only [Oper.upon] at h ⊢
  case panic u=>exact h
def Dh (v:Option V) (u:V):Option (V × List Prop):=match v with
 | none=>match u.bI with
  | true=>some (u,[])
  | false=>none
 | some v=>some (v,[u.shr=v])
def MW (env:St) (t:Nat) (v:Option V):Option (V × List Prop):=match look env.env t with
 | some (.d (.v u))=>Dh v u
 | some (.al (.top r))=>match iN env r with
  | some u=>Dh v u
  | none=>none
 | some (.d (.ptr id off))=>match env.box[id]?,v with
  | some (.cells cs),some u=>match jO (cs.drop off) with
   | some us=>some (u,[V.pt (aX us)=u])
   | none=>none
  | _,_=>none
 | some (.pa r sz i j)=>match iN env r with
  | some (.row (some _) iQ es)=>match v with
   | some (.aD [x,u])=>match Nat.beq sz iQ with
    | true=>some (u,[es[i]? = some x,V.pt (aX (x.cells.drop j))=u])
    | false=>none
   | _=>none
  | _=>none
 | _=>none
def mZ (env:St):List (Nat × Option V)→Option (List (Nat × X) × List Prop)
 | []=>some ([],[])
 | (t,v) :: l=>match MW env t v with
  | some (u,o)=>match mZ env l with
   | some (r,os)=>some ((t,.d (.v u)) :: r,o++os)
   | none=>none
  | none=>none
theorem UN {env:St}:∀ {l:List (Nat × Option V)} {q:List (Nat × X)} {os:List Prop} {t:Nat} {y:X},mZ env l=some (q,os)→All os→look q t=some y→∃ v u o,MW env t v=some (u,o)∧All o∧y=.d (.v u)
 | [],q,os,t,y,h,_,hy=>by cases h;simp [look] at hy
 | (s,v) :: l,q,os,t,y,h,hA,hy=>by
  simp only [mZ] at h
  split at h
  ·rename_i u o ho
   split at h
   ·rename_i r os' hr
    cases h
    simp only [look] at hy
    cases hb:Nat.beq t s with
    | true =>
     rw [hb] at hy
     cases hy
     have:=Nat.eq_of_beq_eq_true hb
     subst this
     exact ⟨v,u,o,ho,hA.left,rfl⟩
    | false=>rw [hb] at hy;exact UN hr (All.right hA) hy
   ·cases h
  ·cases h
def G.all (g:G):aW:=fun b=>g.aL b∨∃ h,g.own b=some h
def G.still (p:aW):G:={ aL:=p,own:=fun _=>none,n:=0,loc:=fun _=>0,TE:=fun _=>[],TB:=fun _=>[] }
theorem jm.start {g:G} {st:St} {a:Act} {w:World} (S:aH C g st a w) {ks:List (Nat × Option V)} {q:List (Nat × X)} {os:List Prop} (hq:mZ st ks=some (q,os)) (hA:All os):jm g.all C.N q a w:=by
 have Tv:∀ b,g.all b→b < w.heap.size:=by
  rintro b (h | ⟨h,ho⟩)
  ·exact S.dM b h
  ·exact (S.own b h ho).2.1
 have pick:∀ {val:Value} {u r:V} {v:Option V} {o:List Prop} {T:List Nat} {h:Nat ⊕ Nat},aV g w val (.v u) T→(∀ b∈T,g.own b=some h)→Dh v u=some (r,o)→All o→aP g.all w val r []:=by
  intro val u r v o T h hr ho hp hA
  unfold Dh at hp
  split at hp
  ·split at hp
   ·rename_i hn
    cases hp
    have hr:=aV.inv hr
    have hT:=hr.bI hn
    subst hT
    exact hr.keep ⟨fun b hb=>.inl hb,fun _ _=>rfl⟩ (fun _ h=>by cases h)
   ·cases hp
  ·cases hp
   have e:u.shr=r:=by cases hA with | cons h _=>exact h
   rw [← e]
   have:=aP.share (S:=T) (aV.inv hr) (fun b hb=>hb)
   refine this.keep ⟨?_,fun _ _=>rfl⟩ (fun _ h=>by cases h)
   rintro b (hb | hb)
   ·exact .inl hb
   ·exact .inr ⟨h,ho b hb⟩
 refine ⟨G.still g.all,S.defers,S.tmps,rfl,rfl,rfl,Nat.le_refl _,fun _ _ _=>rfl,fun b hb=>.inl hb,Tv,rfl,?_,fun _=>List.nodup_nil,fun id b hb=>by simp at hb,fun _=>List.nodup_nil,fun b h ho=>(by cases ho),fun i l h=>(by simp [Ctx.still] at h),gp.s ⟨fun b hb=>.inl hb,fun _ _=>rfl⟩ S.tab⟩
 intro t y hy
 obtain ⟨v,u,o,ho,mJ,rfl⟩:=UN hq hA hy
 unfold MW at ho
 split at ho
 ·rename_i u' hl
  obtain ⟨h1,h2,h3⟩:=S.env t _ hl
  exact ⟨h1,.v (pick h2 h3 ho mJ),fun b hb=>by cases hb⟩
 ·rename_i r hl
  split at ho
  ·rename_i u' hu
   obtain ⟨h1,h2,h3⟩:=S.env t _ hl
   obtain ⟨v',T,k1,k2,k3,_⟩:=vQ S hu
   have hv:dW g a w r=some (a.tmps.getD t undef):=h2.2
   rw [k1] at hv
   have e:v'=a.tmps.getD t undef:=Option.some.inj hv
   subst e
   exact ⟨h1,.v (pick (.v k2) k3 ho mJ),fun b hb=>by cases hb⟩
  ·cases ho
 ·rename_i id off hl
  split at ho
  ·rename_i cs u0 hb
   split at ho
   ·rename_i us qM
    cases ho
    have hu:V.pt (aX us)=u:=by cases mJ with | cons h _=>exact h
    subst hu
    obtain ⟨h1,h2,h3⟩:=S.env t _ hl
    have h2:aV g w (a.tmps.getD t undef) (.ptr id off) (g.TE t):=h2
    obtain ⟨⟨cur,el,A,hT,hh,hr,hc1⟩,hown⟩:=S.box id _ hb
    obtain ⟨A1,B1,gu,_,hd⟩:=hr.cut off
    rw [um qM] at hd
    have hd:=hd.jO
    have hx:a.tmps.getD t undef=.pointer (some ⟨g.loc id,off,none⟩):=by
     generalize a.tmps.getD t undef=v at h2
     generalize g.TE t=T at h2
     cases h2
     rfl
    refine ⟨h1,?_,fun b hb=>by cases hb⟩
    show aV (G.still g.all) w (a.tmps.getD t undef) _ _
    rw [hx]
    have hsh:=(hd.share (S:=g.TB id) (fun b hb=>by rw [hT,gu];simp [hb]))
    refine .v (aP.pt (hsh.keep ⟨?_,fun _ _=>rfl⟩ (fun _ h=>by cases h)) (fun u hu=>hc1 u (List.mem_of_mem_drop hu)) ?_ (fun j u hj=>?_))
    ·rintro b (hb | hb)
     ·exact .inl hb
     ·exact .inr ⟨_,hown b hb⟩
    ·exact .inr ⟨_,hown _ (by rw [hT];simp)⟩
    ·rw [List.getElem?_drop] at hj
     simp only [World.cell?,hh]
     simpa using hj
   ·cases ho
  ·cases ho
 ·rename_i r sz i j hl
  split at ho
  ·rename_i et iQ es Bt
   split at ho
   ·rename_i x u0
    split at ho
    ·rename_i hb
     have hb:=Nat.eq_of_beq_eq_true hb
     subst hb
     cases ho
     cases mJ with
     | cons hel mJ =>
     have hu:V.pt (aX (x.cells.drop j))=u:=by cases mJ with | cons h _=>exact h
     subst hu
     obtain ⟨h1,⟨_,b,h3,h4,h5⟩,_⟩:=S.env t _ hl
     obtain ⟨rv,T,hpv,hr,hown,_⟩:=vQ S Bt
     obtain ⟨xs,A,hT,hc,hl',hone,how⟩:=nK hr
     obtain ⟨T1,A1,T2,hT',hseg⟩:=aM.elem hc hl' hel
     obtain ⟨A2,B2,hA2,_,wm⟩:=hseg.cut j
     rw [hpv] at h3
     simp only [Option.bind_some] at h3
     have how':=how
     rcases how.2 with ⟨hv0,hn⟩ | ⟨b',cap,cur,hv0,_,hg,_⟩
     ·rw [hv0] at h3;simp [Value.ownBlock] at h3
     ·rw [hv0] at h3
      simp only [Value.ownBlock,Option.some.injEq] at h3
      subst h3
      subst hv0
      have hrange:w.rangeAt b' 0 xs:=fun k v hk=>by
       have hk':k < es.length*sz:=by
        rw [← how.1]
        rcases Nat.lt_or_ge k xs.length with h | h
        ·exact h
        ·rw [List.getElem?_eq_none h] at hk;cases hk
       rw [Nat.zero_add,how'.cellAt k hk',hk]
      have yA:w.rangeAt b' (i*sz+j) (((xs.drop (i*sz)).take sz).drop j):=by
       have h0:=GK hrange (i*sz) sz
       intro k v hk
       rw [List.getElem?_drop] at hk
       have:=h0 _ _ hk
       rwa [show 0+i*sz+(j+k)=i*sz+j+k by omega] at this
      refine ⟨h1,?_,fun b hb=>by cases hb⟩
      show aV (G.still g.all) w (a.tmps.getD t undef) _ _
      rw [h5]
      have hsh:=(wm.share (S:=T) (fun b hb=>by rw [hT,hT',hA2];simp [hb]))
      refine .v (aP.pt (hsh.keep ⟨?_,fun _ _=>rfl⟩ (fun _ h=>by cases h)) (fun u hu=>hone u ?_) (.inr ⟨_,h4⟩) (fun k u hk=>yA k u hk))
      ·rintro b (hb | hb)
       ·exact .inl hb
       ·exact .inr ⟨_,hown b hb⟩
      ·exact List.mem_of_mem_drop (List.mem_of_mem_take (List.mem_of_mem_drop hu))
    ·cases ho
   ·cases ho
  ·cases ho
 ·cases ho
theorem jm.drop {p:aW} {N:Nat} {q:List (Nat × X)} {a:Act} {w:World} (h:jm p N q a w) {d:Nat} (hd:d < N) (v:Value):jm p N (wP q d (.d (.v .any))) (a.put (some d) v) w:=by
 obtain ⟨g,S⟩:=h
 exact ⟨_,S.iG (Calm.refl w) hd (.v (.any v))⟩
end
def MX (P:Program) (o:Oper):Option (List Operand × (List Value→Option (Value × List Prop))):=match o.op with
 | .binOp op t x y _=>match P.underlying t with
  | some (.struct _)=>none
  | _=>some ([x,y],DX P op t x y)
 | .unOp op _ x=>some ([x],Ta P op)
 | .convert s t x=>match P.underlying s,P.underlying t with
  | some (.slice _),some .string=>none
  | some .string,some (.slice _)=>none
  | _,_=>some ([x],CX P s t)
 | .index t x i=>some ([x,i],Gi P t)
 | .slice t x lo hi none=>match P.underlying t with
  | some .string=>some (x :: (lo.toList++hi.toList),Gj P t lo.isSome hi.isSome)
  | _=>none
 | .call c=>match c.callee with
  | .builtin .append | .builtin .copy=>none
  | .builtin .len=>match (c.argTypes[0]?).bind P.underlying with
   | some .string=>some (c.args.toList,wQ P .len c.argTypes o.type)
   | _=>none
  | .builtin b=>some (c.args.toList,wQ P b c.argTypes o.type)
  | _=>none
 | _=>none
section
variable {P:Program}
theorem ae2 {o:Oper} {xs:List Operand} {f:List Value→Option (Value × List Prop)} (h:MX P o=some (xs,f)) {vs:List Value} {v:Value} {obs:List Prop} (hf:f vs=some (v,obs)) (hA:All obs)
 (ρ:Operand→Value) (w:World) (hρ:xs.map ρ=vs):(execOp ρ o).run P w=.ok (.value v) w:=by
 unfold MX at h
 split at h
 ·split at h
  ·cases h
  ·cases h;exact Wq ‹_› hf hA ρ w hρ
 ·cases h;exact Xg ‹_› hf ρ w hρ
 ·split at h
  ·cases h
  ·cases h
  ·cases h;exact VE ‹_› hf hA ρ w hρ
 ·cases h;exact Xh ‹_› hf hA ρ w hρ
 ·split at h
  ·cases h;exact Xi ‹_› hf hA ρ w hρ
  ·cases h
 ·rename_i c ho
  split at h
  ·cases h
  ·cases h
  ·rename_i hc
   split at h
   ·cases h;exact Cr ho hc hf ρ w hρ
   ·cases h
  ·rename_i b hc _ _ _
   cases h;exact Cr ho ‹_› hf ρ w hρ
  ·cases h
 ·cases h
end
theorem BR {p:aW} {w:World}:∀ {us:List V} {vs:List Value},lits us=some vs→aM p w vs us []
 | [],vs,h=>by cases h;exact .nil
 | u :: us,vs,h=>by
  cases u with
  | lit v =>
   simp only [lits] at h
   cases h1:lits us with
   | none=>rw [h1] at h;cases h
   | some ws=>rw [h1] at h;cases h;exact aM.cons (A:=[]) (.lit v) (BR h1)
  | kb b =>
   simp only [lits] at h
   cases h1:lits us with
   | none=>rw [h1] at h;cases h
   | some ws=>rw [h1] at h;cases h;exact aM.cons (A:=[]) (.kb b) (BR h1)
  | _=>simp [lits] at h
def XQ (P:Program) (N:Nat) (o:Oper) (op:BinOp) (t:TypeId) (x y:Operand) (e:E):Option E:=match dS N o with
 | none=>none
 | some d=>match P.eqGuardType P.depth t with
  | true=>none
  | false=>match vals [x,y] e with
   | some ([.agg cs,.agg ds],e)=>match lits cs,lits ds with
    | some _,some _=>match sS P 12 t (.agg cs) (.agg ds),op with
     | some b,.eql=>some (e.put d (.lit (.bool b)))
     | some b,.neq=>some (e.put d (.lit (.bool (!b))))
     | _,_=>none
    | _,_=>none
   | _=>none
def XR:Op→Bool
 | .move _ | .assign _ | .field _ _ _ | .extract _ _ | .build _ _ | .indexAddr _ _ _ | .pick _ _ _ | .nilCheck _=>true
 | _=>false
def rE (e:Option E):Option E:=match e with
 | some e=>match e.st.box with
  | []=>some e
  | _=>none
 | none=>none
def wB (P:Program) (N:Nat) (o:Oper) (e:E):Option E:=match MX P o with
 | some (xs,f)=>match vals xs e with
  | some (us,e1)=>match lits us with
   | some vs=>match f vs,dS N o with
    | some (v,obs),some d=>rE (some (({ e1 with ob:=e1.ob++obs }:E).put d (.lit v)))
    | _,_=>none
   | none=>none
  | none=>none
 | none=>match XR o.op with
  | true=>rE (p9 P N o e)
  | false=>match o.op with
   | .load t (.tmp s)=>match look e.st.env s,dS N o with
    | some (.d (.v (.pt cs))),some d=>match kX P t cs with
     | some u=>rE (some (e.put d u))
     | none=>none
    | _,_=>none
   | .fieldAddr s (.tmp t) f=>match wR P s f,look e.st.env t,dS N o with
    | some (off,_),some (.d (.v (.pt cs))),some d=>rE (some (e.put d (.pt (cs.drop off))))
    | _,_,_=>none
   | .call c=>match c.callee,c.args.toList with
    | .builtin .len,[x]=>rE (yM P N o c.argTypes x e)
    | _,_=>none
   | .binOp op t x y _=>rE (XQ P N o op t x y e)
   | _=>none
theorem nI {x:Option E} {e:E} (h:rE x=some e):x=some e∧e.st.box=[]:=by
 unfold rE at h
 split at h
 ·rename_i e1
  split at h
  ·rename_i hb;cases h;exact ⟨rfl,hb⟩
  ·cases h
 ·cases h
theorem ac3 {P:Program} {w:World} {p:aW} {t:TypeId} {b o:Nat} {xs:List Value} {cs:List V} {u:V} {T:List Nat} (h:aM p w xs cs T) (hp:kX P t cs=some u) :
 ∃ v A B,(∀ w',w'.rangeAt b o xs→(Instr.loadAt t (.pointer (some ⟨b,o,none⟩))).run P w'=.ok v w')∧T=A++B∧aP p w v u A:=by
 unfold kX at hp
 split at hp
 ·rename_i ht
  split at hp
  ·rename_i n hn
   split at hp
   ·rename_i hle
    cases hp
    have hle:=Nat.le_of_ble_eq_true hle
    obtain ⟨A,B,hT,h1,h2⟩:=h.cut n
    have hl:(xs.take n).length=n:=by rw [List.length_take,h.length];omega
    unfold fK at hn
    cases hi:P.info? t with
    | none=>rw [hi] at hn;cases hn
    | some i =>
     rw [hi] at hn
     cases hn
     refine ⟨.agg (xs.take i.size).toArray,A,B,fun w' hr=>?_,hT,.agg h1⟩
     have hg:=qh ht w'
     have hc:=run_loadCells_list (P:=P) w' ⟨b,o,none⟩ (xs.take i.size) (fun j v hj=>by
      rw [Addr.add_mid]
      exact hr j v (by rw [List.getElem?_take] at hj;split at hj;exact hj;cases hj))
     rw [hl] at hc
     simp only [Instr.loadAt,Instr.sureAddr,loadVar,Sem.run_bind,Sem.run_pure,Result.andThen_ok,hg,if_true,sizeOf,typeInfo,run_program,hi,hc]
   ·cases hp
  ·cases hp
 ·rename_i ht
  split at hp
  ·rename_i c cs'
   split at hp
   ·cases hp
   ·cases hp
    cases h with
    | cons h1 h2 =>
     rename_i v vs A B
     refine ⟨v,A,B,fun w' hr=>?_,rfl,h1⟩
     have hg:=qh ht w'
     have hc:=hr 0 v rfl
     simp only [Nat.add_zero] at hc
     simp only [Instr.loadAt,Instr.sureAddr,loadVar,Sem.run_bind,Sem.run_pure,Result.andThen_ok,hg,Bool.false_eq_true,if_false,run_load,hc]
  ·cases hp
 ·cases hp
section
variable {P:Program}
def Ki (p:aW) (w w':World):Prop:=∀ b,p b→w'.heap[b]? = w.heap[b]?
def MZ:Op→Bool
 | .load _ _=>true
 | _=>false
theorem VO {N:Nat} {o:Oper} {e e':E} (h:wB P N o e=some e') (hb:e.st.box=[]) (hA:All e'.ob):All e.ob∧e'.st.box=[]∧∀ (p:aW) (a:Act) (w:World),jm p N e.st.env a w →
 ∃ v,(∀ w',(MZ o.op=true→Ki p w w')→(execOp a.eval o).run P w'=.ok (.value v) w')∧jm p N e'.st.env (a.put o.dst v) w:=by
 have est:e.st=⟨e.st.env,[]⟩:=by rw [← hb]
 have key:∀ (e1:E),e1.st.box=[]→e1.st=⟨e1.st.env,[]⟩:=fun e1 h=>by rw [← h]
 unfold wB at h
 split at h
 ·rename_i xs f hF
  split at h
  ·rename_i us e1 hv
   split at h
   ·rename_i vs hl
    split at h
    ·rename_i v obs d hf hd
     obtain ⟨h,hbx⟩:=nI h
     cases h
     obtain ⟨hdd,hdN⟩:=fC hd
     have hA:All (e1.ob++obs):=hA
     obtain ⟨h0,k⟩:=nJ (C:=Ctx.still (fun _=>False) default N) hv hA.left
     refine ⟨h0,hbx,fun p a w Qr=>?_⟩
     obtain ⟨g,S⟩:=Qr
     rw [← est] at S
     obtain ⟨_,k⟩:=nJ (C:=Ctx.still p w N) hv hA.left
     obtain ⟨g1,_,S1,r⟩:=k g a w S
     refine ⟨v,fun w' _=>ae2 hF hf hA.right a.eval w' (oI hl r),?_⟩
     rw [hdd]
     have:=S1.iG (Calm.refl w) hdN (v:=v) (D:=.v (.lit v)) (.v (.lit v))
     exact ⟨_,by rw [← key _ hbx];exact this⟩
    ·cases h
   ·cases h
  ·cases h
 ·split at h
  ·rename_i hk
   obtain ⟨h,hbx⟩:=nI h
   obtain ⟨h0,_⟩:=rD (C:=Ctx.still (fun _=>False) default N) h hA
   refine ⟨h0,hbx,fun p a w Qr=>?_⟩
   obtain ⟨g,S⟩:=Qr
   rw [← est] at S
   obtain ⟨_,k⟩:=rD (C:=Ctx.still p w N) h hA
   have hi:rq a.eval o.op=true:=by
    cases ho:o.op<;>rw [ho] at hk<;>simp only [XR] at hk<;>try (cases hk;done)
    all_goals try rfl
    rename_i x
    simp only [p9,ho] at h
    unfold Da at h
    split at h
    ·cases h
    split at h
    ·rename_i t
     split at h
     ·rename_i cs hl
      have h2:=aV.inv (S.env t _ hl).2.1
      simp only [rq,Act.eval]
      generalize a.tmps.getD t undef=v at h2
      generalize g.TE t=T at h2
      cases h2
      rfl
     ·rename_i i f hl
      have h2:aV g w (a.tmps.getD t undef) (.ptr i f) (g.TE t):=(S.env t _ hl).2.1
      simp only [rq,Act.eval]
      generalize a.tmps.getD t undef=v at h2
      generalize g.TE t=T at h2
      cases h2
      rfl
     ·rename_i r sz i j hl
      obtain ⟨_,⟨_,b,_,_,h5⟩,_⟩:=S.env t _ hl
      simp only [rq,Act.eval,h5]
     ·cases h
    ·cases h
   have hw:=k g a w S (fun a' w'=>∃ g',aH (Ctx.still p w N) g' e'.st a' w') (fun _ _ _=>False) (fun g' a' w' S' _=>⟨g',S'⟩)
   obtain ⟨v,h1,g',h2⟩:=adZ (dG.op hi) (fun w' x hx=>abN hi hx) hw
   exact ⟨v,fun w' _=>h1 w',g',by rw [← key _ hbx];exact h2⟩
  ·split at h
   ·rename_i t s ho
    split at h
    ·rename_i cs d hl hd
     split at h
     ·rename_i u hp
      obtain ⟨h,hbx⟩:=nI h
      cases h
      obtain ⟨hdd,hdN⟩:=fC hd
      refine ⟨hA,hbx,fun p a w Qr=>?_⟩
      obtain ⟨g,S⟩:=Qr
      rw [← est] at S
      have h2:=aV.inv (S.env s _ hl).2.1
      generalize hv:a.tmps.getD s undef=v at h2
      generalize hT:g.TE s=T at h2
      cases h2 with
      | pt r1 r2 r3 r4 =>
       rename_i b q xs
       obtain ⟨v,A,B,hr,gu,hR⟩:=ac3 (P:=P) (t:=t) (b:=b) (o:=q) (xs:=xs) r1 hp
       have hA':=(List.append_eq_nil_iff.1 gu.symm).1
       subst hA'
       have hpb:=jm.aiY (q:=e.st.env) (by rw [← est];exact S) b r3
       refine ⟨v,fun w' hw'=>?_,?_⟩
       ·have:=hr w' (fun j u hj=>(tQ (hw' (by rw [ho];rfl) b hpb)).trans (r4 j u hj))
        unfold execOp
        simp only [ho,Act.eval,hv,Sem.run_bind,this,Result.andThen_ok,Sem.run_pure]
       ·rw [hdd]
        exact ⟨_,by rw [← key _ hbx];exact S.iG (Calm.refl w) hdN (.v hR)⟩
     ·cases h
    ·cases h
   ·rename_i s t f ho
    split at h
    ·rename_i off ft cs d hf hl hd
     obtain ⟨h,hbx⟩:=nI h
     cases h
     obtain ⟨hdd,hdN⟩:=fC hd
     refine ⟨hA,hbx,fun p a w Qr=>?_⟩
     obtain ⟨g,S⟩:=Qr
     rw [← est] at S
     have h2:=aV.inv (S.env t _ hl).2.1
     generalize hv:a.tmps.getD t undef=v at h2
     generalize hT:g.TE t=T at h2
     cases h2 with
     | pt r1 r2 r3 r4 =>
      rename_i b q xs
      obtain ⟨A,B,gu,_,r5⟩:=r1.cut off
      have hB:=(List.append_eq_nil_iff.1 gu.symm).2
      subst hB
      have hx:a.eval (.tmp t)=.pointer (some ⟨b,q,none⟩):=hv
      refine ⟨.pointer (some ⟨b,q+off,none⟩),fun w' _=>?_,?_⟩
      ·unfold execOp
       simp only [ho,hx,Sem.run_bind,Ut hf w' b q,Result.andThen_ok,Sem.run_pure]
      ·rw [hdd]
       have hpt:aP g.aL w (.pointer (some ⟨b,q+off,none⟩)) (.pt (cs.drop off)) []:=.pt r5 (fun u hu=>r2 u (List.mem_of_mem_drop hu)) r3 fun j u hj=>by
        rw [List.getElem?_drop] at hj
        have:=r4 _ _ hj
        rwa [show q+off+j=q+(off+j) by omega]
       exact ⟨_,by rw [← key _ hbx];exact S.iG (Calm.refl w) hdN (.v hpt)⟩
    ·cases h
   ·rename_i c ho
    split at h
    ·rename_i x hc hx
     obtain ⟨h,hbx⟩:=nI h
     have ha:=MP hx
     obtain ⟨h0,_⟩:=VF (C:=Ctx.still (fun _=>False) default N) ho hc ha h hA
     refine ⟨h0,hbx,fun p a w Qr=>?_⟩
     obtain ⟨g,S⟩:=Qr
     rw [← est] at S
     unfold yM at h
     split at h
     ·cases h
     rename_i d hd
     split at h
     ·rename_i r ow sz es hp
      split at h
      ·rename_i t ht
       split at h
       ·rename_i el hu
        split at h
        ·rename_i n e1 hh
         obtain ⟨q1,q2⟩:=gW hh
         cases h
         obtain ⟨hdd,hdN⟩:=fC hd
         have hn:(es.length:Int)=n:=(All.snoc (l:=e1.ob) hA).2
         obtain ⟨T,_,hr,_⟩:=mW S hp
         obtain ⟨ao,cap,hv⟩:=hr.Wt
         refine ⟨.int .i64 n,fun w' _=>?_,?_⟩
         ·unfold execOp
          simp only [ho,resolve,hc,ha,Sem.run_bind,Sem.run_pure,Result.andThen_ok,invoke,builtin,List.map_toArray,List.map_cons,List.map_nil,hv,Builtin.len_,ht,List.getElem?_toArray,List.getElem?_cons_zero,run_underlying hu,goInt,hn]
         ·rw [hdd]
          have hput:=S.iG (Calm.refl w) hdN (v:=.int .i64 n) (D:=.v (.lit (.int .i64 n))) (.v (.lit _))
          rw [← q2] at hput
          exact ⟨_,by rw [← key _ hbx];exact hput⟩
        ·cases h
       ·cases h
      ·cases h
     ·cases h
    ·cases h
   ·rename_i op t x y ty ho
    obtain ⟨h,hbx⟩:=nI h
    unfold XQ at h
    split at h
    ·cases h
    rename_i d hd
    split at h
    ·cases h
    rename_i hgd
    split at h
    rotate_left
    ·cases h
    rename_i cs ds e1 hv
    split at h
    rotate_left
    ·cases h
    rename_i vs1 vs2 hl1 hl2
    obtain ⟨hdd,hdN⟩:=fC hd
    have fin:∀ (b:Bool) (v:Value),sS P 12 t (.agg cs) (.agg ds)=some b→(op=.eql∧v=.bool b∨op=.neq∧v=.bool (!b))→e'=e1.put d (.lit v)→All e.ob∧e'.st.box=[]∧∀ (p:aW) (a:Act) (w:World),jm p N e.st.env a w →
     ∃ v,(∀ w',(MZ o.op=true→Ki p w w')→(execOp a.eval o).run P w'=.ok (.value v) w')∧jm p N e'.st.env (a.put o.dst v) w:=by
     intro b v hb hop he
     subst he
     have hA:All e1.ob:=hA
     obtain ⟨h0,_⟩:=nJ (C:=Ctx.still (fun _=>False) default N) hv hA
     refine ⟨h0,hbx,fun p a w Qr=>?_⟩
     obtain ⟨g,S⟩:=Qr
     rw [← est] at S
     obtain ⟨_,k⟩:=nJ (C:=Ctx.still p w N) hv hA
     obtain ⟨g1,_,S1,r⟩:=k g a w S
     refine ⟨v,fun w' _=>?_,?_⟩
     ·have hr:aM p w' ([x,y].map a.eval) [.agg cs,.agg ds] []:=by
       simp only [List.map_cons,List.map_nil] at r ⊢
       generalize hT:([]:List Nat)=T at r
       cases r with
       | @cons _ _ _ _ A B r1 r2 =>
        have hA1:=(List.append_eq_nil_iff.1 hT.symm)
        rw [hA1.1] at r1
        rw [hA1.2] at r2
        generalize xQ:([]:List Nat)=T2 at r2
        cases r2 with
        | @cons _ _ _ _ A2 B2 r3 r4 =>
         have hA2:=(List.append_eq_nil_iff.1 xQ.symm)
         rw [hA2.1] at r3
         obtain ⟨xs,ex,rx⟩:=r1.uk
         obtain ⟨ys,ey,ry⟩:=r3.uk
         rw [ex,ey]
         have e1:=oI hl1 rx
         have e2:=oI hl2 ry
         subst e1
         subst e2
         have hnil:aM p w' [] [] []:=.nil
         rw [← hT]
         exact (aM.cons (A:=[]) (B:=[]) (.agg (BR hl1)) (aM.cons (A:=[]) (B:=[]) (.agg (BR hl2)) hnil):aM p w' _ _ [])
      exact aeV hgd hb hop ho a.eval w' p hr
     ·rw [hdd]
      have:=S1.iG (Calm.refl w) hdN (v:=v) (D:=.v (.lit v)) (.v (.lit v))
      exact ⟨_,by rw [← key _ hbx];exact this⟩
    cases hb:sS P 12 t (.agg cs) (.agg ds) with
    | none=>rw [hb] at h;cases op<;>cases h
    | some b =>
     rw [hb] at h
     cases op<;>try (cases h;done)
     ·exact fin b _ hb (.inl ⟨rfl,rfl⟩) (Option.some.inj h).symm
     ·exact fin b _ hb (.inr ⟨rfl,rfl⟩) (Option.some.inj h).symm
   ·cases h
end
inductive Tr where
 | z
 | k (d:Nat) (t:Tr)
 | q (i:Nat) (ps:List (List Nat)) (t:Tr)
 | i (i:Nat) (t:Tr)
 | e (i:Nat) (t:Tr)
 | b (i:Nat) (h1 g1:List V) (t1:Tr) (h2 g2:List V) (t2:Tr)
def Ai (ops:Array Oper) (o:Oper) (st:St):Option Bool:=match o.guard with
 | none=>some true
 | some (j,want)=>match vZ ops j with
  | some d=>match look st.env d with
   | some (.d (.v (.kb v)))=>some (v == want)
   | some (.d (.v (.lit (.tuple t))))=>match Nat.beq t.size 0 with
    | true=>some false
    | false=>none
   | _=>none
  | none=>none
theorem Cv {C:Ctx} {ops:Array Oper} {o:Oper} {st:St} {g:G} {a:Act} {w:World} {b:Bool} (h:Ai ops o st=some b) (S:aH C g st a w):Region.wanted o (yielded ops a.tmps)=b:=by
 unfold Ai at h
 split at h
 ·rename_i hg;cases h;simp [Region.wanted,hg]
 ·rename_i j want hg
  split at h
  ·rename_i d hd
   split at h
   ·rename_i v hl
    have hy:=yt S hd hl (aV.kb (S.env d _ hl).2.1)
    cases h
    simp only [Region.wanted,hg,hy]
    cases v<;>cases want<;>rfl
   ·rename_i t hl
    split at h
    ·cases h
     have hv:=aV.lit (S.env d _ hl).2.1
     unfold vZ at hd
     split at hd
     ·rename_i oj hoj
      have:yielded ops a.tmps j=none:=by
       simp only [yielded,hoj,Option.bind_some,hd]
       obtain ⟨h1,_,_⟩:=S.env d _ hl
       have hlt:d < a.tmps.size:=by rw [S.tmps];exact h1
       rw [Array.getD_eq_getD_getElem?,Array.getElem?_eq_getElem hlt] at hv
       rw [Array.getElem?_eq_getElem hlt]
       simp only [Option.getD_some] at hv
       simp only [hv]
      simp [Region.wanted,hg,this]
     ·cases hd
    ·cases h
   ·cases h
  ·cases h
def Tr.cnt:Tr→Nat
 | .z=>0
 | .k _ t=>t.cnt
 | .q _ _ t=>t.cnt+1
 | .i _ t=>t.cnt+1
 | .e _ t=>t.cnt+1
 | .b _ _ _ t _ _ _=>t.cnt+1
def V.iZ:V→Bool
 | .lit _=>true
 | .kb _=>true
 | .aD cs=>go cs
 | .agg cs=>go cs
 | .gq _ cs=>go cs
 | _=>false
where go:List V→Bool
 | []=>true
 | c :: cs=>match c.iZ with
  | true=>go cs
  | false=>false
mutual
theorem aP.iZ {p p':aW} {w w':World} {v:Value} {u:V} {T:List Nat}:aP p w v u T→u.iZ=true→aP p' w' v u []
 | .lit u,_=>.lit u
 | .kb b,_=>.kb b
 | .aD h,hs=>.aD (h.iZ (by simpa [V.iZ] using hs))
 | .agg h,hs=>.agg (h.iZ (by simpa [V.iZ] using hs))
 | .any _,hs=>by simp [V.iZ] at hs
 | .nil _ _,hs=>by simp [V.iZ] at hs
 | .shared ..,hs=>by simp [V.iZ] at hs
 | .own ..,hs=>by simp [V.iZ] at hs
 | .pt ..,hs=>by simp [V.iZ] at hs
 | .iface ..,hs=>by simp [V.iZ] at hs
 | .gq h,hs=>.gq (h.iZ (by simpa [V.iZ] using hs))
theorem aM.iZ {p p':aW} {w w':World} {vs:List Value} {us:List V} {T:List Nat}:aM p w vs us T→V.iZ.go us=true→aM p' w' vs us []
 | .nil,_=>.nil
 | .cons (d:=d) h1 h2,hs=>by
  simp only [V.iZ.go] at hs
  cases hc:d.iZ with
  | false=>rw [hc] at hs;cases hs
  | true=>rw [hc] at hs;exact aM.cons (A:=[]) (B:=[]) (h1.iZ hc) (h2.iZ hs)
end
def XT (env:List (Nat × X)) (d:Nat):V:=match look env d with
 | some (.d (.v u))=>match u.iZ with
  | true=>u
  | false=>.any
 | _=>.any
def Kj (N:Nat) (o:Oper) (e1:E) (q:E):Option E:=match o.dst with
 | none=>some q
 | some _=>match dS N o with
  | some d=>some { q with st:=⟨wP q.st.env d (.d (.v (XT e1.st.env d))),[]⟩ }
  | none=>none
def Kk (N:Nat) (o:Oper) (q:E):Option E:=match o.dst with
 | none=>some q
 | some _=>match dS N o with
  | some d=>some { q with st:=⟨wP q.st.env d (.d (.v (.lit undef))),[]⟩ }
  | none=>none
def vB (d:Nat) (v:Bool) (q:E):E:=match look q.st.env d with
 | some (.d (.v (.lit (.bool b))))=>{ need (b=v) q with st:=q.st.jN d (.d (.v (.kb v))) }
 | _=>q
def rO (ops:Array Oper) (L:Array Bool):Option (List Nat)→List Nat
 | some r=>r
 | none=>Region.ready .any ops L
def wC (P:Program) (N:Nat) (ops:Array Oper) (i:Nat) (e q:E):Option (E × E):=match ops[i]? with
 | some o=>match Ai ops o e.st with
  | some true=>match p9 P N o e with
   | some e1=>match Kj N o e1 q with
    | some q1=>some (qI N o e1,q1)
    | none=>none
   | none=>none
  | _=>none
 | none=>none
def jR (P:Program) (N:Nat) (ops:Array Oper):Tr→Option (List Nat)→Array Bool→E→E→Option (List (E × E))
 | .z,none,L,e,q=>match Region.ready .any ops L with
  | []=>some [(e,q)]
  | _ :: _=>none
 | .k d l,none,L,e,q=>match look e.st.env d with
  | some (.d (.v (.lit (.bool b))))=>match hint e with
   | some (.lit (.bool v),e1)=>jR P N ops l none L { need (b=v) e1 with st:=e1.st.jN d (.d (.v (.kb v))) } (vB d v q)
   | _=>none
  | _=>none
 | .q i ps l,none,L,e,q=>match ops[i]? with
  | some o=>match (Region.ready .any ops L).contains i && Region.free .any ops L i && Xo P ops i ps && jL P o.op with
   | true=>match Ai ops o e.st with
    | some true=>match p9 P N o e,wB P N o q with
     | some e1,some q1=>jR P N ops l none (L.setIfInBounds i true) (qI N o e1) q1
     | _,_=>none
    | _=>none
   | false=>none
  | none=>none
 | .i i l,none,L,e,q=>match ops[i]? with
  | some o=>match (Region.ready .any ops L).contains i && Region.free .any ops L i && jL P o.op with
   | true=>match Ai ops o e.st with
    | some true=>match MZ o.op,p9 P N o e,wB P N o q with
     | false,some e1,some q1=>jR P N ops l none (L.setIfInBounds i true) (qI N o e1) q1
     | _,_,_=>none
    | some false=>match wu N o e,Kk N o q with
     | some e1,some q1=>jR P N ops l none (L.setIfInBounds i true) e1 q1
     | _,_=>none
    | none=>none
   | false=>none
  | none=>none
 | .e i l,r,L,e,q=>match rO ops L r with
  | [j]=>match Nat.beq j i with
   | true=>match wC P N ops i e q with
    | some (e1,q1)=>jR P N ops l none (L.setIfInBounds i true) e1 q1
    | none=>none
   | false=>none
  | _=>none
 | .b i h1 g1 t1 h2 g2 t2,r,L,e,q=>match rO ops L r with
  | j :: k :: ks=>match Nat.beq j i && Nat.beq t2.cnt (t1.cnt+1) with
   | true=>match wC P N ops i { e with hs:=h1 } { q with hs:=g1 } with
    | some (e1,q1)=>match jR P N ops t1 none (L.setIfInBounds i true) e1 q1,jR P N ops t2 (some (k :: ks)) L { e with hs:=h2 } { q with hs:=g2 } with
     | some l1,some l2=>some (l1++l2)
     | _,_=>none
    | none=>none
   | false=>none
  | _=>none
 | _,_,_,_,_=>none
def aiZ (p:aW) (w:World) (v:Value) (x:Option X) (T:List Nat):Prop:=match x with
 | some (.d (.v u))=>aP p w v u T
 | _=>True
section
variable {P:Program} {C:Ctx}
theorem IL {N:Nat} {o:Oper} {e1 q q1:E} (h:Kj N o e1 q=some q1) (hb:q.st.box=[]):q1.ob=q.ob∧q1.st.box=[]∧∀ p a w v,jm p N q.st.env a w→(∀ d,o.dst=some d→d < N→∃ p' w' T,aiZ p' w' v (look e1.st.env d) T)→jm p N q1.st.env (a.put o.dst v) w:=by
 unfold Kj at h
 split at h
 ·rename_i hd
  cases h
  exact ⟨rfl,hb,fun p a w v Q _=>by rw [hd];exact Q⟩
 ·split at h
  ·rename_i d hd
   cases h
   obtain ⟨hdd,hdN⟩:=fC hd
   refine ⟨rfl,rfl,fun p a w v Q hr=>?_⟩
   obtain ⟨g,S⟩:=Q
   rw [hdd]
   refine ⟨_,S.iG (Calm.refl w) hdN (.v ?_)⟩
   obtain ⟨p',w',T,hx⟩:=hr d hdd hdN
   unfold XT
   split
   ·rename_i u hl
    split
    ·rename_i hs
     rw [hl] at hx
     exact aP.iZ hx hs
    ·exact .any v
   ·exact .any v
  ·cases h
theorem ad1 {N:Nat} {o:Oper} {q q1:E} (h:Kk N o q=some q1) (hb:q.st.box=[]):q1.ob=q.ob∧q1.st.box=[]∧∀ p a w,jm p N q.st.env a w→jm p N q1.st.env (a.put o.dst undef) w:=by
 unfold Kk at h
 split at h
 ·rename_i hd
  cases h
  exact ⟨rfl,hb,fun p a w Q=>by rw [hd];exact Q⟩
 ·split at h
  ·rename_i d hd
   cases h
   obtain ⟨hdd,hdN⟩:=fC hd
   refine ⟨rfl,rfl,fun p a w Q=>?_⟩
   obtain ⟨g,S⟩:=Q
   rw [hdd]
   exact ⟨_,S.iG (Calm.refl w) hdN (.v (.lit _))⟩
  ·cases h
theorem af6 {N d:Nat} {v:Bool} {q:E} (hA:All (vB d v q).ob) (hb:q.st.box=[]):All q.ob∧(vB d v q).st.box=[]∧∀ p a w,jm p N q.st.env a w→jm p N (vB d v q).st.env a w:=by
 unfold vB at hA ⊢
 split at hA
 ·rename_i b hl
  simp only [hl]
  obtain ⟨h0,hv⟩:=All.snoc (l:=q.ob) hA
  subst hv
  refine ⟨h0,hb,fun p a w Q=>?_⟩
  obtain ⟨g,S⟩:=Q
  have e:q.st=⟨q.st.env,[]⟩:=by rw [← hb]
  rw [← e] at S
  have:=S.known hl
  refine ⟨g,?_⟩
  have e2:(q.st.jN d (.d (.v (.kb b))))=⟨(q.st.jN d (.d (.v (.kb b)))).env,[]⟩:=by simp only [St.jN,hb]
  rw [← e2]
  exact this
 ·exact ⟨hA,hb,fun _ _ _ Q=>Q⟩
end
section
variable {P:Program} {C:Ctx}
def Sq (p:aW) (w0 w:World):Prop:=Ki p w0 w∧w0.heap.size≤w.heap.size
inductive jP:List (List Prop × List Prop)→Prop
 | nil:jP []
 | cons {a b:List Prop} {l:List (List Prop × List Prop)}:All a→All b→jP l→jP ((a,b) :: l)
def Z4 (x:E × E):List Prop × List Prop:=(x.1.ob,x.2.ob)
theorem jP.left:∀ {l m:List (List Prop × List Prop)},jP (l++m)→jP l
 | [],_,_=>.nil
 | _ :: _,_,.cons a b t=>.cons a b t.left
theorem jP.right:∀ {l m:List (List Prop × List Prop)},jP (l++m)→jP m
 | [],_,h=>h
 | _ :: _,_,.cons _ _ t=>jP.right (m:=_) t
theorem Vd {N:Nat} {o:Oper} {q q1:E} (h2:wB P N o q=some q1):q1.st.box=[]:=by
 unfold wB at h2
 split at h2
 ·split at h2
  ·split at h2
   ·split at h2
    ·exact (nI h2).2
    ·cases h2
   ·cases h2
  ·cases h2
 ·split at h2
  ·exact (nI h2).2
  ·split at h2
   ·split at h2
    ·split at h2
     ·exact (nI h2).2
     ·cases h2
    ·cases h2
   ·split at h2
    ·exact (nI h2).2
    ·cases h2
   ·split at h2
    ·exact (nI h2).2
    ·cases h2
   ·exact (nI h2).2
   ·cases h2
theorem VP {ops:Array Oper} {i:Nat} {e q e1 q1:E} (h:wC P C.N ops i e q=some (e1,q1)) (hb:q.st.box=[]) (hA:All e1.ob) (hB:All q1.ob):All e.ob∧All q.ob∧q1.st.box=[] ∧
 ∀ (g:G) (a:Act) (w w0:World) (p:aW) (Q:Exit→Act→World→Prop) (K:Act→World→Prop) (L:Array Bool),(∀ b,p b→b < w0.heap.size)→i∈Region.ready .any ops L→aH C g e.st a w→jm p C.N q.st.env a w0→Shut ops L→SL P ops (Sq p w0) L w →
  (∀ g' a' w',aH C g' e1.st a' w'→jm p C.N q1.st.env a' w0→Shut ops (L.setIfInBounds i true)→SL P ops (Sq p w0) (L.setIfInBounds i true) w'→K a' w') →
  wpOp P ops Q i (fun a' w'=>SL P ops (Sq p w0) (L.setIfInBounds i true) w'∧K a' w') a w:=by
 unfold wC at h
 split at h
 rotate_left
 ·cases h
 rename_i o ho
 split at h
 rotate_left
 ·cases h
 rename_i hg
 split at h
 rotate_left
 ·cases h
 rename_i e2 h1
 split at h
 rotate_left
 ·cases h
 rename_i q2 h2
 cases h
 obtain ⟨x1,hb1,k2⟩:=IL h2 hb
 obtain ⟨hA2,kf⟩:=yC (P:=P) hA
 obtain ⟨hA3,k1⟩:=rD (C:=C) h1 hA2
 refine ⟨hA3,x1 ▸ hB,hb1,fun g a w w0 p Q K L hp c1 S Qr hsh hS hK=>?_⟩
 have hw:=Cv (ops:=ops) hg S
 unfold wpOp
 simp only [ho,hw,if_true]
 refine .inl ?_
 have hmain:=ae1 (k1 g a w S (fun a' w'=>(∃ g',aH C g' e2.st a' w')∧(jL P o.op=true→Calm w w')) Q (fun g' a' w' S' hcm=>⟨⟨g',S'⟩,hcm⟩))
 refine Oper.wp_mono (fun a' w' hh=>?_) hmain
 obtain ⟨⟨⟨g',S'⟩,hcm⟩,hform⟩:=hh
 rcases hform with ⟨v,rfl⟩ | hd
 ·have hS2:SL P ops (Sq p w0) (L.setIfInBounds i true) w':=by
   cases hck:jL P o.op with
   | true =>
    refine (SL.iff ho hck).2 fun kk=>?_
    obtain ⟨s1,s2⟩:=hS kk
    have hc:=hcm hck
    exact ⟨fun b hb=>(hc.same b (Nat.lt_of_lt_of_le (hp b hb) s2)).trans (s1 b hb),Nat.le_trans s2 hc.size⟩
   | false =>
    intro kk
    have hin:(L.setIfInBounds i true).getD i false=true:=by
     have h0:=(mem_ready.1 c1).1
     rcases Nat.lt_or_ge i L.size with h' | h'
     ·simp [h']
     ·simp [Array.getElem?_eq_none h'] at h0
    have:=kk i o ho hin
    rw [hck] at this;cases this
  refine ⟨hS2,hK g' _ w' (kf _ _ _ S') (k2 p a w0 v Qr fun d hd hdN=>⟨g'.aL,w',g'.TE d,?_⟩) (hsh.add c1) hS2⟩
  cases hl:look e2.st.env d with
  | none=>trivial
  | some x =>
   cases x with
   | d D =>
    cases D with
    | v u =>
     obtain ⟨m1,m2,_⟩:=S'.env d _ hl
     have hval:(a.put o.dst v).tmps.getD d undef=v:=by
      rw [hd,Act.jF,Array.getD_eq_getD_getElem?]
      simp [show d < a.tmps.size by rw [S.tmps];exact hdN]
     rw [hval] at m2
     exact aV.inv m2
    | _=>trivial
   | _=>trivial
 ·exact (hd S'.defers).elim
def ai0 (P:Program) (ops:Array Oper) (Q:Exit→Act→World→Prop) (S:Array Bool→World→Prop) (n:Nat) (r:Option (List Nat)) (L:Array Bool) (a:Act) (w:World):Prop:=match r with
 | none=>anyS P ops Q S n L a w
 | some l=>∀ i∈l,∃ m,n=m+1∧wpOp P ops Q i (fun a' w'=>S (L.setIfInBounds i true) w'∧anyS P ops Q S m (L.setIfInBounds i true) a' w') a w
theorem rF {ops:Array Oper} (hs:Region.noSelect ops=true):∀ {t:Tr} {r:Option (List Nat)} {L:Array Bool} {e q:E} {ls:List (E × E)},jR P C.N ops t r L e q=some ls→jP (ls.map Z4)→q.st.box=[]→(∀ l,r=some l→∀ i∈l,i∈Region.ready .any ops L) →
 All e.ob∧All q.ob∧∀ (g:G) (a:Act) (w w0:World) (p:aW) (Q:Exit→Act→World→Prop),(∀ b,p b→b < w0.heap.size)→(∀ c a w,¬ Q (.panic c) a w)→(∀ x∈ls,∀ g a w,aH C g x.1.st a w→Q .normal a w) →
  aH C g e.st a w→jm p C.N q.st.env a w0→Shut ops L→SL P ops (Sq p w0) L w→ai0 P ops Q (SL P ops (Sq p w0)) t.cnt r L a w
 | .z,some _,L,e,q,ls,h,hA,hb,hr=>by simp [jR] at h
 | .k _ _,some _,L,e,q,ls,h,hA,hb,hr=>by simp [jR] at h
 | .q _ _ _,some _,L,e,q,ls,h,hA,hb,hr=>by simp [jR] at h
 | .i _ _,some _,L,e,q,ls,h,hA,hb,hr=>by simp [jR] at h
 | .z,none,L,e,q,ls,h,hA,hb,hr=>by
  simp only [jR] at h
  split at h
  ·rename_i hrd
   cases h
   cases hA with
   | cons h1 h2 _=>exact ⟨h1,h2,fun g a w w0 p Q hp lh hQ S _ _ _=>⟨hrd,hQ (e,q) (by simp) g a w S⟩⟩
  ·cases h
 | .k d l,none,L,e,q,ls,h,hA,hb,hr=>by
  simp only [jR] at h
  split at h
  ·rename_i b hl
   split at h
   ·rename_i v e1 hh
    obtain ⟨q1,q2⟩:=gW hh
    have hb2:(vB d v q).st.box=[]:=by
     unfold vB
     split
     ·exact hb
     ·exact hb
    obtain ⟨h1,h2,h3⟩:=rF hs h hA hb2 (fun _ h=>by cases h)
    obtain ⟨h4,hbv⟩:=All.snoc (l:=e1.ob) h1
    subst hbv
    obtain ⟨h5,_,h6⟩:=af6 (N:=C.N) h2 hb
    refine ⟨q1 ▸ h4,h5,fun g a w w0 p Q hp lh hQ S Qr hsh hS=>?_⟩
    refine h3 g a w w0 p Q hp lh hQ ?_ (h6 p a w0 Qr) hsh hS
    show aH C g (e1.st.jN d _) a w
    rw [q2]
    exact S.known hl
   ·cases h
  ·cases h
 | .q i ps l,none,L,e,q,ls,h,hA,hb,hr=>by
  simp only [jR] at h
  split at h
  ·rename_i o ho
   split at h
   ·rename_i hc
    simp only [Bool.and_eq_true] at hc
    obtain ⟨⟨⟨c1,c2⟩,c3⟩,c4⟩:=hc
    have c1:i∈Region.ready .any ops L:=by simpa using c1
    split at h
    ·rename_i hg
     split at h
     ·rename_i e1 q1 h1 h2
      have hb1:q1.st.box=[]:=Vd h2
      obtain ⟨hA1,hB1,k⟩:=rF hs h hA hb1 (fun _ h=>by cases h)
      obtain ⟨hA2,kf⟩:=yC (P:=P) hA1
      obtain ⟨hA3,k1⟩:=rD h1 hA2
      obtain ⟨hB2,_,k2⟩:=VO h2 hb hB1
      refine ⟨hA3,hB2,fun g a w w0 p Q hp lh hQ S Qr hsh hS=>?_⟩
      obtain ⟨v,hv,vC⟩:=k2 p a w0 Qr
      have hw:=Cv (ops:=ops) hg S
      have hSq:=UM hsh c3 (mem_ready.1 c1).1 hS
      have hrun:=hv w (fun _=>hSq.1)
      have hmain:=k1 g a w S (fun a' w'=>∃ g',aH C g' e1.st a' w') (fun _ _ _=>False) (fun g' a' w' S' _=>⟨g',S'⟩)
      unfold Oper.wp at hmain
      rw [hrun,Oper.upon_value] at hmain
      obtain ⟨g',S'⟩:=hmain
      refine anyS.first (R:=Sq p w0) ho hs (fun L w h1 h2 h3=>UM h1 c3 h2 h3) c4 (fun c a w h=>(lh c _ w h).elim) l.cnt L a w hsh (fun j oj=>Region.free_spec ho c2 j oj) c1 (.inl ⟨hw,fun w' hw'=>hv w' (fun _=>hw'.1)⟩) hS ?_
      exact k g' _ w w0 p Q hp lh hQ (kf _ _ _ S') vC (hsh.add c1) ((SL.iff ho c4).2 hS)
     ·cases h
    ·cases h
   ·cases h
  ·cases h
 | .i i l,none,L,e,q,ls,h,hA,hb,hr=>by
  simp only [jR] at h
  split at h
  ·rename_i o ho
   split at h
   ·rename_i hc
    simp only [Bool.and_eq_true] at hc
    obtain ⟨⟨c1,c2⟩,c4⟩:=hc
    have c1:i∈Region.ready .any ops L:=by simpa using c1
    split at h
    ·rename_i hg
     split at h
     ·rename_i e1 q1 hld h1 h2
      have hb1:q1.st.box=[]:=Vd h2
      obtain ⟨hA1,hB1,k⟩:=rF hs h hA hb1 (fun _ h=>by cases h)
      obtain ⟨hA2,kf⟩:=yC (P:=P) hA1
      obtain ⟨hA3,k1⟩:=rD h1 hA2
      obtain ⟨hB2,_,k2⟩:=VO h2 hb hB1
      refine ⟨hA3,hB2,fun g a w w0 p Q hp lh hQ S Qr hsh hS=>?_⟩
      obtain ⟨v,hv,vC⟩:=k2 p a w0 Qr
      have hw:=Cv (ops:=ops) hg S
      have hrun:=hv w (fun h=>by rw [hld] at h;cases h)
      have hmain:=k1 g a w S (fun a' w'=>∃ g',aH C g' e1.st a' w') (fun _ _ _=>False) (fun g' a' w' S' _=>⟨g',S'⟩)
      unfold Oper.wp at hmain
      rw [hrun,Oper.upon_value] at hmain
      obtain ⟨g',S'⟩:=hmain
      refine anyS.first (R:=fun _=>True) ho hs (fun L w h1 h2 h3=>trivial) c4 (fun c a w h=>(lh c _ w h).elim) l.cnt L a w hsh (fun j oj=>Region.free_spec ho c2 j oj) c1 (.inl ⟨hw,fun w' hw'=>hv w' (fun h=>by rw [hld] at h;cases h)⟩) hS ?_
      exact k g' _ w w0 p Q hp lh hQ (kf _ _ _ S') vC (hsh.add c1) ((SL.iff ho c4).2 hS)
     ·cases h
    ·rename_i hg
     split at h
     ·rename_i e1 q1 h1 h2
      obtain ⟨x1,hb1,k2⟩:=ad1 h2 hb
      obtain ⟨hA1,hB1,k⟩:=rF hs h hA hb1 (fun _ h=>by cases h)
      obtain ⟨hA3,k1⟩:=Cu (P:=P) (C:=C) (ops:=ops) h1 hA1
      refine ⟨hA3,x1 ▸ hB1,fun g a w w0 p Q hp lh hQ S Qr hsh hS=>?_⟩
      have hw:=Cv (ops:=ops) hg S
      have hmain:=k1 g a w S hw (fun a' w'=>∃ g',aH C g' e1.st a' w') (fun _ _ _=>False) (fun g' a' w' S' _=>⟨g',S'⟩)
      rw [if_neg (by rw [hw];simp)] at hmain
      obtain ⟨g',S'⟩:=hmain
      refine anyS.first (R:=fun _=>True) ho hs (fun L w h1 h2 h3=>trivial) c4 (fun c a w h=>(lh c _ w h).elim) l.cnt L a w hsh (fun j oj=>Region.free_spec ho c2 j oj) c1 (.inr ⟨hw,rfl⟩) hS ?_
      exact k g' _ w w0 p Q hp lh hQ S' (k2 p a w0 Qr) (hsh.add c1) ((SL.iff ho c4).2 hS)
     ·cases h
    ·cases h
   ·cases h
  ·cases h
 | .e i l,r,L,e,q,ls,h,hA,hb,hr=>by
  simp only [jR] at h
  split at h
  rotate_left
  ·cases h
  rename_i j kr
  split at h
  rotate_left
  ·cases h
  rename_i hj
  have hj:=Nat.eq_of_beq_eq_true hj
  subst hj
  split at h
  rotate_left
  ·cases h
  rename_i e1 q1 hes
  have hbq:q1.st.box=[]:=by
   unfold wC at hes
   split at hes
   ·split at hes
    ·split at hes
     ·split at hes
      ·rename_i _ _ _ _ h2
       cases hes
       exact (IL h2 hb).2.1
      ·cases hes
     ·cases hes
    ·cases hes
   ·cases hes
  obtain ⟨hA1,hB1,k⟩:=rF hs h hA hbq (fun _ h=>by cases h)
  obtain ⟨om,hB0,_,step⟩:=VP (C:=C) hes hb hA1 hB1
  refine ⟨om,hB0,fun g a w w0 p Q hp lh hQ S Qr hsh hS=>?_⟩
  have main:j∈Region.ready .any ops L→wpOp P ops Q j (fun a' w'=>SL P ops (Sq p w0) (L.setIfInBounds j true) w'∧anyS P ops Q (SL P ops (Sq p w0)) l.cnt (L.setIfInBounds j true) a' w') a w:=fun c1 =>
   step g a w w0 p Q _ L hp c1 S Qr hsh hS fun g' a' w' S' vC hsh' hS'=>k g' a' w' w0 p Q hp lh hQ S' vC hsh' hS'
  cases r with
  | none =>
   simp only [rO] at kr
   refine ⟨fun h0=>(by rw [h0] at kr;cases kr),fun i hi=>?_⟩
   rw [kr] at hi
   have:i=j:=by simpa using hi
   subst this
   exact main (by rw [kr];simp)
  | some l' =>
   simp only [rO] at kr
   subst kr
   intro i hi
   have:i=j:=by simpa using hi
   subst this
   exact ⟨_,rfl,main (hr _ rfl _ (by simp))⟩
 | .b i h1 g1 t1 h2 g2 t2,r,L,e,q,ls,h,hA,hb,hr=>by
  simp only [jR] at h
  split at h
  rotate_left
  ·cases h
  rename_i j k ks kr
  split at h
  rotate_left
  ·cases h
  rename_i hj
  rw [Bool.and_eq_true] at hj
  have hcnt:=Nat.eq_of_beq_eq_true hj.2
  have hj:=Nat.eq_of_beq_eq_true hj.1
  subst hj
  split at h
  rotate_left
  ·cases h
  rename_i e1 q1 hes
  split at h
  rotate_left
  ·cases h
  rename_i l1 l2 hl1 hl2
  cases h
  rw [List.map_append] at hA
  have hbq:q1.st.box=[]:=by
   unfold wC at hes
   split at hes
   ·split at hes
    ·split at hes
     ·split at hes
      ·rename_i _ _ _ _ h2
       cases hes
       exact (IL h2 hb).2.1
      ·cases hes
     ·cases hes
    ·cases hes
   ·cases hes
  have hall:∀ i∈j :: k :: ks,i∈Region.ready .any ops L:=by
   cases r with
   | none=>simp only [rO] at kr;rw [kr];exact fun _ h=>h
   | some l'=>simp only [rO] at kr;subst kr;exact hr _ rfl
  obtain ⟨hA1,hB1,k1⟩:=rF hs hl1 hA.left hbq (fun _ h=>by cases h)
  obtain ⟨hA2,hB2,k2⟩:=rF hs hl2 hA.right hb (fun l' h=>by cases h;exact fun i hi=>hall i (List.mem_cons_of_mem _ hi))
  obtain ⟨om,hB0,_,step⟩:=VP (C:=C) hes hb hA1 hB1
  refine ⟨om,hB0,fun g a w w0 p Q hp lh hQ S Qr hsh hS=>?_⟩
  have m1:=step g a w w0 p Q _ L hp (hall j (by simp)) S Qr hsh hS fun g' a' w' S' vC hsh' hS'=>k1 g' a' w' w0 p Q hp lh (fun x hx=>hQ x (List.mem_append_left _ hx)) S' vC hsh' hS'
  have m2:=k2 g a w w0 p Q hp lh (fun x hx=>hQ x (List.mem_append_right _ hx)) S Qr hsh hS
  have all:∀ i∈j :: k :: ks,wpOp P ops Q i (fun a' w'=>SL P ops (Sq p w0) (L.setIfInBounds i true) w'∧anyS P ops Q (SL P ops (Sq p w0)) t1.cnt (L.setIfInBounds i true) a' w') a w:=by
   intro i hi
   rcases List.mem_cons.1 hi with rfl | hi
   ·exact m1
   ·obtain ⟨m,hm,hw⟩:=m2 i hi
    have:m=t1.cnt:=by omega
    subst this
    exact hw
  cases r with
  | none =>
   simp only [rO] at kr
   refine ⟨fun h0=>(by rw [h0] at kr;cases kr),fun i hi=>?_⟩
   rw [kr] at hi
   exact all i hi
  | some l' =>
   simp only [rO] at kr
   subst kr
   intro i hi
   exact ⟨_,rfl,all i hi⟩
def YC:Option (List (E × E))→St
 | some [(e,_)]=>e.st
 | _=>default
def Aj:Option (List (E × E))→Option (List (List Prop × List Prop))
 | some l=>some (l.map Z4)
 | none=>none
def uE:Option (List (E × E))→List St
 | some l=>l.map (·.1.st)
 | none=>[]
def YD:Option (List (Nat × X) × List Prop)→List (Nat × X)
 | some (q,_)=>q
 | none=>[]
def yT:Option (List (Nat × X) × List Prop)→Option (List Prop)
 | some (_,os)=>some os
 | none=>none
def mK (P:Program) (N:Nat) (ops:Array Oper) (t:Tr) (st:St) (ks:List (Nat × Option V)) (hs hq:List V) (rw:List (Nat × Value)) (fx:List (Nat × V)):Option (List (E × E)) :=
 jR P N ops t none (Array.replicate ops.size false) ⟨hs,[],st,rw,fx⟩ ⟨hq,[],⟨YD (mZ st ks),[]⟩,[],[]⟩
theorem UO {Q:Exit→St→Prop} {st:St} {id N:Nat} {ops:Array Oper} {obs:List (List Prop × List Prop)} (hm:P.follows .mixedOrders=true) (hN:C.N=N) (t:Tr) (ks:List (Nat × Option V)) {os:List Prop} (hks:yT (mZ st ks)=some os) (hO:All os) (hs hq:List V) (hA:jP obs) (rw:List (Nat × Value)) (fx:List (Nat × V))
 (hc:(Region.noSelect ops && Nat.beq t.cnt ops.size)=true) (h:Aj (mK P N ops t st ks hs hq rw fx)=some obs)
 (k:∀ x,x∈uE (mK P N ops t st ks hs hq rw fx)→∀ g a w,aH C g x a w→∃ g st,aH C g st a w∧Q .normal st):Good P C (.region id ops true) Q st:=by
 subst hN
 simp only [Bool.and_eq_true] at hc
 have hcnt:=Nat.eq_of_beq_eq_true hc.2
 intro g a w S
 have ai1:mZ st ks=some (YD (mZ st ks),os):=by
  cases hq:mZ st ks with
  | none=>rw [hq] at hks;cases hks
  | some x=>obtain ⟨q,os'⟩:=x;rw [hq] at hks;cases hks;rfl
 cases he:mK P C.N ops t st ks hs hq rw fx with
 | none=>rw [he] at h;cases h
 | some ls =>
  rw [he] at h k
  cases h
  obtain ⟨_,_,key⟩:=rF (C:=C) hc.1 he hA rfl (fun _ h=>by cases h)
  have S1:=S.calm (Calm.drew w)
  have Tv:∀ b,g.all b→b < w.drew.heap.size:=by
   rintro b (h | ⟨h,ho⟩)
   ·exact S1.dM b h
   ·exact (S1.own b h ho).2.1
  have agX:Shut ops (Array.replicate ops.size false):=by
   intro j o _ hl
   rw [getD_replicate_false] at hl;cases hl
  have res:=key g a w.drew w.drew g.all (fun e a w=>e=.normal∧∃ g st,aH C g st a w∧Q .normal st) Tv (fun c a w h=>by cases h.1) (fun x hx g a w S'=>⟨rfl,k x.1.st (List.mem_map.2 ⟨x,hx,rfl⟩) g a w S'⟩) S1 (jm.start S1 ai1 hO) agX
   (fun _=>⟨fun _ _=>rfl,Nat.le_refl _⟩)
  rw [hcnt] at res
  refine wp_mono (wp_region_any hm (anyS.any _ _ _ _ res)) fun e a w h=>?_
  obtain ⟨rfl,g,st,S',h⟩:=h
  exact ⟨g,st,S',h⟩
theorem Good.uF {Q:Exit→St→Prop} {st:St} {id N:Nat} {ops:Array Oper} {obs BB:List Prop} (hm:P.follows .mixedOrders=true) (hN:C.N=N) (t:Tr) (ks:List (Nat × Option V)) {os:List Prop} (hks:yT (mZ st ks)=some os) (hO:All os) (hs hq:List V) (hA:All obs) (hB:All BB) (rw:List (Nat × Value)) (fx:List (Nat × V))
 (hc:(Region.noSelect ops && Nat.beq t.cnt ops.size)=true) (h:Aj (mK P N ops t st ks hs hq rw fx)=some [(obs,BB)]) (k:Q .normal (YC (mK P N ops t st ks hs hq rw fx))):Good P C (.region id ops true) Q st:=by
 refine UO hm hN t ks hks hO hs hq (.cons hA hB .nil) rw fx hc h fun x hx g a w S=>?_
 cases he:mK P N ops t st ks hs hq rw fx with
 | none=>rw [he] at hx;simp [uE] at hx
 | some ls =>
  rw [he] at hx h k
  match ls,h with
  | [(e,q)],_ =>
   simp only [uE,List.map_cons,List.map_nil,List.mem_singleton] at hx
   subst hx
   exact ⟨g,_,S,k⟩
def JM (kk:List (Nat × Nat)) (p:List Nat) (s:St):Option (List (Nat × X)) × List gH:=match p with
 | []=>(rM s.env kk,s.box)
 | _ :: _=>match jr p s.box.length with
  | true=>(rM (Ah p s.env) kk,D8 p s.box)
  | false=>(none,[])
def Kl (L:Nat) (p:List Nat):Bool:=match p with
 | []=>true
 | _ :: _=>(List.range L).all fun i=>match p[i]? with
  | some j=>Nat.beq i j
  | none=>false
theorem Good.XU {Q:Exit→St→Prop} {st:St} {id N n Ln:Nat} {ops:Array Oper} {obs:List (List Prop × List Prop)} (hm:P.follows .mixedOrders=true) (hN:C.N=N) (hL:C.L.length=Ln) (t:Tr) (ks:List (Nat × Option V)) {os:List Prop} (hks:yT (mZ st ks)=some os) (hO:All os) (hs hq:List V) (hA:jP obs) (rw:List (Nat × Value)) (fx:List (Nat × V))
 (hc:(Region.noSelect ops && Nat.beq t.cnt ops.size)=true) (h:Aj (mK P N ops t st ks hs hq rw fx)=some obs) (ps:List (List Nat)) (kk:List (Nat × Nat)) (env:List (Nat × X)) (box:List gH) (hps:(ps.all (Kl Ln) && Nat.beq (uE (mK P N ops t st ks hs hq rw fx)).length ps.length)=true)
 (hw:List.zipWith (JM kk) ps (uE (mK P N ops t st ks hs hq rw fx))=List.replicate n (some env,box)) (k:Q .normal ⟨env,box⟩):Good P C (.region id ops true) Q st:=by
 rw [Bool.and_eq_true] at hps
 have hlen:=Nat.eq_of_beq_eq_true hps.2
 refine UO hm hN t ks hks hO hs hq hA rw fx hc h fun x hx g a w S=>?_
 obtain ⟨i,hi⟩:=List.getElem?_of_mem hx
 have hil:=(List.getElem?_eq_some_iff.1 hi).1
 have hpi:ps[i]? = some ps[i]:=List.getElem?_eq_getElem (by omega)
 have hm:=congrArg (fun l=>l[i]?) hw
 simp only [List.getElem?_zipWith,hpi,hi] at hm
 have hin:i < n:=by
  have:=congrArg List.length hw
  simp only [List.length_zipWith,List.length_replicate] at this
  omega
 rw [List.getElem?_replicate,if_pos hin] at hm
 have hm:=Option.some.inj hm
 have hlow:=List.all_eq_true.1 hps.1 ps[i] (List.getElem_mem _)
 generalize ps[i]=p at hm hlow
 unfold JM at hm
 split at hm
 ·simp only [Prod.mk.injEq] at hm
  obtain ⟨g',S'⟩:=Wk.of kk hm.1 hm.2 g a w S
  exact ⟨g',_,S',k⟩
 ·rename_i q qs
  split at hm
  ·rename_i hok
   simp only [Prod.mk.injEq] at hm
   have S1:=S.ren hok (.inr fun j hj=>by
    simp only [Kl] at hlow
    have:=List.all_eq_true.1 hlow j (List.mem_range.2 (by omega))
    split at this
    ·rename_i j' hj'
     rw [hj',Nat.eq_of_beq_eq_true this]
    ·cases this)
   obtain ⟨g',S'⟩:=Wk.of kk hm.1 hm.2 _ a w S1
   exact ⟨g',_,S',k⟩
  ·simp only [Prod.mk.injEq,reduceCtorEq,false_and] at hm
end
theorem IM {P:Program} {f:FuncId} {fn:Func} {c:Code} (hf:P.funcs[f]? = some fn) (hb:fn.body=some c) (hname:(fn.name == "runtime.NumGoroutine")=false) (vs:Array Value) (w:World):(callFunc f vs).run P w=.ok (.enter f vs) w:=by
 have h1:fn.name ≠ "runtime.NumGoroutine" := by simpa using hname
 simp [callFunc,hf,h1,hb]
theorem Gz {w w':World} (h:Below w.heap.size w w'):Calm w w':=⟨h.os,h.tape,h.output,h.size,h.block⟩
theorem GA {w w':World} (h:Calm w w'):Below w.heap.size w w':=⟨h.os,h.tape,h.output,h.size,h.same⟩
theorem uf {P:Program} {f:FuncId} {fn:Func} {c:Code} {us:List V} {xs:List Value} {v:Value} (hf:P.funcs[f]? = some fn) (hb:fn.body=some c) (hname:(fn.name == "runtime.NumGoroutine")=false) (hl:lits us=some xs)
 (h:∀ p w,gp.t p w→Calls P f xs.toArray w fun e w'=>e=.returned v∧Below w.heap.size w w'):aQ P f us (.lit v):=by
 refine ⟨IM hf hb hname,fun p w vs hp ht hr=>?_⟩
 have hvs:=oI hl hr
 subst hvs
 refine (h p w ht).mono fun e w' ⟨he,hbel⟩=>?_
 exact ⟨v,[],fun _=>False,he,Gz hbel,fun _ h=>h.elim,List.nodup_nil,fun _ h=>(by cases h),.lit v⟩
theorem aQ.law {P:Program} {f:FuncId} {us:List V} (h:aQ P f us (.lit (.bool true))) {w:World} {vs:List Value} (ht:gp.t (fun b=>b < w.heap.size) w) (hr:aM (fun b=>b < w.heap.size) w vs us []) :
 Calls P f vs.toArray w fun e w'=>e=.returned (.bool true)∧Below w.heap.size w w':=by
 refine (h.2 _ w vs (fun _ h=>h) ht hr).mono fun e w' ⟨v,T,q,he,hc,_,_,_,hv⟩=>?_
 rw [hv.jX] at he
 exact ⟨he,GA hc⟩
theorem Ec {x y:Int} (h:x=y):Fit (I x) (I y):=h ▸ .refl _
section
variable {P:Program} {C:Ctx}
theorem UQ {ops:Array Oper} (l2:List Nat):∀ {l:List Nat} {e e':E},iW P C.N ops l e=some e'→All e'.ob→All e.ob∧∀ g a w,aH C g e.st a w→∀ (Q:Exit→Act→World→Prop),(∀ g' a' w',aH C g' e'.st a' w'→wpOps P ops Q l2 a' w')→wpOps P ops Q (l++l2) a w
 | [],e,e',h,hA=>by
  cases h
  exact ⟨hA,fun g a w S Q hn=>hn g a w S⟩
 | i :: l,e,e',h,hA=>by
  simp only [iW] at h
  cases hoi:ops[i]? with
  | none=>rw [hoi] at h;cases h
  | some o =>
   rw [hoi] at h
   simp only at h
   cases h1:Ac P C.N ops o e with
   | none=>rw [h1] at h;cases h
   | some e1 =>
    rw [h1] at h
    obtain ⟨hA1,k2⟩:=UQ l2 (l:=l) h hA
    obtain ⟨hA2,k3⟩:=yC (P:=P) (C:=C) hA1
    obtain ⟨om,k1⟩:=WC (C:=C) h1 hA2
    refine ⟨om,fun g a w S Q hn=>?_⟩
    have:=k1 g a w S (wpOps P ops Q (l++l2)) Q (fun g' a' w' S' _=>k2 g' a' w' (k3 g' a' w' S') Q hn)
    rw [List.cons_append]
    simp only [wpOps,hoi]
    exact this
theorem ac4 {t el:TypeId} (hu:P.underlying t=some (.slice el)) (ao:Option Addr) (n c:Nat) (w:World):(Op.equal t (.slice ao n c) (.slice none 0 0)).run P w=.ok ao.isNone w:=by
 have hun:(underlying t).run P w=.ok (.slice el) w:=by simp [underlying,hu]
 show (Op.equalIn (9999+1) t (.slice ao n c) (.slice none 0 0)).run P w=_
 unfold Op.equalIn
 simp only [Sem.run_bind,hun,Result.andThen_ok]
 cases ao<;>rfl
def Xp (P:Program) (N:Nat) (ops:Array Oper) (n:Nat) (st:St):Option (Nat × Nat × List V):=match ops[n]? with
 | some o=>match o.op with
  | .binOp .eql t (.tmp s) (.const (.slice none 0 0)) _=>match o.guard,dS N o,P.underlying t with
   | none,some d,some (.slice _)=>match look st.env s with
    | some (.d (.v (.row none (sz+1) es)))=>match Nat.beq ops.size (n+1) with
     | true=>some (d,sz,es)
     | false=>none
    | _=>none
   | _,_,_=>none
  | _=>none
 | none=>none
theorem Good.af7 {Q:Exit→St→Prop} {st:St} {id N:Nat} {ops:Array Oper} {obs:List Prop} (n d sz:Nat) (es:List V) (hN:C.N=N) (hs:List V) (hA:All obs) (h:uU (iW P N ops (List.range n) ⟨hs,[],st,[],[]⟩)=some obs)
 (hc:Xp P N ops n (qJ (iW P N ops (List.range n) ⟨hs,[],st,[],[]⟩))=some (d,sz,es))
 (k1:es=[]→Q .normal ((qJ (iW P N ops (List.range n) ⟨hs,[],st,[],[]⟩)).put d (.d (.v (.lit (.bool true))))))
 (k2:Q .normal ((qJ (iW P N ops (List.range n) ⟨hs,[],st,[],[]⟩)).put d (.d (.v (.lit (.bool false)))))):Good P C (.region id ops false) Q st:=by
 subst hN
 intro g a w S
 cases he:iW P C.N ops (List.range n) ⟨hs,[],st,[],[]⟩ with
 | none=>rw [he] at h;cases h
 | some e' =>
  rw [he] at h hc k1 k2
  cases h
  unfold Xp at hc
  split at hc
  ·rename_i o ho
   split at hc
   ·rename_i t s ty hop
    split at hc
    ·rename_i d' el hg hd hu
     split at hc
     ·rename_i iQ es' hl
      split at hc
      ·rename_i hz
       cases hc
       have hz:=Nat.eq_of_beq_eq_true hz
       obtain ⟨_,key⟩:=UQ (C:=C) [n] he hA
       refine wp_region ?_
       rw [hz,List.range_succ]
       refine key g a w S _ fun g' a' w' S'=>?_
       simp only [wpOps,ho]
       rw [if_pos (by simp [Region.wanted,hg])]
       obtain ⟨hdd,hdN⟩:=fC hd
       obtain ⟨_,h2,_⟩:=S'.env s _ hl
       obtain ⟨ao,cap,xs,⟨hx,_⟩,hc,hr,_,hcell⟩:=xV (aV.inv h2)
       have run:(execOp a'.eval o).run P w'=.ok (.value (.bool ao.isNone)) w':=by
        unfold execOp
        simp only [hop,Act.eval,hx,Sem.run_bind,eqGuard,binOp,ac4 hu,Result.andThen_ok,Sem.run_pure]
        rfl
       have hnil:ao.isNone=true→es=[]:=by
        intro hn
        cases es with
        | nil=>rfl
        | cons e es =>
         have hz1:e.cells.length=sz+1:=hc e (by simp)
         have hlen:=hr.length
         rw [List.flatMap_cons,List.length_append,hz1] at hlen
         have h0:0 < xs.length:=by omega
         obtain ⟨b,q,e1,_⟩:=hcell 0 _ (List.getElem?_eq_getElem h0)
         rw [e1] at hn
         cases hn
       refine .inl (fq run ?_)
       rw [hdd]
       refine ⟨_,_,S'.iG (Calm.refl w') hdN (.v (.lit _)),?_⟩
       cases hb:ao.isNone with
       | true=>exact k1 (hnil hb)
       | false=>exact k2
      ·cases hc
     ·cases hc
    ·cases hc
   ·cases hc
  ·cases hc
end
end
section
structure dC (p:Prop):Prop where
 mk :: (out:p)
theorem q9 {w W:World} (h:Below w.heap.size w W) (o:Obj):Below w.heap.size w (W.alloc o):=Below.alloc h h.size o
theorem WE {w W X:World} (h:Below w.heap.size w W) (k:Below W.heap.size W X):Below w.heap.size w X:=Below.trans h (Below.mono k h.size)
theorem ae3 {a:Array Value} {n:Nat} (h:a.size=n):a=((List.range n).map fun i=>a.getD i undef).toArray:=by
 refine Array.ext (by simp [h]) fun i h1 h2=>?_
 simp [h1]
theorem aM.lits {α:Type} {p:aW} {w:World} {enc:α→Value}:∀ {l:List α} {xs:List Value} {T:List Nat},aM p w xs (l.map fun x=>V.lit (enc x)) T→xs=l.map enc
 | [],_,_,h=>by cases h;rfl
 | x :: l,_,_,h=>by
  cases h with
  | cons h1 h2 =>
   cases h1
   rw [h2.lits]
   rfl
theorem Ve {α:Type} (enc:α→Value) (l:List α):(l.map fun x=>V.lit (enc x)).flatMap V.cells=l.map fun x=>V.lit (enc x):=by
 induction l with
 | nil=>rfl
 | cons x l ih=>simp only [List.map_cons,List.flatMap_cons,ih,V.cells,List.singleton_append]
theorem aP.ad2 {α:Type} {p:aW} {w:World} {v:Value} {e:TypeId} {enc:α→Value} {l:List α} {T:List Nat} (h:aP p w v (.row (some e) 1 (l.map fun x=>V.lit (enc x))) T):w.ownsRow 0 e 1 v l.length (l.map enc):=by
 generalize he:(l.map fun x=>V.lit (enc x))=es at h
 cases h with
 | own h1 h2 h3 h4 =>
  subst he
  rw [Ve] at h2
  rw [h2.lits] at h4
  simpa using h4
theorem aP.abO {α:Type} {p:aW} {w:World} {v:Value} {enc:α→Value} {l:List α} {T:List Nat} (h:aP p w v (.row none 1 (l.map fun x=>V.lit (enc x))) T) :
 ∃ ao cap,v=.slice ao l.length cap∧l.length≤cap∧∀ j x,l[j]? = some x→∃ b o,ao=some ⟨b,o,none⟩∧p b∧w.cell? ⟨b,o+j,none⟩=some (enc x):=by
 generalize he:(l.map fun x=>V.lit (enc x))=es at h
 cases h with
 | shared h0 h1 h2 h3 h4 =>
  subst he
  rw [Ve] at h2
  rw [h2.lits] at h4
  rw [List.length_map] at h0
  refine ⟨_,_,by rw [List.length_map],h0,fun j x hj=>h4 j _ (by rw [List.getElem?_map,hj];rfl)⟩
variable [gp]
theorem BP {p:aW} {w W:World} (hp:∀ b,p b→b < w.heap.size) (h:gp.t p w) (k:Below w.heap.size w W):gp.t p W:=gp.s ⟨fun _ h=>h,fun b hb=>k.block b (hp b hb)⟩ h
theorem Ci {p:aW} {w W:World} (hp:∀ b,p b→b < w.heap.size) (k:Below w.heap.size w W):∀ b,p b→b < W.heap.size:=fun b hb=>Nat.lt_of_lt_of_le (hp b hb) k.size
theorem Ux {w w1:World} (h:Below w.heap.size w w1) (row:Option Nat):w.grownBy w1 row:=⟨h.os,h.tape,h.output,h.size,fun i hi _=>h.block i hi⟩
theorem Vf {P:Program} {f:FuncId} {fn:Func} {c:Code} {us:List V} {xs:List Value} {r:V} (hf:P.funcs[f]? = some fn) (hb:fn.body=some c) (hname:(fn.name == "runtime.NumGoroutine")=false) (hl:lits us=some xs)
 (h:∀ p w,(∀ b,p b→b < w.heap.size)→gp.t p w→Calls P f xs.toArray w fun e w'=>∃ v T,e=.returned v∧Below w.heap.size w w'∧T.Nodup∧(∀ b∈T,w.heap.size≤b∧b < w'.heap.size)∧∀ p,aP p w' v r T):aQ P f us r:=by
 refine ⟨IM hf hb hname,fun p w vs hp ht hr=>?_⟩
 have hvs:=oI hl hr
 subst hvs
 refine (h p w hp ht).mono fun e w' ⟨v,T,he,hbel,h1,h2,h3⟩=>?_
 exact ⟨v,T,fun _=>False,he,Gz hbel,fun _ h=>h.elim,h1,fun b hb=>⟨(h2 b hb).1,(h2 b hb).2,fun h=>h⟩,h3 _⟩
theorem IP {p:aW} {w:World}:∀ {us:List V} {vs:List Value},lits us=some vs→aM p w vs us []
 | [],vs,h=>by cases h;exact .nil
 | u :: us,vs,h=>by
  cases u with
  | lit v =>
   simp only [lits] at h
   split at h
   ·rename_i vs' hv
    cases h
    exact aM.cons (A:=[]) (B:=[]) (.lit v) (IP hv)
   ·cases h
  | kb b =>
   simp only [lits] at h
   split at h
   ·rename_i vs' hv
    cases h
    exact aM.cons (A:=[]) (B:=[]) (.kb b) (IP hv)
   ·cases h
  | _=>cases h
theorem aQ.lits {P:Program} {f:FuncId} {us:List V} {xs:List Value} {r:Value} (h:aQ P f us (.lit r)) (hl:lits us=some xs) {p:aW} {w:World} (hp:∀ b,p b→b < w.heap.size) (ht:gp.t p w) :
 Calls P f xs.toArray w fun e w'=>e=.returned r∧Below w.heap.size w w' :=
 (h.2 p w xs hp ht (IP hl)).mono fun e w' ⟨v,T,q,he,hc,_,_,_,hv⟩=>⟨by rw [he,hv.jX],GA hc⟩
theorem HY {α:Type} {p:aW} {w:World} (enc:α→Value):∀ l:List α,aM p w (l.map enc) ((l.map fun x=>V.lit (enc x)).flatMap V.cells) []
 | []=>.nil
 | x :: l=>aM.cons (A:=[]) (B:=[]) (.lit _) (HY enc l)
theorem aP.af8 {α:Type} {p:aW} {w:World} {enc:α→Value} {base e:Nat} {v:Value} {l:List α} (hone:∀ x,(enc x).oneCell'=true) (h:w.ownsRow base e 1 v l.length (l.map enc)):aP p w v (.row (some e) 1 (l.map fun x=>V.lit (enc x))) (v.ownBlock.toList++[]):=by
 refine aP.own (xs:=l.map enc) (fun y hy=>?_) (HY enc l) (fun u hu=>?_) ?_
 ·obtain ⟨x,_,rfl⟩:=List.mem_map.1 hy;rfl
 ·obtain ⟨x,_,rfl⟩:=List.mem_map.1 hu;exact hone x
 ·rw [List.length_map]
  refine ⟨h.1,?_⟩
  rcases h.2 with h | ⟨g,cap,cur,a,_,b⟩
  ·exact .inl h
  ·exact .inr ⟨g,cap,cur,a,Nat.zero_le _,b⟩
theorem aP.ac5 {α:Type} {p:aW} {w:World} {enc:α→Value} {l:List α} {ao:Option Addr} {cap n:Nat} (hn:n=l.length) (hone:∀ x,(enc x).oneCell'=true) (h0:l.length≤cap) (hc:∀ j x,l[j]? = some x→∃ b o,ao=some ⟨b,o,none⟩∧p b∧w.cell? ⟨b,o+j,none⟩=some (enc x)):aP p w (.slice ao n cap) (.row none 1 (l.map fun x=>V.lit (enc x))) []:=by
 have hl:n=(l.map fun x=>V.lit (enc x)).length:=by rw [List.length_map,hn]
 rw [hl]
 refine .shared (xs:=l.map enc) (by rw [← hl,hn];exact h0) (fun y hy=>?_) (HY enc l) (fun u hu=>?_) (fun j u hj=>?_)
 ·obtain ⟨x,_,rfl⟩:=List.mem_map.1 hy;rfl
 ·obtain ⟨x,_,rfl⟩:=List.mem_map.1 hu;exact hone x
 ·rw [List.getElem?_map] at hj
  cases hx:l[j]? with
  | none=>rw [hx] at hj;cases hj
  | some x =>
   rw [hx] at hj
   cases hj
   exact hc j x hx
theorem aaL (v:Value):(v.ownBlock.toList++([]:List Nat)).Nodup:=by cases v.ownBlock<;>simp
theorem abP {w:World} {base e size n:Nat} {v:Value} {xs:List Value} (h:w.ownsRow base e size v n xs):∀ b∈v.ownBlock.toList++([]:List Nat),base≤b∧b < w.heap.size:=fun b hb=>by
 rcases h.2 with ⟨rfl,_⟩ | ⟨g,cap,cur,rfl,hg,hh,_⟩
 ·simp [Value.ownBlock] at hb
 ·simp [Value.ownBlock] at hb
  subst hb
  exact ⟨hg,(Array.getElem?_eq_some_iff.1 hh).1⟩
section
variable {P:Program} {C:Ctx} {Q:Exit→Act→World→Prop} {st:St} {fn:Func} {r:V}
def oW (P:Program) (C:Ctx) (c:Code) (Q:Exit→Act→World→Prop) (st:St):Prop:=∀ g a w,aH C g st a w→c.wp P Q a w
theorem oW.seq {x y:Code} (h:Good P C x (thenS (oW P C y Q) fun e st=>∀ g a w,aH C g st a w→Q e a w) st):oW P C (.seq x y) Q st:=fun g a w S =>
 wp_seq (wp_mono (h g a w S) fun e a w ⟨g',st',S',h'⟩=>by
  cases e with
  | normal=>exact h' g' a w S'
  | _=>exact h' g' a w S')
theorem oW.good {c:Code} (h:Good P C c (fun e st=>∀ g a w,aH C g st a w→Q e a w) st):oW P C c Q st:=fun g a w S =>
 wp_mono (h g a w S) fun e a w ⟨g',st',S',h'⟩=>h' g' a w S'
def Tw (C:Ctx) (r:V) (e:Ending) (w':World):Prop:=∃ (v:Value) (T:List Nat) (q:aW),e=.returned v∧Calm C.W w'∧(∀ b,q b→C.W.heap.size≤b∧b < w'.heap.size)∧T.Nodup∧(∀ b∈T,C.W.heap.size≤b∧b < w'.heap.size∧¬ q b)∧aP (fun b=>C.p0 b∨q b) w' v r T
def YE (P:Program) (fn:Func) (C:Ctx) (r:V):Exit→Act→World→Prop:=bodyPostM Fence.wide 3 P fn (Tw C r)
theorem oW.fin (hF:∀ b,¬ C.Fz b) (h:fin P fn r .ret st):∀ g a w,aH C g st a w→YE P fn C r .ret a w:=fun g a w S=>by
 obtain ⟨h1,v,h2,h3⟩:=IK S hF h
 show LeavesInM Fence.wide 3 P fn a.tmps (Tw C r) a.defers .returning w
 rw [h1]
 exact ⟨v,h2,h3⟩
theorem acm {f:FuncId} {c:Code} {us:List V} (hf:P.funcs[f]? = some fn) (hb:fn.body=some c) (hname:(fn.name == "runtime.NumGoroutine")=false) (hN:Nat.ble us.length fn.ntmps=true)
 (h:∀ C:Ctx,C.N=fn.ntmps→C.L.length=0→(∀ b,¬ C.Fz b)→oW P C c (YE P fn C r) (enter us)):aQ P f us r:=by
 refine ⟨fun vs w=>by
  have h1:fn.name ≠ "runtime.NumGoroutine" := by simpa using hname
  simp [callFunc,hf,h1,hb],fun p w vs hp htab hr=>?_⟩
 have hN:=Nat.le_of_ble_eq_true hN
 have S:=U7 fn.ntmps hN hp htab hr
 exact callsIn_wide.1 (callsIn_of_wp_marks (F:=Fence.wide) (n:=3) hf hb trivial (wpIn_wide.2 (h _ rfl rfl (fun _ h=>h) _ _ w S)) rfl)
end
end
section
abbrev X.w (v:V):X:=.d (.v v)
theorem All.c {p:Prop} {l:List Prop} (h:p) (k:All l):All (p :: l):=.cons h k
theorem All.n:All []:=.nil
theorem jP.c {a b:List Prop} {l:List (List Prop × List Prop)} (h:All a) (k:All b) (m:jP l):jP ((a,b) :: l):=.cons h k m
theorem jP.n:jP []:=.nil
def Tr.qs:Nat→Nat→Tr→Tr
 | 0,_,r=>r
 | n+1,a,r=>.q a [] (Tr.qs n (a+1) r)
def Tr.is:Nat→Nat→Tr→Tr
 | 0,_,r=>r
 | n+1,a,r=>.i a (Tr.is n (a+1) r)
theorem bq {α:Type} [BEq α] [LawfulBEq α] {a b:α} (h:a=b):(a == b)=true:=beq_iff_eq.2 h
theorem bn {α:Type} [BEq α] [LawfulBEq α] {a b:α} (h:a≠b):(a == b)=false:=beq_eq_false_iff_ne.2 h
theorem nq {α:Type} [BEq α] [LawfulBEq α] {a b:α} (h:a≠b):(a != b)=true:=bne_iff_ne.2 h
theorem dt {p:Prop} [Decidable p] (h:p):decide p=true:=decide_eq_true h
theorem df {p:Prop} [Decidable p] (h:¬ p):decide p=false:=decide_eq_false h
theorem bf {b:Bool} (h:b≠true):b=false:=Bool.eq_false_iff.2 h
section
variable [gp] {P:Program} {C:Ctx} {Q:Exit→St→Prop} {st:St}
theorem Sw {x y:Code} (h:Good P C x (thenS (Good P C y Q) Q) st):Good P C (.seq x y) Q st:=.seq h
theorem Bl {i:Nat} {x:Code} (h:Good P C x (JD i Q) st):Good P C (.block i x) Q st:=.block h
theorem Sk (h:Q .normal st):Good P C .skip Q st:=.skip h
theorem Ex {i:Nat} (h:Q (.exit i) st):Good P C (.exit i) Q st:=.exit h
theorem Ct {c:Operand} {x y:Code} {b:Bool} (ht:b=true) (h:Good P C x Q st) (hb:qH st c=some b:=by kernel_rfl):Good P C (.cond c x y) Q st:=.kF ht hb h
theorem Cf {c:Operand} {x y:Code} {b:Bool} (ht:b=false) (h:Good P C y Q st) (hb:qH st c=some b:=by kernel_rfl):Good P C (.cond c x y) Q st:=.kG ht hb h
theorem Rg {id N:Nat} {ops:Array Oper} (hN:C.N=N) (k:Q .normal (qJ (iW P N ops (List.range ops.size) ⟨[],[],st,[],[]⟩))) (h:uU (iW P N ops (List.range ops.size) ⟨[],[],st,[],[]⟩)=some []:=by kernel_rfl):Good P C (.region id ops false) Q st:=.reg hN [] .nil [] h k
theorem Rh {id N:Nat} {ops:Array Oper} {obs:List Prop} (hN:C.N=N) (hs:List V) (hA:All obs) (k:Q .normal (qJ (iW P N ops (List.range ops.size) ⟨hs,[],st,[],[]⟩))) (h:uU (iW P N ops (List.range ops.size) ⟨hs,[],st,[],[]⟩)=some obs:=by kernel_rfl):Good P C (.region id ops false) Q st:=.reg hN hs hA [] h k
theorem Ri {id N:Nat} {ops:Array Oper} {obs:List Prop} (hN:C.N=N) (hs:List V) (hA:All obs) (rw:List (Nat × Value)) (k:Q .normal (qJ (iW P N ops (List.range ops.size) ⟨hs,[],st,rw,[]⟩))) (h:uU (iW P N ops (List.range ops.size) ⟨hs,[],st,rw,[]⟩)=some obs:=by kernel_rfl):Good P C (.region id ops false) Q st:=.reg hN hs hA rw h k
theorem Rj {id N:Nat} {ops:Array Oper} {obs:List Prop} (hN:C.N=N) (hs:List V) (hA:All obs) (rw:List (Nat × Value)) (fx:List (Nat × V)) (k:Q .normal (qJ (iW P N ops (List.range ops.size) ⟨hs,[],st,rw,fx⟩))) (h:uU (iW P N ops (List.range ops.size) ⟨hs,[],st,rw,fx⟩)=some obs:=by kernel_rfl):Good P C (.region id ops false) Q st:=.Yz hN hs hA rw fx h k
theorem Rd {id N:Nat} {ops:Array Oper} {obs BB:List Prop} (hm:P.follows .mixedOrders=true) (hN:C.N=N) (t:Tr) (ks:List (Nat × Option V)) {os:List Prop} (hO:All os) (hs hq:List V) (hA:All obs) (hB:All BB) (rw:List (Nat × Value)) (fx:List (Nat × V)) (k:Q .normal (YC (mK P N ops t st ks hs hq rw fx)))
 (hks:yT (mZ st ks)=some os:=by kernel_rfl) (hc:(Region.noSelect ops && Nat.beq t.cnt ops.size)=true:=by kernel_rfl) (h:Aj (mK P N ops t st ks hs hq rw fx)=some [(obs,BB)]:=by kernel_rfl):Good P C (.region id ops true) Q st:=.uF hm hN t ks hks hO hs hq hA hB rw fx hc h k
theorem Rb {id N Ln:Nat} {ops:Array Oper} {obs:List (List Prop × List Prop)} (n:Nat) (hm:P.follows .mixedOrders=true) (hN:C.N=N) (hL:C.L.length=Ln) (t:Tr) (ks:List (Nat × Option V)) {os:List Prop} (hO:All os) (hs hq:List V) (hA:jP obs) (rw:List (Nat × Value)) (fx:List (Nat × V)) (ps:List (List Nat)) (kk:List (Nat × Nat)) (env:List (Nat × X)) (box:List gH) (k:Q .normal ⟨env,box⟩)
 (hks:yT (mZ st ks)=some os:=by kernel_rfl) (hc:(Region.noSelect ops && Nat.beq t.cnt ops.size)=true:=by kernel_rfl) (h:Aj (mK P N ops t st ks hs hq rw fx)=some obs:=by kernel_rfl) (hps:(ps.all (Kl Ln) && Nat.beq (uE (mK P N ops t st ks hs hq rw fx)).length ps.length)=true:=by kernel_rfl)
 (hw:List.zipWith (JM kk) ps (uE (mK P N ops t st ks hs hq rw fx))=List.replicate n (some env,box):=by kernel_rfl):Good P C (.region id ops true) Q st:=.XU (n:=n) hm hN hL t ks hks hO hs hq hA rw fx hc h ps kk env box hps hw k
theorem Rt (h:Q .ret st):Good P C .ret Q st:=.ret h
theorem dR {fn:Func} {r:V} (h:wV P fn st=some r:=by kernel_rfl):fin P fn r .ret st:=fin.pV h
theorem Wo {C:Ctx} (ks:List (Nat × Nat)) {st:St} {env:List (Nat × X)} {box:List gH} (h:rM st.env ks=some env:=by kernel_rfl) (hb:st.box=box:=by kernel_rfl):Wk C st ⟨env,box⟩:=Wk.of ks h hb
end
section
variable [gp]
theorem Cg {P:Program} {f:FuncId} {fn:Func} {c:Code} {us:List V} {r:V} (hf:P.funcs[f]? = some fn) (hb:fn.body=some c) (h:∀ C:Ctx,C.N=fn.ntmps→C.L.length=0→Good P C c (fin P fn r) (enter us)) (hname:(fn.name == "runtime.NumGoroutine")=false:=by kernel_rfl) (hN:Nat.ble us.length fn.ntmps=true:=by kernel_rfl):aQ P f us r:=GQ hf hb hname hN h
end
theorem All.c1 {p0:Prop} (h0:p0):All [p0]:=(.cons h0 .nil)
theorem All.c2 {p0:Prop} {p1:Prop} (h0:p0) (h1:p1):All [p0,p1]:=(.cons h0 (.cons h1 .nil))
theorem All.c3 {p0:Prop} {p1:Prop} {p2:Prop} (h0:p0) (h1:p1) (h2:p2):All [p0,p1,p2]:=(.cons h0 (.cons h1 (.cons h2 .nil)))
theorem All.c4 {p0:Prop} {p1:Prop} {p2:Prop} {p3:Prop} (h0:p0) (h1:p1) (h2:p2) (h3:p3):All [p0,p1,p2,p3]:=(.cons h0 (.cons h1 (.cons h2 (.cons h3 .nil))))
theorem All.c5 {p0:Prop} {p1:Prop} {p2:Prop} {p3:Prop} {p4:Prop} (h0:p0) (h1:p1) (h2:p2) (h3:p3) (h4:p4):All [p0,p1,p2,p3,p4]:=(.cons h0 (.cons h1 (.cons h2 (.cons h3 (.cons h4 .nil)))))
theorem All.c6 {p0:Prop} {p1:Prop} {p2:Prop} {p3:Prop} {p4:Prop} {p5:Prop} (h0:p0) (h1:p1) (h2:p2) (h3:p3) (h4:p4) (h5:p5):All [p0,p1,p2,p3,p4,p5]:=(.cons h0 (.cons h1 (.cons h2 (.cons h3 (.cons h4 (.cons h5 .nil))))))
theorem All.c7 {p0:Prop} {p1:Prop} {p2:Prop} {p3:Prop} {p4:Prop} {p5:Prop} {p6:Prop} (h0:p0) (h1:p1) (h2:p2) (h3:p3) (h4:p4) (h5:p5) (h6:p6):All [p0,p1,p2,p3,p4,p5,p6]:=(.cons h0 (.cons h1 (.cons h2 (.cons h3 (.cons h4 (.cons h5 (.cons h6 .nil)))))))
theorem All.c8 {p0:Prop} {p1:Prop} {p2:Prop} {p3:Prop} {p4:Prop} {p5:Prop} {p6:Prop} {p7:Prop} (h0:p0) (h1:p1) (h2:p2) (h3:p3) (h4:p4) (h5:p5) (h6:p6) (h7:p7):All [p0,p1,p2,p3,p4,p5,p6,p7]:=(.cons h0 (.cons h1 (.cons h2 (.cons h3 (.cons h4 (.cons h5 (.cons h6 (.cons h7 .nil))))))))
theorem aZ.c1 {a0 b0:V} (h0:Fit a0 b0):aZ [a0] [b0]:=(.cons h0 .nil)
theorem aZ.c2 {a0 b0 a1 b1:V} (h0:Fit a0 b0) (h1:Fit a1 b1):aZ [a0,a1] [b0,b1]:=(.cons h0 (.cons h1 .nil))
theorem aZ.c3 {a0 b0 a1 b1 a2 b2:V} (h0:Fit a0 b0) (h1:Fit a1 b1) (h2:Fit a2 b2):aZ [a0,a1,a2] [b0,b1,b2]:=(.cons h0 (.cons h1 (.cons h2 .nil)))
theorem aZ.c4 {a0 b0 a1 b1 a2 b2 a3 b3:V} (h0:Fit a0 b0) (h1:Fit a1 b1) (h2:Fit a2 b2) (h3:Fit a3 b3):aZ [a0,a1,a2,a3] [b0,b1,b2,b3]:=(.cons h0 (.cons h1 (.cons h2 (.cons h3 .nil))))
theorem aZ.c5 {a0 b0 a1 b1 a2 b2 a3 b3 a4 b4:V} (h0:Fit a0 b0) (h1:Fit a1 b1) (h2:Fit a2 b2) (h3:Fit a3 b3) (h4:Fit a4 b4):aZ [a0,a1,a2,a3,a4] [b0,b1,b2,b3,b4]:=(.cons h0 (.cons h1 (.cons h2 (.cons h3 (.cons h4 .nil)))))
theorem aZ.c6 {a0 b0 a1 b1 a2 b2 a3 b3 a4 b4 a5 b5:V} (h0:Fit a0 b0) (h1:Fit a1 b1) (h2:Fit a2 b2) (h3:Fit a3 b3) (h4:Fit a4 b4) (h5:Fit a5 b5):aZ [a0,a1,a2,a3,a4,a5] [b0,b1,b2,b3,b4,b5]:=(.cons h0 (.cons h1 (.cons h2 (.cons h3 (.cons h4 (.cons h5 .nil))))))
theorem aZ.c7 {a0 b0 a1 b1 a2 b2 a3 b3 a4 b4 a5 b5 a6 b6:V} (h0:Fit a0 b0) (h1:Fit a1 b1) (h2:Fit a2 b2) (h3:Fit a3 b3) (h4:Fit a4 b4) (h5:Fit a5 b5) (h6:Fit a6 b6):aZ [a0,a1,a2,a3,a4,a5,a6] [b0,b1,b2,b3,b4,b5,b6]:=(.cons h0 (.cons h1 (.cons h2 (.cons h3 (.cons h4 (.cons h5 (.cons h6 .nil)))))))
theorem aZ.c8 {a0 b0 a1 b1 a2 b2 a3 b3 a4 b4 a5 b5 a6 b6 a7 b7:V} (h0:Fit a0 b0) (h1:Fit a1 b1) (h2:Fit a2 b2) (h3:Fit a3 b3) (h4:Fit a4 b4) (h5:Fit a5 b5) (h6:Fit a6 b6) (h7:Fit a7 b7):aZ [a0,a1,a2,a3,a4,a5,a6,a7] [b0,b1,b2,b3,b4,b5,b6,b7]:=(.cons h0 (.cons h1 (.cons h2 (.cons h3 (.cons h4 (.cons h5 (.cons h6 (.cons h7 .nil))))))))
theorem gF.c1 {a0 b0:D} (h0:eH a0 b0):gF [a0] [b0]:=(.cons h0 .nil)
theorem gF.c2 {a0 b0 a1 b1:D} (h0:eH a0 b0) (h1:eH a1 b1):gF [a0,a1] [b0,b1]:=(.cons h0 (.cons h1 .nil))
theorem gF.c3 {a0 b0 a1 b1 a2 b2:D} (h0:eH a0 b0) (h1:eH a1 b1) (h2:eH a2 b2):gF [a0,a1,a2] [b0,b1,b2]:=(.cons h0 (.cons h1 (.cons h2 .nil)))
theorem gF.c4 {a0 b0 a1 b1 a2 b2 a3 b3:D} (h0:eH a0 b0) (h1:eH a1 b1) (h2:eH a2 b2) (h3:eH a3 b3):gF [a0,a1,a2,a3] [b0,b1,b2,b3]:=(.cons h0 (.cons h1 (.cons h2 (.cons h3 .nil))))
theorem gF.c5 {a0 b0 a1 b1 a2 b2 a3 b3 a4 b4:D} (h0:eH a0 b0) (h1:eH a1 b1) (h2:eH a2 b2) (h3:eH a3 b3) (h4:eH a4 b4):gF [a0,a1,a2,a3,a4] [b0,b1,b2,b3,b4]:=(.cons h0 (.cons h1 (.cons h2 (.cons h3 (.cons h4 .nil)))))
theorem gF.c6 {a0 b0 a1 b1 a2 b2 a3 b3 a4 b4 a5 b5:D} (h0:eH a0 b0) (h1:eH a1 b1) (h2:eH a2 b2) (h3:eH a3 b3) (h4:eH a4 b4) (h5:eH a5 b5):gF [a0,a1,a2,a3,a4,a5] [b0,b1,b2,b3,b4,b5]:=(.cons h0 (.cons h1 (.cons h2 (.cons h3 (.cons h4 (.cons h5 .nil))))))
theorem gF.c7 {a0 b0 a1 b1 a2 b2 a3 b3 a4 b4 a5 b5 a6 b6:D} (h0:eH a0 b0) (h1:eH a1 b1) (h2:eH a2 b2) (h3:eH a3 b3) (h4:eH a4 b4) (h5:eH a5 b5) (h6:eH a6 b6):gF [a0,a1,a2,a3,a4,a5,a6] [b0,b1,b2,b3,b4,b5,b6]:=(.cons h0 (.cons h1 (.cons h2 (.cons h3 (.cons h4 (.cons h5 (.cons h6 .nil)))))))
theorem gF.c8 {a0 b0 a1 b1 a2 b2 a3 b3 a4 b4 a5 b5 a6 b6 a7 b7:D} (h0:eH a0 b0) (h1:eH a1 b1) (h2:eH a2 b2) (h3:eH a3 b3) (h4:eH a4 b4) (h5:eH a5 b5) (h6:eH a6 b6) (h7:eH a7 b7):gF [a0,a1,a2,a3,a4,a5,a6,a7] [b0,b1,b2,b3,b4,b5,b6,b7]:=(.cons h0 (.cons h1 (.cons h2 (.cons h3 (.cons h4 (.cons h5 (.cons h6 (.cons h7 .nil))))))))
theorem cz.c1 {a0 b0:List V} (h0:aZ a0 b0):cz [a0] [b0]:=(.cons h0 .nil)
theorem cz.c2 {a0 b0 a1 b1:List V} (h0:aZ a0 b0) (h1:aZ a1 b1):cz [a0,a1] [b0,b1]:=(.cons h0 (.cons h1 .nil))
theorem cz.c3 {a0 b0 a1 b1 a2 b2:List V} (h0:aZ a0 b0) (h1:aZ a1 b1) (h2:aZ a2 b2):cz [a0,a1,a2] [b0,b1,b2]:=(.cons h0 (.cons h1 (.cons h2 .nil)))
theorem cz.c4 {a0 b0 a1 b1 a2 b2 a3 b3:List V} (h0:aZ a0 b0) (h1:aZ a1 b1) (h2:aZ a2 b2) (h3:aZ a3 b3):cz [a0,a1,a2,a3] [b0,b1,b2,b3]:=(.cons h0 (.cons h1 (.cons h2 (.cons h3 .nil))))
theorem cz.c5 {a0 b0 a1 b1 a2 b2 a3 b3 a4 b4:List V} (h0:aZ a0 b0) (h1:aZ a1 b1) (h2:aZ a2 b2) (h3:aZ a3 b3) (h4:aZ a4 b4):cz [a0,a1,a2,a3,a4] [b0,b1,b2,b3,b4]:=(.cons h0 (.cons h1 (.cons h2 (.cons h3 (.cons h4 .nil)))))
theorem cz.c6 {a0 b0 a1 b1 a2 b2 a3 b3 a4 b4 a5 b5:List V} (h0:aZ a0 b0) (h1:aZ a1 b1) (h2:aZ a2 b2) (h3:aZ a3 b3) (h4:aZ a4 b4) (h5:aZ a5 b5):cz [a0,a1,a2,a3,a4,a5] [b0,b1,b2,b3,b4,b5]:=(.cons h0 (.cons h1 (.cons h2 (.cons h3 (.cons h4 (.cons h5 .nil))))))
theorem cz.c7 {a0 b0 a1 b1 a2 b2 a3 b3 a4 b4 a5 b5 a6 b6:List V} (h0:aZ a0 b0) (h1:aZ a1 b1) (h2:aZ a2 b2) (h3:aZ a3 b3) (h4:aZ a4 b4) (h5:aZ a5 b5) (h6:aZ a6 b6):cz [a0,a1,a2,a3,a4,a5,a6] [b0,b1,b2,b3,b4,b5,b6]:=(.cons h0 (.cons h1 (.cons h2 (.cons h3 (.cons h4 (.cons h5 (.cons h6 .nil)))))))
theorem cz.c8 {a0 b0 a1 b1 a2 b2 a3 b3 a4 b4 a5 b5 a6 b6 a7 b7:List V} (h0:aZ a0 b0) (h1:aZ a1 b1) (h2:aZ a2 b2) (h3:aZ a3 b3) (h4:aZ a4 b4) (h5:aZ a5 b5) (h6:aZ a6 b6) (h7:aZ a7 b7):cz [a0,a1,a2,a3,a4,a5,a6,a7] [b0,b1,b2,b3,b4,b5,b6,b7]:=(.cons h0 (.cons h1 (.cons h2 (.cons h3 (.cons h4 (.cons h5 (.cons h6 (.cons h7 .nil))))))))
end
section
open Go.RowKit Go.ChangeShapes Go.WideShapes
def l8 {α:Type} (P:Program) (t:TypeId) (sz:Nat) (f:α→List V) (G:α→Prop):Prop :=
 ∀ (H:Type) (enc:TypeId × Value→H) (w:World) (base:Nat) (spare:Nat→Bool) (held:Bool) (fuel:Nat) (cs:List Value) (x:DataW H × List MemPlace),
  DataW.trod enc P w base spare held fuel t cs=some x→∃ a,cs.length=sz∧aM (fun b=>b < w.heap.size) w cs (f a) []∧(∀ u∈cs,u.oneCell'=true)∧G a
theorem l8.int {P:Program} {t:TypeId} {k:IntKind} (ht:P.underlying t=some (.int k)):l8 P t 1 (fun n:Int=>[.lit (.int k n)]) (fun n=>(Lit.int k n).wf=true):=by
 intro H enc w base spare held fuel cs x hx
 obtain ⟨n,rfl,_,hw⟩:=DataW.trod_int ht hx
 exact ⟨n,rfl,.cons (A:=[]) (.lit _) .nil,by simp [Value.oneCell'],hw⟩
theorem l8.bool {P:Program} {t:TypeId} (ht:P.underlying t=some .bool):l8 P t 1 (fun b:Bool=>[.lit (.bool b)]) (fun _=>True):=by
 intro H enc w base spare held fuel cs x hx
 obtain ⟨n,rfl,_⟩:=DataW.trod_bool ht hx
 exact ⟨n,rfl,.cons (A:=[]) (.lit _) .nil,by simp [Value.oneCell'],trivial⟩
theorem l8.string {P:Program} {t:TypeId} (ht:P.underlying t=some .string):l8 P t 1 (fun s:ByteArray=>[.lit (.string s)]) (fun s=>s.size≤maxLen):=by
 intro H enc w base spare held fuel cs x hx
 obtain ⟨s,rfl,_,hw⟩:=DataW.trod_string ht hx
 exact ⟨s,rfl,.cons (A:=[]) (.lit _) .nil,by simp [Value.oneCell'],hw⟩
theorem Xq (w:World) (a:Addr):∀ (l:List Nat) (cs:List Value),l.mapM (fun i=>w.cell? (a.add i))=some cs→cs.length=l.length∧∀ (i j:Nat) u,l[i]? = some j→cs[i]? = some u→w.cell? (a.add j)=some u
 | [],cs,h=>by
  simp at h
  subst h
  exact ⟨rfl,fun i j u h=>by simp at h⟩
 | p :: l,cs,h=>by
  rw [List.mapM_cons] at h
  cases hc:w.cell? (a.add p) with
  | none=>simp [hc] at h
  | some v =>
   cases hr:l.mapM (fun i=>w.cell? (a.add i)) with
   | none=>simp [hc,hr] at h
   | some cs' =>
    simp [hc,hr] at h
    subst h
    obtain ⟨hl,hf⟩:=Xq w a l cs' hr
    refine ⟨by simp [hl],fun i j u hi hu=>?_⟩
    cases i with
    | zero =>
     simp at hi hu
     subst hi
     subst hu
     exact hc
    | succ i=>exact hf i j u (by simpa using hi) (by simpa using hu)
theorem ae4 {w:World} {base:Nat} {a:Addr} {n:Nat} {cs:List Value} (h:w.cells? base a n=some cs):cs.length=n∧∀ (i:Nat) u,cs[i]? = some u→w.cell? (a.add i)=some u:=by
 unfold World.cells? at h
 split at h
 ·obtain ⟨hl,hf⟩:=Xq w a _ cs h
  rw [List.length_range] at hl
  refine ⟨hl,fun i u hu=>hf i i u ?_ hu⟩
  have:i < n:=by rw [← hl];exact (List.getElem?_eq_some_iff.1 hu).1
  rw [List.getElem?_range this]
 ·cases h
theorem agY (a:Addr) (m i:Nat):(a.add m).add i=a.add (m+i):=by
 unfold Addr.add
 by_cases h1:m=0
 ·subst h1;simp
 ·by_cases h2:i=0
  ·subst h2;simp [h1]
  ·simp [h1,h2,Nat.add_assoc]
theorem ad3 {w:World} {b o:Nat} {s:Option Nat} {u:Value} (h:w.cell? ⟨b,o,s⟩=some u):s=none∧b < w.heap.size:=by
 unfold World.cell? at h
 cases hh:w.heap[b]? with
 | none=>simp [hh] at h
 | some x =>
  refine ⟨?_,(Array.getElem?_eq_some_iff.1 hh).1⟩
  simp only [hh] at h
  cases s with
  | none=>rfl
  | some n =>
   cases x<;>simp at h
theorem VQ {p:aW} {w:World}:∀ {vs:List Value} {cs:List V} {A:List Nat},aM p w vs cs A→vs.length=cs.length
 | _,_,_,.nil=>rfl
 | _,_,_,.cons _ h=>by rw [List.length_cons,List.length_cons,VQ h]
theorem af9 {α:Type} {w:World} {sz:Nat} {f:α→List V} {G:α→Prop} (a:Addr) (len:Nat) (each:∀ i,i < len→∃ b c,c.length=sz∧aM (fun b=>b < w.heap.size) w c (f b) []∧(∀ u∈c,u.oneCell'=true)∧(∀ (j:Nat) u,c[j]? = some u→w.cell? (a.add (i*sz+j))=some u)∧G b) :
 ∃ (l:List α) (xs:List Value),l.length=len∧xs.length=len*sz∧aM (fun b=>b < w.heap.size) w xs (l.flatMap f) []∧(∀ u∈xs,u.oneCell'=true)∧(∀ (j:Nat) u,xs[j]? = some u→w.cell? (a.add j)=some u)∧∀ b∈l,G b∧(f b).length=sz:=by
 induction len with
 | zero=>exact ⟨[],[],rfl,by simp,.nil,by simp,by simp,by simp⟩
 | succ len ih =>
  obtain ⟨l,xs,h1,h2,h3,h4,h5,h6⟩:=ih (fun i hi=>each i (by omega))
  obtain ⟨b,c,c1,c2,c3,c4,c5⟩:=each len (by omega)
  refine ⟨l++[b],xs++c,by simp [h1],by rw [List.length_append,h2,c1,Nat.succ_mul],?_,?_,?_,?_⟩
  ·rw [List.flatMap_append,List.flatMap_singleton]
   exact h3.app c2
  ·intro u hu
   rcases List.mem_append.1 hu with hu | hu
   ·exact h4 u hu
   ·exact c3 u hu
  ·intro j u hj
   by_cases g:j < xs.length
   ·rw [List.getElem?_append_left g] at hj
    exact h5 j u hj
   ·rw [List.getElem?_append_right (by omega)] at hj
    have:=c4 _ u hj
    rwa [show len*sz+(j - xs.length)=j by omega] at this
  ·intro x hx
   rcases List.mem_append.1 hx with hx | hx
   ·exact h6 x hx
   ·rw [List.mem_singleton] at hx
    subst hx
    exact ⟨c5,by rw [← VQ c2,c1]⟩
theorem l8.slice {α:Type} {P:Program} {t e:TypeId} {sz:Nat} {f:α→List V} {G:α→Prop} (ht:P.underlying t=some (.slice e)) (hc:P.cellsOf e=sz) (h:l8 P e sz f G) (hv:α→V) (Z5:∀ a,(hv a).cells=f a) :
 l8 P t 1 (fun l:List α=>[.row none sz (l.map hv)]) (fun l=>l.length≤maxLen∧∀ a∈l,G a):=by
 intro H enc w base spare held fuel cs x hx
 rcases DataW.trod_slice ht hx with ⟨rfl,_⟩ | ⟨a,len,cap,elems,rest,n,rfl,rfl,_,_,hl,hm,hlen,hel,_⟩
 ·exact ⟨[],rfl,.cons (A:=[]) (.shared (es:=[]) (xs:=[]) (Nat.zero_le _) (by simp) .nil (by simp) (by simp)) .nil,by simp [Value.oneCell'],by simp,fun a ha=>by cases ha⟩
 ·have each:∀ i,i < len→∃ b c,c.length=sz∧aM (fun b=>b < w.heap.size) w c (f b) []∧(∀ u∈c,u.oneCell'=true)∧(∀ (j:Nat) u,c[j]? = some u→w.cell? (a.add (i*sz+j))=some u)∧G b:=by
   intro i hi
   have h1:=hel i hi
   rw [List.getElem?_eq_getElem (by omega:i < elems.length),Option.bind_eq_some_iff,hc] at h1
   obtain ⟨c,hcs,hy⟩:=h1
   obtain ⟨b,hb,hr,ho,hg⟩:=h H enc w base spare held n c _ hy
   obtain ⟨hcl,hcc⟩:=ae4 hcs
   exact ⟨b,c,hb,hr,ho,fun j u hu=>by rw [← agY];exact hcc j u hu,hg⟩
  obtain ⟨l,xs,h1,h2,h3,h4,h5,h6⟩:=af9 a len each
  refine ⟨l,rfl,.cons (A:=[]) ?_ .nil,by simp [Value.oneCell'],by omega,fun b hb=>(h6 b hb).1⟩
  obtain rfl:len=(l.map hv).length:=by rw [List.length_map,h1]
  obtain ⟨b,o,s⟩:=a
  refine .shared hl (fun e he=>?_) (xs:=xs) ?_ h4 (fun j u hj=>?_)
  ·obtain ⟨y,hy,rfl⟩:=List.mem_map.1 he
   rw [Z5]
   exact (h6 y hy).2
  ·rw [List.flatMap_map]
   simp only [Z5]
   exact h3
  ·have hj':j < xs.length:=(List.getElem?_eq_some_iff.1 hj).1
   have h0:=h5 0 _ (List.getElem?_eq_getElem (by omega:0 < xs.length))
   obtain ⟨rfl,hb⟩:=ad3 (show w.cell? ⟨b,o,s⟩=some _ from h0)
   refine ⟨b,o,rfl,hb,?_⟩
   have:=h5 j u hj
   by_cases g:j=0
   ·subst g;exact this
   ·unfold Addr.add at this
    rw [if_neg g] at this
    exact this
def xS {α:Type} (P:Program) (fs:List Field) (off sz:Nat) (f:α→List V) (G:α→Prop):Prop :=
 ∀ (H:Type) (enc:TypeId × Value→H) (w:World) (base:Nat) (spare:Nat→Bool) (held:Bool) (n:Nat) (cs:List Value),
  off+sz≤cs.length→(∀ f∈fs,∃ y,DataW.trod enc P w base spare held n f.type ((cs.drop f.offset).take (P.cellsOf f.type))=some y) →
   ∃ a,aM (fun b=>b < w.heap.size) w ((cs.drop off).take sz) (f a) []∧(∀ u∈(cs.drop off).take sz,u.oneCell'=true)∧G a
theorem xS.last {α:Type} {P:Program} {g:Field} {off sz:Nat} {f:α→List V} {G:α→Prop} (ho:g.offset=off) (hc:P.cellsOf g.type=sz) (h:l8 P g.type sz f G):xS P [g] off sz f G:=by
 intro H enc w base spare held n cs hl hf
 obtain ⟨y,hy⟩:=hf g (by simp)
 rw [ho,hc] at hy
 obtain ⟨a,_,h1,h2,h3⟩:=h H enc w base spare held n _ y hy
 exact ⟨a,h1,h2,h3⟩
theorem xS.cons {α β:Type} {P:Program} {g:Field} {fs:List Field} {off s1 s2:Nat} {f:α→List V} {f2:β→List V} {G:α→Prop} {G':β→Prop} (ho:g.offset=off) (hc:P.cellsOf g.type=s1) (h:l8 P g.type s1 f G) (hr:xS P fs (off+s1) s2 f2 G') :
 xS P (g :: fs) off (s1+s2) (fun p:α × β=>f p.1++f2 p.2) (fun p=>G p.1∧G' p.2):=by
 intro H enc w base spare held n cs hl hf
 obtain ⟨y,hy⟩:=hf g (by simp)
 rw [ho,hc] at hy
 obtain ⟨a,_,h1,h2,h3⟩:=h H enc w base spare held n _ y hy
 obtain ⟨b,k1,k2,k3⟩:=hr H enc w base spare held n cs (by omega) (fun g hg=>hf g (by simp [hg]))
 have e:(cs.drop off).take (s1+s2)=(cs.drop off).take s1++(cs.drop (off+s1)).take s2:=by rw [List.take_add,List.drop_drop]
 refine ⟨(a,b),?_,?_,h3,k3⟩
 ·rw [e];exact h1.app k1
 ·rw [e];intro u hu
  rcases List.mem_append.1 hu with hu | hu
  ·exact h2 u hu
  ·exact k2 u hu
theorem l8.struct {α β:Type} {P:Program} {t:TypeId} {fs:Array Field} {sz:Nat} {f:α→List V} {G:α→Prop} (ht:P.underlying t=some (.struct fs)) (hc:P.cellsOf t=sz) (h:xS P fs.toList 0 sz f G) (g:α→β) (f':β→List V) (G':β→Prop) (hf':∀ a,f' (g a)=f a) (hG:∀ a,G a→G' (g a)) :
 l8 P t sz f' G':=by
 intro H enc w base spare held fuel cs x hx
 obtain ⟨xs,n,_,_,hl,hlen,hf⟩:=DataW.trod_struct ht hx
 obtain ⟨a,h1,h2,h3⟩:=h H enc w base spare held n cs (by omega) (fun q hq=>by
  obtain ⟨i,hi⟩:=List.getElem?_of_mem hq
  have hi':fs[i]? = some q:=by simpa using hi
  have hlt:i < xs.length:=by
   have:=(List.getElem?_eq_some_iff.1 hi).1
   simp at this
   omega
  exact ⟨xs[i],by rw [hf i q hi',List.getElem?_eq_getElem hlt]⟩)
 rw [List.drop_zero,List.take_of_length_le (by omega)] at h1 h2
 exact ⟨g a,by omega,by rw [hf'];exact h1,h2,hG a h3⟩
theorem l8.get {α:Type} {P:Program} {t:TypeId} {sz:Nat} {f:α→List V} {G:α→Prop} (h:l8 P t sz f G) {H:Type} {enc:TypeId × Value→H} {w:World} {base:Nat} {spare:Nat→Bool} {held:Bool} {v:Value} {x:DataW H} {ps:List MemPlace}
 (hx:DataW.Trod enc P w base spare held t v x ps):∃ a,aM (fun b=>b < w.heap.size) w v.cells.toList (f a) []∧G a:=by
 obtain ⟨fuel,hf⟩:=hx
 obtain ⟨a,_,h1,_,h2⟩:=h H enc w base spare held fuel _ _ hf
 exact ⟨a,h1,h2⟩
end
section
def Ev {α:Type} (g:Nat→Option α) (r:α):Prop:=∃ K,∀ k,K≤k→g k=some r
namespace Ev
variable {α β:Type}
theorem now (r:α):Ev (fun _=>some r) r:=⟨0,fun _ _=>rfl⟩
theorem rounds {g:Nat→Option α} {r:α}:Ev g r→∃ k,g k=some r:=fun ⟨K,h⟩=>⟨K,h K (Nat.le_refl K)⟩
theorem step {g f:Nat→Option α} {r:α} (h:∀ k,g (k+1)=f k):Ev f r→Ev g r:=fun ⟨K,e⟩=>⟨K+1,fun k hk=>by
 match k,hk with
 | k+1,hk=>rw [h k];exact e k (Nat.le_of_succ_le_succ hk)⟩
theorem congr {g f:Nat→Option α} {r:α} (h:∀ k,g k=f k):Ev f r→Ev g r:=fun ⟨K,e⟩=>⟨K,fun k hk=>(h k).trans (e k hk)⟩
theorem bind {g:Nat→Option α} {f:Nat→α→Option β} {a:α} {r:β}:Ev g a→Ev (fun n=>f n a) r→Ev (fun n=>(g n).bind (f n)) r:=fun ⟨K,e⟩ ⟨L,d⟩=>⟨max K L,fun k hk=>by
 show (g k).bind (f k)=some r
 rw [e k (by omega)]
 exact d k (by omega)⟩
theorem bU {g:Option α} {f:Nat→α→Option β} {a:α} {r:β} (h:g=some a) (k:Ev (fun n=>f n a) r):Ev (fun n=>g.bind (f n)) r:=by subst h;exact k
theorem ae {c:Prop} [Decidable c] {f g:Nat→Option α} {r:α} (h:c) (k:Ev f r):Ev (fun n=>if c then f n else g n) r:=by simp only [if_pos h];exact k
theorem ak {c:Prop} [Decidable c] {f g:Nat→Option α} {r:α} (h:¬ c) (k:Ev g r):Ev (fun n=>if c then f n else g n) r:=by simp only [if_neg h];exact k
theorem ite {c:Prop} [Decidable c] {f g:Nat→Option α} {r s:α} (k:c→Ev f r) (k':¬ c→Ev g s):Ev (fun n=>if c then f n else g n) (if c then r else s):=by
 by_cases h:c
 ·simp only [if_pos h];exact k h
 ·simp only [if_neg h];exact k' h
theorem eq {g:Nat→Option α} {r s:α} (h:Ev g r) (e:r=s):Ev g s:=e ▸ h
theorem const {g:Option α} {r:α} (h:g=some r):Ev (fun _=>g) r:=⟨0,fun _ _=>h⟩
theorem from_ {g:Nat→Option α} {r:α} (n:Nat) (h:∀ k,g (k+n)=some r):Ev g r:=⟨n,fun k hk=>by
 have:=h (k - n)
 rwa [Nat.sub_add_cancel hk] at this⟩
theorem all {g:Nat→Nat→Option α} {r:Nat→α}:∀ n:Nat,(∀ i,i < n→Ev (g i) (r i))→∃ K,∀ k,K≤k→∀ i,i < n→g i k=some (r i)
 | 0,_=>⟨0,fun _ _ i hi=>by omega⟩
 | n+1,h=>by
  obtain ⟨K,hK⟩:=all n fun i hi=>h i (by omega)
  obtain ⟨L,hL⟩:=h n (by omega)
  refine ⟨max K L,fun k hk i hi=>?_⟩
  by_cases e:i=n
  ·subst e;exact hL k (by omega)
  ·exact hK k (by omega) i (by omega)
theorem ky {g:Nat→Option α} {r s:α}:Ev g r→Ev g s→r=s:=fun ⟨K,h⟩ ⟨L,k⟩=>Option.some.inj ((h (max K L) (by omega)).symm.trans (k (max K L) (by omega)))
end Ev
theorem Uy (s:ByteArray):s.data.toList.length=s.size:=Array.length_toList
theorem acn (s:ByteArray) (i:Int):rd (bytesOf s) i=bt s i:=by
 have e:(bytesOf s)[i.toNat]? = (s.data.toList[i.toNat]?).map fun b=>(b.toNat:Int):=List.getElem?_map ..
 rw [rd,List.getD_eq_getElem?_getD,e]
 by_cases h:i.toNat < s.size
 ·rw [List.getElem?_eq_getElem (by rw [Uy];exact h),bt,dif_pos h]
  rfl
 ·rw [List.getElem?_eq_none (by rw [Uy];omega),bt,dif_neg h]
  rfl
def aG (l:List Int):Prop:=∀ x∈l,0≤x∧x < 256
theorem aG.nil:aG []:=by intro x hx;cases hx
theorem aG.cons {x:Int} {l:List Int} (h0:0≤x) (h1:x < 256) (h:aG l):aG (x :: l):=by
 intro y hy
 rcases List.mem_cons.1 hy with rfl | hy
 ·exact ⟨h0,h1⟩
 ·exact h y hy
theorem aG.head {x:Int} {l:List Int} (h:aG (x :: l)):0≤x∧x < 256:=h x (List.mem_cons_self ..)
theorem aG.tail {x:Int} {l:List Int} (h:aG (x :: l)):aG l:=fun y hy=>h y (List.mem_cons_of_mem _ hy)
theorem aG.append {l m:List Int} (h:aG l) (k:aG m):aG (l++m):=by
 intro y hy
 rcases List.mem_append.1 hy with hy | hy
 ·exact h y hy
 ·exact k y hy
theorem aG.take {l:List Int} (h:aG l) (n:Nat):aG (l.take n):=fun y hy=>h y (List.mem_of_mem_take hy)
theorem aG.drop {l:List Int} (h:aG l) (n:Nat):aG (l.drop n):=fun y hy=>h y (List.mem_of_mem_drop hy)
theorem aG.get {l:List Int} (h:aG l) (i:Nat) (hi:i < l.length):0≤l[i]∧l[i] < 256:=h _ (List.getElem_mem hi)
theorem aG.replicate (n:Nat):aG (List.replicate n 0):=by
 intro y hy
 obtain rfl:=(List.mem_replicate.1 hy).2
 omega
theorem aG.set {l:List Int} (h:aG l) (i:Nat) {x:Int} (h0:0≤x) (h1:x < 256):aG (l.set i x):=by
 intro y hy
 rcases List.mem_or_eq_of_mem_set hy with hy | rfl
 ·exact h y hy
 ·exact ⟨h0,h1⟩
theorem aG.reverse {l:List Int} (h:aG l):aG l.reverse:=fun y hy=>h y (List.mem_reverse.1 hy)
theorem aG.one {x:Int} (h0:0≤x) (h1:x < 256):aG [x]:=aG.cons h0 h1 aG.nil
theorem abQ (s:ByteArray) (n:Nat):∀ (i:Nat) (r:List UInt8),s.size - i=n→ByteArray.toList.loop s i r=r.reverse++s.data.toList.drop i:=by
 induction n with
 | zero =>
  intro i r h
  rw [ByteArray.toList.loop,if_neg (by omega)]
  rw [List.drop_eq_nil_of_le (by rw [Array.length_toList];show s.size≤i;omega)];simp
 | succ n ih =>
  intro i r h
  have hlt:i < s.size:=by omega
  have hlt':i < s.data.toList.length:=by rw [Array.length_toList];exact hlt
  rw [ByteArray.toList.loop,if_pos hlt,ih (i+1) _ (by omega),List.reverse_cons,List.append_assoc,List.drop_eq_getElem_cons hlt']
  have hg:s.get! i=s.data.toList[i]:=by
   have hd:i < s.data.size:=hlt
   cases s with
   | mk d=>simp only [ByteArray.get!];rw [getElem!_pos d i hd];simp
  rw [hg]
  rfl
theorem toList_data (s:ByteArray):s.toList=s.data.toList:=by
 unfold ByteArray.toList
 rw [abQ s _ 0 [] rfl]
 simp
theorem UR (s:ByteArray):aG (bytesOf s):=by
 intro x hx
 simp only [bytesOf,List.mem_map] at hx
 obtain ⟨b,_,rfl⟩:=hx
 have:=b.toNat_lt
 omega
theorem qb (s:ByteArray):strOfNums (bytesOf s)=s:=by
 cases s with
 | mk d =>
  simp only [strOfNums,bytesOf,List.map_map]
  have:((fun n:Int=>UInt8.ofNat n.toNat) ∘ fun b:UInt8=>(b.toNat:Int))=id:=by
   funext b
   simp
  rw [this]
  simp
theorem IQ (s:ByteArray):∃ l,aG l∧s=strOfNums l:=⟨bytesOf s,UR s,(qb s).symm⟩
theorem qU {l:List Int} (h:aG l):bytesOf (strOfNums l)=l:=by
 simp only [strOfNums,bytesOf,List.map_map]
 induction l with
 | nil=>rfl
 | cons x l ih =>
  have h1:=h.head
  have:=ih h.tail
  simp only [List.map_cons,Function.comp] at this ⊢
  rw [this]
  congr 1
  rw [UInt8.toNat_ofNat']
  omega
theorem ek (l:List Int):(strOfNums l).size=l.length:=strOfNums_size l
theorem dL (l:List Int):((strOfNums l).size:Int)=(l.length:Int):=by rw [strOfNums_size]
theorem VR {l m:List Int} (hl:aG l) (hm:aG m):strOfNums l=strOfNums m↔l=m:=by
 constructor
 ·intro h
  have:=congrArg bytesOf h
  rwa [qU hl,qU hm] at this
 ·rintro rfl
  rfl
theorem qV {l m:List Int} (hl:aG l) (hm:aG m):(strOfNums l).toList=(strOfNums m).toList↔l=m:=by
 rw [toList_data,toList_data,← VR hl hm]
 constructor
 ·intro h
  have h2:(strOfNums l).data=(strOfNums m).data:=by rw [← Array.toList_inj];exact h
  cases hx:strOfNums l
  cases hy:strOfNums m
  rw [hx,hy] at h2
  simp only at h2
  rw [h2]
 ·intro h
  rw [h]
theorem Ub {l:List Int} (hl:aG l) (m:List UInt8):(strOfNums l).toList=m↔l=m.map (fun b=>(b.toNat:Int)):=by
 have hm:aG (m.map (fun b=>(b.toNat:Int))):=UR ⟨m.toArray⟩
 have e:m=(strOfNums (m.map (fun b=>(b.toNat:Int)))).toList:=by
  rw [toList_data]
  have:=qb ⟨m.toArray⟩
  simp only [bytesOf] at this
  rw [this]
 constructor
 ·intro h
  rw [e] at h
  exact (qV hl hm).1 h
 ·intro h
  rw [e]
  exact (qV hl hm).2 h
theorem iR (l:List Int):(strOfNums l).toList=[]↔l=[]:=by
 rw [toList_data,strOfNums_data]
 simp
theorem Gx (a b:ByteArray):(a++b).data.toList=a.data.toList++b.data.toList:=by
 rw [ByteArray.data_append]
 simp
theorem lI (l m:List Int):strOfNums l++strOfNums m=strOfNums (l++m):=by
 have h:(strOfNums l++strOfNums m).data.toList=(strOfNums (l++m)).data.toList:=by
  rw [Gx,strOfNums_data,strOfNums_data,strOfNums_data,List.map_append]
 cases hx:(strOfNums l++strOfNums m)
 cases hy:strOfNums (l++m)
 rw [hx,hy] at h
 simp only at h
 rw [Array.toList_inj] at h
 rw [h]
theorem oC (l:List Int) (a b:Nat):(strOfNums l).extract a b=strOfNums ((l.drop a).take (b - a)):=by
 have h:((strOfNums l).extract a b).data.toList=(strOfNums ((l.drop a).take (b - a))).data.toList:=by
  rw [Lib.extract_data,strOfNums_data,strOfNums_data,List.map_take,List.map_drop]
 cases hx:((strOfNums l).extract a b)
 cases hy:strOfNums ((l.drop a).take (b - a))
 rw [hx,hy] at h
 simp only at h
 rw [Array.toList_inj] at h
 rw [h]
theorem ad4:(⟨#[]⟩:ByteArray)=strOfNums []:=rfl
theorem je {l:List Int} (hl:aG l) (i:Nat) (h:i < l.length):bt (strOfNums l) (i:Int)=l[i]:=by
 rw [← acn,qU hl]
 simp [rd,List.getD_eq_getElem?_getD,h]
theorem jJ {l:List Int} (i:Nat) (h:i < l.length):rd l (i:Int)=l[i]:=by
 simp [rd,List.getD_eq_getElem?_getD,h]
theorem Cj {α:Type} (d:α) {l:List α} (i:Nat) (h:i < l.length):iH d l (i:Int)=l[i]:=by
 simp [iH,List.getD_eq_getElem?_getD,h]
theorem aO {x:Int} (h0 : -9223372036854775808≤x) (h1:x≤9223372036854775807):wrap64 x=x:=by unfold wrap64;omega
theorem wu64 {x:Int} (h0:0≤x) (h1:x < 18446744073709551616):IntKind.u64.wrap x=x:=by
 simp only [IntKind.wrap,IntKind.bits,IntKind.signed];simp;omega
theorem ad5 (x:Int):IntKind.u64.wrap x=x % 18446744073709551616:=by
 simp only [IntKind.wrap,IntKind.bits,IntKind.signed];simp
end
end Go.Rf
