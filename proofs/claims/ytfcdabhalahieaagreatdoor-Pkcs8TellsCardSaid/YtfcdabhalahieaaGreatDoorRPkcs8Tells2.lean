import Derived.Test.YtfcdabhalahieaaGreatDoorRPkcs8Tells1
set_option linter.unusedSectionVars false
set_option linter.unusedSimpArgs false
set_option linter.unusedVariables false
section
namespace Go.Rf
open Go.RowKit
set_option linter.unusedVariables false
set_option linter.unusedSimpArgs false
variable [cO]
def Lb (P:Program) (o:Oper):Option (List Operand × (List Value→Option (Value × List Prop))):=match o.op with
 | .binOp op t x y _=>match P.underlying t with
  | some (.struct _)=>none
  | _=>some ([x,y],Di P op t x y)
 | .unOp op _ x=>some ([x],QQ P op)
 | .convert s t x=>match P.underlying s,P.underlying t with
  | some (.slice _),some .string=>none
  | some .string,some (.slice _)=>none
  | _,_=>some ([x],Ck P s t)
 | .index t x i=>some ([x,i],EY P t)
 | .slice t x lo hi none=>match P.underlying t with
  | some .string=>some (x :: (lo.toList++hi.toList),EZ P t lo.isSome hi.isSome)
  | _=>none
 | .call c=>match c.callee with
  | .builtin .append | .builtin .copy=>none
  | .builtin .len=>match (c.argTypes[0]?).bind P.underlying with
   | some .string=>some (c.args.toList,vS P .len c.argTypes o.type)
   | _=>none
  | .builtin b=>some (c.args.toList,vS P b c.argTypes o.type)
  | _=>none
 | _=>none
section
variable {P:Program}
theorem acp {o:Oper} {xs:List Operand} {f:List Value→Option (Value × List Prop)} (h:Lb P o=some (xs,f)) {vs:List Value} {v:Value} {obs:List Prop} (hf:f vs=some (v,obs)) (hA:All obs)
 (ρ:Operand→Value) (w:World) (hρ:xs.map ρ=vs):(execOp ρ o).run P w=.ok (.value v) w:=by
 unfold Lb at h
 split at h
 ·split at h
  ·cases h
  ·cases h;exact Uw ‹_› hf hA ρ w hρ
 ·cases h;exact U8 ‹_› hf ρ w hρ
 ·split at h
  ·cases h
  ·cases h
  ·cases h;exact TI ‹_› hf hA ρ w hρ
 ·cases h;exact U9 ‹_› hf hA ρ w hρ
 ·split at h
  ·cases h;exact Va ‹_› hf hA ρ w hρ
  ·cases h
 ·rename_i c ho
  split at h
  ·cases h
  ·cases h
  ·rename_i hc
   split at h
   ·cases h;exact BF ho hc hf ρ w hρ
   ·cases h
  ·rename_i b hc _ _ _
   cases h;exact BF ho ‹_› hf ρ w hρ
  ·cases h
 ·cases h
end
theorem Bi {p:bB} {w:World}:∀ {us:List V} {vs:List Value},lits us=some vs→aN p w vs us []
 | [],vs,h=>by cases h;exact .nil
 | u :: us,vs,h=>by
  cases u with
  | lit v =>
   simp only [lits] at h
   cases h1:lits us with
   | none=>rw [h1] at h;cases h
   | some ws=>rw [h1] at h;cases h;exact aN.cons (A:=[]) (.lit v) (Bi h1)
  | kb b =>
   simp only [lits] at h
   cases h1:lits us with
   | none=>rw [h1] at h;cases h
   | some ws=>rw [h1] at h;cases h;exact aN.cons (A:=[]) (.kb b) (Bi h1)
  | _=>simp [lits] at h
def VK (P:Program) (N:Nat) (o:Oper) (op:BinOp) (t:TypeId) (x y:Operand) (e:E):Option E:=match dN N o with
 | none=>none
 | some d=>match P.eqGuardType P.depth t with
  | true=>none
  | false=>match vals [x,y] e with
   | some ([.agg cs,.agg ds],e)=>match lits cs,lits ds with
    | some _,some _=>match qL P 12 t (.agg cs) (.agg ds),op with
     | some b,.eql=>some (e.put d (.lit (.bool b)))
     | some b,.neq=>some (e.put d (.lit (.bool (!b))))
     | _,_=>none
    | _,_=>none
   | _=>none
def VL:Op→Bool
 | .move _ | .assign _ | .field _ _ _ | .extract _ _ | .build _ _ | .indexAddr _ _ _ | .pick _ _ _ | .nilCheck _=>true
 | _=>false
def rf (e:Option E):Option E:=match e with
 | some e=>match e.st.box with
  | []=>some e
  | _=>none
 | none=>none
def vH (P:Program) (N:Nat) (o:Oper) (e:E):Option E:=match Lb P o with
 | some (xs,f)=>match vals xs e with
  | some (us,e1)=>match lits us with
   | some vs=>match f vs,dN N o with
    | some (v,obs),some d=>rf (some (({ e1 with ob:=e1.ob++obs }:E).put d (.lit v)))
    | _,_=>none
   | none=>none
  | none=>none
 | none=>match VL o.op with
  | true=>rf (p8 P N o e)
  | false=>match o.op with
   | .load t (.tmp s)=>match look e.st.env s,dN N o with
    | some (.d (.v (.pt cs))),some d=>match lJ P t cs with
     | some u=>rf (some (e.put d u))
     | none=>none
    | _,_=>none
   | .fieldAddr s (.tmp t) f=>match vT P s f,look e.st.env t,dN N o with
    | some (off,_),some (.d (.v (.pt cs))),some d=>rf (some (e.put d (.pt (cs.drop off))))
    | _,_,_=>none
   | .call c=>match c.callee,c.args.toList with
    | .builtin .len,[x]=>rf (yh P N o c.argTypes x e)
    | _,_=>none
   | .binOp op t x y _=>rf (VK P N o op t x y e)
   | _=>none
theorem nL {x:Option E} {e:E} (h:rf x=some e):x=some e∧e.st.box=[]:=by
 unfold rf at h
 split at h
 ·rename_i e1
  split at h
  ·rename_i hb;cases h;exact ⟨rfl,hb⟩
  ·cases h
 ·cases h
theorem aaI {P:Program} {w:World} {p:bB} {t:TypeId} {b o:Nat} {xs:List Value} {cs:List V} {u:V} {T:List Nat} (h:aN p w xs cs T) (hp:lJ P t cs=some u) :
 ∃ v A B,(∀ w',w'.rangeAt b o xs→(Instr.loadAt t (.pointer (some ⟨b,o,none⟩))).run P w'=.ok v w')∧T=A++B∧aS p w v u A:=by
 unfold lJ at hp
 split at hp
 ·rename_i ht
  split at hp
  ·rename_i n hn
   split at hp
   ·rename_i hle
    cases hp
    have hle:=Nat.le_of_ble_eq_true hle
    obtain ⟨A,B,hT,h1,h2⟩:=h.cut n
    have hl:(xs.take n).length=n:=by rw [List.length_take,h.length];omega
    unfold gy at hn
    cases hi:P.info? t with
    | none=>rw [hi] at hn;cases hn
    | some i =>
     rw [hi] at hn
     cases hn
     refine ⟨.agg (xs.take i.size).toArray,A,B,fun w' hr=>?_,hT,.agg h1⟩
     have hg:=qf ht w'
     have hc:=run_loadCells_list (P:=P) w' ⟨b,o,none⟩ (xs.take i.size) (fun j v hj=>by
      rw [Addr.add_mid]
      exact hr j v (by rw [List.getElem?_take] at hj;split at hj;exact hj;cases hj))
     rw [hl] at hc
     simp only [Instr.loadAt,Instr.sureAddr,loadVar,Sem.run_bind,Sem.run_pure,Result.andThen_ok,hg,if_true,sizeOf,typeInfo,run_program,hi,hc]
   ·cases hp
  ·cases hp
 ·rename_i ht
  split at hp
  ·rename_i c cs'
   split at hp
   ·cases hp
   ·cases hp
    cases h with
    | cons h1 h2 =>
     rename_i v vs A B
     refine ⟨v,A,B,fun w' hr=>?_,rfl,h1⟩
     have hg:=qf ht w'
     have hc:=hr 0 v rfl
     simp only [Nat.add_zero] at hc
     simp only [Instr.loadAt,Instr.sureAddr,loadVar,Sem.run_bind,Sem.run_pure,Result.andThen_ok,hg,Bool.false_eq_true,if_false,run_load,hc]
  ·cases hp
 ·cases hp
section
variable {P:Program}
def Jm (p:bB) (w w':World):Prop:=∀ b,p b→w'.heap[b]? = w.heap[b]?
def Lc:Op→Bool
 | .load _ _=>true
 | _=>false
theorem TS {N:Nat} {o:Oper} {e e':E} (h:vH P N o e=some e') (hb:e.st.box=[]) (hA:All e'.ob):All e.ob∧e'.st.box=[]∧∀ (p:bB) (a:Act) (w:World),jB p N e.st.env a w →
 ∃ v,(∀ w',(Lc o.op=true→Jm p w w')→(execOp a.eval o).run P w'=.ok (.value v) w')∧jB p N e'.st.env (a.put o.dst v) w:=by
 have est:e.st=⟨e.st.env,[]⟩:=by rw [← hb]
 have key:∀ (e1:E),e1.st.box=[]→e1.st=⟨e1.st.env,[]⟩:=fun e1 h=>by rw [← h]
 unfold vH at h
 split at h
 ·rename_i xs f hF
  split at h
  ·rename_i us e1 hv
   split at h
   ·rename_i vs hl
    split at h
    ·rename_i v obs d hf hd
     obtain ⟨h,hbx⟩:=nL h
     cases h
     obtain ⟨hdd,hdN⟩:=fK hd
     have hA:All (e1.ob++obs):=hA
     obtain ⟨h0,k⟩:=nM (C:=Ctx.still (fun _=>False) default N) hv hA.left
     refine ⟨h0,hbx,fun p a w Qr=>?_⟩
     obtain ⟨g,S⟩:=Qr
     rw [← est] at S
     obtain ⟨_,k⟩:=nM (C:=Ctx.still p w N) hv hA.left
     obtain ⟨g1,_,S1,r⟩:=k g a w S
     refine ⟨v,fun w' _=>acp hF hf hA.right a.eval w' (pE hl r),?_⟩
     rw [hdd]
     have:=S1.iL (Calm.refl w) hdN (v:=v) (D:=.v (.lit v)) (.v (.lit v))
     exact ⟨_,by rw [← key _ hbx];exact this⟩
    ·cases h
   ·cases h
  ·cases h
 ·split at h
  ·rename_i hk
   obtain ⟨h,hbx⟩:=nL h
   obtain ⟨h0,_⟩:=q9 (C:=Ctx.still (fun _=>False) default N) h hA
   refine ⟨h0,hbx,fun p a w Qr=>?_⟩
   obtain ⟨g,S⟩:=Qr
   rw [← est] at S
   obtain ⟨_,k⟩:=q9 (C:=Ctx.still p w N) h hA
   have hi:qZ a.eval o.op=true:=by
    cases ho:o.op<;>rw [ho] at hk<;>simp only [VL] at hk<;>try (cases hk;done)
    all_goals try rfl
    rename_i x
    simp only [p8,ho] at h
    unfold Cr at h
    split at h
    ·cases h
    split at h
    ·rename_i t
     split at h
     ·rename_i cs hl
      have h2:=aV.inv (S.env t _ hl).2.1
      simp only [qZ,Act.eval]
      generalize a.tmps.getD t undef=v at h2
      generalize g.TE t=T at h2
      cases h2
      rfl
     ·rename_i i f hl
      have h2:aV g w (a.tmps.getD t undef) (.ptr i f) (g.TE t):=(S.env t _ hl).2.1
      simp only [qZ,Act.eval]
      generalize a.tmps.getD t undef=v at h2
      generalize g.TE t=T at h2
      cases h2
      rfl
     ·rename_i r sz i j hl
      obtain ⟨_,⟨_,b,_,_,h5⟩,_⟩:=S.env t _ hl
      simp only [qZ,Act.eval,h5]
     ·cases h
    ·cases h
   have hw:=k g a w S (fun a' w'=>∃ g',aI (Ctx.still p w N) g' e'.st a' w') (fun _ _ _=>False) (fun g' a' w' S' _=>⟨g',S'⟩)
   obtain ⟨v,h1,g',h2⟩:=abq (dC.op hi) (fun w' x hx=>ZI hi hx) hw
   exact ⟨v,fun w' _=>h1 w',g',by rw [← key _ hbx];exact h2⟩
  ·split at h
   ·rename_i t s ho
    split at h
    ·rename_i cs d hl hd
     split at h
     ·rename_i u hp
      obtain ⟨h,hbx⟩:=nL h
      cases h
      obtain ⟨hdd,hdN⟩:=fK hd
      refine ⟨hA,hbx,fun p a w Qr=>?_⟩
      obtain ⟨g,S⟩:=Qr
      rw [← est] at S
      have h2:=aV.inv (S.env s _ hl).2.1
      generalize hv:a.tmps.getD s undef=v at h2
      generalize hT:g.TE s=T at h2
      cases h2 with
      | pt r1 r2 r3 r4 =>
       rename_i b q xs
       obtain ⟨v,A,B,hr,gD,hR⟩:=aaI (P:=P) (t:=t) (b:=b) (o:=q) (xs:=xs) r1 hp
       have hA':=(List.append_eq_nil_iff.1 gD.symm).1
       subst hA'
       have hpb:=jB.agi (q:=e.st.env) (by rw [← est];exact S) b r3
       refine ⟨v,fun w' hw'=>?_,?_⟩
       ·have:=hr w' (fun j u hj=>(uY (hw' (by rw [ho];rfl) b hpb)).trans (r4 j u hj))
        unfold execOp
        simp only [ho,Act.eval,hv,Sem.run_bind,this,Result.andThen_ok,Sem.run_pure]
       ·rw [hdd]
        exact ⟨_,by rw [← key _ hbx];exact S.iL (Calm.refl w) hdN (.v hR)⟩
     ·cases h
    ·cases h
   ·rename_i s t f ho
    split at h
    ·rename_i off ft cs d hf hl hd
     obtain ⟨h,hbx⟩:=nL h
     cases h
     obtain ⟨hdd,hdN⟩:=fK hd
     refine ⟨hA,hbx,fun p a w Qr=>?_⟩
     obtain ⟨g,S⟩:=Qr
     rw [← est] at S
     have h2:=aV.inv (S.env t _ hl).2.1
     generalize hv:a.tmps.getD t undef=v at h2
     generalize hT:g.TE t=T at h2
     cases h2 with
     | pt r1 r2 r3 r4 =>
      rename_i b q xs
      obtain ⟨A,B,gD,_,r5⟩:=r1.cut off
      have hB:=(List.append_eq_nil_iff.1 gD.symm).2
      subst hB
      have hx:a.eval (.tmp t)=.pointer (some ⟨b,q,none⟩):=hv
      refine ⟨.pointer (some ⟨b,q+off,none⟩),fun w' _=>?_,?_⟩
      ·unfold execOp
       simp only [ho,hx,Sem.run_bind,R6 hf w' b q,Result.andThen_ok,Sem.run_pure]
      ·rw [hdd]
       have hpt:aS g.aM w (.pointer (some ⟨b,q+off,none⟩)) (.pt (cs.drop off)) []:=.pt r5 (fun u hu=>r2 u (List.mem_of_mem_drop hu)) r3 fun j u hj=>by
        rw [List.getElem?_drop] at hj
        have:=r4 _ _ hj
        rwa [show q+off+j=q+(off+j) by omega]
       exact ⟨_,by rw [← key _ hbx];exact S.iL (Calm.refl w) hdN (.v hpt)⟩
    ·cases h
   ·rename_i c ho
    split at h
    ·rename_i x hc hx
     obtain ⟨h,hbx⟩:=nL h
     have ha:=K4 hx
     obtain ⟨h0,_⟩:=TJ (C:=Ctx.still (fun _=>False) default N) ho hc ha h hA
     refine ⟨h0,hbx,fun p a w Qr=>?_⟩
     obtain ⟨g,S⟩:=Qr
     rw [← est] at S
     unfold yh at h
     split at h
     ·cases h
     rename_i d hd
     split at h
     ·rename_i r ow sz es hp
      split at h
      ·rename_i t ht
       split at h
       ·rename_i el hu
        split at h
        ·rename_i n e1 hh
         obtain ⟨q1,q2⟩:=ik hh
         cases h
         obtain ⟨hdd,hdN⟩:=fK hd
         have hn:(es.length:Int)=n:=(All.snoc (l:=e1.ob) hA).2
         obtain ⟨T,_,hr,_⟩:=ng S hp
         obtain ⟨ao,cap,hv⟩:=hr.Uy
         refine ⟨.int .i64 n,fun w' _=>?_,?_⟩
         ·unfold execOp
          simp only [ho,resolve,hc,ha,Sem.run_bind,Sem.run_pure,Result.andThen_ok,invoke,builtin,List.map_toArray,List.map_cons,List.map_nil,hv,Builtin.len_,ht,List.getElem?_toArray,List.getElem?_cons_zero,run_underlying hu,goInt,hn]
         ·rw [hdd]
          have hput:=S.iL (Calm.refl w) hdN (v:=.int .i64 n) (D:=.v (.lit (.int .i64 n))) (.v (.lit _))
          rw [← q2] at hput
          exact ⟨_,by rw [← key _ hbx];exact hput⟩
        ·cases h
       ·cases h
      ·cases h
     ·cases h
    ·cases h
   ·rename_i op t x y ty ho
    obtain ⟨h,hbx⟩:=nL h
    unfold VK at h
    split at h
    ·cases h
    rename_i d hd
    split at h
    ·cases h
    rename_i hgd
    split at h
    rotate_left
    ·cases h
    rename_i cs ds e1 hv
    split at h
    rotate_left
    ·cases h
    rename_i vs1 vs2 hl1 hl2
    obtain ⟨hdd,hdN⟩:=fK hd
    have fin:∀ (b:Bool) (v:Value),qL P 12 t (.agg cs) (.agg ds)=some b→(op=.eql∧v=.bool b∨op=.neq∧v=.bool (!b))→e'=e1.put d (.lit v)→All e.ob∧e'.st.box=[]∧∀ (p:bB) (a:Act) (w:World),jB p N e.st.env a w →
     ∃ v,(∀ w',(Lc o.op=true→Jm p w w')→(execOp a.eval o).run P w'=.ok (.value v) w')∧jB p N e'.st.env (a.put o.dst v) w:=by
     intro b v hb hop he
     subst he
     have hA:All e1.ob:=hA
     obtain ⟨h0,_⟩:=nM (C:=Ctx.still (fun _=>False) default N) hv hA
     refine ⟨h0,hbx,fun p a w Qr=>?_⟩
     obtain ⟨g,S⟩:=Qr
     rw [← est] at S
     obtain ⟨_,k⟩:=nM (C:=Ctx.still p w N) hv hA
     obtain ⟨g1,_,S1,r⟩:=k g a w S
     refine ⟨v,fun w' _=>?_,?_⟩
     ·have hr:aN p w' ([x,y].map a.eval) [.agg cs,.agg ds] []:=by
       simp only [List.map_cons,List.map_nil] at r ⊢
       generalize hT:([]:List Nat)=T at r
       cases r with
       | @cons _ _ _ _ A B r1 r2 =>
        have hA1:=(List.append_eq_nil_iff.1 hT.symm)
        rw [hA1.1] at r1
        rw [hA1.2] at r2
        generalize xc:([]:List Nat)=T2 at r2
        cases r2 with
        | @cons _ _ _ _ A2 B2 r3 r4 =>
         have hA2:=(List.append_eq_nil_iff.1 xc.symm)
         rw [hA2.1] at r3
         obtain ⟨xs,ex,rx⟩:=r1.tC
         obtain ⟨ys,ey,ry⟩:=r3.tC
         rw [ex,ey]
         have e1:=pE hl1 rx
         have e2:=pE hl2 ry
         subst e1
         subst e2
         have hnil:aN p w' [] [] []:=.nil
         rw [← hT]
         exact (aN.cons (A:=[]) (B:=[]) (.agg (Bi hl1)) (aN.cons (A:=[]) (B:=[]) (.agg (Bi hl2)) hnil):aN p w' _ _ [])
      exact H9 hgd hb hop ho a.eval w' p hr
     ·rw [hdd]
      have:=S1.iL (Calm.refl w) hdN (v:=v) (D:=.v (.lit v)) (.v (.lit v))
      exact ⟨_,by rw [← key _ hbx];exact this⟩
    cases hb:qL P 12 t (.agg cs) (.agg ds) with
    | none=>rw [hb] at h;cases op<;>cases h
    | some b =>
     rw [hb] at h
     cases op<;>try (cases h;done)
     ·exact fin b _ hb (.inl ⟨rfl,rfl⟩) (Option.some.inj h).symm
     ·exact fin b _ hb (.inr ⟨rfl,rfl⟩) (Option.some.inj h).symm
   ·cases h
end
end Go.Rf
end
section
namespace Go.Rf
open Go.RowKit
set_option linter.unusedVariables false
set_option linter.unusedSimpArgs false
variable [cO]
inductive Tr where
 | z
 | k (d:Nat) (t:Tr)
 | q (i:Nat) (ps:List (List Nat)) (t:Tr)
 | i (i:Nat) (t:Tr)
 | e (i:Nat) (t:Tr)
 | b (i:Nat) (h1 g1:List V) (t1:Tr) (h2 g2:List V) (t2:Tr)
def zA (ops:Array Oper) (o:Oper) (st:St):Option Bool:=match o.guard with
 | none=>some true
 | some (j,want)=>match vw ops j with
  | some d=>match look st.env d with
   | some (.d (.v (.kb v)))=>some (v == want)
   | some (.d (.v (.lit (.tuple t))))=>match Nat.beq t.size 0 with
    | true=>some false
    | false=>none
   | _=>none
  | none=>none
theorem BI {C:Ctx} {ops:Array Oper} {o:Oper} {st:St} {g:G} {a:Act} {w:World} {b:Bool} (h:zA ops o st=some b) (S:aI C g st a w):Region.wanted o (yielded ops a.tmps)=b:=by
 unfold zA at h
 split at h
 ·rename_i hg;cases h;simp [Region.wanted,hg]
 ·rename_i j want hg
  split at h
  ·rename_i d hd
   split at h
   ·rename_i v hl
    have hy:=xI S hd hl (aV.kb (S.env d _ hl).2.1)
    cases h
    simp only [Region.wanted,hg,hy]
    cases v<;>cases want<;>rfl
   ·rename_i t hl
    split at h
    ·cases h
     have hv:=aV.lit (S.env d _ hl).2.1
     unfold vw at hd
     split at hd
     ·rename_i oj hoj
      have:yielded ops a.tmps j=none:=by
       simp only [yielded,hoj,Option.bind_some,hd]
       obtain ⟨h1,_,_⟩:=S.env d _ hl
       have hlt:d < a.tmps.size:=by rw [S.tmps];exact h1
       rw [Array.getD_eq_getD_getElem?,Array.getElem?_eq_getElem hlt] at hv
       rw [Array.getElem?_eq_getElem hlt]
       simp only [Option.getD_some] at hv
       simp only [hv]
      simp [Region.wanted,hg,this]
     ·cases hd
    ·cases h
   ·cases h
  ·cases h
def Tr.cnt:Tr→Nat
 | .z=>0
 | .k _ t=>t.cnt
 | .q _ _ t=>t.cnt+1
 | .i _ t=>t.cnt+1
 | .e _ t=>t.cnt+1
 | .b _ _ _ t _ _ _=>t.cnt+1
def V.jg:V→Bool
 | .lit _=>true
 | .kb _=>true
 | .aC cs=>go cs
 | .agg cs=>go cs
 | .gX _ cs=>go cs
 | _=>false
where go:List V→Bool
 | []=>true
 | c :: cs=>match c.jg with
  | true=>go cs
  | false=>false
mutual
theorem aS.jg {p p':bB} {w w':World} {v:Value} {u:V} {T:List Nat}:aS p w v u T→u.jg=true→aS p' w' v u []
 | .lit u,_=>.lit u
 | .kb b,_=>.kb b
 | .aC h,hs=>.aC (h.jg (by simpa [V.jg] using hs))
 | .agg h,hs=>.agg (h.jg (by simpa [V.jg] using hs))
 | .any _,hs=>by simp [V.jg] at hs
 | .nil _ _,hs=>by simp [V.jg] at hs
 | .shared ..,hs=>by simp [V.jg] at hs
 | .own ..,hs=>by simp [V.jg] at hs
 | .pt ..,hs=>by simp [V.jg] at hs
 | .iface ..,hs=>by simp [V.jg] at hs
 | .gX h,hs=>.gX (h.jg (by simpa [V.jg] using hs))
theorem aN.jg {p p':bB} {w w':World} {vs:List Value} {us:List V} {T:List Nat}:aN p w vs us T→V.jg.go us=true→aN p' w' vs us []
 | .nil,_=>.nil
 | .cons (d:=d) h1 h2,hs=>by
  simp only [V.jg.go] at hs
  cases hc:d.jg with
  | false=>rw [hc] at hs;cases hs
  | true=>rw [hc] at hs;exact aN.cons (A:=[]) (B:=[]) (h1.jg hc) (h2.jg hs)
end
def VM (env:List (Nat × X)) (d:Nat):V:=match look env d with
 | some (.d (.v u))=>match u.jg with
  | true=>u
  | false=>.any
 | _=>.any
def Jn (N:Nat) (o:Oper) (e1:E) (q:E):Option E:=match o.dst with
 | none=>some q
 | some _=>match dN N o with
  | some d=>some { q with st:=⟨vR q.st.env d (.d (.v (VM e1.st.env d))),[]⟩ }
  | none=>none
def Jo (N:Nat) (o:Oper) (q:E):Option E:=match o.dst with
 | none=>some q
 | some _=>match dN N o with
  | some d=>some { q with st:=⟨vR q.st.env d (.d (.v (.lit undef))),[]⟩ }
  | none=>none
def uJ (d:Nat) (v:Bool) (q:E):E:=match look q.st.env d with
 | some (.d (.v (.lit (.bool b))))=>{ need (b=v) q with st:=q.st.kr d (.d (.v (.kb v))) }
 | _=>q
def rD (ops:Array Oper) (L:Array Bool):Option (List Nat)→List Nat
 | some r=>r
 | none=>Region.ready .any ops L
def vI (P:Program) (N:Nat) (ops:Array Oper) (i:Nat) (e q:E):Option (E × E):=match ops[i]? with
 | some o=>match zA ops o e.st with
  | some true=>match p8 P N o e with
   | some e1=>match Jn N o e1 q with
    | some q1=>some (qD N o e1,q1)
    | none=>none
   | none=>none
  | _=>none
 | none=>none
def kz (P:Program) (N:Nat) (ops:Array Oper):Tr→Option (List Nat)→Array Bool→E→E→Option (List (E × E))
 | .z,none,L,e,q=>match Region.ready .any ops L with
  | []=>some [(e,q)]
  | _ :: _=>none
 | .k d l,none,L,e,q=>match look e.st.env d with
  | some (.d (.v (.lit (.bool b))))=>match hint e with
   | some (.lit (.bool v),e1)=>kz P N ops l none L { need (b=v) e1 with st:=e1.st.kr d (.d (.v (.kb v))) } (uJ d v q)
   | _=>none
  | _=>none
 | .q i ps l,none,L,e,q=>match ops[i]? with
  | some o=>match (Region.ready .any ops L).contains i && Region.free .any ops L i && Vh P ops i ps && kg P o.op with
   | true=>match zA ops o e.st with
    | some true=>match p8 P N o e,vH P N o q with
     | some e1,some q1=>kz P N ops l none (L.setIfInBounds i true) (qD N o e1) q1
     | _,_=>none
    | _=>none
   | false=>none
  | none=>none
 | .i i l,none,L,e,q=>match ops[i]? with
  | some o=>match (Region.ready .any ops L).contains i && Region.free .any ops L i && kg P o.op with
   | true=>match zA ops o e.st with
    | some true=>match Lc o.op,p8 P N o e,vH P N o q with
     | false,some e1,some q1=>kz P N ops l none (L.setIfInBounds i true) (qD N o e1) q1
     | _,_,_=>none
    | some false=>match vE N o e,Jo N o q with
     | some e1,some q1=>kz P N ops l none (L.setIfInBounds i true) e1 q1
     | _,_=>none
    | none=>none
   | false=>none
  | none=>none
 | .e i l,r,L,e,q=>match rD ops L r with
  | [j]=>match Nat.beq j i with
   | true=>match vI P N ops i e q with
    | some (e1,q1)=>kz P N ops l none (L.setIfInBounds i true) e1 q1
    | none=>none
   | false=>none
  | _=>none
 | .b i h1 g1 t1 h2 g2 t2,r,L,e,q=>match rD ops L r with
  | j :: k :: ks=>match Nat.beq j i && Nat.beq t2.cnt (t1.cnt+1) with
   | true=>match vI P N ops i { e with hs:=h1 } { q with hs:=g1 } with
    | some (e1,q1)=>match kz P N ops t1 none (L.setIfInBounds i true) e1 q1,kz P N ops t2 (some (k :: ks)) L { e with hs:=h2 } { q with hs:=g2 } with
     | some l1,some l2=>some (l1++l2)
     | _,_=>none
    | none=>none
   | false=>none
  | _=>none
 | _,_,_,_,_=>none
def agj (p:bB) (w:World) (v:Value) (x:Option X) (T:List Nat):Prop:=match x with
 | some (.d (.v u))=>aS p w v u T
 | _=>True
section
variable {P:Program} {C:Ctx}
theorem GY {N:Nat} {o:Oper} {e1 q q1:E} (h:Jn N o e1 q=some q1) (hb:q.st.box=[]):q1.ob=q.ob∧q1.st.box=[]∧∀ p a w v,jB p N q.st.env a w→(∀ d,o.dst=some d→d < N→∃ p' w' T,agj p' w' v (look e1.st.env d) T)→jB p N q1.st.env (a.put o.dst v) w:=by
 unfold Jn at h
 split at h
 ·rename_i hd
  cases h
  exact ⟨rfl,hb,fun p a w v Q _=>by rw [hd];exact Q⟩
 ·split at h
  ·rename_i d hd
   cases h
   obtain ⟨hdd,hdN⟩:=fK hd
   refine ⟨rfl,rfl,fun p a w v Q hr=>?_⟩
   obtain ⟨g,S⟩:=Q
   rw [hdd]
   refine ⟨_,S.iL (Calm.refl w) hdN (.v ?_)⟩
   obtain ⟨p',w',T,hx⟩:=hr d hdd hdN
   unfold VM
   split
   ·rename_i u hl
    split
    ·rename_i hs
     rw [hl] at hx
     exact aS.jg hx hs
    ·exact .any v
   ·exact .any v
  ·cases h
theorem abr {N:Nat} {o:Oper} {q q1:E} (h:Jo N o q=some q1) (hb:q.st.box=[]):q1.ob=q.ob∧q1.st.box=[]∧∀ p a w,jB p N q.st.env a w→jB p N q1.st.env (a.put o.dst undef) w:=by
 unfold Jo at h
 split at h
 ·rename_i hd
  cases h
  exact ⟨rfl,hb,fun p a w Q=>by rw [hd];exact Q⟩
 ·split at h
  ·rename_i d hd
   cases h
   obtain ⟨hdd,hdN⟩:=fK hd
   refine ⟨rfl,rfl,fun p a w Q=>?_⟩
   obtain ⟨g,S⟩:=Q
   rw [hdd]
   exact ⟨_,S.iL (Calm.refl w) hdN (.v (.lit _))⟩
  ·cases h
theorem adl {N d:Nat} {v:Bool} {q:E} (hA:All (uJ d v q).ob) (hb:q.st.box=[]):All q.ob∧(uJ d v q).st.box=[]∧∀ p a w,jB p N q.st.env a w→jB p N (uJ d v q).st.env a w:=by
 unfold uJ at hA ⊢
 split at hA
 ·rename_i b hl
  simp only [hl]
  obtain ⟨h0,hv⟩:=All.snoc (l:=q.ob) hA
  subst hv
  refine ⟨h0,hb,fun p a w Q=>?_⟩
  obtain ⟨g,S⟩:=Q
  have e:q.st=⟨q.st.env,[]⟩:=by rw [← hb]
  rw [← e] at S
  have:=S.known hl
  refine ⟨g,?_⟩
  have e2:(q.st.kr d (.d (.v (.kb b))))=⟨(q.st.kr d (.d (.v (.kb b)))).env,[]⟩:=by simp only [St.kr,hb]
  rw [← e2]
  exact this
 ·exact ⟨hA,hb,fun _ _ _ Q=>Q⟩
end
end Go.Rf
end
section
namespace Go.Rf
open Go.RowKit
set_option linter.unusedVariables false
set_option linter.unusedSimpArgs false
variable [cO]
section
variable {P:Program} {C:Ctx}
def Sq (p:bB) (w0 w:World):Prop:=Jm p w0 w∧w0.heap.size≤w.heap.size
inductive kJ:List (List Prop × List Prop)→Prop
 | nil:kJ []
 | cons {a b:List Prop} {l:List (List Prop × List Prop)}:All a→All b→kJ l→kJ ((a,b) :: l)
def YA (x:E × E):List Prop × List Prop:=(x.1.ob,x.2.ob)
theorem kJ.left:∀ {l m:List (List Prop × List Prop)},kJ (l++m)→kJ l
 | [],_,_=>.nil
 | _ :: _,_,.cons a b t=>.cons a b t.left
theorem kJ.right:∀ {l m:List (List Prop × List Prop)},kJ (l++m)→kJ m
 | [],_,h=>h
 | _ :: _,_,.cons _ _ t=>kJ.right (m:=_) t
theorem Tg {N:Nat} {o:Oper} {q q1:E} (h2:vH P N o q=some q1):q1.st.box=[]:=by
 unfold vH at h2
 split at h2
 ·split at h2
  ·split at h2
   ·split at h2
    ·exact (nL h2).2
    ·cases h2
   ·cases h2
  ·cases h2
 ·split at h2
  ·exact (nL h2).2
  ·split at h2
   ·split at h2
    ·split at h2
     ·exact (nL h2).2
     ·cases h2
    ·cases h2
   ·split at h2
    ·exact (nL h2).2
    ·cases h2
   ·split at h2
    ·exact (nL h2).2
    ·cases h2
   ·exact (nL h2).2
   ·cases h2
theorem TU {ops:Array Oper} {i:Nat} {e q e1 q1:E} (h:vI P C.N ops i e q=some (e1,q1)) (hb:q.st.box=[]) (hA:All e1.ob) (hB:All q1.ob):All e.ob∧All q.ob∧q1.st.box=[] ∧
 ∀ (g:G) (a:Act) (w w0:World) (p:bB) (Q:Exit→Act→World→Prop) (K:Act→World→Prop) (L:Array Bool),(∀ b,p b→b < w0.heap.size)→i∈Region.ready .any ops L→aI C g e.st a w→jB p C.N q.st.env a w0→Shut ops L→SL P ops (Sq p w0) L w →
  (∀ g' a' w',aI C g' e1.st a' w'→jB p C.N q1.st.env a' w0→Shut ops (L.setIfInBounds i true)→SL P ops (Sq p w0) (L.setIfInBounds i true) w'→K a' w') →
  wpOp P ops Q i (fun a' w'=>SL P ops (Sq p w0) (L.setIfInBounds i true) w'∧K a' w') a w:=by
 unfold vI at h
 split at h
 rotate_left
 ·cases h
 rename_i o ho
 split at h
 rotate_left
 ·cases h
 rename_i hg
 split at h
 rotate_left
 ·cases h
 rename_i e2 h1
 split at h
 rotate_left
 ·cases h
 rename_i q2 h2
 cases h
 obtain ⟨x1,hb1,k2⟩:=GY h2 hb
 obtain ⟨hA2,kf⟩:=xP (P:=P) hA
 obtain ⟨hA3,k1⟩:=q9 (C:=C) h1 hA2
 refine ⟨hA3,x1 ▸ hB,hb1,fun g a w w0 p Q K L hp c1 S Qr hsh hS hK=>?_⟩
 have hw:=BI (ops:=ops) hg S
 unfold wpOp
 simp only [ho,hw,if_true]
 refine .inl ?_
 have hmain:=aco (k1 g a w S (fun a' w'=>(∃ g',aI C g' e2.st a' w')∧(kg P o.op=true→Calm w w')) Q (fun g' a' w' S' hcm=>⟨⟨g',S'⟩,hcm⟩))
 refine Oper.wp_mono (fun a' w' hh=>?_) hmain
 obtain ⟨⟨⟨g',S'⟩,hcm⟩,hform⟩:=hh
 rcases hform with ⟨v,rfl⟩ | hd
 ·have hS2:SL P ops (Sq p w0) (L.setIfInBounds i true) w':=by
   cases hck:kg P o.op with
   | true =>
    refine (SL.iff ho hck).2 fun kk=>?_
    obtain ⟨s1,s2⟩:=hS kk
    have hc:=hcm hck
    exact ⟨fun b hb=>(hc.same b (Nat.lt_of_lt_of_le (hp b hb) s2)).trans (s1 b hb),Nat.le_trans s2 hc.size⟩
   | false =>
    intro kk
    have hin:(L.setIfInBounds i true).getD i false=true:=by
     have h0:=(mem_ready.1 c1).1
     rcases Nat.lt_or_ge i L.size with h' | h'
     ·simp [h']
     ·simp [Array.getElem?_eq_none h'] at h0
    have:=kk i o ho hin
    rw [hck] at this;cases this
  refine ⟨hS2,hK g' _ w' (kf _ _ _ S') (k2 p a w0 v Qr fun d hd hdN=>⟨g'.aM,w',g'.TE d,?_⟩) (hsh.add c1) hS2⟩
  cases hl:look e2.st.env d with
  | none=>trivial
  | some x =>
   cases x with
   | d D =>
    cases D with
    | v u =>
     obtain ⟨m1,m2,_⟩:=S'.env d _ hl
     have hval:(a.put o.dst v).tmps.getD d undef=v:=by
      rw [hd,Act.jW,Array.getD_eq_getD_getElem?]
      simp [show d < a.tmps.size by rw [S.tmps];exact hdN]
     rw [hval] at m2
     exact aV.inv m2
    | _=>trivial
   | _=>trivial
 ·exact (hd S'.defers).elim
def agk (P:Program) (ops:Array Oper) (Q:Exit→Act→World→Prop) (S:Array Bool→World→Prop) (n:Nat) (r:Option (List Nat)) (L:Array Bool) (a:Act) (w:World):Prop:=match r with
 | none=>anyS P ops Q S n L a w
 | some l=>∀ i∈l,∃ m,n=m+1∧wpOp P ops Q i (fun a' w'=>S (L.setIfInBounds i true) w'∧anyS P ops Q S m (L.setIfInBounds i true) a' w') a w
theorem rq {ops:Array Oper} (hs:Region.noSelect ops=true):∀ {t:Tr} {r:Option (List Nat)} {L:Array Bool} {e q:E} {ls:List (E × E)},kz P C.N ops t r L e q=some ls→kJ (ls.map YA)→q.st.box=[]→(∀ l,r=some l→∀ i∈l,i∈Region.ready .any ops L) →
 All e.ob∧All q.ob∧∀ (g:G) (a:Act) (w w0:World) (p:bB) (Q:Exit→Act→World→Prop),(∀ b,p b→b < w0.heap.size)→(∀ c a w,¬ Q (.panic c) a w)→(∀ x∈ls,∀ g a w,aI C g x.1.st a w→Q .normal a w) →
  aI C g e.st a w→jB p C.N q.st.env a w0→Shut ops L→SL P ops (Sq p w0) L w→agk P ops Q (SL P ops (Sq p w0)) t.cnt r L a w
 | .z,some _,L,e,q,ls,h,hA,hb,hr=>by simp [kz] at h
 | .k _ _,some _,L,e,q,ls,h,hA,hb,hr=>by simp [kz] at h
 | .q _ _ _,some _,L,e,q,ls,h,hA,hb,hr=>by simp [kz] at h
 | .i _ _,some _,L,e,q,ls,h,hA,hb,hr=>by simp [kz] at h
 | .z,none,L,e,q,ls,h,hA,hb,hr=>by
  simp only [kz] at h
  split at h
  ·rename_i hrd
   cases h
   cases hA with
   | cons h1 h2 _=>exact ⟨h1,h2,fun g a w w0 p Q hp lM hQ S _ _ _=>⟨hrd,hQ (e,q) (by simp) g a w S⟩⟩
  ·cases h
 | .k d l,none,L,e,q,ls,h,hA,hb,hr=>by
  simp only [kz] at h
  split at h
  ·rename_i b hl
   split at h
   ·rename_i v e1 hh
    obtain ⟨q1,q2⟩:=ik hh
    have hb2:(uJ d v q).st.box=[]:=by
     unfold uJ
     split
     ·exact hb
     ·exact hb
    obtain ⟨h1,h2,h3⟩:=rq hs h hA hb2 (fun _ h=>by cases h)
    obtain ⟨h4,hbv⟩:=All.snoc (l:=e1.ob) h1
    subst hbv
    obtain ⟨h5,_,h6⟩:=adl (N:=C.N) h2 hb
    refine ⟨q1 ▸ h4,h5,fun g a w w0 p Q hp lM hQ S Qr hsh hS=>?_⟩
    refine h3 g a w w0 p Q hp lM hQ ?_ (h6 p a w0 Qr) hsh hS
    show aI C g (e1.st.kr d _) a w
    rw [q2]
    exact S.known hl
   ·cases h
  ·cases h
 | .q i ps l,none,L,e,q,ls,h,hA,hb,hr=>by
  simp only [kz] at h
  split at h
  ·rename_i o ho
   split at h
   ·rename_i hc
    simp only [Bool.and_eq_true] at hc
    obtain ⟨⟨⟨c1,c2⟩,c3⟩,c4⟩:=hc
    have c1:i∈Region.ready .any ops L:=by simpa using c1
    split at h
    ·rename_i hg
     split at h
     ·rename_i e1 q1 h1 h2
      have hb1:q1.st.box=[]:=Tg h2
      obtain ⟨hA1,hB1,k⟩:=rq hs h hA hb1 (fun _ h=>by cases h)
      obtain ⟨hA2,kf⟩:=xP (P:=P) hA1
      obtain ⟨hA3,k1⟩:=q9 h1 hA2
      obtain ⟨hB2,_,k2⟩:=TS h2 hb hB1
      refine ⟨hA3,hB2,fun g a w w0 p Q hp lM hQ S Qr hsh hS=>?_⟩
      obtain ⟨v,hv,uK⟩:=k2 p a w0 Qr
      have hw:=BI (ops:=ops) hg S
      have hSq:=Sv hsh c3 (mem_ready.1 c1).1 hS
      have hrun:=hv w (fun _=>hSq.1)
      have hmain:=k1 g a w S (fun a' w'=>∃ g',aI C g' e1.st a' w') (fun _ _ _=>False) (fun g' a' w' S' _=>⟨g',S'⟩)
      unfold Oper.wp at hmain
      rw [hrun,Oper.upon_value] at hmain
      obtain ⟨g',S'⟩:=hmain
      refine anyS.first (R:=Sq p w0) ho hs (fun L w h1 h2 h3=>Sv h1 c3 h2 h3) c4 (fun c a w h=>(lM c _ w h).elim) l.cnt L a w hsh (fun j oj=>Region.free_spec ho c2 j oj) c1 (.inl ⟨hw,fun w' hw'=>hv w' (fun _=>hw'.1)⟩) hS ?_
      exact k g' _ w w0 p Q hp lM hQ (kf _ _ _ S') uK (hsh.add c1) ((SL.iff ho c4).2 hS)
     ·cases h
    ·cases h
   ·cases h
  ·cases h
 | .i i l,none,L,e,q,ls,h,hA,hb,hr=>by
  simp only [kz] at h
  split at h
  ·rename_i o ho
   split at h
   ·rename_i hc
    simp only [Bool.and_eq_true] at hc
    obtain ⟨⟨c1,c2⟩,c4⟩:=hc
    have c1:i∈Region.ready .any ops L:=by simpa using c1
    split at h
    ·rename_i hg
     split at h
     ·rename_i e1 q1 hld h1 h2
      have hb1:q1.st.box=[]:=Tg h2
      obtain ⟨hA1,hB1,k⟩:=rq hs h hA hb1 (fun _ h=>by cases h)
      obtain ⟨hA2,kf⟩:=xP (P:=P) hA1
      obtain ⟨hA3,k1⟩:=q9 h1 hA2
      obtain ⟨hB2,_,k2⟩:=TS h2 hb hB1
      refine ⟨hA3,hB2,fun g a w w0 p Q hp lM hQ S Qr hsh hS=>?_⟩
      obtain ⟨v,hv,uK⟩:=k2 p a w0 Qr
      have hw:=BI (ops:=ops) hg S
      have hrun:=hv w (fun h=>by rw [hld] at h;cases h)
      have hmain:=k1 g a w S (fun a' w'=>∃ g',aI C g' e1.st a' w') (fun _ _ _=>False) (fun g' a' w' S' _=>⟨g',S'⟩)
      unfold Oper.wp at hmain
      rw [hrun,Oper.upon_value] at hmain
      obtain ⟨g',S'⟩:=hmain
      refine anyS.first (R:=fun _=>True) ho hs (fun L w h1 h2 h3=>trivial) c4 (fun c a w h=>(lM c _ w h).elim) l.cnt L a w hsh (fun j oj=>Region.free_spec ho c2 j oj) c1 (.inl ⟨hw,fun w' hw'=>hv w' (fun h=>by rw [hld] at h;cases h)⟩) hS ?_
      exact k g' _ w w0 p Q hp lM hQ (kf _ _ _ S') uK (hsh.add c1) ((SL.iff ho c4).2 hS)
     ·cases h
    ·rename_i hg
     split at h
     ·rename_i e1 q1 h1 h2
      obtain ⟨x1,hb1,k2⟩:=abr h2 hb
      obtain ⟨hA1,hB1,k⟩:=rq hs h hA hb1 (fun _ h=>by cases h)
      obtain ⟨hA3,k1⟩:=BH (P:=P) (C:=C) (ops:=ops) h1 hA1
      refine ⟨hA3,x1 ▸ hB1,fun g a w w0 p Q hp lM hQ S Qr hsh hS=>?_⟩
      have hw:=BI (ops:=ops) hg S
      have hmain:=k1 g a w S hw (fun a' w'=>∃ g',aI C g' e1.st a' w') (fun _ _ _=>False) (fun g' a' w' S' _=>⟨g',S'⟩)
      rw [if_neg (by rw [hw];simp)] at hmain
      obtain ⟨g',S'⟩:=hmain
      refine anyS.first (R:=fun _=>True) ho hs (fun L w h1 h2 h3=>trivial) c4 (fun c a w h=>(lM c _ w h).elim) l.cnt L a w hsh (fun j oj=>Region.free_spec ho c2 j oj) c1 (.inr ⟨hw,rfl⟩) hS ?_
      exact k g' _ w w0 p Q hp lM hQ S' (k2 p a w0 Qr) (hsh.add c1) ((SL.iff ho c4).2 hS)
     ·cases h
    ·cases h
   ·cases h
  ·cases h
 | .e i l,r,L,e,q,ls,h,hA,hb,hr=>by
  simp only [kz] at h
  split at h
  rotate_left
  ·cases h
  rename_i j kK
  split at h
  rotate_left
  ·cases h
  rename_i hj
  have hj:=Nat.eq_of_beq_eq_true hj
  subst hj
  split at h
  rotate_left
  ·cases h
  rename_i e1 q1 hes
  have hbq:q1.st.box=[]:=by
   unfold vI at hes
   split at hes
   ·split at hes
    ·split at hes
     ·split at hes
      ·rename_i _ _ _ _ h2
       cases hes
       exact (GY h2 hb).2.1
      ·cases hes
     ·cases hes
    ·cases hes
   ·cases hes
  obtain ⟨hA1,hB1,k⟩:=rq hs h hA hbq (fun _ h=>by cases h)
  obtain ⟨oh,hB0,_,step⟩:=TU (C:=C) hes hb hA1 hB1
  refine ⟨oh,hB0,fun g a w w0 p Q hp lM hQ S Qr hsh hS=>?_⟩
  have main:j∈Region.ready .any ops L→wpOp P ops Q j (fun a' w'=>SL P ops (Sq p w0) (L.setIfInBounds j true) w'∧anyS P ops Q (SL P ops (Sq p w0)) l.cnt (L.setIfInBounds j true) a' w') a w:=fun c1 =>
   step g a w w0 p Q _ L hp c1 S Qr hsh hS fun g' a' w' S' uK hsh' hS'=>k g' a' w' w0 p Q hp lM hQ S' uK hsh' hS'
  cases r with
  | none =>
   simp only [rD] at kK
   refine ⟨fun h0=>(by rw [h0] at kK;cases kK),fun i hi=>?_⟩
   rw [kK] at hi
   have:i=j:=by simpa using hi
   subst this
   exact main (by rw [kK];simp)
  | some l' =>
   simp only [rD] at kK
   subst kK
   intro i hi
   have:i=j:=by simpa using hi
   subst this
   exact ⟨_,rfl,main (hr _ rfl _ (by simp))⟩
 | .b i h1 g1 t1 h2 g2 t2,r,L,e,q,ls,h,hA,hb,hr=>by
  simp only [kz] at h
  split at h
  rotate_left
  ·cases h
  rename_i j k ks kK
  split at h
  rotate_left
  ·cases h
  rename_i hj
  rw [Bool.and_eq_true] at hj
  have hcnt:=Nat.eq_of_beq_eq_true hj.2
  have hj:=Nat.eq_of_beq_eq_true hj.1
  subst hj
  split at h
  rotate_left
  ·cases h
  rename_i e1 q1 hes
  split at h
  rotate_left
  ·cases h
  rename_i l1 l2 hl1 hl2
  cases h
  rw [List.map_append] at hA
  have hbq:q1.st.box=[]:=by
   unfold vI at hes
   split at hes
   ·split at hes
    ·split at hes
     ·split at hes
      ·rename_i _ _ _ _ h2
       cases hes
       exact (GY h2 hb).2.1
      ·cases hes
     ·cases hes
    ·cases hes
   ·cases hes
  have hall:∀ i∈j :: k :: ks,i∈Region.ready .any ops L:=by
   cases r with
   | none=>simp only [rD] at kK;rw [kK];exact fun _ h=>h
   | some l'=>simp only [rD] at kK;subst kK;exact hr _ rfl
  obtain ⟨hA1,hB1,k1⟩:=rq hs hl1 hA.left hbq (fun _ h=>by cases h)
  obtain ⟨hA2,hB2,k2⟩:=rq hs hl2 hA.right hb (fun l' h=>by cases h;exact fun i hi=>hall i (List.mem_cons_of_mem _ hi))
  obtain ⟨oh,hB0,_,step⟩:=TU (C:=C) hes hb hA1 hB1
  refine ⟨oh,hB0,fun g a w w0 p Q hp lM hQ S Qr hsh hS=>?_⟩
  have m1:=step g a w w0 p Q _ L hp (hall j (by simp)) S Qr hsh hS fun g' a' w' S' uK hsh' hS'=>k1 g' a' w' w0 p Q hp lM (fun x hx=>hQ x (List.mem_append_left _ hx)) S' uK hsh' hS'
  have m2:=k2 g a w w0 p Q hp lM (fun x hx=>hQ x (List.mem_append_right _ hx)) S Qr hsh hS
  have all:∀ i∈j :: k :: ks,wpOp P ops Q i (fun a' w'=>SL P ops (Sq p w0) (L.setIfInBounds i true) w'∧anyS P ops Q (SL P ops (Sq p w0)) t1.cnt (L.setIfInBounds i true) a' w') a w:=by
   intro i hi
   rcases List.mem_cons.1 hi with rfl | hi
   ·exact m1
   ·obtain ⟨m,hm,hw⟩:=m2 i hi
    have:m=t1.cnt:=by omega
    subst this
    exact hw
  cases r with
  | none =>
   simp only [rD] at kK
   refine ⟨fun h0=>(by rw [h0] at kK;cases kK),fun i hi=>?_⟩
   rw [kK] at hi
   exact all i hi
  | some l' =>
   simp only [rD] at kK
   subst kK
   intro i hi
   exact ⟨_,rfl,all i hi⟩
def WW:Option (List (E × E))→St
 | some [(e,_)]=>e.st
 | _=>default
def Dw:Option (List (E × E))→Option (List (List Prop × List Prop))
 | some l=>some (l.map YA)
 | none=>none
def yu:Option (List (E × E))→List St
 | some l=>l.map (·.1.st)
 | none=>[]
def WX:Option (List (Nat × X) × List Prop)→List (Nat × X)
 | some (q,_)=>q
 | none=>[]
def Cy:Option (List (Nat × X) × List Prop)→Option (List Prop)
 | some (_,os)=>some os
 | none=>none
def oO (P:Program) (N:Nat) (ops:Array Oper) (t:Tr) (st:St) (ks:List (Nat × Option V)) (hs hq:List V) (rw:List (Nat × Value)) (fx:List (Nat × V)):Option (List (E × E)) :=
 kz P N ops t none (Array.replicate ops.size false) ⟨hs,[],st,rw,fx⟩ ⟨hq,[],⟨WX (nT st ks),[]⟩,[],[]⟩
theorem Sz {Q:Exit→St→Prop} {st:St} {id N:Nat} {ops:Array Oper} {obs:List (List Prop × List Prop)} (hm:P.follows .mixedOrders=true) (hN:C.N=N) (t:Tr) (ks:List (Nat × Option V)) {os:List Prop} (hks:Cy (nT st ks)=some os) (hO:All os) (hs hq:List V) (hA:kJ obs) (rw:List (Nat × Value)) (fx:List (Nat × V))
 (hc:(Region.noSelect ops && Nat.beq t.cnt ops.size)=true) (h:Dw (oO P N ops t st ks hs hq rw fx)=some obs)
 (k:∀ x,x∈yu (oO P N ops t st ks hs hq rw fx)→∀ g a w,aI C g x a w→∃ g st,aI C g st a w∧Q .normal st):Good P C (.region id ops true) Q st:=by
 subst hN
 simp only [Bool.and_eq_true] at hc
 have hcnt:=Nat.eq_of_beq_eq_true hc.2
 intro g a w S
 have agl:nT st ks=some (WX (nT st ks),os):=by
  cases hq:nT st ks with
  | none=>rw [hq] at hks;cases hks
  | some x=>obtain ⟨q,os'⟩:=x;rw [hq] at hks;cases hks;rfl
 cases he:oO P C.N ops t st ks hs hq rw fx with
 | none=>rw [he] at h;cases h
 | some ls =>
  rw [he] at h k
  cases h
  obtain ⟨_,_,key⟩:=rq (C:=C) hc.1 he hA rfl (fun _ h=>by cases h)
  have S1:=S.calm (Calm.drew w)
  have Q7:∀ b,g.all b→b < w.drew.heap.size:=by
   rintro b (h | ⟨h,ho⟩)
   ·exact S1.dJ b h
   ·exact (S1.own b h ho).2.1
  have aee:Shut ops (Array.replicate ops.size false):=by
   intro j o _ hl
   rw [getD_replicate_false] at hl;cases hl
  have res:=key g a w.drew w.drew g.all (fun e a w=>e=.normal∧∃ g st,aI C g st a w∧Q .normal st) Q7 (fun c a w h=>by cases h.1) (fun x hx g a w S'=>⟨rfl,k x.1.st (List.mem_map.2 ⟨x,hx,rfl⟩) g a w S'⟩) S1 (jB.start S1 agl hO) aee
   (fun _=>⟨fun _ _=>rfl,Nat.le_refl _⟩)
  rw [hcnt] at res
  refine wp_mono (wp_region_any hm (anyS.any _ _ _ _ res)) fun e a w h=>?_
  obtain ⟨rfl,g,st,S',h⟩:=h
  exact ⟨g,st,S',h⟩
theorem Good.tZ {Q:Exit→St→Prop} {st:St} {id N:Nat} {ops:Array Oper} {obs AU:List Prop} (hm:P.follows .mixedOrders=true) (hN:C.N=N) (t:Tr) (ks:List (Nat × Option V)) {os:List Prop} (hks:Cy (nT st ks)=some os) (hO:All os) (hs hq:List V) (hA:All obs) (hB:All AU) (rw:List (Nat × Value)) (fx:List (Nat × V))
 (hc:(Region.noSelect ops && Nat.beq t.cnt ops.size)=true) (h:Dw (oO P N ops t st ks hs hq rw fx)=some [(obs,AU)]) (k:Q .normal (WW (oO P N ops t st ks hs hq rw fx))):Good P C (.region id ops true) Q st:=by
 refine Sz hm hN t ks hks hO hs hq (.cons hA hB .nil) rw fx hc h fun x hx g a w S=>?_
 cases he:oO P N ops t st ks hs hq rw fx with
 | none=>rw [he] at hx;simp [yu] at hx
 | some ls =>
  rw [he] at hx h k
  match ls,h with
  | [(e,q)],_ =>
   simp only [yu,List.map_cons,List.map_nil,List.mem_singleton] at hx
   subst hx
   exact ⟨g,_,S,k⟩
def Vi (kk:List (Nat × Nat)) (p:List Nat) (s:St):Option (List (Nat × X)) × List gM:=match p with
 | []=>(rC s.env kk,s.box)
 | _ :: _=>match jH p s.box.length with
  | true=>(rC (zz p s.env) kk,Dq p s.box)
  | false=>(none,[])
def VN (L:Nat) (p:List Nat):Bool:=match p with
 | []=>true
 | _ :: _=>(List.range L).all fun i=>match p[i]? with
  | some j=>Nat.beq i j
  | none=>false
theorem Good.qp {Q:Exit→St→Prop} {st:St} {id N n Ln:Nat} {ops:Array Oper} {obs:List (List Prop × List Prop)} (hm:P.follows .mixedOrders=true) (hN:C.N=N) (hL:C.L.length=Ln) (t:Tr) (ks:List (Nat × Option V)) {os:List Prop} (hks:Cy (nT st ks)=some os) (hO:All os) (hs hq:List V) (hA:kJ obs) (rw:List (Nat × Value)) (fx:List (Nat × V))
 (hc:(Region.noSelect ops && Nat.beq t.cnt ops.size)=true) (h:Dw (oO P N ops t st ks hs hq rw fx)=some obs) (ps:List (List Nat)) (kk:List (Nat × Nat)) (env:List (Nat × X)) (box:List gM) (hps:(ps.all (VN Ln) && Nat.beq (yu (oO P N ops t st ks hs hq rw fx)).length ps.length)=true)
 (hw:List.zipWith (Vi kk) ps (yu (oO P N ops t st ks hs hq rw fx))=List.replicate n (some env,box)) (k:Q .normal ⟨env,box⟩):Good P C (.region id ops true) Q st:=by
 rw [Bool.and_eq_true] at hps
 have hlen:=Nat.eq_of_beq_eq_true hps.2
 refine Sz hm hN t ks hks hO hs hq hA rw fx hc h fun x hx g a w S=>?_
 obtain ⟨i,hi⟩:=List.getElem?_of_mem hx
 have hil:=(List.getElem?_eq_some_iff.1 hi).1
 have hpi:ps[i]? = some ps[i]:=List.getElem?_eq_getElem (by omega)
 have hm:=congrArg (fun l=>l[i]?) hw
 simp only [List.getElem?_zipWith,hpi,hi] at hm
 have hin:i < n:=by
  have:=congrArg List.length hw
  simp only [List.length_zipWith,List.length_replicate] at this
  omega
 rw [List.getElem?_replicate,if_pos hin] at hm
 have hm:=Option.some.inj hm
 have hlow:=List.all_eq_true.1 hps.1 ps[i] (List.getElem_mem _)
 generalize ps[i]=p at hm hlow
 unfold Vi at hm
 split at hm
 ·simp only [Prod.mk.injEq] at hm
  obtain ⟨g',S'⟩:=Wk.of kk hm.1 hm.2 g a w S
  exact ⟨g',_,S',k⟩
 ·rename_i q qs
  split at hm
  ·rename_i hok
   simp only [Prod.mk.injEq] at hm
   have S1:=S.ren hok (.inr fun j hj=>by
    simp only [VN] at hlow
    have:=List.all_eq_true.1 hlow j (List.mem_range.2 (by omega))
    split at this
    ·rename_i j' hj'
     rw [hj',Nat.eq_of_beq_eq_true this]
    ·cases this)
   obtain ⟨g',S'⟩:=Wk.of kk hm.1 hm.2 _ a w S1
   exact ⟨g',_,S',k⟩
  ·simp only [Prod.mk.injEq,reduceCtorEq,false_and] at hm
end
end Go.Rf
end
section
namespace Go.Rf
open Go.RowKit
set_option linter.unusedVariables false
set_option linter.unusedSimpArgs false
variable [cO]
theorem abt {P:Program} {f:FuncId} {fn:Func} {c:Code} (hf:P.funcs[f]? = some fn) (hb:fn.body=some c) (hname:(fn.name == "runtime.NumGoroutine")=false) (vs:Array Value) (w:World):(callFunc f vs).run P w=.ok (.enter f vs) w:=by
 have h1:fn.name ≠ "runtime.NumGoroutine" := by simpa using hname
 simp [callFunc,hf,h1,hb]
theorem Y6 {w w':World} (h:Below w.heap.size w w'):Calm w w':=⟨h.os,h.tape,h.output,h.size,h.block⟩
theorem Y7 {w w':World} (h:Calm w w'):Below w.heap.size w w':=⟨h.os,h.tape,h.output,h.size,h.same⟩
theorem GZ {P:Program} {f:FuncId} {fn:Func} {c:Code} {us:List V} {xs:List Value} {v:Value} (hf:P.funcs[f]? = some fn) (hb:fn.body=some c) (hname:(fn.name == "runtime.NumGoroutine")=false) (hl:lits us=some xs)
 (h:∀ p w,cO.t p w→Calls P f xs.toArray w fun e w'=>e=.returned v∧Below w.heap.size w w'):aW P f us (.lit v):=by
 refine ⟨abt hf hb hname,fun p w vs hp ht hr=>?_⟩
 have hvs:=pE hl hr
 subst hvs
 refine (h p w ht).mono fun e w' ⟨he,hbel⟩=>?_
 exact ⟨v,[],fun _=>False,he,Y6 hbel,fun _ h=>h.elim,List.nodup_nil,fun _ h=>(by cases h),.lit v⟩
theorem aW.law {P:Program} {f:FuncId} {us:List V} (h:aW P f us (.lit (.bool true))) {w:World} {vs:List Value} (ht:cO.t (fun b=>b < w.heap.size) w) (hr:aN (fun b=>b < w.heap.size) w vs us []) :
 Calls P f vs.toArray w fun e w'=>e=.returned (.bool true)∧Below w.heap.size w w':=by
 refine (h.2 _ w vs (fun _ h=>h) ht hr).mono fun e w' ⟨v,T,q,he,hc,_,_,_,hv⟩=>?_
 rw [hv.lI] at he
 exact ⟨he,Y7 hc⟩
end Go.Rf
end
section
namespace Go.Rf
open Go.RowKit
set_option linter.unusedVariables false
set_option linter.unusedSimpArgs false
variable [cO]
section
variable {P:Program} {C:Ctx}
theorem SA {ops:Array Oper} (l2:List Nat):∀ {l:List Nat} {e e':E},jc P C.N ops l e=some e'→All e'.ob→All e.ob∧∀ g a w,aI C g e.st a w→∀ (Q:Exit→Act→World→Prop),(∀ g' a' w',aI C g' e'.st a' w'→wpOps P ops Q l2 a' w')→wpOps P ops Q (l++l2) a w
 | [],e,e',h,hA=>by
  cases h
  exact ⟨hA,fun g a w S Q hn=>hn g a w S⟩
 | i :: l,e,e',h,hA=>by
  simp only [jc] at h
  cases hoi:ops[i]? with
  | none=>rw [hoi] at h;cases h
  | some o =>
   rw [hoi] at h
   simp only at h
   cases h1:zt P C.N ops o e with
   | none=>rw [h1] at h;cases h
   | some e1 =>
    rw [h1] at h
    obtain ⟨hA1,k2⟩:=SA l2 (l:=l) h hA
    obtain ⟨hA2,k3⟩:=xP (P:=P) (C:=C) hA1
    obtain ⟨oh,k1⟩:=UH (C:=C) h1 hA2
    refine ⟨oh,fun g a w S Q hn=>?_⟩
    have:=k1 g a w S (wpOps P ops Q (l++l2)) Q (fun g' a' w' S' _=>k2 g' a' w' (k3 g' a' w' S') Q hn)
    rw [List.cons_append]
    simp only [wpOps,hoi]
    exact this
theorem aaJ {t el:TypeId} (hu:P.underlying t=some (.slice el)) (ao:Option Addr) (n c:Nat) (w:World):(Op.equal t (.slice ao n c) (.slice none 0 0)).run P w=.ok ao.isNone w:=by
 have hun:(underlying t).run P w=.ok (.slice el) w:=by simp [underlying,hu]
 show (Op.equalIn (9999+1) t (.slice ao n c) (.slice none 0 0)).run P w=_
 unfold Op.equalIn
 simp only [Sem.run_bind,hun,Result.andThen_ok]
 cases ao<;>rfl
def Vj (P:Program) (N:Nat) (ops:Array Oper) (n:Nat) (st:St):Option (Nat × Nat × List V):=match ops[n]? with
 | some o=>match o.op with
  | .binOp .eql t (.tmp s) (.const (.slice none 0 0)) _=>match o.guard,dN N o,P.underlying t with
   | none,some d,some (.slice _)=>match look st.env s with
    | some (.d (.v (.row none (sz+1) es)))=>match Nat.beq ops.size (n+1) with
     | true=>some (d,sz,es)
     | false=>none
    | _=>none
   | _,_,_=>none
  | _=>none
 | none=>none
theorem Good.adm {Q:Exit→St→Prop} {st:St} {id N:Nat} {ops:Array Oper} {obs:List Prop} (n d sz:Nat) (es:List V) (hN:C.N=N) (hs:List V) (hA:All obs) (h:uA (jc P N ops (List.range n) ⟨hs,[],st,[],[]⟩)=some obs)
 (hc:Vj P N ops n (qE (jc P N ops (List.range n) ⟨hs,[],st,[],[]⟩))=some (d,sz,es))
 (k1:es=[]→Q .normal ((qE (jc P N ops (List.range n) ⟨hs,[],st,[],[]⟩)).put d (.d (.v (.lit (.bool true))))))
 (k2:Q .normal ((qE (jc P N ops (List.range n) ⟨hs,[],st,[],[]⟩)).put d (.d (.v (.lit (.bool false)))))):Good P C (.region id ops false) Q st:=by
 subst hN
 intro g a w S
 cases he:jc P C.N ops (List.range n) ⟨hs,[],st,[],[]⟩ with
 | none=>rw [he] at h;cases h
 | some e' =>
  rw [he] at h hc k1 k2
  cases h
  unfold Vj at hc
  split at hc
  ·rename_i o ho
   split at hc
   ·rename_i t s ty hop
    split at hc
    ·rename_i d' el hg hd hu
     split at hc
     ·rename_i je es' hl
      split at hc
      ·rename_i hz
       cases hc
       have hz:=Nat.eq_of_beq_eq_true hz
       obtain ⟨_,key⟩:=SA (C:=C) [n] he hA
       refine wp_region ?_
       rw [hz,List.range_succ]
       refine key g a w S _ fun g' a' w' S'=>?_
       simp only [wpOps,ho]
       rw [if_pos (by simp [Region.wanted,hg])]
       obtain ⟨hdd,hdN⟩:=fK hd
       obtain ⟨_,h2,_⟩:=S'.env s _ hl
       obtain ⟨ao,cap,xs,⟨hx,_⟩,hc,hr,_,hcell⟩:=xw (aV.inv h2)
       have run:(execOp a'.eval o).run P w'=.ok (.value (.bool ao.isNone)) w':=by
        unfold execOp
        simp only [hop,Act.eval,hx,Sem.run_bind,eqGuard,binOp,aaJ hu,Result.andThen_ok,Sem.run_pure]
        rfl
       have hnil:ao.isNone=true→es=[]:=by
        intro hn
        cases es with
        | nil=>rfl
        | cons e es =>
         have hz1:e.cells.length=sz+1:=hc e (by simp)
         have hlen:=hr.length
         rw [List.flatMap_cons,List.length_append,hz1] at hlen
         have h0:0 < xs.length:=by omega
         obtain ⟨b,q,e1,_⟩:=hcell 0 _ (List.getElem?_eq_getElem h0)
         rw [e1] at hn
         cases hn
       refine .inl (fC run ?_)
       rw [hdd]
       refine ⟨_,_,S'.iL (Calm.refl w') hdN (.v (.lit _)),?_⟩
       cases hb:ao.isNone with
       | true=>exact k1 (hnil hb)
       | false=>exact k2
      ·cases hc
     ·cases hc
    ·cases hc
   ·cases hc
  ·cases hc
end
end Go.Rf
end
section
namespace Go.Rf
open Go.RowKit
set_option linter.unusedVariables false
set_option linter.unusedSimpArgs false
set_option linter.unusedSectionVars false
structure lv (p:Prop):Prop where
 mk :: (out:p)
theorem qW {w W:World} (h:Below w.heap.size w W) (o:Obj):Below w.heap.size w (W.alloc o):=Below.alloc h h.size o
theorem acr {a:Array Value} {n:Nat} (h:a.size=n):a=((List.range n).map fun i=>a.getD i undef).toArray:=by
 refine Array.ext (by simp [h]) fun i h1 h2=>?_
 simp [h1]
theorem aN.lits {α:Type} {p:bB} {w:World} {enc:α→Value}:∀ {l:List α} {xs:List Value} {T:List Nat},aN p w xs (l.map fun x=>V.lit (enc x)) T→xs=l.map enc
 | [],_,_,h=>by cases h;rfl
 | x :: l,_,_,h=>by
  cases h with
  | cons h1 h2 =>
   cases h1
   rw [h2.lits]
   rfl
theorem aaK {α:Type} (enc:α→Value) (l:List α):(l.map fun x=>V.lit (enc x)).flatMap V.cells=l.map fun x=>V.lit (enc x):=by
 induction l with
 | nil=>rfl
 | cons x l ih=>simp only [List.map_cons,List.flatMap_cons,ih,V.cells,List.singleton_append]
theorem aS.abu {α:Type} {p:bB} {w:World} {v:Value} {e:TypeId} {enc:α→Value} {l:List α} {T:List Nat} (h:aS p w v (.row (some e) 1 (l.map fun x=>V.lit (enc x))) T):w.ownsRow 0 e 1 v l.length (l.map enc):=by
 generalize he:(l.map fun x=>V.lit (enc x))=es at h
 cases h with
 | own h1 h2 h3 h4 =>
  subst he
  rw [aaK] at h2
  rw [h2.lits] at h4
  simpa using h4
variable [cO]
section
variable {P:Program} {C:Ctx} {Q:Exit→Act→World→Prop} {st:St} {fn:Func} {r:V}
def oP (P:Program) (C:Ctx) (c:Code) (Q:Exit→Act→World→Prop) (st:St):Prop:=∀ g a w,aI C g st a w→c.wp P Q a w
theorem oP.seq {x y:Code} (h:Good P C x (thenS (oP P C y Q) fun e st=>∀ g a w,aI C g st a w→Q e a w) st):oP P C (.seq x y) Q st:=fun g a w S =>
 wp_seq (wp_mono (h g a w S) fun e a w ⟨g',st',S',h'⟩=>by
  cases e with
  | normal=>exact h' g' a w S'
  | _=>exact h' g' a w S')
theorem oP.good {c:Code} (h:Good P C c (fun e st=>∀ g a w,aI C g st a w→Q e a w) st):oP P C c Q st:=fun g a w S =>
 wp_mono (h g a w S) fun e a w ⟨g',st',S',h'⟩=>h' g' a w S'
def Q8 (C:Ctx) (r:V) (e:Ending) (w':World):Prop:=∃ (v:Value) (T:List Nat) (q:bB),e=.returned v∧Calm C.W w'∧(∀ b,q b→C.W.heap.size≤b∧b < w'.heap.size)∧T.Nodup∧(∀ b∈T,C.W.heap.size≤b∧b < w'.heap.size∧¬ q b)∧aS (fun b=>C.p0 b∨q b) w' v r T
def WY (P:Program) (fn:Func) (C:Ctx) (r:V):Exit→Act→World→Prop:=bodyPostM Fence.wide 3 P fn (Q8 C r)
theorem oP.fin (hF:∀ b,¬ C.Fz b) (h:fin P fn r .ret st):∀ g a w,aI C g st a w→WY P fn C r .ret a w:=fun g a w S=>by
 obtain ⟨h1,v,h2,h3⟩:=GX S hF h
 show LeavesInM Fence.wide 3 P fn a.tmps (Q8 C r) a.defers .returning w
 rw [h1]
 exact ⟨v,h2,h3⟩
theorem aab {f:FuncId} {c:Code} {us:List V} (hf:P.funcs[f]? = some fn) (hb:fn.body=some c) (hname:(fn.name == "runtime.NumGoroutine")=false) (hN:Nat.ble us.length fn.ntmps=true)
 (h:∀ C:Ctx,C.N=fn.ntmps→C.L.length=0→(∀ b,¬ C.Fz b)→oP P C c (WY P fn C r) (enter us)):aW P f us r:=by
 refine ⟨fun vs w=>by
  have h1:fn.name ≠ "runtime.NumGoroutine" := by simpa using hname
  simp [callFunc,hf,h1,hb],fun p w vs hp htab hr=>?_⟩
 have hN:=Nat.le_of_ble_eq_true hN
 have S:=S9 fn.ntmps hN hp htab hr
 exact callsIn_wide.1 (callsIn_of_wp_marks (F:=Fence.wide) (n:=3) hf hb trivial (wpIn_wide.2 (h _ rfl rfl (fun _ h=>h) _ _ w S)) rfl)
end
end Go.Rf
end
section
namespace Go.Rf
open Go.RowKit
set_option linter.unusedVariables false
abbrev X.w (v:V):X:=.d (.v v)
theorem All.c {p:Prop} {l:List Prop} (h:p) (k:All l):All (p :: l):=.cons h k
theorem All.n:All []:=.nil
theorem kJ.c {a b:List Prop} {l:List (List Prop × List Prop)} (h:All a) (k:All b) (m:kJ l):kJ ((a,b) :: l):=.cons h k m
theorem kJ.n:kJ []:=.nil
def Tr.qs:Nat→Nat→Tr→Tr
 | 0,_,r=>r
 | n+1,a,r=>.q a [] (Tr.qs n (a+1) r)
def Tr.is:Nat→Nat→Tr→Tr
 | 0,_,r=>r
 | n+1,a,r=>.i a (Tr.is n (a+1) r)
theorem bq {α:Type} [BEq α] [LawfulBEq α] {a b:α} (h:a=b):(a == b)=true:=beq_iff_eq.2 h
theorem bn {α:Type} [BEq α] [LawfulBEq α] {a b:α} (h:a≠b):(a == b)=false:=beq_eq_false_iff_ne.2 h
theorem nq {α:Type} [BEq α] [LawfulBEq α] {a b:α} (h:a≠b):(a != b)=true:=bne_iff_ne.2 h
theorem dt {p:Prop} [Decidable p] (h:p):decide p=true:=decide_eq_true h
theorem df {p:Prop} [Decidable p] (h:¬ p):decide p=false:=decide_eq_false h
theorem bf {b:Bool} (h:b≠true):b=false:=Bool.eq_false_iff.2 h
section
variable [cO] {P:Program} {C:Ctx} {Q:Exit→St→Prop} {st:St}
theorem Sw {x y:Code} (h:Good P C x (thenS (Good P C y Q) Q) st):Good P C (.seq x y) Q st:=.seq h
theorem Bl {i:Nat} {x:Code} (h:Good P C x (Iz i Q) st):Good P C (.block i x) Q st:=.block h
theorem Sk (h:Q .normal st):Good P C .skip Q st:=.skip h
theorem Ex {i:Nat} (h:Q (.exit i) st):Good P C (.exit i) Q st:=.exit h
theorem Ct {c:Operand} {x y:Code} {b:Bool} (ht:b=true) (h:Good P C x Q st) (hb:qC st c=some b:=by kernel_rfl):Good P C (.cond c x y) Q st:=.kS ht hb h
theorem Cf {c:Operand} {x y:Code} {b:Bool} (ht:b=false) (h:Good P C y Q st) (hb:qC st c=some b:=by kernel_rfl):Good P C (.cond c x y) Q st:=.kU ht hb h
theorem Rg {id N:Nat} {ops:Array Oper} (hN:C.N=N) (k:Q .normal (qE (jc P N ops (List.range ops.size) ⟨[],[],st,[],[]⟩))) (h:uA (jc P N ops (List.range ops.size) ⟨[],[],st,[],[]⟩)=some []:=by kernel_rfl):Good P C (.region id ops false) Q st:=.reg hN [] .nil [] h k
theorem Rh {id N:Nat} {ops:Array Oper} {obs:List Prop} (hN:C.N=N) (hs:List V) (hA:All obs) (k:Q .normal (qE (jc P N ops (List.range ops.size) ⟨hs,[],st,[],[]⟩))) (h:uA (jc P N ops (List.range ops.size) ⟨hs,[],st,[],[]⟩)=some obs:=by kernel_rfl):Good P C (.region id ops false) Q st:=.reg hN hs hA [] h k
theorem Ri {id N:Nat} {ops:Array Oper} {obs:List Prop} (hN:C.N=N) (hs:List V) (hA:All obs) (rw:List (Nat × Value)) (k:Q .normal (qE (jc P N ops (List.range ops.size) ⟨hs,[],st,rw,[]⟩))) (h:uA (jc P N ops (List.range ops.size) ⟨hs,[],st,rw,[]⟩)=some obs:=by kernel_rfl):Good P C (.region id ops false) Q st:=.reg hN hs hA rw h k
theorem Rj {id N:Nat} {ops:Array Oper} {obs:List Prop} (hN:C.N=N) (hs:List V) (hA:All obs) (rw:List (Nat × Value)) (fx:List (Nat × V)) (k:Q .normal (qE (jc P N ops (List.range ops.size) ⟨hs,[],st,rw,fx⟩))) (h:uA (jc P N ops (List.range ops.size) ⟨hs,[],st,rw,fx⟩)=some obs:=by kernel_rfl):Good P C (.region id ops false) Q st:=.WS hN hs hA rw fx h k
theorem Rd {id N:Nat} {ops:Array Oper} {obs AU:List Prop} (hm:P.follows .mixedOrders=true) (hN:C.N=N) (t:Tr) (ks:List (Nat × Option V)) {os:List Prop} (hO:All os) (hs hq:List V) (hA:All obs) (hB:All AU) (rw:List (Nat × Value)) (fx:List (Nat × V)) (k:Q .normal (WW (oO P N ops t st ks hs hq rw fx)))
 (hks:Cy (nT st ks)=some os:=by kernel_rfl) (hc:(Region.noSelect ops && Nat.beq t.cnt ops.size)=true:=by kernel_rfl) (h:Dw (oO P N ops t st ks hs hq rw fx)=some [(obs,AU)]:=by kernel_rfl):Good P C (.region id ops true) Q st:=.tZ hm hN t ks hks hO hs hq hA hB rw fx hc h k
theorem Rt (h:Q .ret st):Good P C .ret Q st:=.ret h
theorem dR {fn:Func} {r:V} (h:vX P fn st=some r:=by kernel_rfl):fin P fn r .ret st:=fin.pO h
theorem Wo {C:Ctx} (ks:List (Nat × Nat)) {st:St} {env:List (Nat × X)} {box:List gM} (h:rC st.env ks=some env:=by kernel_rfl) (hb:st.box=box:=by kernel_rfl):Wk C st ⟨env,box⟩:=Wk.of ks h hb
end
section
variable [cO]
theorem Cg {P:Program} {f:FuncId} {fn:Func} {c:Code} {us:List V} {r:V} (hf:P.funcs[f]? = some fn) (hb:fn.body=some c) (h:∀ C:Ctx,C.N=fn.ntmps→C.L.length=0→Good P C c (fin P fn r) (enter us)) (hname:(fn.name == "runtime.NumGoroutine")=false:=by kernel_rfl) (hN:Nat.ble us.length fn.ntmps=true:=by kernel_rfl):aW P f us r:=FI hf hb hname hN h
end
end Go.Rf
end
section
namespace Go.Rf
open Go.RowKit Go.ChangeShapes Go.WideShapes
set_option linter.unusedVariables false
set_option linter.unusedSimpArgs false
def iX {α:Type} (P:Program) (t:TypeId) (sz:Nat) (f:α→List V) (G:α→Prop):Prop :=
 ∀ (H:Type) (enc:TypeId × Value→H) (w:World) (base:Nat) (spare:Nat→Bool) (held:Bool) (fuel:Nat) (cs:List Value) (x:DataW H × List MemPlace),
  DataW.trod enc P w base spare held fuel t cs=some x→∃ a,cs.length=sz∧aN (fun b=>b < w.heap.size) w cs (f a) []∧(∀ u∈cs,u.oneCell'=true)∧G a
theorem iX.int {P:Program} {t:TypeId} {k:IntKind} (ht:P.underlying t=some (.int k)):iX P t 1 (fun n:Int=>[.lit (.int k n)]) (fun n=>(Lit.int k n).wf=true):=by
 intro H enc w base spare held fuel cs x hx
 obtain ⟨n,rfl,_,hw⟩:=DataW.trod_int ht hx
 exact ⟨n,rfl,.cons (A:=[]) (.lit _) .nil,by simp [Value.oneCell'],hw⟩
theorem iX.bool {P:Program} {t:TypeId} (ht:P.underlying t=some .bool):iX P t 1 (fun b:Bool=>[.lit (.bool b)]) (fun _=>True):=by
 intro H enc w base spare held fuel cs x hx
 obtain ⟨n,rfl,_⟩:=DataW.trod_bool ht hx
 exact ⟨n,rfl,.cons (A:=[]) (.lit _) .nil,by simp [Value.oneCell'],trivial⟩
theorem iX.string {P:Program} {t:TypeId} (ht:P.underlying t=some .string):iX P t 1 (fun s:ByteArray=>[.lit (.string s)]) (fun s=>s.size≤maxLen):=by
 intro H enc w base spare held fuel cs x hx
 obtain ⟨s,rfl,_,hw⟩:=DataW.trod_string ht hx
 exact ⟨s,rfl,.cons (A:=[]) (.lit _) .nil,by simp [Value.oneCell'],hw⟩
theorem Vk (w:World) (a:Addr):∀ (l:List Nat) (cs:List Value),l.mapM (fun i=>w.cell? (a.add i))=some cs→cs.length=l.length∧∀ (i j:Nat) u,l[i]? = some j→cs[i]? = some u→w.cell? (a.add j)=some u
 | [],cs,h=>by
  simp at h
  subst h
  exact ⟨rfl,fun i j u h=>by simp at h⟩
 | p :: l,cs,h=>by
  rw [List.mapM_cons] at h
  cases hc:w.cell? (a.add p) with
  | none=>simp [hc] at h
  | some v =>
   cases hr:l.mapM (fun i=>w.cell? (a.add i)) with
   | none=>simp [hc,hr] at h
   | some cs' =>
    simp [hc,hr] at h
    subst h
    obtain ⟨hl,hf⟩:=Vk w a l cs' hr
    refine ⟨by simp [hl],fun i j u hi hu=>?_⟩
    cases i with
    | zero =>
     simp at hi hu
     subst hi
     subst hu
     exact hc
    | succ i=>exact hf i j u (by simpa using hi) (by simpa using hu)
theorem acs {w:World} {base:Nat} {a:Addr} {n:Nat} {cs:List Value} (h:w.cells? base a n=some cs):cs.length=n∧∀ (i:Nat) u,cs[i]? = some u→w.cell? (a.add i)=some u:=by
 unfold World.cells? at h
 split at h
 ·obtain ⟨hl,hf⟩:=Vk w a _ cs h
  rw [List.length_range] at hl
  refine ⟨hl,fun i u hu=>hf i i u ?_ hu⟩
  have:i < n:=by rw [← hl];exact (List.getElem?_eq_some_iff.1 hu).1
  rw [List.getElem?_range this]
 ·cases h
theorem aef (a:Addr) (m i:Nat):(a.add m).add i=a.add (m+i):=by
 unfold Addr.add
 by_cases h1:m=0
 ·subst h1;simp
 ·by_cases h2:i=0
  ·subst h2;simp [h1]
  ·simp [h1,h2,Nat.add_assoc]
theorem abv {w:World} {b o:Nat} {s:Option Nat} {u:Value} (h:w.cell? ⟨b,o,s⟩=some u):s=none∧b < w.heap.size:=by
 unfold World.cell? at h
 cases hh:w.heap[b]? with
 | none=>simp [hh] at h
 | some x =>
  refine ⟨?_,(Array.getElem?_eq_some_iff.1 hh).1⟩
  simp only [hh] at h
  cases s with
  | none=>rfl
  | some n =>
   cases x<;>simp at h
theorem TV {p:bB} {w:World}:∀ {vs:List Value} {cs:List V} {A:List Nat},aN p w vs cs A→vs.length=cs.length
 | _,_,_,.nil=>rfl
 | _,_,_,.cons _ h=>by rw [List.length_cons,List.length_cons,TV h]
theorem adn {α:Type} {w:World} {sz:Nat} {f:α→List V} {G:α→Prop} (a:Addr) (len:Nat) (each:∀ i,i < len→∃ b c,c.length=sz∧aN (fun b=>b < w.heap.size) w c (f b) []∧(∀ u∈c,u.oneCell'=true)∧(∀ (j:Nat) u,c[j]? = some u→w.cell? (a.add (i*sz+j))=some u)∧G b) :
 ∃ (l:List α) (xs:List Value),l.length=len∧xs.length=len*sz∧aN (fun b=>b < w.heap.size) w xs (l.flatMap f) []∧(∀ u∈xs,u.oneCell'=true)∧(∀ (j:Nat) u,xs[j]? = some u→w.cell? (a.add j)=some u)∧∀ b∈l,G b∧(f b).length=sz:=by
 induction len with
 | zero=>exact ⟨[],[],rfl,by simp,.nil,by simp,by simp,by simp⟩
 | succ len ih =>
  obtain ⟨l,xs,h1,h2,h3,h4,h5,h6⟩:=ih (fun i hi=>each i (by omega))
  obtain ⟨b,c,c1,c2,c3,c4,c5⟩:=each len (by omega)
  refine ⟨l++[b],xs++c,by simp [h1],by rw [List.length_append,h2,c1,Nat.succ_mul],?_,?_,?_,?_⟩
  ·rw [List.flatMap_append,List.flatMap_singleton]
   exact h3.app c2
  ·intro u hu
   rcases List.mem_append.1 hu with hu | hu
   ·exact h4 u hu
   ·exact c3 u hu
  ·intro j u hj
   by_cases g:j < xs.length
   ·rw [List.getElem?_append_left g] at hj
    exact h5 j u hj
   ·rw [List.getElem?_append_right (by omega)] at hj
    have:=c4 _ u hj
    rwa [show len*sz+(j - xs.length)=j by omega] at this
  ·intro x hx
   rcases List.mem_append.1 hx with hx | hx
   ·exact h6 x hx
   ·rw [List.mem_singleton] at hx
    subst hx
    exact ⟨c5,by rw [← TV c2,c1]⟩
theorem iX.slice {α:Type} {P:Program} {t e:TypeId} {sz:Nat} {f:α→List V} {G:α→Prop} (ht:P.underlying t=some (.slice e)) (hc:P.cellsOf e=sz) (h:iX P e sz f G) (hv:α→V) (YB:∀ a,(hv a).cells=f a) :
 iX P t 1 (fun l:List α=>[.row none sz (l.map hv)]) (fun l=>l.length≤maxLen∧∀ a∈l,G a):=by
 intro H enc w base spare held fuel cs x hx
 rcases DataW.trod_slice ht hx with ⟨rfl,_⟩ | ⟨a,len,cap,elems,rest,n,rfl,rfl,_,_,hl,hm,hlen,hel,_⟩
 ·exact ⟨[],rfl,.cons (A:=[]) (.shared (es:=[]) (xs:=[]) (Nat.zero_le _) (by simp) .nil (by simp) (by simp)) .nil,by simp [Value.oneCell'],by simp,fun a ha=>by cases ha⟩
 ·have each:∀ i,i < len→∃ b c,c.length=sz∧aN (fun b=>b < w.heap.size) w c (f b) []∧(∀ u∈c,u.oneCell'=true)∧(∀ (j:Nat) u,c[j]? = some u→w.cell? (a.add (i*sz+j))=some u)∧G b:=by
   intro i hi
   have h1:=hel i hi
   rw [List.getElem?_eq_getElem (by omega:i < elems.length),Option.bind_eq_some_iff,hc] at h1
   obtain ⟨c,hcs,hy⟩:=h1
   obtain ⟨b,hb,hr,ho,hg⟩:=h H enc w base spare held n c _ hy
   obtain ⟨hcl,hcc⟩:=acs hcs
   exact ⟨b,c,hb,hr,ho,fun j u hu=>by rw [← aef];exact hcc j u hu,hg⟩
  obtain ⟨l,xs,h1,h2,h3,h4,h5,h6⟩:=adn a len each
  refine ⟨l,rfl,.cons (A:=[]) ?_ .nil,by simp [Value.oneCell'],by omega,fun b hb=>(h6 b hb).1⟩
  obtain rfl:len=(l.map hv).length:=by rw [List.length_map,h1]
  obtain ⟨b,o,s⟩:=a
  refine .shared hl (fun e he=>?_) (xs:=xs) ?_ h4 (fun j u hj=>?_)
  ·obtain ⟨y,hy,rfl⟩:=List.mem_map.1 he
   rw [YB]
   exact (h6 y hy).2
  ·rw [List.flatMap_map]
   simp only [YB]
   exact h3
  ·have hj':j < xs.length:=(List.getElem?_eq_some_iff.1 hj).1
   have h0:=h5 0 _ (List.getElem?_eq_getElem (by omega:0 < xs.length))
   obtain ⟨rfl,hb⟩:=abv (show w.cell? ⟨b,o,s⟩=some _ from h0)
   refine ⟨b,o,rfl,hb,?_⟩
   have:=h5 j u hj
   by_cases g:j=0
   ·subst g;exact this
   ·unfold Addr.add at this
    rw [if_neg g] at this
    exact this
def p9 {α:Type} (P:Program) (fs:List Field) (off sz:Nat) (f:α→List V) (G:α→Prop):Prop :=
 ∀ (H:Type) (enc:TypeId × Value→H) (w:World) (base:Nat) (spare:Nat→Bool) (held:Bool) (n:Nat) (cs:List Value),
  off+sz≤cs.length→(∀ f∈fs,∃ y,DataW.trod enc P w base spare held n f.type ((cs.drop f.offset).take (P.cellsOf f.type))=some y) →
   ∃ a,aN (fun b=>b < w.heap.size) w ((cs.drop off).take sz) (f a) []∧(∀ u∈(cs.drop off).take sz,u.oneCell'=true)∧G a
theorem p9.last {α:Type} {P:Program} {g:Field} {off sz:Nat} {f:α→List V} {G:α→Prop} (ho:g.offset=off) (hc:P.cellsOf g.type=sz) (h:iX P g.type sz f G):p9 P [g] off sz f G:=by
 intro H enc w base spare held n cs hl hf
 obtain ⟨y,hy⟩:=hf g (by simp)
 rw [ho,hc] at hy
 obtain ⟨a,_,h1,h2,h3⟩:=h H enc w base spare held n _ y hy
 exact ⟨a,h1,h2,h3⟩
theorem p9.cons {α β:Type} {P:Program} {g:Field} {fs:List Field} {off s1 s2:Nat} {f:α→List V} {f2:β→List V} {G:α→Prop} {G':β→Prop} (ho:g.offset=off) (hc:P.cellsOf g.type=s1) (h:iX P g.type s1 f G) (hr:p9 P fs (off+s1) s2 f2 G') :
 p9 P (g :: fs) off (s1+s2) (fun p:α × β=>f p.1++f2 p.2) (fun p=>G p.1∧G' p.2):=by
 intro H enc w base spare held n cs hl hf
 obtain ⟨y,hy⟩:=hf g (by simp)
 rw [ho,hc] at hy
 obtain ⟨a,_,h1,h2,h3⟩:=h H enc w base spare held n _ y hy
 obtain ⟨b,k1,k2,k3⟩:=hr H enc w base spare held n cs (by omega) (fun g hg=>hf g (by simp [hg]))
 have e:(cs.drop off).take (s1+s2)=(cs.drop off).take s1++(cs.drop (off+s1)).take s2:=by rw [List.take_add,List.drop_drop]
 refine ⟨(a,b),?_,?_,h3,k3⟩
 ·rw [e];exact h1.app k1
 ·rw [e];intro u hu
  rcases List.mem_append.1 hu with hu | hu
  ·exact h2 u hu
  ·exact k2 u hu
theorem iX.struct {α β:Type} {P:Program} {t:TypeId} {fs:Array Field} {sz:Nat} {f:α→List V} {G:α→Prop} (ht:P.underlying t=some (.struct fs)) (hc:P.cellsOf t=sz) (h:p9 P fs.toList 0 sz f G) (g:α→β) (f':β→List V) (G':β→Prop) (hf':∀ a,f' (g a)=f a) (hG:∀ a,G a→G' (g a)) :
 iX P t sz f' G':=by
 intro H enc w base spare held fuel cs x hx
 obtain ⟨xs,n,_,_,hl,hlen,hf⟩:=DataW.trod_struct ht hx
 obtain ⟨a,h1,h2,h3⟩:=h H enc w base spare held n cs (by omega) (fun q hq=>by
  obtain ⟨i,hi⟩:=List.getElem?_of_mem hq
  have hi':fs[i]? = some q:=by simpa using hi
  have hlt:i < xs.length:=by
   have:=(List.getElem?_eq_some_iff.1 hi).1
   simp at this
   omega
  exact ⟨xs[i],by rw [hf i q hi',List.getElem?_eq_getElem hlt]⟩)
 rw [List.drop_zero,List.take_of_length_le (by omega)] at h1 h2
 exact ⟨g a,by omega,by rw [hf'];exact h1,h2,hG a h3⟩
theorem iX.get {α:Type} {P:Program} {t:TypeId} {sz:Nat} {f:α→List V} {G:α→Prop} (h:iX P t sz f G) {H:Type} {enc:TypeId × Value→H} {w:World} {base:Nat} {spare:Nat→Bool} {held:Bool} {v:Value} {x:DataW H} {ps:List MemPlace}
 (hx:DataW.Trod enc P w base spare held t v x ps):∃ a,aN (fun b=>b < w.heap.size) w v.cells.toList (f a) []∧G a:=by
 obtain ⟨fuel,hf⟩:=hx
 obtain ⟨a,_,h1,_,h2⟩:=h H enc w base spare held fuel _ _ hf
 exact ⟨a,h1,h2⟩
theorem aS.acu {p:bB} {w:World} {cs:Array Value} {l:List V} (h:aN p w cs.toList l []):aS p w (.agg cs) (.agg l) []:=by
 have:=aS.agg h
 rwa [Array.toArray_toList] at this
end Go.Rf
end
section
namespace Go.Rf
open Go.RowKit
set_option linter.unusedVariables false
set_option linter.unusedSimpArgs false
def Ev {α:Type} (g:Nat→Option α) (r:α):Prop:=∃ K,∀ k,K≤k→g k=some r
namespace Ev
variable {α β:Type}
theorem now (r:α):Ev (fun _=>some r) r:=⟨0,fun _ _=>rfl⟩
theorem rounds {g:Nat→Option α} {r:α}:Ev g r→∃ k,g k=some r:=fun ⟨K,h⟩=>⟨K,h K (Nat.le_refl K)⟩
theorem step {g f:Nat→Option α} {r:α} (h:∀ k,g (k+1)=f k):Ev f r→Ev g r:=fun ⟨K,e⟩=>⟨K+1,fun k hk=>by
 match k,hk with
 | k+1,hk=>rw [h k];exact e k (Nat.le_of_succ_le_succ hk)⟩
theorem congr {g f:Nat→Option α} {r:α} (h:∀ k,g k=f k):Ev f r→Ev g r:=fun ⟨K,e⟩=>⟨K,fun k hk=>(h k).trans (e k hk)⟩
theorem bind {g:Nat→Option α} {f:Nat→α→Option β} {a:α} {r:β}:Ev g a→Ev (fun n=>f n a) r→Ev (fun n=>(g n).bind (f n)) r:=fun ⟨K,e⟩ ⟨L,d⟩=>⟨max K L,fun k hk=>by
 show (g k).bind (f k)=some r
 rw [e k (by omega)]
 exact d k (by omega)⟩
theorem eB {g:Option α} {f:Nat→α→Option β} {a:α} {r:β} (h:g=some a) (k:Ev (fun n=>f n a) r):Ev (fun n=>g.bind (f n)) r:=by subst h;exact k
theorem ae {c:Prop} [Decidable c] {f g:Nat→Option α} {r:α} (h:c) (k:Ev f r):Ev (fun n=>if c then f n else g n) r:=by simp only [if_pos h];exact k
theorem ai {c:Prop} [Decidable c] {f g:Nat→Option α} {r:α} (h:¬ c) (k:Ev g r):Ev (fun n=>if c then f n else g n) r:=by simp only [if_neg h];exact k
theorem ite {c:Prop} [Decidable c] {f g:Nat→Option α} {r s:α} (k:c→Ev f r) (k':¬ c→Ev g s):Ev (fun n=>if c then f n else g n) (if c then r else s):=by
 by_cases h:c
 ·simp only [if_pos h];exact k h
 ·simp only [if_neg h];exact k' h
theorem eq {g:Nat→Option α} {r s:α} (h:Ev g r) (e:r=s):Ev g s:=e ▸ h
theorem const {g:Option α} {r:α} (h:g=some r):Ev (fun _=>g) r:=⟨0,fun _ _=>h⟩
theorem from_ {g:Nat→Option α} {r:α} (n:Nat) (h:∀ k,g (k+n)=some r):Ev g r:=⟨n,fun k hk=>by
 have:=h (k - n)
 rwa [Nat.sub_add_cancel hk] at this⟩
theorem all {g:Nat→Nat→Option α} {r:Nat→α}:∀ n:Nat,(∀ i,i < n→Ev (g i) (r i))→∃ K,∀ k,K≤k→∀ i,i < n→g i k=some (r i)
 | 0,_=>⟨0,fun _ _ i hi=>by omega⟩
 | n+1,h=>by
  obtain ⟨K,hK⟩:=all n fun i hi=>h i (by omega)
  obtain ⟨L,hL⟩:=h n (by omega)
  refine ⟨max K L,fun k hk i hi=>?_⟩
  by_cases e:i=n
  ·subst e;exact hL k (by omega)
  ·exact hK k (by omega) i (by omega)
theorem jP {g:Nat→Option α} {r s:α}:Ev g r→Ev g s→r=s:=fun ⟨K,h⟩ ⟨L,k⟩=>Option.some.inj ((h (max K L) (by omega)).symm.trans (k (max K L) (by omega)))
end Ev
theorem Sa (s:ByteArray):s.data.toList.length=s.size:=Array.length_toList
theorem aac (s:ByteArray) (i:Int):rd (bytesOf s) i=bt s i:=by
 have e:(bytesOf s)[i.toNat]? = (s.data.toList[i.toNat]?).map fun b=>(b.toNat:Int):=List.getElem?_map ..
 rw [rd,List.getD_eq_getElem?_getD,e]
 by_cases h:i.toNat < s.size
 ·rw [List.getElem?_eq_getElem (by rw [Sa];exact h),bt,dif_pos h]
  rfl
 ·rw [List.getElem?_eq_none (by rw [Sa];omega),bt,dif_neg h]
  rfl
def aH (l:List Int):Prop:=∀ x∈l,0≤x∧x < 256
theorem aH.nil:aH []:=by intro x hx;cases hx
theorem aH.cons {x:Int} {l:List Int} (h0:0≤x) (h1:x < 256) (h:aH l):aH (x :: l):=by
 intro y hy
 rcases List.mem_cons.1 hy with rfl | hy
 ·exact ⟨h0,h1⟩
 ·exact h y hy
theorem aH.head {x:Int} {l:List Int} (h:aH (x :: l)):0≤x∧x < 256:=h x (List.mem_cons_self ..)
theorem aH.tail {x:Int} {l:List Int} (h:aH (x :: l)):aH l:=fun y hy=>h y (List.mem_cons_of_mem _ hy)
theorem aH.append {l m:List Int} (h:aH l) (k:aH m):aH (l++m):=by
 intro y hy
 rcases List.mem_append.1 hy with hy | hy
 ·exact h y hy
 ·exact k y hy
theorem aH.take {l:List Int} (h:aH l) (n:Nat):aH (l.take n):=fun y hy=>h y (List.mem_of_mem_take hy)
theorem aH.drop {l:List Int} (h:aH l) (n:Nat):aH (l.drop n):=fun y hy=>h y (List.mem_of_mem_drop hy)
theorem aH.get {l:List Int} (h:aH l) (i:Nat) (hi:i < l.length):0≤l[i]∧l[i] < 256:=h _ (List.getElem_mem hi)
theorem aH.replicate (n:Nat):aH (List.replicate n 0):=by
 intro y hy
 obtain rfl:=(List.mem_replicate.1 hy).2
 omega
theorem aH.set {l:List Int} (h:aH l) (i:Nat) {x:Int} (h0:0≤x) (h1:x < 256):aH (l.set i x):=by
 intro y hy
 rcases List.mem_or_eq_of_mem_set hy with hy | rfl
 ·exact h y hy
 ·exact ⟨h0,h1⟩
theorem aH.reverse {l:List Int} (h:aH l):aH l.reverse:=fun y hy=>h y (List.mem_reverse.1 hy)
theorem aH.one {x:Int} (h0:0≤x) (h1:x < 256):aH [x]:=aH.cons h0 h1 aH.nil
theorem ZJ (s:ByteArray) (n:Nat):∀ (i:Nat) (r:List UInt8),s.size - i=n→ByteArray.toList.loop s i r=r.reverse++s.data.toList.drop i:=by
 induction n with
 | zero =>
  intro i r h
  rw [ByteArray.toList.loop,if_neg (by omega)]
  rw [List.drop_eq_nil_of_le (by rw [Array.length_toList];show s.size≤i;omega)];simp
 | succ n ih =>
  intro i r h
  have hlt:i < s.size:=by omega
  have hlt':i < s.data.toList.length:=by rw [Array.length_toList];exact hlt
  rw [ByteArray.toList.loop,if_pos hlt,ih (i+1) _ (by omega),List.reverse_cons,List.append_assoc,List.drop_eq_getElem_cons hlt']
  have hg:s.get! i=s.data.toList[i]:=by
   have hd:i < s.data.size:=hlt
   cases s with
   | mk d=>simp only [ByteArray.get!];rw [getElem!_pos d i hd];simp
  rw [hg]
  rfl
theorem toList_data (s:ByteArray):s.toList=s.data.toList:=by
 unfold ByteArray.toList
 rw [ZJ s _ 0 [] rfl]
 simp
theorem SB (s:ByteArray):aH (bytesOf s):=by
 intro x hx
 simp only [bytesOf,List.mem_map] at hx
 obtain ⟨b,_,rfl⟩:=hx
 have:=b.toNat_lt
 omega
theorem pg (s:ByteArray):strOfNums (bytesOf s)=s:=by
 cases s with
 | mk d =>
  simp only [strOfNums,bytesOf,List.map_map]
  have:((fun n:Int=>UInt8.ofNat n.toNat) ∘ fun b:UInt8=>(b.toNat:Int))=id:=by
   funext b
   simp
  rw [this]
  simp
theorem Bw (s:ByteArray):∃ l,aH l∧s=strOfNums l:=⟨bytesOf s,SB s,(pg s).symm⟩
theorem qR {l:List Int} (h:aH l):bytesOf (strOfNums l)=l:=by
 simp only [strOfNums,bytesOf,List.map_map]
 induction l with
 | nil=>rfl
 | cons x l ih =>
  have h1:=h.head
  have:=ih h.tail
  simp only [List.map_cons,Function.comp] at this ⊢
  rw [this]
  congr 1
  rw [UInt8.toNat_ofNat']
  omega
theorem dW (l:List Int):(strOfNums l).size=l.length:=strOfNums_size l
theorem dA (l:List Int):((strOfNums l).size:Int)=(l.length:Int):=by rw [strOfNums_size]
theorem xK {l m:List Int} (hl:aH l) (hm:aH m):strOfNums l=strOfNums m↔l=m:=by
 constructor
 ·intro h
  have:=congrArg bytesOf h
  rwa [qR hl,qR hm] at this
 ·rintro rfl
  rfl
theorem Bf {l m:List Int} (hl:aH l) (hm:aH m):(strOfNums l).toList=(strOfNums m).toList↔l=m:=by
 rw [toList_data,toList_data,← xK hl hm]
 constructor
 ·intro h
  have h2:(strOfNums l).data=(strOfNums m).data:=by rw [← Array.toList_inj];exact h
  cases hx:strOfNums l
  cases hy:strOfNums m
  rw [hx,hy] at h2
  simp only at h2
  rw [h2]
 ·intro h
  rw [h]
theorem iP (l:List Int):(strOfNums l).toList=[]↔l=[]:=by
 rw [toList_data,strOfNums_data]
 simp
theorem YT (a b:ByteArray):(a++b).data.toList=a.data.toList++b.data.toList:=by
 rw [ByteArray.data_append]
 simp
theorem lZ (l m:List Int):strOfNums l++strOfNums m=strOfNums (l++m):=by
 have h:(strOfNums l++strOfNums m).data.toList=(strOfNums (l++m)).data.toList:=by
  rw [YT,strOfNums_data,strOfNums_data,strOfNums_data,List.map_append]
 cases hx:(strOfNums l++strOfNums m)
 cases hy:strOfNums (l++m)
 rw [hx,hy] at h
 simp only at h
 rw [Array.toList_inj] at h
 rw [h]
theorem mW (l:List Int) (a b:Nat):(strOfNums l).extract a b=strOfNums ((l.drop a).take (b - a)):=by
 have h:((strOfNums l).extract a b).data.toList=(strOfNums ((l.drop a).take (b - a))).data.toList:=by
  rw [Lib.extract_data,strOfNums_data,strOfNums_data,List.map_take,List.map_drop]
 cases hx:((strOfNums l).extract a b)
 cases hy:strOfNums ((l.drop a).take (b - a))
 rw [hx,hy] at h
 simp only at h
 rw [Array.toList_inj] at h
 rw [h]
theorem abw:(⟨#[]⟩:ByteArray)=strOfNums []:=rfl
theorem jG {l:List Int} (hl:aH l) (i:Nat) (h:i < l.length):bt (strOfNums l) (i:Int)=l[i]:=by
 rw [← aac,qR hl]
 simp [rd,List.getD_eq_getElem?_getD,h]
theorem jZ {l:List Int} (i:Nat) (h:i < l.length):rd l (i:Int)=l[i]:=by
 simp [rd,List.getD_eq_getElem?_getD,h]
theorem Bz {α:Type} (d:α) {l:List α} (i:Nat) (h:i < l.length):gI d l (i:Int)=l[i]:=by
 simp [gI,List.getD_eq_getElem?_getD,h]
theorem aO {x:Int} (h0 : -9223372036854775808≤x) (h1:x≤9223372036854775807):wrap64 x=x:=by unfold wrap64;omega
theorem wu64 {x:Int} (h0:0≤x) (h1:x < 18446744073709551616):IntKind.u64.wrap x=x:=by
 simp only [IntKind.wrap,IntKind.bits,IntKind.signed];simp;omega
theorem abx (x:Int):IntKind.u64.wrap x=x % 18446744073709551616:=by
 simp only [IntKind.wrap,IntKind.bits,IntKind.signed];simp
end Go.Rf
end
