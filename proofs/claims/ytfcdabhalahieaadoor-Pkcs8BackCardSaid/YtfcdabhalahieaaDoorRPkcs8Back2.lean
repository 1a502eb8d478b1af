import Derived.Test.YtfcdabhalahieaaDoorRPkcs8Back1
set_option linter.unusedSectionVars false
set_option linter.unusedSimpArgs false
set_option linter.unusedVariables false
section
namespace Go.Rf
open Go.RowKit
set_option linter.unusedVariables false
set_option linter.unusedSimpArgs false
variable [Tabs]
def litF (P:Program) (o:Oper):Option (List Operand × (List Value→Option (Value × List Prop))):=match o.op with
 | .binOp op t x y _=>match P.underlying t with
  | some (.struct _)=>none
  | _=>some ([x,y],binR P op t x y)
 | .unOp op _ x=>some ([x],unR P op)
 | .convert s t x=>match P.underlying s,P.underlying t with
  | some (.slice _),some .string=>none
  | some .string,some (.slice _)=>none
  | _,_=>some ([x],convR P s t)
 | .index t x i=>some ([x,i],ixR P t)
 | .slice t x lo hi none=>match P.underlying t with
  | some .string=>some (x :: (lo.toList++hi.toList),slR P t lo.isSome hi.isSome)
  | _=>none
 | .call c=>match c.callee with
  | .builtin .append | .builtin .copy=>none
  | .builtin .len=>match (c.argTypes[0]?).bind P.underlying with
   | some .string=>some (c.args.toList,bltR P .len c.argTypes o.type)
   | _=>none
  | .builtin b=>some (c.args.toList,bltR P b c.argTypes o.type)
  | _=>none
 | _=>none
section
variable {P:Program}
theorem litF_ok {o:Oper} {xs:List Operand} {f:List Value→Option (Value × List Prop)} (h:litF P o=some (xs,f)) {vs:List Value} {v:Value} {obs:List Prop} (hf:f vs=some (v,obs)) (hA:All obs)
 (ρ:Operand→Value) (w:World) (hρ:xs.map ρ=vs):(execOp ρ o).run P w=.ok (.value v) w:=by
 unfold litF at h
 split at h
 ·split at h
  ·cases h
  ·cases h;exact binR_ok ‹_› hf hA ρ w hρ
 ·cases h;exact unR_ok ‹_› hf ρ w hρ
 ·split at h
  ·cases h
  ·cases h
  ·cases h;exact convR_ok ‹_› hf hA ρ w hρ
 ·cases h;exact ixR_ok ‹_› hf hA ρ w hρ
 ·split at h
  ·cases h;exact slR_ok ‹_› hf hA ρ w hρ
  ·cases h
 ·rename_i c ho
  split at h
  ·cases h
  ·cases h
  ·rename_i hc
   split at h
   ·cases h;exact bltR_ok ho hc hf ρ w hρ
   ·cases h
  ·rename_i b hc _ _ _
   cases h;exact bltR_ok ho ‹_› hf ρ w hρ
  ·cases h
 ·cases h
end
theorem repL_lits {p:Pub} {w:World}:∀ {us:List V} {vs:List Value},lits us=some vs→RepL p w vs us []
 | [],vs,h=>by cases h;exact .nil
 | u :: us,vs,h=>by
  cases u with
  | lit v =>
   simp only [lits] at h
   cases h1:lits us with
   | none=>rw [h1] at h;cases h
   | some ws=>rw [h1] at h;cases h;exact RepL.cons (A:=[]) (.lit v) (repL_lits h1)
  | kb b =>
   simp only [lits] at h
   cases h1:lits us with
   | none=>rw [h1] at h;cases h
   | some ws=>rw [h1] at h;cases h;exact RepL.cons (A:=[]) (.kb b) (repL_lits h1)
  | _=>simp [lits] at h
def evEqQ (P:Program) (N:Nat) (o:Oper) (op:BinOp) (t:TypeId) (x y:Operand) (e:E):Option E:=match dstOf N o with
 | none=>none
 | some d=>match P.eqGuardType P.depth t with
  | true=>none
  | false=>match vals [x,y] e with
   | some ([.agg cs,.agg ds],e)=>match lits cs,lits ds with
    | some _,some _=>match eqV P 12 t (.agg cs) (.agg ds),op with
     | some b,.eql=>some (e.put d (.lit (.bool b)))
     | some b,.neq=>some (e.put d (.lit (.bool (!b))))
     | _,_=>none
    | _,_=>none
   | _=>none
def qKind:Op→Bool
 | .move _ | .assign _ | .field _ _ _ | .extract _ _ | .build _ _ | .indexAddr _ _ _ | .pick _ _ _ | .nilCheck _=>true
 | _=>false
def boxNil (e:Option E):Option E:=match e with
 | some e=>match e.st.box with
  | []=>some e
  | _=>none
 | none=>none
def qstep (P:Program) (N:Nat) (o:Oper) (e:E):Option E:=match litF P o with
 | some (xs,f)=>match vals xs e with
  | some (us,e1)=>match lits us with
   | some vs=>match f vs,dstOf N o with
    | some (v,obs),some d=>boxNil (some (({ e1 with ob:=e1.ob++obs }:E).put d (.lit v)))
    | _,_=>none
   | none=>none
  | none=>none
 | none=>match qKind o.op with
  | true=>boxNil (ev1 P N o e)
  | false=>match o.op with
   | .load t (.tmp s)=>match look e.st.env s,dstOf N o with
    | some (.d (.v (.pt cs))),some d=>match partV P t cs with
     | some u=>boxNil (some (e.put d u))
     | none=>none
    | _,_=>none
   | .fieldAddr s (.tmp t) f=>match foff P s f,look e.st.env t,dstOf N o with
    | some (off,_),some (.d (.v (.pt cs))),some d=>boxNil (some (e.put d (.pt (cs.drop off))))
    | _,_,_=>none
   | .call c=>match c.callee,c.args.toList with
    | .builtin .len,[x]=>boxNil (evLen P N o c.argTypes x e)
    | _,_=>none
   | .binOp op t x y _=>boxNil (evEqQ P N o op t x y e)
   | _=>none
theorem boxNil_eq {x:Option E} {e:E} (h:boxNil x=some e):x=some e∧e.st.box=[]:=by
 unfold boxNil at h
 split at h
 ·rename_i e1
  split at h
  ·rename_i hb;cases h;exact ⟨rfl,hb⟩
  ·cases h
 ·cases h
theorem loadPartA {P:Program} {w:World} {p:Pub} {t:TypeId} {b o:Nat} {xs:List Value} {cs:List V} {u:V} {T:List Nat} (h:RepL p w xs cs T) (hp:partV P t cs=some u) :
 ∃ v A B,(∀ w',w'.rangeAt b o xs→(Instr.loadAt t (.pointer (some ⟨b,o,none⟩))).run P w'=.ok v w')∧T=A++B∧Rep p w v u A:=by
 unfold partV at hp
 split at hp
 ·rename_i ht
  split at hp
  ·rename_i n hn
   split at hp
   ·rename_i hle
    cases hp
    have hle:=Nat.le_of_ble_eq_true hle
    obtain ⟨A,B,hT,h1,h2⟩:=h.cut n
    have hl:(xs.take n).length=n:=by rw [List.length_take,h.length];omega
    unfold sizeT at hn
    cases hi:P.info? t with
    | none=>rw [hi] at hn;cases hn
    | some i =>
     rw [hi] at hn
     cases hn
     refine ⟨.agg (xs.take i.size).toArray,A,B,fun w' hr=>?_,hT,.agg h1⟩
     have hg:=isAgg_run ht w'
     have hc:=run_loadCells_list (P:=P) w' ⟨b,o,none⟩ (xs.take i.size) (fun j v hj=>by
      rw [Addr.add_mid]
      exact hr j v (by rw [List.getElem?_take] at hj;split at hj;exact hj;cases hj))
     rw [hl] at hc
     simp only [Instr.loadAt,Instr.sureAddr,loadVar,Sem.run_bind,Sem.run_pure,Result.andThen_ok,hg,if_true,sizeOf,typeInfo,run_program,hi,hc]
   ·cases hp
  ·cases hp
 ·rename_i ht
  split at hp
  ·rename_i c cs'
   split at hp
   ·cases hp
   ·cases hp
    cases h with
    | cons h1 h2 =>
     rename_i v vs A B
     refine ⟨v,A,B,fun w' hr=>?_,rfl,h1⟩
     have hg:=isAgg_run ht w'
     have hc:=hr 0 v rfl
     simp only [Nat.add_zero] at hc
     simp only [Instr.loadAt,Instr.sureAddr,loadVar,Sem.run_bind,Sem.run_pure,Result.andThen_ok,hg,Bool.false_eq_true,if_false,run_load,hc]
  ·cases hp
 ·cases hp
section
variable {P:Program}
def PubEq (p:Pub) (w w':World):Prop:=∀ b,p b→w'.heap[b]? = w.heap[b]?
def ldOp:Op→Bool
 | .load _ _=>true
 | _=>false
theorem qstep_ok {N:Nat} {o:Oper} {e e':E} (h:qstep P N o e=some e') (hb:e.st.box=[]) (hA:All e'.ob):All e.ob∧e'.st.box=[]∧∀ (p:Pub) (a:Act) (w:World),QRep p N e.st.env a w →
 ∃ v,(∀ w',(ldOp o.op=true→PubEq p w w')→(execOp a.eval o).run P w'=.ok (.value v) w')∧QRep p N e'.st.env (a.put o.dst v) w:=by
 have est:e.st=⟨e.st.env,[]⟩:=by rw [← hb]
 have key:∀ (e1:E),e1.st.box=[]→e1.st=⟨e1.st.env,[]⟩:=fun e1 h=>by rw [← h]
 unfold qstep at h
 split at h
 ·rename_i xs f hF
  split at h
  ·rename_i us e1 hv
   split at h
   ·rename_i vs hl
    split at h
    ·rename_i v obs d hf hd
     obtain ⟨h,hbx⟩:=boxNil_eq h
     cases h
     obtain ⟨hdd,hdN⟩:=dstOf_eq hd
     have hA:All (e1.ob++obs):=hA
     obtain ⟨h0,k⟩:=vals_ok (C:=Ctx.still (fun _=>False) default N) hv hA.left
     refine ⟨h0,hbx,fun p a w Qr=>?_⟩
     obtain ⟨g,S⟩:=Qr
     rw [← est] at S
     obtain ⟨_,k⟩:=vals_ok (C:=Ctx.still p w N) hv hA.left
     obtain ⟨g1,_,S1,r⟩:=k g a w S
     refine ⟨v,fun w' _=>litF_ok hF hf hA.right a.eval w' (lits_rep hl r),?_⟩
     rw [hdd]
     have:=S1.put0 (Calm.refl w) hdN (v:=v) (D:=.v (.lit v)) (.v (.lit v))
     exact ⟨_,by rw [← key _ hbx];exact this⟩
    ·cases h
   ·cases h
  ·cases h
 ·split at h
  ·rename_i hk
   obtain ⟨h,hbx⟩:=boxNil_eq h
   obtain ⟨h0,_⟩:=ev1_ok (C:=Ctx.still (fun _=>False) default N) h hA
   refine ⟨h0,hbx,fun p a w Qr=>?_⟩
   obtain ⟨g,S⟩:=Qr
   rw [← est] at S
   obtain ⟨_,k⟩:=ev1_ok (C:=Ctx.still p w N) h hA
   have hi:indepOp a.eval o.op=true:=by
    cases ho:o.op<;>rw [ho] at hk<;>simp only [qKind] at hk<;>try (cases hk;done)
    all_goals try rfl
    rename_i x
    simp only [ev1,ho] at h
    unfold evNil at h
    split at h
    ·cases h
    split at h
    ·rename_i t
     split at h
     ·rename_i cs hl
      have h2:=RepD.inv (S.env t _ hl).2.1
      simp only [indepOp,Act.eval]
      generalize a.tmps.getD t undef=v at h2
      generalize g.TE t=T at h2
      cases h2
      rfl
     ·rename_i i f hl
      have h2:RepD g w (a.tmps.getD t undef) (.ptr i f) (g.TE t):=(S.env t _ hl).2.1
      simp only [indepOp,Act.eval]
      generalize a.tmps.getD t undef=v at h2
      generalize g.TE t=T at h2
      cases h2
      rfl
     ·rename_i r sz i j hl
      obtain ⟨_,⟨_,b,_,_,h5⟩,_⟩:=S.env t _ hl
      simp only [indepOp,Act.eval,h5]
     ·cases h
    ·cases h
   have hw:=k g a w S (fun a' w'=>∃ g',SRep (Ctx.still p w N) g' e'.st a' w') (fun _ _ _=>False) (fun g' a' w' S' _=>⟨g',S'⟩)
   obtain ⟨v,h1,g',h2⟩:=wp_value (Indep.op hi) (fun w' x hx=>indep_value hi hx) hw
   exact ⟨v,fun w' _=>h1 w',g',by rw [← key _ hbx];exact h2⟩
  ·split at h
   ·rename_i t s ho
    split at h
    ·rename_i cs d hl hd
     split at h
     ·rename_i u hp
      obtain ⟨h,hbx⟩:=boxNil_eq h
      cases h
      obtain ⟨hdd,hdN⟩:=dstOf_eq hd
      refine ⟨hA,hbx,fun p a w Qr=>?_⟩
      obtain ⟨g,S⟩:=Qr
      rw [← est] at S
      have h2:=RepD.inv (S.env s _ hl).2.1
      generalize hv:a.tmps.getD s undef=v at h2
      generalize hT:g.TE s=T at h2
      cases h2 with
      | pt r1 r2 r3 r4 =>
       rename_i b q xs
       obtain ⟨v,A,B,hr,hAB,hR⟩:=loadPartA (P:=P) (t:=t) (b:=b) (o:=q) (xs:=xs) r1 hp
       have hA':=(List.append_eq_nil_iff.1 hAB.symm).1
       subst hA'
       have hpb:=QRep.pubB (q:=e.st.env) (by rw [← est];exact S) b r3
       refine ⟨v,fun w' hw'=>?_,?_⟩
       ·have:=hr w' (fun j u hj=>(cell?_same (hw' (by rw [ho];rfl) b hpb)).trans (r4 j u hj))
        unfold execOp
        simp only [ho,Act.eval,hv,Sem.run_bind,this,Result.andThen_ok,Sem.run_pure]
       ·rw [hdd]
        exact ⟨_,by rw [← key _ hbx];exact S.put0 (Calm.refl w) hdN (.v hR)⟩
     ·cases h
    ·cases h
   ·rename_i s t f ho
    split at h
    ·rename_i off ft cs d hf hl hd
     obtain ⟨h,hbx⟩:=boxNil_eq h
     cases h
     obtain ⟨hdd,hdN⟩:=dstOf_eq hd
     refine ⟨hA,hbx,fun p a w Qr=>?_⟩
     obtain ⟨g,S⟩:=Qr
     rw [← est] at S
     have h2:=RepD.inv (S.env t _ hl).2.1
     generalize hv:a.tmps.getD t undef=v at h2
     generalize hT:g.TE t=T at h2
     cases h2 with
     | pt r1 r2 r3 r4 =>
      rename_i b q xs
      obtain ⟨A,B,hAB,_,r5⟩:=r1.cut off
      have hB:=(List.append_eq_nil_iff.1 hAB.symm).2
      subst hB
      have hx:a.eval (.tmp t)=.pointer (some ⟨b,q,none⟩):=hv
      refine ⟨.pointer (some ⟨b,q+off,none⟩),fun w' _=>?_,?_⟩
      ·unfold execOp
       simp only [ho,hx,Sem.run_bind,fieldAt_run hf w' b q,Result.andThen_ok,Sem.run_pure]
      ·rw [hdd]
       have hpt:Rep g.pub w (.pointer (some ⟨b,q+off,none⟩)) (.pt (cs.drop off)) []:=.pt r5 (fun u hu=>r2 u (List.mem_of_mem_drop hu)) r3 fun j u hj=>by
        rw [List.getElem?_drop] at hj
        have:=r4 _ _ hj
        rwa [show q+off+j=q+(off+j) by omega]
       exact ⟨_,by rw [← key _ hbx];exact S.put0 (Calm.refl w) hdN (.v hpt)⟩
    ·cases h
   ·rename_i c ho
    split at h
    ·rename_i x hc hx
     obtain ⟨h,hbx⟩:=boxNil_eq h
     have ha:=arr1 hx
     obtain ⟨h0,_⟩:=evLen_ok (C:=Ctx.still (fun _=>False) default N) ho hc ha h hA
     refine ⟨h0,hbx,fun p a w Qr=>?_⟩
     obtain ⟨g,S⟩:=Qr
     rw [← est] at S
     unfold evLen at h
     split at h
     ·cases h
     rename_i d hd
     split at h
     ·rename_i r ow sz es hp
      split at h
      ·rename_i t ht
       split at h
       ·rename_i el hu
        split at h
        ·rename_i n e1 hh
         obtain ⟨q1,q2⟩:=hint_eq hh
         cases h
         obtain ⟨hdd,hdN⟩:=dstOf_eq hd
         have hn:(es.length:Int)=n:=(All.snoc (l:=e1.ob) hA).2
         obtain ⟨T,_,hr,_⟩:=peek_ok S hp
         obtain ⟨ao,cap,hv⟩:=hr.row_inv
         refine ⟨.int .i64 n,fun w' _=>?_,?_⟩
         ·unfold execOp
          simp only [ho,resolve,hc,ha,Sem.run_bind,Sem.run_pure,Result.andThen_ok,invoke,builtin,List.map_toArray,List.map_cons,List.map_nil,hv,Builtin.len_,ht,List.getElem?_toArray,List.getElem?_cons_zero,run_underlying hu,goInt,hn]
         ·rw [hdd]
          have hput:=S.put0 (Calm.refl w) hdN (v:=.int .i64 n) (D:=.v (.lit (.int .i64 n))) (.v (.lit _))
          rw [← q2] at hput
          exact ⟨_,by rw [← key _ hbx];exact hput⟩
        ·cases h
       ·cases h
      ·cases h
     ·cases h
    ·cases h
   ·rename_i op t x y ty ho
    obtain ⟨h,hbx⟩:=boxNil_eq h
    unfold evEqQ at h
    split at h
    ·cases h
    rename_i d hd
    split at h
    ·cases h
    rename_i hgd
    split at h
    rotate_left
    ·cases h
    rename_i cs ds e1 hv
    split at h
    rotate_left
    ·cases h
    rename_i vs1 vs2 hl1 hl2
    obtain ⟨hdd,hdN⟩:=dstOf_eq hd
    have fin:∀ (b:Bool) (v:Value),eqV P 12 t (.agg cs) (.agg ds)=some b→(op=.eql∧v=.bool b∨op=.neq∧v=.bool (!b))→e'=e1.put d (.lit v)→All e.ob∧e'.st.box=[]∧∀ (p:Pub) (a:Act) (w:World),QRep p N e.st.env a w →
     ∃ v,(∀ w',(ldOp o.op=true→PubEq p w w')→(execOp a.eval o).run P w'=.ok (.value v) w')∧QRep p N e'.st.env (a.put o.dst v) w:=by
     intro b v hb hop he
     subst he
     have hA:All e1.ob:=hA
     obtain ⟨h0,_⟩:=vals_ok (C:=Ctx.still (fun _=>False) default N) hv hA
     refine ⟨h0,hbx,fun p a w Qr=>?_⟩
     obtain ⟨g,S⟩:=Qr
     rw [← est] at S
     obtain ⟨_,k⟩:=vals_ok (C:=Ctx.still p w N) hv hA
     obtain ⟨g1,_,S1,r⟩:=k g a w S
     refine ⟨v,fun w' _=>?_,?_⟩
     ·have hr:RepL p w' ([x,y].map a.eval) [.agg cs,.agg ds] []:=by
       simp only [List.map_cons,List.map_nil] at r ⊢
       generalize hT:([]:List Nat)=T at r
       cases r with
       | @cons _ _ _ _ A B r1 r2 =>
        have hA1:=(List.append_eq_nil_iff.1 hT.symm)
        rw [hA1.1] at r1
        rw [hA1.2] at r2
        generalize hT2:([]:List Nat)=T2 at r2
        cases r2 with
        | @cons _ _ _ _ A2 B2 r3 r4 =>
         have hA2:=(List.append_eq_nil_iff.1 hT2.symm)
         rw [hA2.1] at r3
         obtain ⟨xs,ex,rx⟩:=r1.agg_inv
         obtain ⟨ys,ey,ry⟩:=r3.agg_inv
         rw [ex,ey]
         have e1:=lits_rep hl1 rx
         have e2:=lits_rep hl2 ry
         subst e1
         subst e2
         have hnil:RepL p w' [] [] []:=.nil
         rw [← hT]
         exact (RepL.cons (A:=[]) (B:=[]) (.agg (repL_lits hl1)) (RepL.cons (A:=[]) (B:=[]) (.agg (repL_lits hl2)) hnil):RepL p w' _ _ [])
      exact eqS_run hgd hb hop ho a.eval w' p hr
     ·rw [hdd]
      have:=S1.put0 (Calm.refl w) hdN (v:=v) (D:=.v (.lit v)) (.v (.lit v))
      exact ⟨_,by rw [← key _ hbx];exact this⟩
    cases hb:eqV P 12 t (.agg cs) (.agg ds) with
    | none=>rw [hb] at h;cases op<;>cases h
    | some b =>
     rw [hb] at h
     cases op<;>try (cases h;done)
     ·exact fin b _ hb (.inl ⟨rfl,rfl⟩) (Option.some.inj h).symm
     ·exact fin b _ hb (.inr ⟨rfl,rfl⟩) (Option.some.inj h).symm
   ·cases h
end
end Go.Rf
end
section
namespace Go.Rf
open Go.RowKit
set_option linter.unusedVariables false
set_option linter.unusedSimpArgs false
variable [Tabs]
inductive Tr where
 | z
 | k (d:Nat) (t:Tr)
 | q (i:Nat) (ps:List (List Nat)) (t:Tr)
 | i (i:Nat) (t:Tr)
 | e (i:Nat) (t:Tr)
 | b (i:Nat) (h1 g1:List V) (t1:Tr) (h2 g2:List V) (t2:Tr)
def gdec (ops:Array Oper) (o:Oper) (st:St):Option Bool:=match o.guard with
 | none=>some true
 | some (j,want)=>match guardT ops j with
  | some d=>match look st.env d with
   | some (.d (.v (.kb v)))=>some (v == want)
   | some (.d (.v (.lit (.tuple t))))=>match Nat.beq t.size 0 with
    | true=>some false
    | false=>none
   | _=>none
  | none=>none
theorem gdec_ok {C:Ctx} {ops:Array Oper} {o:Oper} {st:St} {g:G} {a:Act} {w:World} {b:Bool} (h:gdec ops o st=some b) (S:SRep C g st a w):Region.wanted o (yielded ops a.tmps)=b:=by
 unfold gdec at h
 split at h
 ·rename_i hg;cases h;simp [Region.wanted,hg]
 ·rename_i j want hg
  split at h
  ·rename_i d hd
   split at h
   ·rename_i v hl
    have hy:=yield_of S hd hl (RepD.kb (S.env d _ hl).2.1)
    cases h
    simp only [Region.wanted,hg,hy]
    cases v<;>cases want<;>rfl
   ·rename_i t hl
    split at h
    ·cases h
     have hv:=RepD.lit (S.env d _ hl).2.1
     unfold guardT at hd
     split at hd
     ·rename_i oj hoj
      have:yielded ops a.tmps j=none:=by
       simp only [yielded,hoj,Option.bind_some,hd]
       obtain ⟨h1,_,_⟩:=S.env d _ hl
       have hlt:d < a.tmps.size:=by rw [S.tmps];exact h1
       rw [Array.getD_eq_getD_getElem?,Array.getElem?_eq_getElem hlt] at hv
       rw [Array.getElem?_eq_getElem hlt]
       simp only [Option.getD_some] at hv
       simp only [hv]
      simp [Region.wanted,hg,this]
     ·cases hd
    ·cases h
   ·cases h
  ·cases h
def Tr.cnt:Tr→Nat
 | .z=>0
 | .k _ t=>t.cnt
 | .q _ _ t=>t.cnt+1
 | .i _ t=>t.cnt+1
 | .e _ t=>t.cnt+1
 | .b _ _ _ t _ _ _=>t.cnt+1
def V.sol:V→Bool
 | .lit _=>true
 | .kb _=>true
 | .tup cs=>go cs
 | .agg cs=>go cs
 | .clo _ cs=>go cs
 | _=>false
where go:List V→Bool
 | []=>true
 | c :: cs=>match c.sol with
  | true=>go cs
  | false=>false
mutual
theorem Rep.sol {p p':Pub} {w w':World} {v:Value} {u:V} {T:List Nat}:Rep p w v u T→u.sol=true→Rep p' w' v u []
 | .lit u,_=>.lit u
 | .kb b,_=>.kb b
 | .tup h,hs=>.tup (h.sol (by simpa [V.sol] using hs))
 | .agg h,hs=>.agg (h.sol (by simpa [V.sol] using hs))
 | .any _,hs=>by simp [V.sol] at hs
 | .nil _ _,hs=>by simp [V.sol] at hs
 | .shared ..,hs=>by simp [V.sol] at hs
 | .own ..,hs=>by simp [V.sol] at hs
 | .pt ..,hs=>by simp [V.sol] at hs
 | .iface ..,hs=>by simp [V.sol] at hs
 | .clo h,hs=>.clo (h.sol (by simpa [V.sol] using hs))
theorem RepL.sol {p p':Pub} {w w':World} {vs:List Value} {us:List V} {T:List Nat}:RepL p w vs us T→V.sol.go us=true→RepL p' w' vs us []
 | .nil,_=>.nil
 | .cons (d:=d) h1 h2,hs=>by
  simp only [V.sol.go] at hs
  cases hc:d.sol with
  | false=>rw [hc] at hs;cases hs
  | true=>rw [hc] at hs;exact RepL.cons (A:=[]) (B:=[]) (h1.sol hc) (h2.sol hs)
end
def solAt (env:List (Nat × X)) (d:Nat):V:=match look env d with
 | some (.d (.v u))=>match u.sol with
  | true=>u
  | false=>.any
 | _=>.any
def qdrop (N:Nat) (o:Oper) (e1:E) (q:E):Option E:=match o.dst with
 | none=>some q
 | some _=>match dstOf N o with
  | some d=>some { q with st:=⟨putE q.st.env d (.d (.v (solAt e1.st.env d))),[]⟩ }
  | none=>none
def qskip (N:Nat) (o:Oper) (q:E):Option E:=match o.dst with
 | none=>some q
 | some _=>match dstOf N o with
  | some d=>some { q with st:=⟨putE q.st.env d (.d (.v (.lit undef))),[]⟩ }
  | none=>none
def qkb (d:Nat) (v:Bool) (q:E):E:=match look q.st.env d with
 | some (.d (.v (.lit (.bool b))))=>{ need (b=v) q with st:=q.st.setT d (.d (.v (.kb v))) }
 | _=>q
def remOf (ops:Array Oper) (L:Array Bool):Option (List Nat)→List Nat
 | some r=>r
 | none=>Region.ready .any ops L
def estep (P:Program) (N:Nat) (ops:Array Oper) (i:Nat) (e q:E):Option (E × E):=match ops[i]? with
 | some o=>match gdec ops o e.st with
  | some true=>match ev1 P N o e with
   | some e1=>match qdrop N o e1 q with
    | some q1=>some (fixE N o e1,q1)
    | none=>none
   | none=>none
  | _=>none
 | none=>none
def evT (P:Program) (N:Nat) (ops:Array Oper):Tr→Option (List Nat)→Array Bool→E→E→Option (List (E × E))
 | .z,none,L,e,q=>match Region.ready .any ops L with
  | []=>some [(e,q)]
  | _ :: _=>none
 | .k d l,none,L,e,q=>match look e.st.env d with
  | some (.d (.v (.lit (.bool b))))=>match hint e with
   | some (.lit (.bool v),e1)=>evT P N ops l none L { need (b=v) e1 with st:=e1.st.setT d (.d (.v (.kb v))) } (qkb d v q)
   | _=>none
  | _=>none
 | .q i ps l,none,L,e,q=>match ops[i]? with
  | some o=>match (Region.ready .any ops L).contains i && Region.free .any ops L i && aheadB P ops i ps && calmK P o.op with
   | true=>match gdec ops o e.st with
    | some true=>match ev1 P N o e,qstep P N o q with
     | some e1,some q1=>evT P N ops l none (L.setIfInBounds i true) (fixE N o e1) q1
     | _,_=>none
    | _=>none
   | false=>none
  | none=>none
 | .i i l,none,L,e,q=>match ops[i]? with
  | some o=>match (Region.ready .any ops L).contains i && Region.free .any ops L i && calmK P o.op with
   | true=>match gdec ops o e.st with
    | some true=>match ldOp o.op,ev1 P N o e,qstep P N o q with
     | false,some e1,some q1=>evT P N ops l none (L.setIfInBounds i true) (fixE N o e1) q1
     | _,_,_=>none
    | some false=>match skipE N o e,qskip N o q with
     | some e1,some q1=>evT P N ops l none (L.setIfInBounds i true) e1 q1
     | _,_=>none
    | none=>none
   | false=>none
  | none=>none
 | .e i l,r,L,e,q=>match remOf ops L r with
  | [j]=>match Nat.beq j i with
   | true=>match estep P N ops i e q with
    | some (e1,q1)=>evT P N ops l none (L.setIfInBounds i true) e1 q1
    | none=>none
   | false=>none
  | _=>none
 | .b i h1 g1 t1 h2 g2 t2,r,L,e,q=>match remOf ops L r with
  | j :: k :: ks=>match Nat.beq j i && Nat.beq t2.cnt (t1.cnt+1) with
   | true=>match estep P N ops i { e with hs:=h1 } { q with hs:=g1 } with
    | some (e1,q1)=>match evT P N ops t1 none (L.setIfInBounds i true) e1 q1,evT P N ops t2 (some (k :: ks)) L { e with hs:=h2 } { q with hs:=g2 } with
     | some l1,some l2=>some (l1++l2)
     | _,_=>none
    | none=>none
   | false=>none
  | _=>none
 | _,_,_,_,_=>none
def RepX (p:Pub) (w:World) (v:Value) (x:Option X) (T:List Nat):Prop:=match x with
 | some (.d (.v u))=>Rep p w v u T
 | _=>True
section
variable {P:Program} {C:Ctx}
theorem qdrop_ok {N:Nat} {o:Oper} {e1 q q1:E} (h:qdrop N o e1 q=some q1) (hb:q.st.box=[]):q1.ob=q.ob∧q1.st.box=[]∧∀ p a w v,QRep p N q.st.env a w→(∀ d,o.dst=some d→d < N→∃ p' w' T,RepX p' w' v (look e1.st.env d) T)→QRep p N q1.st.env (a.put o.dst v) w:=by
 unfold qdrop at h
 split at h
 ·rename_i hd
  cases h
  exact ⟨rfl,hb,fun p a w v Q _=>by rw [hd];exact Q⟩
 ·split at h
  ·rename_i d hd
   cases h
   obtain ⟨hdd,hdN⟩:=dstOf_eq hd
   refine ⟨rfl,rfl,fun p a w v Q hr=>?_⟩
   obtain ⟨g,S⟩:=Q
   rw [hdd]
   refine ⟨_,S.put0 (Calm.refl w) hdN (.v ?_)⟩
   obtain ⟨p',w',T,hx⟩:=hr d hdd hdN
   unfold solAt
   split
   ·rename_i u hl
    split
    ·rename_i hs
     rw [hl] at hx
     exact Rep.sol hx hs
    ·exact .any v
   ·exact .any v
  ·cases h
theorem qskip_ok {N:Nat} {o:Oper} {q q1:E} (h:qskip N o q=some q1) (hb:q.st.box=[]):q1.ob=q.ob∧q1.st.box=[]∧∀ p a w,QRep p N q.st.env a w→QRep p N q1.st.env (a.put o.dst undef) w:=by
 unfold qskip at h
 split at h
 ·rename_i hd
  cases h
  exact ⟨rfl,hb,fun p a w Q=>by rw [hd];exact Q⟩
 ·split at h
  ·rename_i d hd
   cases h
   obtain ⟨hdd,hdN⟩:=dstOf_eq hd
   refine ⟨rfl,rfl,fun p a w Q=>?_⟩
   obtain ⟨g,S⟩:=Q
   rw [hdd]
   exact ⟨_,S.put0 (Calm.refl w) hdN (.v (.lit _))⟩
  ·cases h
theorem qkb_ok {N d:Nat} {v:Bool} {q:E} (hA:All (qkb d v q).ob) (hb:q.st.box=[]):All q.ob∧(qkb d v q).st.box=[]∧∀ p a w,QRep p N q.st.env a w→QRep p N (qkb d v q).st.env a w:=by
 unfold qkb at hA ⊢
 split at hA
 ·rename_i b hl
  simp only [hl]
  obtain ⟨h0,hv⟩:=All.snoc (l:=q.ob) hA
  subst hv
  refine ⟨h0,hb,fun p a w Q=>?_⟩
  obtain ⟨g,S⟩:=Q
  have e:q.st=⟨q.st.env,[]⟩:=by rw [← hb]
  rw [← e] at S
  have:=S.known hl
  refine ⟨g,?_⟩
  have e2:(q.st.setT d (.d (.v (.kb b))))=⟨(q.st.setT d (.d (.v (.kb b)))).env,[]⟩:=by simp only [St.setT,hb]
  rw [← e2]
  exact this
 ·exact ⟨hA,hb,fun _ _ _ Q=>Q⟩
end
end Go.Rf
end
section
namespace Go.Rf
open Go.RowKit
set_option linter.unusedVariables false
set_option linter.unusedSimpArgs false
variable [Tabs]
section
variable {P:Program} {C:Ctx}
def Sq (p:Pub) (w0 w:World):Prop:=PubEq p w0 w∧w0.heap.size≤w.heap.size
inductive AllQ:List (List Prop × List Prop)→Prop
 | nil:AllQ []
 | cons {a b:List Prop} {l:List (List Prop × List Prop)}:All a→All b→AllQ l→AllQ ((a,b) :: l)
def obE (x:E × E):List Prop × List Prop:=(x.1.ob,x.2.ob)
theorem AllQ.left:∀ {l m:List (List Prop × List Prop)},AllQ (l++m)→AllQ l
 | [],_,_=>.nil
 | _ :: _,_,.cons a b t=>.cons a b t.left
theorem AllQ.right:∀ {l m:List (List Prop × List Prop)},AllQ (l++m)→AllQ m
 | [],_,h=>h
 | _ :: _,_,.cons _ _ t=>AllQ.right (m:=_) t
theorem qstep_box {N:Nat} {o:Oper} {q q1:E} (h2:qstep P N o q=some q1):q1.st.box=[]:=by
 unfold qstep at h2
 split at h2
 ·split at h2
  ·split at h2
   ·split at h2
    ·exact (boxNil_eq h2).2
    ·cases h2
   ·cases h2
  ·cases h2
 ·split at h2
  ·exact (boxNil_eq h2).2
  ·split at h2
   ·split at h2
    ·split at h2
     ·exact (boxNil_eq h2).2
     ·cases h2
    ·cases h2
   ·split at h2
    ·exact (boxNil_eq h2).2
    ·cases h2
   ·split at h2
    ·exact (boxNil_eq h2).2
    ·cases h2
   ·exact (boxNil_eq h2).2
   ·cases h2
theorem estep_ok {ops:Array Oper} {i:Nat} {e q e1 q1:E} (h:estep P C.N ops i e q=some (e1,q1)) (hb:q.st.box=[]) (hA:All e1.ob) (hB:All q1.ob):All e.ob∧All q.ob∧q1.st.box=[] ∧
 ∀ (g:G) (a:Act) (w w0:World) (p:Pub) (Q:Exit→Act→World→Prop) (K:Act→World→Prop) (L:Array Bool),(∀ b,p b→b < w0.heap.size)→i∈Region.ready .any ops L→SRep C g e.st a w→QRep p C.N q.st.env a w0→Shut ops L→SL P ops (Sq p w0) L w →
  (∀ g' a' w',SRep C g' e1.st a' w'→QRep p C.N q1.st.env a' w0→Shut ops (L.setIfInBounds i true)→SL P ops (Sq p w0) (L.setIfInBounds i true) w'→K a' w') →
  wpOp P ops Q i (fun a' w'=>SL P ops (Sq p w0) (L.setIfInBounds i true) w'∧K a' w') a w:=by
 unfold estep at h
 split at h
 rotate_left
 ·cases h
 rename_i o ho
 split at h
 rotate_left
 ·cases h
 rename_i hg
 split at h
 rotate_left
 ·cases h
 rename_i e2 h1
 split at h
 rotate_left
 ·cases h
 rename_i q2 h2
 cases h
 obtain ⟨x1,hb1,k2⟩:=qdrop_ok h2 hb
 obtain ⟨hA2,kf⟩:=fixE_ok (P:=P) hA
 obtain ⟨hA3,k1⟩:=ev1_ok (C:=C) h1 hA2
 refine ⟨hA3,x1 ▸ hB,hb1,fun g a w w0 p Q K L hp c1 S Qr hsh hS hK=>?_⟩
 have hw:=gdec_ok (ops:=ops) hg S
 unfold wpOp
 simp only [ho,hw,if_true]
 refine .inl ?_
 have hmain:=wp_form (k1 g a w S (fun a' w'=>(∃ g',SRep C g' e2.st a' w')∧(calmK P o.op=true→Calm w w')) Q (fun g' a' w' S' hcm=>⟨⟨g',S'⟩,hcm⟩))
 refine Oper.wp_mono (fun a' w' hh=>?_) hmain
 obtain ⟨⟨⟨g',S'⟩,hcm⟩,hform⟩:=hh
 rcases hform with ⟨v,rfl⟩ | hd
 ·have hS2:SL P ops (Sq p w0) (L.setIfInBounds i true) w':=by
   cases hck:calmK P o.op with
   | true =>
    refine (SL.iff ho hck).2 fun kk=>?_
    obtain ⟨s1,s2⟩:=hS kk
    have hc:=hcm hck
    exact ⟨fun b hb=>(hc.same b (Nat.lt_of_lt_of_le (hp b hb) s2)).trans (s1 b hb),Nat.le_trans s2 hc.size⟩
   | false =>
    intro kk
    have hin:(L.setIfInBounds i true).getD i false=true:=by
     have h0:=(mem_ready.1 c1).1
     rcases Nat.lt_or_ge i L.size with h' | h'
     ·simp [h']
     ·simp [Array.getElem?_eq_none h'] at h0
    have:=kk i o ho hin
    rw [hck] at this;cases this
  refine ⟨hS2,hK g' _ w' (kf _ _ _ S') (k2 p a w0 v Qr fun d hd hdN=>⟨g'.pub,w',g'.TE d,?_⟩) (hsh.add c1) hS2⟩
  cases hl:look e2.st.env d with
  | none=>trivial
  | some x =>
   cases x with
   | d D =>
    cases D with
    | v u =>
     obtain ⟨m1,m2,_⟩:=S'.env d _ hl
     have hval:(a.put o.dst v).tmps.getD d undef=v:=by
      rw [hd,Act.put_some,Array.getD_eq_getD_getElem?]
      simp [show d < a.tmps.size by rw [S.tmps];exact hdN]
     rw [hval] at m2
     exact RepD.inv m2
    | _=>trivial
   | _=>trivial
 ·exact (hd S'.defers).elim
def ToDo (P:Program) (ops:Array Oper) (Q:Exit→Act→World→Prop) (S:Array Bool→World→Prop) (n:Nat) (r:Option (List Nat)) (L:Array Bool) (a:Act) (w:World):Prop:=match r with
 | none=>anyS P ops Q S n L a w
 | some l=>∀ i∈l,∃ m,n=m+1∧wpOp P ops Q i (fun a' w'=>S (L.setIfInBounds i true) w'∧anyS P ops Q S m (L.setIfInBounds i true) a' w') a w
theorem evT_ok {ops:Array Oper} (hs:Region.noSelect ops=true):∀ {t:Tr} {r:Option (List Nat)} {L:Array Bool} {e q:E} {ls:List (E × E)},evT P C.N ops t r L e q=some ls→AllQ (ls.map obE)→q.st.box=[]→(∀ l,r=some l→∀ i∈l,i∈Region.ready .any ops L) →
 All e.ob∧All q.ob∧∀ (g:G) (a:Act) (w w0:World) (p:Pub) (Q:Exit→Act→World→Prop),(∀ b,p b→b < w0.heap.size)→(∀ c a w,¬ Q (.panic c) a w)→(∀ x∈ls,∀ g a w,SRep C g x.1.st a w→Q .normal a w) →
  SRep C g e.st a w→QRep p C.N q.st.env a w0→Shut ops L→SL P ops (Sq p w0) L w→ToDo P ops Q (SL P ops (Sq p w0)) t.cnt r L a w
 | .z,some _,L,e,q,ls,h,hA,hb,hr=>by simp [evT] at h
 | .k _ _,some _,L,e,q,ls,h,hA,hb,hr=>by simp [evT] at h
 | .q _ _ _,some _,L,e,q,ls,h,hA,hb,hr=>by simp [evT] at h
 | .i _ _,some _,L,e,q,ls,h,hA,hb,hr=>by simp [evT] at h
 | .z,none,L,e,q,ls,h,hA,hb,hr=>by
  simp only [evT] at h
  split at h
  ·rename_i hrd
   cases h
   cases hA with
   | cons h1 h2 _=>exact ⟨h1,h2,fun g a w w0 p Q hp hpan hQ S _ _ _=>⟨hrd,hQ (e,q) (by simp) g a w S⟩⟩
  ·cases h
 | .k d l,none,L,e,q,ls,h,hA,hb,hr=>by
  simp only [evT] at h
  split at h
  ·rename_i b hl
   split at h
   ·rename_i v e1 hh
    obtain ⟨q1,q2⟩:=hint_eq hh
    have hb2:(qkb d v q).st.box=[]:=by
     unfold qkb
     split
     ·exact hb
     ·exact hb
    obtain ⟨h1,h2,h3⟩:=evT_ok hs h hA hb2 (fun _ h=>by cases h)
    obtain ⟨h4,hbv⟩:=All.snoc (l:=e1.ob) h1
    subst hbv
    obtain ⟨h5,_,h6⟩:=qkb_ok (N:=C.N) h2 hb
    refine ⟨q1 ▸ h4,h5,fun g a w w0 p Q hp hpan hQ S Qr hsh hS=>?_⟩
    refine h3 g a w w0 p Q hp hpan hQ ?_ (h6 p a w0 Qr) hsh hS
    show SRep C g (e1.st.setT d _) a w
    rw [q2]
    exact S.known hl
   ·cases h
  ·cases h
 | .q i ps l,none,L,e,q,ls,h,hA,hb,hr=>by
  simp only [evT] at h
  split at h
  ·rename_i o ho
   split at h
   ·rename_i hc
    simp only [Bool.and_eq_true] at hc
    obtain ⟨⟨⟨c1,c2⟩,c3⟩,c4⟩:=hc
    have c1:i∈Region.ready .any ops L:=by simpa using c1
    split at h
    ·rename_i hg
     split at h
     ·rename_i e1 q1 h1 h2
      have hb1:q1.st.box=[]:=qstep_box h2
      obtain ⟨hA1,hB1,k⟩:=evT_ok hs h hA hb1 (fun _ h=>by cases h)
      obtain ⟨hA2,kf⟩:=fixE_ok (P:=P) hA1
      obtain ⟨hA3,k1⟩:=ev1_ok h1 hA2
      obtain ⟨hB2,_,k2⟩:=qstep_ok h2 hb hB1
      refine ⟨hA3,hB2,fun g a w w0 p Q hp hpan hQ S Qr hsh hS=>?_⟩
      obtain ⟨v,hv,Qr'⟩:=k2 p a w0 Qr
      have hw:=gdec_ok (ops:=ops) hg S
      have hSq:=ahead_calm hsh c3 (mem_ready.1 c1).1 hS
      have hrun:=hv w (fun _=>hSq.1)
      have hmain:=k1 g a w S (fun a' w'=>∃ g',SRep C g' e1.st a' w') (fun _ _ _=>False) (fun g' a' w' S' _=>⟨g',S'⟩)
      unfold Oper.wp at hmain
      rw [hrun,Oper.upon_value] at hmain
      obtain ⟨g',S'⟩:=hmain
      refine anyS.first (R:=Sq p w0) ho hs (fun L w h1 h2 h3=>ahead_calm h1 c3 h2 h3) c4 (fun c a w h=>(hpan c _ w h).elim) l.cnt L a w hsh (fun j oj=>Region.free_spec ho c2 j oj) c1 (.inl ⟨hw,fun w' hw'=>hv w' (fun _=>hw'.1)⟩) hS ?_
      exact k g' _ w w0 p Q hp hpan hQ (kf _ _ _ S') Qr' (hsh.add c1) ((SL.iff ho c4).2 hS)
     ·cases h
    ·cases h
   ·cases h
  ·cases h
 | .i i l,none,L,e,q,ls,h,hA,hb,hr=>by
  simp only [evT] at h
  split at h
  ·rename_i o ho
   split at h
   ·rename_i hc
    simp only [Bool.and_eq_true] at hc
    obtain ⟨⟨c1,c2⟩,c4⟩:=hc
    have c1:i∈Region.ready .any ops L:=by simpa using c1
    split at h
    ·rename_i hg
     split at h
     ·rename_i e1 q1 hld h1 h2
      have hb1:q1.st.box=[]:=qstep_box h2
      obtain ⟨hA1,hB1,k⟩:=evT_ok hs h hA hb1 (fun _ h=>by cases h)
      obtain ⟨hA2,kf⟩:=fixE_ok (P:=P) hA1
      obtain ⟨hA3,k1⟩:=ev1_ok h1 hA2
      obtain ⟨hB2,_,k2⟩:=qstep_ok h2 hb hB1
      refine ⟨hA3,hB2,fun g a w w0 p Q hp hpan hQ S Qr hsh hS=>?_⟩
      obtain ⟨v,hv,Qr'⟩:=k2 p a w0 Qr
      have hw:=gdec_ok (ops:=ops) hg S
      have hrun:=hv w (fun h=>by rw [hld] at h;cases h)
      have hmain:=k1 g a w S (fun a' w'=>∃ g',SRep C g' e1.st a' w') (fun _ _ _=>False) (fun g' a' w' S' _=>⟨g',S'⟩)
      unfold Oper.wp at hmain
      rw [hrun,Oper.upon_value] at hmain
      obtain ⟨g',S'⟩:=hmain
      refine anyS.first (R:=fun _=>True) ho hs (fun L w h1 h2 h3=>trivial) c4 (fun c a w h=>(hpan c _ w h).elim) l.cnt L a w hsh (fun j oj=>Region.free_spec ho c2 j oj) c1 (.inl ⟨hw,fun w' hw'=>hv w' (fun h=>by rw [hld] at h;cases h)⟩) hS ?_
      exact k g' _ w w0 p Q hp hpan hQ (kf _ _ _ S') Qr' (hsh.add c1) ((SL.iff ho c4).2 hS)
     ·cases h
    ·rename_i hg
     split at h
     ·rename_i e1 q1 h1 h2
      obtain ⟨x1,hb1,k2⟩:=qskip_ok h2 hb
      obtain ⟨hA1,hB1,k⟩:=evT_ok hs h hA hb1 (fun _ h=>by cases h)
      obtain ⟨hA3,k1⟩:=skip_ok (P:=P) (C:=C) (ops:=ops) h1 hA1
      refine ⟨hA3,x1 ▸ hB1,fun g a w w0 p Q hp hpan hQ S Qr hsh hS=>?_⟩
      have hw:=gdec_ok (ops:=ops) hg S
      have hmain:=k1 g a w S hw (fun a' w'=>∃ g',SRep C g' e1.st a' w') (fun _ _ _=>False) (fun g' a' w' S' _=>⟨g',S'⟩)
      rw [if_neg (by rw [hw];simp)] at hmain
      obtain ⟨g',S'⟩:=hmain
      refine anyS.first (R:=fun _=>True) ho hs (fun L w h1 h2 h3=>trivial) c4 (fun c a w h=>(hpan c _ w h).elim) l.cnt L a w hsh (fun j oj=>Region.free_spec ho c2 j oj) c1 (.inr ⟨hw,rfl⟩) hS ?_
      exact k g' _ w w0 p Q hp hpan hQ S' (k2 p a w0 Qr) (hsh.add c1) ((SL.iff ho c4).2 hS)
     ·cases h
    ·cases h
   ·cases h
  ·cases h
 | .e i l,r,L,e,q,ls,h,hA,hb,hr=>by
  simp only [evT] at h
  split at h
  rotate_left
  ·cases h
  rename_i j hrem
  split at h
  rotate_left
  ·cases h
  rename_i hj
  have hj:=Nat.eq_of_beq_eq_true hj
  subst hj
  split at h
  rotate_left
  ·cases h
  rename_i e1 q1 hes
  have hbq:q1.st.box=[]:=by
   unfold estep at hes
   split at hes
   ·split at hes
    ·split at hes
     ·split at hes
      ·rename_i _ _ _ _ h2
       cases hes
       exact (qdrop_ok h2 hb).2.1
      ·cases hes
     ·cases hes
    ·cases hes
   ·cases hes
  obtain ⟨hA1,hB1,k⟩:=evT_ok hs h hA hbq (fun _ h=>by cases h)
  obtain ⟨hA0,hB0,_,step⟩:=estep_ok (C:=C) hes hb hA1 hB1
  refine ⟨hA0,hB0,fun g a w w0 p Q hp hpan hQ S Qr hsh hS=>?_⟩
  have main:j∈Region.ready .any ops L→wpOp P ops Q j (fun a' w'=>SL P ops (Sq p w0) (L.setIfInBounds j true) w'∧anyS P ops Q (SL P ops (Sq p w0)) l.cnt (L.setIfInBounds j true) a' w') a w:=fun c1 =>
   step g a w w0 p Q _ L hp c1 S Qr hsh hS fun g' a' w' S' Qr' hsh' hS'=>k g' a' w' w0 p Q hp hpan hQ S' Qr' hsh' hS'
  cases r with
  | none =>
   simp only [remOf] at hrem
   refine ⟨fun h0=>(by rw [h0] at hrem;cases hrem),fun i hi=>?_⟩
   rw [hrem] at hi
   have:i=j:=by simpa using hi
   subst this
   exact main (by rw [hrem];simp)
  | some l' =>
   simp only [remOf] at hrem
   subst hrem
   intro i hi
   have:i=j:=by simpa using hi
   subst this
   exact ⟨_,rfl,main (hr _ rfl _ (by simp))⟩
 | .b i h1 g1 t1 h2 g2 t2,r,L,e,q,ls,h,hA,hb,hr=>by
  simp only [evT] at h
  split at h
  rotate_left
  ·cases h
  rename_i j k ks hrem
  split at h
  rotate_left
  ·cases h
  rename_i hj
  rw [Bool.and_eq_true] at hj
  have hcnt:=Nat.eq_of_beq_eq_true hj.2
  have hj:=Nat.eq_of_beq_eq_true hj.1
  subst hj
  split at h
  rotate_left
  ·cases h
  rename_i e1 q1 hes
  split at h
  rotate_left
  ·cases h
  rename_i l1 l2 hl1 hl2
  cases h
  rw [List.map_append] at hA
  have hbq:q1.st.box=[]:=by
   unfold estep at hes
   split at hes
   ·split at hes
    ·split at hes
     ·split at hes
      ·rename_i _ _ _ _ h2
       cases hes
       exact (qdrop_ok h2 hb).2.1
      ·cases hes
     ·cases hes
    ·cases hes
   ·cases hes
  have hall:∀ i∈j :: k :: ks,i∈Region.ready .any ops L:=by
   cases r with
   | none=>simp only [remOf] at hrem;rw [hrem];exact fun _ h=>h
   | some l'=>simp only [remOf] at hrem;subst hrem;exact hr _ rfl
  obtain ⟨hA1,hB1,k1⟩:=evT_ok hs hl1 hA.left hbq (fun _ h=>by cases h)
  obtain ⟨hA2,hB2,k2⟩:=evT_ok hs hl2 hA.right hb (fun l' h=>by cases h;exact fun i hi=>hall i (List.mem_cons_of_mem _ hi))
  obtain ⟨hA0,hB0,_,step⟩:=estep_ok (C:=C) hes hb hA1 hB1
  refine ⟨hA0,hB0,fun g a w w0 p Q hp hpan hQ S Qr hsh hS=>?_⟩
  have m1:=step g a w w0 p Q _ L hp (hall j (by simp)) S Qr hsh hS fun g' a' w' S' Qr' hsh' hS'=>k1 g' a' w' w0 p Q hp hpan (fun x hx=>hQ x (List.mem_append_left _ hx)) S' Qr' hsh' hS'
  have m2:=k2 g a w w0 p Q hp hpan (fun x hx=>hQ x (List.mem_append_right _ hx)) S Qr hsh hS
  have all:∀ i∈j :: k :: ks,wpOp P ops Q i (fun a' w'=>SL P ops (Sq p w0) (L.setIfInBounds i true) w'∧anyS P ops Q (SL P ops (Sq p w0)) t1.cnt (L.setIfInBounds i true) a' w') a w:=by
   intro i hi
   rcases List.mem_cons.1 hi with rfl | hi
   ·exact m1
   ·obtain ⟨m,hm,hw⟩:=m2 i hi
    have:m=t1.cnt:=by omega
    subst this
    exact hw
  cases r with
  | none =>
   simp only [remOf] at hrem
   refine ⟨fun h0=>(by rw [h0] at hrem;cases hrem),fun i hi=>?_⟩
   rw [hrem] at hi
   exact all i hi
  | some l' =>
   simp only [remOf] at hrem
   subst hrem
   intro i hi
   exact ⟨_,rfl,all i hi⟩
def outD:Option (List (E × E))→St
 | some [(e,_)]=>e.st
 | _=>default
def outP:Option (List (E × E))→Option (List (List Prop × List Prop))
 | some l=>some (l.map obE)
 | none=>none
def outS':Option (List (E × E))→List St
 | some l=>l.map (·.1.st)
 | none=>[]
def outQ:Option (List (Nat × X) × List Prop)→List (Nat × X)
 | some (q,_)=>q
 | none=>[]
def outQo:Option (List (Nat × X) × List Prop)→Option (List Prop)
 | some (_,os)=>some os
 | none=>none
def evR (P:Program) (N:Nat) (ops:Array Oper) (t:Tr) (st:St) (ks:List (Nat × Option V)) (hs hq:List V) (rw:List (Nat × Value)) (fx:List (Nat × V)):Option (List (E × E)) :=
 evT P N ops t none (Array.replicate ops.size false) ⟨hs,[],st,rw,fx⟩ ⟨hq,[],⟨outQ (qInit st ks),[]⟩,[],[]⟩
theorem region_any {Q:Exit→St→Prop} {st:St} {id N:Nat} {ops:Array Oper} {obs:List (List Prop × List Prop)} (hm:P.follows .mixedOrders=true) (hN:C.N=N) (t:Tr) (ks:List (Nat × Option V)) {os:List Prop} (hks:outQo (qInit st ks)=some os) (hO:All os) (hs hq:List V) (hA:AllQ obs) (rw:List (Nat × Value)) (fx:List (Nat × V))
 (hc:(Region.noSelect ops && Nat.beq t.cnt ops.size)=true) (h:outP (evR P N ops t st ks hs hq rw fx)=some obs)
 (k:∀ x,x∈outS' (evR P N ops t st ks hs hq rw fx)→∀ g a w,SRep C g x a w→∃ g st,SRep C g st a w∧Q .normal st):Good P C (.region id ops true) Q st:=by
 subst hN
 simp only [Bool.and_eq_true] at hc
 have hcnt:=Nat.eq_of_beq_eq_true hc.2
 intro g a w S
 have hks2:qInit st ks=some (outQ (qInit st ks),os):=by
  cases hq:qInit st ks with
  | none=>rw [hq] at hks;cases hks
  | some x=>obtain ⟨q,os'⟩:=x;rw [hq] at hks;cases hks;rfl
 cases he:evR P C.N ops t st ks hs hq rw fx with
 | none=>rw [he] at h;cases h
 | some ls =>
  rw [he] at h k
  cases h
  obtain ⟨_,_,key⟩:=evT_ok (C:=C) hc.1 he hA rfl (fun _ h=>by cases h)
  have S1:=S.calm (Calm.drew w)
  have plt:∀ b,g.all b→b < w.drew.heap.size:=by
   rintro b (h | ⟨h,ho⟩)
   ·exact S1.publt b h
   ·exact (S1.own b h ho).2.1
  have shut0:Shut ops (Array.replicate ops.size false):=by
   intro j o _ hl
   rw [getD_replicate_false] at hl;cases hl
  have res:=key g a w.drew w.drew g.all (fun e a w=>e=.normal∧∃ g st,SRep C g st a w∧Q .normal st) plt (fun c a w h=>by cases h.1) (fun x hx g a w S'=>⟨rfl,k x.1.st (List.mem_map.2 ⟨x,hx,rfl⟩) g a w S'⟩) S1 (QRep.start S1 hks2 hO) shut0
   (fun _=>⟨fun _ _=>rfl,Nat.le_refl _⟩)
  rw [hcnt] at res
  refine wp_mono (wp_region_any hm (anyS.any _ _ _ _ res)) fun e a w h=>?_
  obtain ⟨rfl,g,st,S',h⟩:=h
  exact ⟨g,st,S',h⟩
theorem Good.regDF {Q:Exit→St→Prop} {st:St} {id N:Nat} {ops:Array Oper} {obs obq:List Prop} (hm:P.follows .mixedOrders=true) (hN:C.N=N) (t:Tr) (ks:List (Nat × Option V)) {os:List Prop} (hks:outQo (qInit st ks)=some os) (hO:All os) (hs hq:List V) (hA:All obs) (hB:All obq) (rw:List (Nat × Value)) (fx:List (Nat × V))
 (hc:(Region.noSelect ops && Nat.beq t.cnt ops.size)=true) (h:outP (evR P N ops t st ks hs hq rw fx)=some [(obs,obq)]) (k:Q .normal (outD (evR P N ops t st ks hs hq rw fx))):Good P C (.region id ops true) Q st:=by
 refine region_any hm hN t ks hks hO hs hq (.cons hA hB .nil) rw fx hc h fun x hx g a w S=>?_
 cases he:evR P N ops t st ks hs hq rw fx with
 | none=>rw [he] at hx;simp [outS'] at hx
 | some ls =>
  rw [he] at hx h k
  match ls,h with
  | [(e,q)],_ =>
   simp only [outS',List.map_cons,List.map_nil,List.mem_singleton] at hx
   subst hx
   exact ⟨g,_,S,k⟩
def canonS (kk:List (Nat × Nat)) (p:List Nat) (s:St):Option (List (Nat × X)) × List Box:=match p with
 | []=>(restr s.env kk,s.box)
 | _ :: _=>match permOk p s.box.length with
  | true=>(restr (renE p s.env) kk,renB p s.box)
  | false=>(none,[])
def lowOk (L:Nat) (p:List Nat):Bool:=match p with
 | []=>true
 | _ :: _=>(List.range L).all fun i=>match p[i]? with
  | some j=>Nat.beq i j
  | none=>false
theorem Good.regTB {Q:Exit→St→Prop} {st:St} {id N n Ln:Nat} {ops:Array Oper} {obs:List (List Prop × List Prop)} (hm:P.follows .mixedOrders=true) (hN:C.N=N) (hL:C.L.length=Ln) (t:Tr) (ks:List (Nat × Option V)) {os:List Prop} (hks:outQo (qInit st ks)=some os) (hO:All os) (hs hq:List V) (hA:AllQ obs) (rw:List (Nat × Value)) (fx:List (Nat × V))
 (hc:(Region.noSelect ops && Nat.beq t.cnt ops.size)=true) (h:outP (evR P N ops t st ks hs hq rw fx)=some obs) (ps:List (List Nat)) (kk:List (Nat × Nat)) (env:List (Nat × X)) (box:List Box) (hps:(ps.all (lowOk Ln) && Nat.beq (outS' (evR P N ops t st ks hs hq rw fx)).length ps.length)=true)
 (hw:List.zipWith (canonS kk) ps (outS' (evR P N ops t st ks hs hq rw fx))=List.replicate n (some env,box)) (k:Q .normal ⟨env,box⟩):Good P C (.region id ops true) Q st:=by
 rw [Bool.and_eq_true] at hps
 have hlen:=Nat.eq_of_beq_eq_true hps.2
 refine region_any hm hN t ks hks hO hs hq hA rw fx hc h fun x hx g a w S=>?_
 obtain ⟨i,hi⟩:=List.getElem?_of_mem hx
 have hil:=(List.getElem?_eq_some_iff.1 hi).1
 have hpi:ps[i]? = some ps[i]:=List.getElem?_eq_getElem (by omega)
 have hm:=congrArg (fun l=>l[i]?) hw
 simp only [List.getElem?_zipWith,hpi,hi] at hm
 have hin:i < n:=by
  have:=congrArg List.length hw
  simp only [List.length_zipWith,List.length_replicate] at this
  omega
 rw [List.getElem?_replicate,if_pos hin] at hm
 have hm:=Option.some.inj hm
 have hlow:=List.all_eq_true.1 hps.1 ps[i] (List.getElem_mem _)
 generalize ps[i]=p at hm hlow
 unfold canonS at hm
 split at hm
 ·simp only [Prod.mk.injEq] at hm
  obtain ⟨g',S'⟩:=Wk.of kk hm.1 hm.2 g a w S
  exact ⟨g',_,S',k⟩
 ·rename_i q qs
  split at hm
  ·rename_i hok
   simp only [Prod.mk.injEq] at hm
   have S1:=S.ren hok (.inr fun j hj=>by
    simp only [lowOk] at hlow
    have:=List.all_eq_true.1 hlow j (List.mem_range.2 (by omega))
    split at this
    ·rename_i j' hj'
     rw [hj',Nat.eq_of_beq_eq_true this]
    ·cases this)
   obtain ⟨g',S'⟩:=Wk.of kk hm.1 hm.2 _ a w S1
   exact ⟨g',_,S',k⟩
  ·simp only [Prod.mk.injEq,reduceCtorEq,false_and] at hm
end
end Go.Rf
end
section
namespace Go.Rf
open Go.RowKit
set_option linter.unusedVariables false
set_option linter.unusedSimpArgs false
variable [Tabs]
theorem enter_of {P:Program} {f:FuncId} {fn:Func} {c:Code} (hf:P.funcs[f]? = some fn) (hb:fn.body=some c) (hname:(fn.name == "runtime.NumGoroutine")=false) (vs:Array Value) (w:World):(callFunc f vs).run P w=.ok (.enter f vs) w:=by
 have h1:fn.name ≠ "runtime.NumGoroutine" := by simpa using hname
 simp [callFunc,hf,h1,hb]
theorem calm_of_below {w w':World} (h:Below w.heap.size w w'):Calm w w':=⟨h.os,h.tape,h.output,h.size,h.block⟩
theorem below_of_calm {w w':World} (h:Calm w w'):Below w.heap.size w w':=⟨h.os,h.tape,h.output,h.size,h.same⟩
theorem con_lits {P:Program} {f:FuncId} {fn:Func} {c:Code} {us:List V} {xs:List Value} {v:Value} (hf:P.funcs[f]? = some fn) (hb:fn.body=some c) (hname:(fn.name == "runtime.NumGoroutine")=false) (hl:lits us=some xs)
 (h:∀ p w,Tabs.t p w→Calls P f xs.toArray w fun e w'=>e=.returned v∧Below w.heap.size w w'):Con P f us (.lit v):=by
 refine ⟨enter_of hf hb hname,fun p w vs hp ht hr=>?_⟩
 have hvs:=lits_rep hl hr
 subst hvs
 refine (h p w ht).mono fun e w' ⟨he,hbel⟩=>?_
 exact ⟨v,[],fun _=>False,he,calm_of_below hbel,fun _ h=>h.elim,List.nodup_nil,fun _ h=>(by cases h),.lit v⟩
theorem Con.law {P:Program} {f:FuncId} {us:List V} (h:Con P f us (.lit (.bool true))) {w:World} {vs:List Value} (ht:Tabs.t (fun b=>b < w.heap.size) w) (hr:RepL (fun b=>b < w.heap.size) w vs us []) :
 Calls P f vs.toArray w fun e w'=>e=.returned (.bool true)∧Below w.heap.size w w':=by
 refine (h.2 _ w vs (fun _ h=>h) ht hr).mono fun e w' ⟨v,T,q,he,hc,_,_,_,hv⟩=>?_
 rw [hv.lit_inv] at he
 exact ⟨he,below_of_calm hc⟩
end Go.Rf
end
section
namespace Go.Rf
open Go.RowKit
set_option linter.unusedVariables false
set_option linter.unusedSimpArgs false
variable [Tabs]
section
variable {P:Program} {C:Ctx}
theorem evOps_rest {ops:Array Oper} (l2:List Nat):∀ {l:List Nat} {e e':E},evOps P C.N ops l e=some e'→All e'.ob→All e.ob∧∀ g a w,SRep C g e.st a w→∀ (Q:Exit→Act→World→Prop),(∀ g' a' w',SRep C g' e'.st a' w'→wpOps P ops Q l2 a' w')→wpOps P ops Q (l++l2) a w
 | [],e,e',h,hA=>by
  cases h
  exact ⟨hA,fun g a w S Q hn=>hn g a w S⟩
 | i :: l,e,e',h,hA=>by
  simp only [evOps] at h
  cases hoi:ops[i]? with
  | none=>rw [hoi] at h;cases h
  | some o =>
   rw [hoi] at h
   simp only at h
   cases h1:evOp P C.N ops o e with
   | none=>rw [h1] at h;cases h
   | some e1 =>
    rw [h1] at h
    obtain ⟨hA1,k2⟩:=evOps_rest l2 (l:=l) h hA
    obtain ⟨hA2,k3⟩:=fixE_ok (P:=P) (C:=C) hA1
    obtain ⟨hA0,k1⟩:=evOp_ok (C:=C) h1 hA2
    refine ⟨hA0,fun g a w S Q hn=>?_⟩
    have:=k1 g a w S (wpOps P ops Q (l++l2)) Q (fun g' a' w' S' _=>k2 g' a' w' (k3 g' a' w' S') Q hn)
    rw [List.cons_append]
    simp only [wpOps,hoi]
    exact this
theorem eqNil_run {t el:TypeId} (hu:P.underlying t=some (.slice el)) (ao:Option Addr) (n c:Nat) (w:World):(Op.equal t (.slice ao n c) (.slice none 0 0)).run P w=.ok ao.isNone w:=by
 have hun:(underlying t).run P w=.ok (.slice el) w:=by simp [underlying,hu]
 show (Op.equalIn (9999+1) t (.slice ao n c) (.slice none 0 0)).run P w=_
 unfold Op.equalIn
 simp only [Sem.run_bind,hun,Result.andThen_ok]
 cases ao<;>rfl
def nilChk (P:Program) (N:Nat) (ops:Array Oper) (n:Nat) (st:St):Option (Nat × Nat × List V):=match ops[n]? with
 | some o=>match o.op with
  | .binOp .eql t (.tmp s) (.const (.slice none 0 0)) _=>match o.guard,dstOf N o,P.underlying t with
   | none,some d,some (.slice _)=>match look st.env s with
    | some (.d (.v (.row none (sz+1) es)))=>match Nat.beq ops.size (n+1) with
     | true=>some (d,sz,es)
     | false=>none
    | _=>none
   | _,_,_=>none
  | _=>none
 | none=>none
theorem Good.regNil {Q:Exit→St→Prop} {st:St} {id N:Nat} {ops:Array Oper} {obs:List Prop} (n d sz:Nat) (es:List V) (hN:C.N=N) (hs:List V) (hA:All obs) (h:outO (evOps P N ops (List.range n) ⟨hs,[],st,[],[]⟩)=some obs)
 (hc:nilChk P N ops n (outS (evOps P N ops (List.range n) ⟨hs,[],st,[],[]⟩))=some (d,sz,es))
 (k1:es=[]→Q .normal ((outS (evOps P N ops (List.range n) ⟨hs,[],st,[],[]⟩)).put d (.d (.v (.lit (.bool true))))))
 (k2:Q .normal ((outS (evOps P N ops (List.range n) ⟨hs,[],st,[],[]⟩)).put d (.d (.v (.lit (.bool false)))))):Good P C (.region id ops false) Q st:=by
 subst hN
 intro g a w S
 cases he:evOps P C.N ops (List.range n) ⟨hs,[],st,[],[]⟩ with
 | none=>rw [he] at h;cases h
 | some e' =>
  rw [he] at h hc k1 k2
  cases h
  unfold nilChk at hc
  split at hc
  ·rename_i o ho
   split at hc
   ·rename_i t s ty hop
    split at hc
    ·rename_i d' el hg hd hu
     split at hc
     ·rename_i sz' es' hl
      split at hc
      ·rename_i hz
       cases hc
       have hz:=Nat.eq_of_beq_eq_true hz
       obtain ⟨_,key⟩:=evOps_rest (C:=C) [n] he hA
       refine wp_region ?_
       rw [hz,List.range_succ]
       refine key g a w S _ fun g' a' w' S'=>?_
       simp only [wpOps,ho]
       rw [if_pos (by simp [Region.wanted,hg])]
       obtain ⟨hdd,hdN⟩:=dstOf_eq hd
       obtain ⟨_,h2,_⟩:=S'.env s _ hl
       obtain ⟨ao,cap,xs,⟨hx,_⟩,hc,hr,_,hcell⟩:=shared_inv (RepD.inv h2)
       have run:(execOp a'.eval o).run P w'=.ok (.value (.bool ao.isNone)) w':=by
        unfold execOp
        simp only [hop,Act.eval,hx,Sem.run_bind,eqGuard,binOp,eqNil_run hu,Result.andThen_ok,Sem.run_pure]
        rfl
       have hnil:ao.isNone=true→es=[]:=by
        intro hn
        cases es with
        | nil=>rfl
        | cons e es =>
         have hz1:e.cells.length=sz+1:=hc e (by simp)
         have hlen:=hr.length
         rw [List.flatMap_cons,List.length_append,hz1] at hlen
         have h0:0 < xs.length:=by omega
         obtain ⟨b,q,e1,_⟩:=hcell 0 _ (List.getElem?_eq_getElem h0)
         rw [e1] at hn
         cases hn
       refine .inl (wp_of_run run ?_)
       rw [hdd]
       refine ⟨_,_,S'.put0 (Calm.refl w') hdN (.v (.lit _)),?_⟩
       cases hb:ao.isNone with
       | true=>exact k1 (hnil hb)
       | false=>exact k2
      ·cases hc
     ·cases hc
    ·cases hc
   ·cases hc
  ·cases hc
end
end Go.Rf
end
section
namespace Go.Rf
open Go.RowKit
set_option linter.unusedVariables false
set_option linter.unusedSimpArgs false
set_option linter.unusedSectionVars false
structure Asd (p:Prop):Prop where
 mk :: (out:p)
theorem bl_alloc {w W:World} (h:Below w.heap.size w W) (o:Obj):Below w.heap.size w (W.alloc o):=Below.alloc h h.size o
theorem tm_lits {a:Array Value} {n:Nat} (h:a.size=n):a=((List.range n).map fun i=>a.getD i undef).toArray:=by
 refine Array.ext (by simp [h]) fun i h1 h2=>?_
 simp [h1]
theorem RepL.lits {α:Type} {p:Pub} {w:World} {enc:α→Value}:∀ {l:List α} {xs:List Value} {T:List Nat},RepL p w xs (l.map fun x=>V.lit (enc x)) T→xs=l.map enc
 | [],_,_,h=>by cases h;rfl
 | x :: l,_,_,h=>by
  cases h with
  | cons h1 h2 =>
   cases h1
   rw [h2.lits]
   rfl
theorem flat_lits {α:Type} (enc:α→Value) (l:List α):(l.map fun x=>V.lit (enc x)).flatMap V.cells=l.map fun x=>V.lit (enc x):=by
 induction l with
 | nil=>rfl
 | cons x l ih=>simp only [List.map_cons,List.flatMap_cons,ih,V.cells,List.singleton_append]
theorem Rep.own_lits {α:Type} {p:Pub} {w:World} {v:Value} {e:TypeId} {enc:α→Value} {l:List α} {T:List Nat} (h:Rep p w v (.row (some e) 1 (l.map fun x=>V.lit (enc x))) T):w.ownsRow 0 e 1 v l.length (l.map enc):=by
 generalize he:(l.map fun x=>V.lit (enc x))=es at h
 cases h with
 | own h1 h2 h3 h4 =>
  subst he
  rw [flat_lits] at h2
  rw [h2.lits] at h4
  simpa using h4
variable [Tabs]
section
variable {P:Program} {C:Ctx} {Q:Exit→Act→World→Prop} {st:St} {fn:Func} {r:V}
def Man (P:Program) (C:Ctx) (c:Code) (Q:Exit→Act→World→Prop) (st:St):Prop:=∀ g a w,SRep C g st a w→c.wp P Q a w
theorem Man.seq {x y:Code} (h:Good P C x (thenS (Man P C y Q) fun e st=>∀ g a w,SRep C g st a w→Q e a w) st):Man P C (.seq x y) Q st:=fun g a w S =>
 wp_seq (wp_mono (h g a w S) fun e a w ⟨g',st',S',h'⟩=>by
  cases e with
  | normal=>exact h' g' a w S'
  | _=>exact h' g' a w S')
theorem Man.good {c:Code} (h:Good P C c (fun e st=>∀ g a w,SRep C g st a w→Q e a w) st):Man P C c Q st:=fun g a w S =>
 wp_mono (h g a w S) fun e a w ⟨g',st',S',h'⟩=>h' g' a w S'
def Ans (C:Ctx) (r:V) (e:Ending) (w':World):Prop:=∃ (v:Value) (T:List Nat) (q:Pub),e=.returned v∧Calm C.W w'∧(∀ b,q b→C.W.heap.size≤b∧b < w'.heap.size)∧T.Nodup∧(∀ b∈T,C.W.heap.size≤b∧b < w'.heap.size∧¬ q b)∧Rep (fun b=>C.p0 b∨q b) w' v r T
def ManR (P:Program) (fn:Func) (C:Ctx) (r:V):Exit→Act→World→Prop:=bodyPostM Fence.wide 3 P fn (Ans C r)
theorem Man.fin (hF:∀ b,¬ C.Fz b) (h:fin P fn r .ret st):∀ g a w,SRep C g st a w→ManR P fn C r .ret a w:=fun g a w S=>by
 obtain ⟨h1,v,h2,h3⟩:=fin_main S hF h
 show LeavesInM Fence.wide 3 P fn a.tmps (Ans C r) a.defers .returning w
 rw [h1]
 exact ⟨v,h2,h3⟩
theorem con_of_man {f:FuncId} {c:Code} {us:List V} (hf:P.funcs[f]? = some fn) (hb:fn.body=some c) (hname:(fn.name == "runtime.NumGoroutine")=false) (hN:Nat.ble us.length fn.ntmps=true)
 (h:∀ C:Ctx,C.N=fn.ntmps→C.L.length=0→(∀ b,¬ C.Fz b)→Man P C c (ManR P fn C r) (enter us)):Con P f us r:=by
 refine ⟨fun vs w=>by
  have h1:fn.name ≠ "runtime.NumGoroutine" := by simpa using hname
  simp [callFunc,hf,h1,hb],fun p w vs hp htab hr=>?_⟩
 have hN:=Nat.le_of_ble_eq_true hN
 have S:=enter_rep fn.ntmps hN hp htab hr
 exact callsIn_wide.1 (callsIn_of_wp_marks (F:=Fence.wide) (n:=3) hf hb trivial (wpIn_wide.2 (h _ rfl rfl (fun _ h=>h) _ _ w S)) rfl)
end
end Go.Rf
end
section
namespace Go.Rf
open Go.RowKit
set_option linter.unusedVariables false
abbrev X.w (v:V):X:=.d (.v v)
theorem All.c {p:Prop} {l:List Prop} (h:p) (k:All l):All (p :: l):=.cons h k
theorem All.n:All []:=.nil
theorem AllQ.c {a b:List Prop} {l:List (List Prop × List Prop)} (h:All a) (k:All b) (m:AllQ l):AllQ ((a,b) :: l):=.cons h k m
theorem AllQ.n:AllQ []:=.nil
def Tr.qs:Nat→Nat→Tr→Tr
 | 0,_,r=>r
 | n+1,a,r=>.q a [] (Tr.qs n (a+1) r)
def Tr.is:Nat→Nat→Tr→Tr
 | 0,_,r=>r
 | n+1,a,r=>.i a (Tr.is n (a+1) r)
theorem bq {α:Type} [BEq α] [LawfulBEq α] {a b:α} (h:a=b):(a == b)=true:=beq_iff_eq.2 h
theorem bn {α:Type} [BEq α] [LawfulBEq α] {a b:α} (h:a≠b):(a == b)=false:=beq_eq_false_iff_ne.2 h
theorem nq {α:Type} [BEq α] [LawfulBEq α] {a b:α} (h:a≠b):(a != b)=true:=bne_iff_ne.2 h
theorem dt {p:Prop} [Decidable p] (h:p):decide p=true:=decide_eq_true h
theorem df {p:Prop} [Decidable p] (h:¬ p):decide p=false:=decide_eq_false h
theorem bf {b:Bool} (h:b≠true):b=false:=Bool.eq_false_iff.2 h
section
variable [Tabs] {P:Program} {C:Ctx} {Q:Exit→St→Prop} {st:St}
theorem Sw {x y:Code} (h:Good P C x (thenS (Good P C y Q) Q) st):Good P C (.seq x y) Q st:=.seq h
theorem Bl {i:Nat} {x:Code} (h:Good P C x (blockS i Q) st):Good P C (.block i x) Q st:=.block h
theorem Sk (h:Q .normal st):Good P C .skip Q st:=.skip h
theorem Ex {i:Nat} (h:Q (.exit i) st):Good P C (.exit i) Q st:=.exit h
theorem Ct {c:Operand} {x y:Code} {b:Bool} (ht:b=true) (h:Good P C x Q st) (hb:litB st c=some b:=by kernel_rfl):Good P C (.cond c x y) Q st:=.condT ht hb h
theorem Cf {c:Operand} {x y:Code} {b:Bool} (ht:b=false) (h:Good P C y Q st) (hb:litB st c=some b:=by kernel_rfl):Good P C (.cond c x y) Q st:=.condF ht hb h
theorem Rg {id N:Nat} {ops:Array Oper} (hN:C.N=N) (k:Q .normal (outS (evOps P N ops (List.range ops.size) ⟨[],[],st,[],[]⟩))) (h:outO (evOps P N ops (List.range ops.size) ⟨[],[],st,[],[]⟩)=some []:=by kernel_rfl):Good P C (.region id ops false) Q st:=.reg hN [] .nil [] h k
theorem Rh {id N:Nat} {ops:Array Oper} {obs:List Prop} (hN:C.N=N) (hs:List V) (hA:All obs) (k:Q .normal (outS (evOps P N ops (List.range ops.size) ⟨hs,[],st,[],[]⟩))) (h:outO (evOps P N ops (List.range ops.size) ⟨hs,[],st,[],[]⟩)=some obs:=by kernel_rfl):Good P C (.region id ops false) Q st:=.reg hN hs hA [] h k
theorem Ri {id N:Nat} {ops:Array Oper} {obs:List Prop} (hN:C.N=N) (hs:List V) (hA:All obs) (rw:List (Nat × Value)) (k:Q .normal (outS (evOps P N ops (List.range ops.size) ⟨hs,[],st,rw,[]⟩))) (h:outO (evOps P N ops (List.range ops.size) ⟨hs,[],st,rw,[]⟩)=some obs:=by kernel_rfl):Good P C (.region id ops false) Q st:=.reg hN hs hA rw h k
theorem Rj {id N:Nat} {ops:Array Oper} {obs:List Prop} (hN:C.N=N) (hs:List V) (hA:All obs) (rw:List (Nat × Value)) (fx:List (Nat × V)) (k:Q .normal (outS (evOps P N ops (List.range ops.size) ⟨hs,[],st,rw,fx⟩))) (h:outO (evOps P N ops (List.range ops.size) ⟨hs,[],st,rw,fx⟩)=some obs:=by kernel_rfl):Good P C (.region id ops false) Q st:=.regF hN hs hA rw fx h k
theorem Rd {id N:Nat} {ops:Array Oper} {obs obq:List Prop} (hm:P.follows .mixedOrders=true) (hN:C.N=N) (t:Tr) (ks:List (Nat × Option V)) {os:List Prop} (hO:All os) (hs hq:List V) (hA:All obs) (hB:All obq) (rw:List (Nat × Value)) (fx:List (Nat × V)) (k:Q .normal (outD (evR P N ops t st ks hs hq rw fx)))
 (hks:outQo (qInit st ks)=some os:=by kernel_rfl) (hc:(Region.noSelect ops && Nat.beq t.cnt ops.size)=true:=by kernel_rfl) (h:outP (evR P N ops t st ks hs hq rw fx)=some [(obs,obq)]:=by kernel_rfl):Good P C (.region id ops true) Q st:=.regDF hm hN t ks hks hO hs hq hA hB rw fx hc h k
theorem Rt (h:Q .ret st):Good P C .ret Q st:=.ret h
theorem dR {fn:Func} {r:V} (h:resO P fn st=some r:=by kernel_rfl):fin P fn r .ret st:=fin.doneR h
theorem Wo {C:Ctx} (ks:List (Nat × Nat)) {st:St} {env:List (Nat × X)} {box:List Box} (h:restr st.env ks=some env:=by kernel_rfl) (hb:st.box=box:=by kernel_rfl):Wk C st ⟨env,box⟩:=Wk.of ks h hb
end
section
variable [Tabs]
theorem Cg {P:Program} {f:FuncId} {fn:Func} {c:Code} {us:List V} {r:V} (hf:P.funcs[f]? = some fn) (hb:fn.body=some c) (h:∀ C:Ctx,C.N=fn.ntmps→C.L.length=0→Good P C c (fin P fn r) (enter us)) (hname:(fn.name == "runtime.NumGoroutine")=false:=by kernel_rfl) (hN:Nat.ble us.length fn.ntmps=true:=by kernel_rfl):Con P f us r:=con_of_good hf hb hname hN h
end
end Go.Rf
end
section
namespace Go.Rf
open Go.RowKit Go.ChangeShapes Go.WideShapes
set_option linter.unusedVariables false
set_option linter.unusedSimpArgs false
def OpL {α:Type} (P:Program) (t:TypeId) (sz:Nat) (f:α→List V) (G:α→Prop):Prop :=
 ∀ (H:Type) (enc:TypeId × Value→H) (w:World) (base:Nat) (spare:Nat→Bool) (held:Bool) (fuel:Nat) (cs:List Value) (x:DataW H × List MemPlace),
  DataW.trod enc P w base spare held fuel t cs=some x→∃ a,cs.length=sz∧RepL (fun b=>b < w.heap.size) w cs (f a) []∧(∀ u∈cs,u.oneCell'=true)∧G a
theorem OpL.int {P:Program} {t:TypeId} {k:IntKind} (ht:P.underlying t=some (.int k)):OpL P t 1 (fun n:Int=>[.lit (.int k n)]) (fun n=>(Lit.int k n).wf=true):=by
 intro H enc w base spare held fuel cs x hx
 obtain ⟨n,rfl,_,hw⟩:=DataW.trod_int ht hx
 exact ⟨n,rfl,.cons (A:=[]) (.lit _) .nil,by simp [Value.oneCell'],hw⟩
theorem OpL.bool {P:Program} {t:TypeId} (ht:P.underlying t=some .bool):OpL P t 1 (fun b:Bool=>[.lit (.bool b)]) (fun _=>True):=by
 intro H enc w base spare held fuel cs x hx
 obtain ⟨n,rfl,_⟩:=DataW.trod_bool ht hx
 exact ⟨n,rfl,.cons (A:=[]) (.lit _) .nil,by simp [Value.oneCell'],trivial⟩
theorem OpL.string {P:Program} {t:TypeId} (ht:P.underlying t=some .string):OpL P t 1 (fun s:ByteArray=>[.lit (.string s)]) (fun s=>s.size≤maxLen):=by
 intro H enc w base spare held fuel cs x hx
 obtain ⟨s,rfl,_,hw⟩:=DataW.trod_string ht hx
 exact ⟨s,rfl,.cons (A:=[]) (.lit _) .nil,by simp [Value.oneCell'],hw⟩
theorem opMapM (w:World) (a:Addr):∀ (l:List Nat) (cs:List Value),l.mapM (fun i=>w.cell? (a.add i))=some cs→cs.length=l.length∧∀ (i j:Nat) u,l[i]? = some j→cs[i]? = some u→w.cell? (a.add j)=some u
 | [],cs,h=>by
  simp at h
  subst h
  exact ⟨rfl,fun i j u h=>by simp at h⟩
 | p :: l,cs,h=>by
  rw [List.mapM_cons] at h
  cases hc:w.cell? (a.add p) with
  | none=>simp [hc] at h
  | some v =>
   cases hr:l.mapM (fun i=>w.cell? (a.add i)) with
   | none=>simp [hc,hr] at h
   | some cs' =>
    simp [hc,hr] at h
    subst h
    obtain ⟨hl,hf⟩:=opMapM w a l cs' hr
    refine ⟨by simp [hl],fun i j u hi hu=>?_⟩
    cases i with
    | zero =>
     simp at hi hu
     subst hi
     subst hu
     exact hc
    | succ i=>exact hf i j u (by simpa using hi) (by simpa using hu)
theorem opCells {w:World} {base:Nat} {a:Addr} {n:Nat} {cs:List Value} (h:w.cells? base a n=some cs):cs.length=n∧∀ (i:Nat) u,cs[i]? = some u→w.cell? (a.add i)=some u:=by
 unfold World.cells? at h
 split at h
 ·obtain ⟨hl,hf⟩:=opMapM w a _ cs h
  rw [List.length_range] at hl
  refine ⟨hl,fun i u hu=>hf i i u ?_ hu⟩
  have:i < n:=by rw [← hl];exact (List.getElem?_eq_some_iff.1 hu).1
  rw [List.getElem?_range this]
 ·cases h
theorem opAdd (a:Addr) (m i:Nat):(a.add m).add i=a.add (m+i):=by
 unfold Addr.add
 by_cases h1:m=0
 ·subst h1;simp
 ·by_cases h2:i=0
  ·subst h2;simp [h1]
  ·simp [h1,h2,Nat.add_assoc]
theorem opCellAt {w:World} {b o:Nat} {s:Option Nat} {u:Value} (h:w.cell? ⟨b,o,s⟩=some u):s=none∧b < w.heap.size:=by
 unfold World.cell? at h
 cases hh:w.heap[b]? with
 | none=>simp [hh] at h
 | some x =>
  refine ⟨?_,(Array.getElem?_eq_some_iff.1 hh).1⟩
  simp only [hh] at h
  cases s with
  | none=>rfl
  | some n =>
   cases x<;>simp at h
theorem repL_len {p:Pub} {w:World}:∀ {vs:List Value} {cs:List V} {A:List Nat},RepL p w vs cs A→vs.length=cs.length
 | _,_,_,.nil=>rfl
 | _,_,_,.cons _ h=>by rw [List.length_cons,List.length_cons,repL_len h]
theorem opRows {α:Type} {w:World} {sz:Nat} {f:α→List V} {G:α→Prop} (a:Addr) (len:Nat) (each:∀ i,i < len→∃ b c,c.length=sz∧RepL (fun b=>b < w.heap.size) w c (f b) []∧(∀ u∈c,u.oneCell'=true)∧(∀ (j:Nat) u,c[j]? = some u→w.cell? (a.add (i*sz+j))=some u)∧G b) :
 ∃ (l:List α) (xs:List Value),l.length=len∧xs.length=len*sz∧RepL (fun b=>b < w.heap.size) w xs (l.flatMap f) []∧(∀ u∈xs,u.oneCell'=true)∧(∀ (j:Nat) u,xs[j]? = some u→w.cell? (a.add j)=some u)∧∀ b∈l,G b∧(f b).length=sz:=by
 induction len with
 | zero=>exact ⟨[],[],rfl,by simp,.nil,by simp,by simp,by simp⟩
 | succ len ih =>
  obtain ⟨l,xs,h1,h2,h3,h4,h5,h6⟩:=ih (fun i hi=>each i (by omega))
  obtain ⟨b,c,c1,c2,c3,c4,c5⟩:=each len (by omega)
  refine ⟨l++[b],xs++c,by simp [h1],by rw [List.length_append,h2,c1,Nat.succ_mul],?_,?_,?_,?_⟩
  ·rw [List.flatMap_append,List.flatMap_singleton]
   exact h3.app c2
  ·intro u hu
   rcases List.mem_append.1 hu with hu | hu
   ·exact h4 u hu
   ·exact c3 u hu
  ·intro j u hj
   by_cases g:j < xs.length
   ·rw [List.getElem?_append_left g] at hj
    exact h5 j u hj
   ·rw [List.getElem?_append_right (by omega)] at hj
    have:=c4 _ u hj
    rwa [show len*sz+(j - xs.length)=j by omega] at this
  ·intro x hx
   rcases List.mem_append.1 hx with hx | hx
   ·exact h6 x hx
   ·rw [List.mem_singleton] at hx
    subst hx
    exact ⟨c5,by rw [← repL_len c2,c1]⟩
theorem OpL.slice {α:Type} {P:Program} {t e:TypeId} {sz:Nat} {f:α→List V} {G:α→Prop} (ht:P.underlying t=some (.slice e)) (hc:P.cellsOf e=sz) (h:OpL P e sz f G) (hv:α→V) (hvc:∀ a,(hv a).cells=f a) :
 OpL P t 1 (fun l:List α=>[.row none sz (l.map hv)]) (fun l=>l.length≤maxLen∧∀ a∈l,G a):=by
 intro H enc w base spare held fuel cs x hx
 rcases DataW.trod_slice ht hx with ⟨rfl,_⟩ | ⟨a,len,cap,elems,rest,n,rfl,rfl,_,_,hl,hm,hlen,hel,_⟩
 ·exact ⟨[],rfl,.cons (A:=[]) (.shared (es:=[]) (xs:=[]) (Nat.zero_le _) (by simp) .nil (by simp) (by simp)) .nil,by simp [Value.oneCell'],by simp,fun a ha=>by cases ha⟩
 ·have each:∀ i,i < len→∃ b c,c.length=sz∧RepL (fun b=>b < w.heap.size) w c (f b) []∧(∀ u∈c,u.oneCell'=true)∧(∀ (j:Nat) u,c[j]? = some u→w.cell? (a.add (i*sz+j))=some u)∧G b:=by
   intro i hi
   have h1:=hel i hi
   rw [List.getElem?_eq_getElem (by omega:i < elems.length),Option.bind_eq_some_iff,hc] at h1
   obtain ⟨c,hcs,hy⟩:=h1
   obtain ⟨b,hb,hr,ho,hg⟩:=h H enc w base spare held n c _ hy
   obtain ⟨hcl,hcc⟩:=opCells hcs
   exact ⟨b,c,hb,hr,ho,fun j u hu=>by rw [← opAdd];exact hcc j u hu,hg⟩
  obtain ⟨l,xs,h1,h2,h3,h4,h5,h6⟩:=opRows a len each
  refine ⟨l,rfl,.cons (A:=[]) ?_ .nil,by simp [Value.oneCell'],by omega,fun b hb=>(h6 b hb).1⟩
  obtain rfl:len=(l.map hv).length:=by rw [List.length_map,h1]
  obtain ⟨b,o,s⟩:=a
  refine .shared hl (fun e he=>?_) (xs:=xs) ?_ h4 (fun j u hj=>?_)
  ·obtain ⟨y,hy,rfl⟩:=List.mem_map.1 he
   rw [hvc]
   exact (h6 y hy).2
  ·rw [List.flatMap_map]
   simp only [hvc]
   exact h3
  ·have hj':j < xs.length:=(List.getElem?_eq_some_iff.1 hj).1
   have h0:=h5 0 _ (List.getElem?_eq_getElem (by omega:0 < xs.length))
   obtain ⟨rfl,hb⟩:=opCellAt (show w.cell? ⟨b,o,s⟩=some _ from h0)
   refine ⟨b,o,rfl,hb,?_⟩
   have:=h5 j u hj
   by_cases g:j=0
   ·subst g;exact this
   ·unfold Addr.add at this
    rw [if_neg g] at this
    exact this
def OpF {α:Type} (P:Program) (fs:List Field) (off sz:Nat) (f:α→List V) (G:α→Prop):Prop :=
 ∀ (H:Type) (enc:TypeId × Value→H) (w:World) (base:Nat) (spare:Nat→Bool) (held:Bool) (n:Nat) (cs:List Value),
  off+sz≤cs.length→(∀ f∈fs,∃ y,DataW.trod enc P w base spare held n f.type ((cs.drop f.offset).take (P.cellsOf f.type))=some y) →
   ∃ a,RepL (fun b=>b < w.heap.size) w ((cs.drop off).take sz) (f a) []∧(∀ u∈(cs.drop off).take sz,u.oneCell'=true)∧G a
theorem OpF.last {α:Type} {P:Program} {g:Field} {off sz:Nat} {f:α→List V} {G:α→Prop} (ho:g.offset=off) (hc:P.cellsOf g.type=sz) (h:OpL P g.type sz f G):OpF P [g] off sz f G:=by
 intro H enc w base spare held n cs hl hf
 obtain ⟨y,hy⟩:=hf g (by simp)
 rw [ho,hc] at hy
 obtain ⟨a,_,h1,h2,h3⟩:=h H enc w base spare held n _ y hy
 exact ⟨a,h1,h2,h3⟩
theorem OpF.cons {α β:Type} {P:Program} {g:Field} {fs:List Field} {off s1 s2:Nat} {f:α→List V} {f2:β→List V} {G:α→Prop} {G':β→Prop} (ho:g.offset=off) (hc:P.cellsOf g.type=s1) (h:OpL P g.type s1 f G) (hr:OpF P fs (off+s1) s2 f2 G') :
 OpF P (g :: fs) off (s1+s2) (fun p:α × β=>f p.1++f2 p.2) (fun p=>G p.1∧G' p.2):=by
 intro H enc w base spare held n cs hl hf
 obtain ⟨y,hy⟩:=hf g (by simp)
 rw [ho,hc] at hy
 obtain ⟨a,_,h1,h2,h3⟩:=h H enc w base spare held n _ y hy
 obtain ⟨b,k1,k2,k3⟩:=hr H enc w base spare held n cs (by omega) (fun g hg=>hf g (by simp [hg]))
 have e:(cs.drop off).take (s1+s2)=(cs.drop off).take s1++(cs.drop (off+s1)).take s2:=by rw [List.take_add,List.drop_drop]
 refine ⟨(a,b),?_,?_,h3,k3⟩
 ·rw [e];exact h1.app k1
 ·rw [e];intro u hu
  rcases List.mem_append.1 hu with hu | hu
  ·exact h2 u hu
  ·exact k2 u hu
theorem OpL.struct {α β:Type} {P:Program} {t:TypeId} {fs:Array Field} {sz:Nat} {f:α→List V} {G:α→Prop} (ht:P.underlying t=some (.struct fs)) (hc:P.cellsOf t=sz) (h:OpF P fs.toList 0 sz f G) (g:α→β) (f':β→List V) (G':β→Prop) (hf':∀ a,f' (g a)=f a) (hG:∀ a,G a→G' (g a)) :
 OpL P t sz f' G':=by
 intro H enc w base spare held fuel cs x hx
 obtain ⟨xs,n,_,_,hl,hlen,hf⟩:=DataW.trod_struct ht hx
 obtain ⟨a,h1,h2,h3⟩:=h H enc w base spare held n cs (by omega) (fun q hq=>by
  obtain ⟨i,hi⟩:=List.getElem?_of_mem hq
  have hi':fs[i]? = some q:=by simpa using hi
  have hlt:i < xs.length:=by
   have:=(List.getElem?_eq_some_iff.1 hi).1
   simp at this
   omega
  exact ⟨xs[i],by rw [hf i q hi',List.getElem?_eq_getElem hlt]⟩)
 rw [List.drop_zero,List.take_of_length_le (by omega)] at h1 h2
 exact ⟨g a,by omega,by rw [hf'];exact h1,h2,hG a h3⟩
theorem OpL.get {α:Type} {P:Program} {t:TypeId} {sz:Nat} {f:α→List V} {G:α→Prop} (h:OpL P t sz f G) {H:Type} {enc:TypeId × Value→H} {w:World} {base:Nat} {spare:Nat→Bool} {held:Bool} {v:Value} {x:DataW H} {ps:List MemPlace}
 (hx:DataW.Trod enc P w base spare held t v x ps):∃ a,RepL (fun b=>b < w.heap.size) w v.cells.toList (f a) []∧G a:=by
 obtain ⟨fuel,hf⟩:=hx
 obtain ⟨a,_,h1,_,h2⟩:=h H enc w base spare held fuel _ _ hf
 exact ⟨a,h1,h2⟩
theorem Rep.ofCells {p:Pub} {w:World} {cs:Array Value} {l:List V} (h:RepL p w cs.toList l []):Rep p w (.agg cs) (.agg l) []:=by
 have:=Rep.agg h
 rwa [Array.toArray_toList] at this
end Go.Rf
end
section
namespace Go.Rf
open Go.RowKit
set_option linter.unusedVariables false
set_option linter.unusedSimpArgs false
def Ev {α:Type} (g:Nat→Option α) (r:α):Prop:=∃ K,∀ k,K≤k→g k=some r
namespace Ev
variable {α β:Type}
theorem now (r:α):Ev (fun _=>some r) r:=⟨0,fun _ _=>rfl⟩
theorem rounds {g:Nat→Option α} {r:α}:Ev g r→∃ k,g k=some r:=fun ⟨K,h⟩=>⟨K,h K (Nat.le_refl K)⟩
theorem step {g f:Nat→Option α} {r:α} (h:∀ k,g (k+1)=f k):Ev f r→Ev g r:=fun ⟨K,e⟩=>⟨K+1,fun k hk=>by
 match k,hk with
 | k+1,hk=>rw [h k];exact e k (Nat.le_of_succ_le_succ hk)⟩
theorem congr {g f:Nat→Option α} {r:α} (h:∀ k,g k=f k):Ev f r→Ev g r:=fun ⟨K,e⟩=>⟨K,fun k hk=>(h k).trans (e k hk)⟩
theorem bind {g:Nat→Option α} {f:Nat→α→Option β} {a:α} {r:β}:Ev g a→Ev (fun n=>f n a) r→Ev (fun n=>(g n).bind (f n)) r:=fun ⟨K,e⟩ ⟨L,d⟩=>⟨max K L,fun k hk=>by
 show (g k).bind (f k)=some r
 rw [e k (by omega)]
 exact d k (by omega)⟩
theorem bindc {g:Option α} {f:Nat→α→Option β} {a:α} {r:β} (h:g=some a) (k:Ev (fun n=>f n a) r):Ev (fun n=>g.bind (f n)) r:=by subst h;exact k
theorem ifp {c:Prop} [Decidable c] {f g:Nat→Option α} {r:α} (h:c) (k:Ev f r):Ev (fun n=>if c then f n else g n) r:=by simp only [if_pos h];exact k
theorem ifn {c:Prop} [Decidable c] {f g:Nat→Option α} {r:α} (h:¬ c) (k:Ev g r):Ev (fun n=>if c then f n else g n) r:=by simp only [if_neg h];exact k
theorem ite {c:Prop} [Decidable c] {f g:Nat→Option α} {r s:α} (k:c→Ev f r) (k':¬ c→Ev g s):Ev (fun n=>if c then f n else g n) (if c then r else s):=by
 by_cases h:c
 ·simp only [if_pos h];exact k h
 ·simp only [if_neg h];exact k' h
theorem eq {g:Nat→Option α} {r s:α} (h:Ev g r) (e:r=s):Ev g s:=e ▸ h
theorem const {g:Option α} {r:α} (h:g=some r):Ev (fun _=>g) r:=⟨0,fun _ _=>h⟩
theorem from_ {g:Nat→Option α} {r:α} (n:Nat) (h:∀ k,g (k+n)=some r):Ev g r:=⟨n,fun k hk=>by
 have:=h (k - n)
 rwa [Nat.sub_add_cancel hk] at this⟩
theorem all {g:Nat→Nat→Option α} {r:Nat→α}:∀ n:Nat,(∀ i,i < n→Ev (g i) (r i))→∃ K,∀ k,K≤k→∀ i,i < n→g i k=some (r i)
 | 0,_=>⟨0,fun _ _ i hi=>by omega⟩
 | n+1,h=>by
  obtain ⟨K,hK⟩:=all n fun i hi=>h i (by omega)
  obtain ⟨L,hL⟩:=h n (by omega)
  refine ⟨max K L,fun k hk i hi=>?_⟩
  by_cases e:i=n
  ·subst e;exact hL k (by omega)
  ·exact hK k (by omega) i (by omega)
theorem det {g:Nat→Option α} {r s:α}:Ev g r→Ev g s→r=s:=fun ⟨K,h⟩ ⟨L,k⟩=>Option.some.inj ((h (max K L) (by omega)).symm.trans (k (max K L) (by omega)))
end Ev
theorem data_length (s:ByteArray):s.data.toList.length=s.size:=Array.length_toList
theorem rd_bytesOf (s:ByteArray) (i:Int):rd (bytesOf s) i=bt s i:=by
 have e:(bytesOf s)[i.toNat]? = (s.data.toList[i.toNat]?).map fun b=>(b.toNat:Int):=List.getElem?_map ..
 rw [rd,List.getD_eq_getElem?_getD,e]
 by_cases h:i.toNat < s.size
 ·rw [List.getElem?_eq_getElem (by rw [data_length];exact h),bt,dif_pos h]
  rfl
 ·rw [List.getElem?_eq_none (by rw [data_length];omega),bt,dif_neg h]
  rfl
def OkB (l:List Int):Prop:=∀ x∈l,0≤x∧x < 256
theorem OkB.nil:OkB []:=by intro x hx;cases hx
theorem OkB.cons {x:Int} {l:List Int} (h0:0≤x) (h1:x < 256) (h:OkB l):OkB (x :: l):=by
 intro y hy
 rcases List.mem_cons.1 hy with rfl | hy
 ·exact ⟨h0,h1⟩
 ·exact h y hy
theorem OkB.head {x:Int} {l:List Int} (h:OkB (x :: l)):0≤x∧x < 256:=h x (List.mem_cons_self ..)
theorem OkB.tail {x:Int} {l:List Int} (h:OkB (x :: l)):OkB l:=fun y hy=>h y (List.mem_cons_of_mem _ hy)
theorem OkB.append {l m:List Int} (h:OkB l) (k:OkB m):OkB (l++m):=by
 intro y hy
 rcases List.mem_append.1 hy with hy | hy
 ·exact h y hy
 ·exact k y hy
theorem OkB.take {l:List Int} (h:OkB l) (n:Nat):OkB (l.take n):=fun y hy=>h y (List.mem_of_mem_take hy)
theorem OkB.drop {l:List Int} (h:OkB l) (n:Nat):OkB (l.drop n):=fun y hy=>h y (List.mem_of_mem_drop hy)
theorem OkB.get {l:List Int} (h:OkB l) (i:Nat) (hi:i < l.length):0≤l[i]∧l[i] < 256:=h _ (List.getElem_mem hi)
theorem OkB.replicate (n:Nat):OkB (List.replicate n 0):=by
 intro y hy
 obtain rfl:=(List.mem_replicate.1 hy).2
 omega
theorem OkB.set {l:List Int} (h:OkB l) (i:Nat) {x:Int} (h0:0≤x) (h1:x < 256):OkB (l.set i x):=by
 intro y hy
 rcases List.mem_or_eq_of_mem_set hy with hy | rfl
 ·exact h y hy
 ·exact ⟨h0,h1⟩
theorem OkB.reverse {l:List Int} (h:OkB l):OkB l.reverse:=fun y hy=>h y (List.mem_reverse.1 hy)
theorem OkB.one {x:Int} (h0:0≤x) (h1:x < 256):OkB [x]:=OkB.cons h0 h1 OkB.nil
theorem toList_loop (s:ByteArray) (n:Nat):∀ (i:Nat) (r:List UInt8),s.size - i=n→ByteArray.toList.loop s i r=r.reverse++s.data.toList.drop i:=by
 induction n with
 | zero =>
  intro i r h
  rw [ByteArray.toList.loop,if_neg (by omega)]
  rw [List.drop_eq_nil_of_le (by rw [Array.length_toList];show s.size≤i;omega)];simp
 | succ n ih =>
  intro i r h
  have hlt:i < s.size:=by omega
  have hlt':i < s.data.toList.length:=by rw [Array.length_toList];exact hlt
  rw [ByteArray.toList.loop,if_pos hlt,ih (i+1) _ (by omega),List.reverse_cons,List.append_assoc,List.drop_eq_getElem_cons hlt']
  have hg:s.get! i=s.data.toList[i]:=by
   have hd:i < s.data.size:=hlt
   cases s with
   | mk d=>simp only [ByteArray.get!];rw [getElem!_pos d i hd];simp
  rw [hg]
  rfl
theorem toList_data (s:ByteArray):s.toList=s.data.toList:=by
 unfold ByteArray.toList
 rw [toList_loop s _ 0 [] rfl]
 simp
theorem bytesOf_ok (s:ByteArray):OkB (bytesOf s):=by
 intro x hx
 simp only [bytesOf,List.mem_map] at hx
 obtain ⟨b,_,rfl⟩:=hx
 have:=b.toNat_lt
 omega
theorem strOfNums_bytesOf (s:ByteArray):strOfNums (bytesOf s)=s:=by
 cases s with
 | mk d =>
  simp only [strOfNums,bytesOf,List.map_map]
  have:((fun n:Int=>UInt8.ofNat n.toNat) ∘ fun b:UInt8=>(b.toNat:Int))=id:=by
   funext b
   simp
  rw [this]
  simp
theorem str_nums (s:ByteArray):∃ l,OkB l∧s=strOfNums l:=⟨bytesOf s,bytesOf_ok s,(strOfNums_bytesOf s).symm⟩
theorem bytesOf_nums {l:List Int} (h:OkB l):bytesOf (strOfNums l)=l:=by
 simp only [strOfNums,bytesOf,List.map_map]
 induction l with
 | nil=>rfl
 | cons x l ih =>
  have h1:=h.head
  have:=ih h.tail
  simp only [List.map_cons,Function.comp] at this ⊢
  rw [this]
  congr 1
  rw [UInt8.toNat_ofNat']
  omega
theorem nums_size (l:List Int):(strOfNums l).size=l.length:=strOfNums_size l
theorem nums_sizeI (l:List Int):((strOfNums l).size:Int)=(l.length:Int):=by rw [strOfNums_size]
theorem nums_inj {l m:List Int} (hl:OkB l) (hm:OkB m):strOfNums l=strOfNums m↔l=m:=by
 constructor
 ·intro h
  have:=congrArg bytesOf h
  rwa [bytesOf_nums hl,bytesOf_nums hm] at this
 ·rintro rfl
  rfl
theorem nums_toList {l m:List Int} (hl:OkB l) (hm:OkB m):(strOfNums l).toList=(strOfNums m).toList↔l=m:=by
 rw [toList_data,toList_data,← nums_inj hl hm]
 constructor
 ·intro h
  have h2:(strOfNums l).data=(strOfNums m).data:=by rw [← Array.toList_inj];exact h
  cases hx:strOfNums l
  cases hy:strOfNums m
  rw [hx,hy] at h2
  simp only at h2
  rw [h2]
 ·intro h
  rw [h]
theorem nums_toList_nil (l:List Int):(strOfNums l).toList=[]↔l=[]:=by
 rw [toList_data,strOfNums_data]
 simp
theorem str_data_append (a b:ByteArray):(a++b).data.toList=a.data.toList++b.data.toList:=by
 rw [ByteArray.data_append]
 simp
theorem str_append (l m:List Int):strOfNums l++strOfNums m=strOfNums (l++m):=by
 have h:(strOfNums l++strOfNums m).data.toList=(strOfNums (l++m)).data.toList:=by
  rw [str_data_append,strOfNums_data,strOfNums_data,strOfNums_data,List.map_append]
 cases hx:(strOfNums l++strOfNums m)
 cases hy:strOfNums (l++m)
 rw [hx,hy] at h
 simp only at h
 rw [Array.toList_inj] at h
 rw [h]
theorem str_extract (l:List Int) (a b:Nat):(strOfNums l).extract a b=strOfNums ((l.drop a).take (b - a)):=by
 have h:((strOfNums l).extract a b).data.toList=(strOfNums ((l.drop a).take (b - a))).data.toList:=by
  rw [Lib.extract_data,strOfNums_data,strOfNums_data,List.map_take,List.map_drop]
 cases hx:((strOfNums l).extract a b)
 cases hy:strOfNums ((l.drop a).take (b - a))
 rw [hx,hy] at h
 simp only at h
 rw [Array.toList_inj] at h
 rw [h]
theorem nums_nil:(⟨#[]⟩:ByteArray)=strOfNums []:=rfl
theorem nums_bt {l:List Int} (hl:OkB l) (i:Nat) (h:i < l.length):bt (strOfNums l) (i:Int)=l[i]:=by
 rw [← rd_bytesOf,bytesOf_nums hl]
 simp [rd,List.getD_eq_getElem?_getD,h]
theorem rd_get {l:List Int} (i:Nat) (h:i < l.length):rd l (i:Int)=l[i]:=by
 simp [rd,List.getD_eq_getElem?_getD,h]
theorem rdOf_get {α:Type} (d:α) {l:List α} (i:Nat) (h:i < l.length):rdOf d l (i:Int)=l[i]:=by
 simp [rdOf,List.getD_eq_getElem?_getD,h]
theorem w64 {x:Int} (h0 : -9223372036854775808≤x) (h1:x≤9223372036854775807):wrap64 x=x:=by unfold wrap64;omega
theorem wu64 {x:Int} (h0:0≤x) (h1:x < 18446744073709551616):IntKind.u64.wrap x=x:=by
 simp only [IntKind.wrap,IntKind.bits,IntKind.signed];simp;omega
theorem wu64_mod (x:Int):IntKind.u64.wrap x=x % 18446744073709551616:=by
 simp only [IntKind.wrap,IntKind.bits,IntKind.signed];simp
end Go.Rf
end
