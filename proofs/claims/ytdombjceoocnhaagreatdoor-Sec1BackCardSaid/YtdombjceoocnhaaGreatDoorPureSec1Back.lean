/- What is written of a curve's key is read as it was, and is as long as Size says; what is read is written so again, for scalars of up to 200 bytes and bytes of up to 500. -/
import Derived.Test.YtdombjceoocnhaaGreatDoorPureSec1Back0
set_option linter.unusedSectionVars false
set_option linter.unusedSimpArgs false
set_option linter.unusedVariables false
namespace Go.Proofs.YtdombjceoocnhaaGreatDoor.Pure
open Go Go.RowKit Go.Rf Go.Rf.T
theorem j2_is (s:ByteArray) (T:List Nd) (F To:List Int) (p dep x y a b:Int) (c:Bool) (d:ByteArray) (tl:Nat) (hT:T.length=tl) (hF:F.length=tl) (hTo:To.length=tl) (ht:tl < 1000) {r:RR}
 (h:if c=true then Ev (fun k=>cr19_walk_element.l0 k dep y (tl:Int) x s (T++[nd a b c d []]) (F++[p]) (To++[y])) r else r=(y,0,0,s,T++[nd a b c d []],F++[p],To++[y])):Ev (fun k=>cr19_walk_element.j2 k p dep x y (T.length:Int) s T F To c a b c d) r:=by
 refine Ev.step (fun k=>by rw [cr19_walk_element.j2]) ?_
 refine Ev.ifp (by omega) (Ev.bindc rfl (Ev.ifp (by omega) (Ev.bindc rfl (Ev.ifp (by omega) (Ev.bindc rfl ?_)))))
 rw [hT]
 cases c with
 | true=>rw [if_pos rfl] at h;exact Ev.ifp rfl h
 | false=>rw [if_neg (by decide)] at h;subst h;exact Ev.ifn (by decide) (Ev.now _)
theorem j1_is (l:List Int) (T:List Nd) (F To:List Int) (p dep a b:Int) (c:Bool) (x v:Nat) (hx:x+v≤l.length) (tl:Nat) (hT:T.length=tl) (hF:F.length=tl) (hTo:To.length=tl) (ht:tl < 1000) {r:RR}
 (h:if c=true then Ev (fun k=>cr19_walk_element.l0 k dep ((x+v:Nat):Int) (tl:Int) x (strOfNums l) (T++[nd a b c ⟨#[]⟩ []]) (F++[p]) (To++[((x+v:Nat):Int)])) r else r=(((x+v:Nat):Int),0,0,strOfNums l,T++[nd a b c (strOfNums (seg l x (x+v))) []],F++[p],To++[((x+v:Nat):Int)])):Ev (fun k=>cr19_walk_element.j1 k p dep x ((x+v:Nat):Int) false (strOfNums l) T F To a b c) r:=by
 refine Ev.step (fun k=>by rw [cr19_walk_element.j1]) ?_
 refine Ev.ifn (by decide) ?_
 cases c with
 | true=>exact Ev.ifp rfl (j2_is _ T F To p dep _ _ a b true _ tl hT hF hTo ht h)
 | false =>
  refine Ev.ifn (by decide) (Ev.ifp (by omega) (Ev.ifp (by omega) (Ev.ifp (by rw [nums_sizeI];omega) ?_)))
  rw [Int.toNat_natCast,Int.toNat_natCast,str_extract]
  exact j2_is _ T F To p dep _ _ a b false _ tl hT hF hTo ht h
inductive Look
 | bad (c:Int)
 | ok (a b:Int) (c:Bool) (n v:Nat)
def LookBad (l:List Int) (p e dep tl:Nat) (code:Int):Prop:=code≠0∧(∀ (T:List Nd) (F To:List Int),T.length=tl→Ev (fun k=>cr19_walk_element.f k (strOfNums l) T F To (p:Int) (e:Int) ((dep:Int)+1)) (0,code,(p:Int),strOfNums l,T,F,To)) ∧
 ∀ (T:List Nd) (F To:List Int) (O:List Nat),Cond l T F To O e dep tl→Ev (fun k=>tlv_reader_read.g0_1 k (p:Int) (strOfNums l) T (spl F To) (iz O)) (code,(p:Int),strOfNums l,T,spl F To,iz O)
structure LookOk (l:List Int) (p e dep tl:Nat) (a b:Int) (c:Bool) (n v:Nat):Prop where
 n2:2≤n
 fit:p+n+v≤e
 htl:tl < 1000
 hdep:dep < 16
 a0:0≤a
 a1:a≤3
 b0:0≤b
 b1:b≤2097151
 hd:(seg l p e).take n=idB a b c++lenB v
 may:May a b c (seg l (p+n) (p+n+v))
 ref:∀ (T:List Nd) (F To:List Int) (r:RR),T.length=tl→F.length=tl→To.length=tl→(if c=true then Ev (fun k=>cr19_walk_element.l0 k ((dep:Int)+1) ((p+n+v:Nat):Int) (tl:Int) ((p+n:Nat):Int) (strOfNums l) (T++[nd a b c ⟨#[]⟩ []]) (F++[(p:Int)]) (To++[((p+n+v:Nat):Int)])) r else
  r=(((p+n+v:Nat):Int),0,0,strOfNums l,T++[nd a b c (strOfNums (seg l (p+n) (p+n+v))) []],F++[(p:Int)],To++[((p+n+v:Nat):Int)]))→Ev (fun k=>cr19_walk_element.f k (strOfNums l) T F To (p:Int) (e:Int) ((dep:Int)+1)) r
 prog:∀ (T:List Nd) (F To:List Int) (O:List Nat) (R:PR),Cond l T F To O e dep tl →
  (if c=true then Ev (fun k=>tlv_reader_read.j3 k ((p+n:Nat):Int) 0 (strOfNums l) (upd T O++[nd a b c ⟨#[]⟩ []]) (spl (F++[(p:Int)]) (To++[((p+n+v:Nat):Int)])) (iz (O++[tl]))) R else
   Ev (fun k=>tlv_reader_read.j3 k ((p+n+v:Nat):Int) 0 (strOfNums l) (upd T O++[nd a b c (strOfNums (seg l (p+n) (p+n+v))) []]) (spl (F++[(p:Int)]) (To++[((p+n+v:Nat):Int)])) (iz O)) R) →
  Ev (fun k=>tlv_reader_read.g0_1 k (p:Int) (strOfNums l) T (spl F To) (iz O)) R
theorem look_code (l:List Int) (hl:OkB l) (hs:l.length≤65535) (p e:Nat) (hpe:p < e) (he:e≤l.length) (dep tl:Nat) (hd:dep≤16) (code:Int) (hc:code≠0) (hh:headH (seg l p e)=noH code):LookBad l p e dep tl code :=
 ⟨hc,fun T F To hT=>ref_head l hl (by omega) p e hpe he _ T F To hh (rK1_bad _ _ _ _ _ _ _ _ _ _ _ _ _ hc),fun T F To O hC=>prog_head l hl (by omega) p e hpe he T F To O tl hC.sp hC.o (by have:=hC.d;omega) hC.e hh (pK1_bad _ _ _ _ _ _ _ _ _ _ _ _ hc)⟩
theorem look_big (l:List Int) (hl:OkB l) (hs:l.length≤65535) (p e:Nat) (hpe:p < e) (he:e≤l.length) (dep tl:Nat) (hd:dep≤16) (a b:Int) (c:Bool) (n v:Nat) (hn:n≤e - p) (hv:v≤65535) (hh:headH (seg l p e)=(a,b,c,(v:Int),(n:Int),0)) (g:p+n+v > e):LookBad l p e dep tl 5 :=
 ⟨by decide,fun T F To hT=>ref_head l hl (by omega) p e hpe he _ T F To hh (rK1_big _ _ _ _ p n v _ _ _ _ _ (by omega) (by omega)),fun T F To O hC=>prog_head l hl (by omega) p e hpe he T F To O tl hC.sp hC.o (by have:=hC.d;omega) hC.e hh (pK1_big _ _ _ _ _ _ _ _ _ _ _ (by omega) (by omega) (by omega) (by omega) (by omega))⟩
theorem look_ref (l:List Int) (hl:OkB l) (hs:l.length≤65535) (p e:Nat) (hpe:p < e) (he:e≤l.length) (dep:Int) (a b:Int) (c:Bool) (n v:Nat) (g:p+n+v≤e) (hh:headH (seg l p e)=(a,b,c,(v:Int),(n:Int),0)) (T:List Nd) (F To:List Int) {R:RR} (k:Ev (rK2 (strOfNums l) T F To p dep ((p+n:Nat):Int) ((p+n+v:Nat):Int) a b c) R) :
 Ev (fun k=>cr19_walk_element.f k (strOfNums l) T F To (p:Int) (e:Int) dep) R :=
 ref_head l hl (by omega) p e hpe he _ T F To hh (rK1_ok _ _ _ _ p n v _ _ _ _ _ (by omega) (by omega) k)
theorem look_prog (l:List Int) (hl:OkB l) (hs:l.length≤65535) (p e:Nat) (hpe:p < e) (he:e≤l.length) (dep tl:Nat) (hd:dep≤16) (a b:Int) (c:Bool) (n v:Nat) (g:p+n+v≤e) (hh:headH (seg l p e)=(a,b,c,(v:Int),(n:Int),0)) (T:List Nd) (F To:List Int) (O:List Nat) (hC:Cond l T F To O e dep tl) {R:PR} (k:Ev (pK2 (strOfNums l) T (spl F To) (iz O) p ((p+n:Nat):Int) ((p+n+v:Nat):Int) a b c v (strOfNums (seg l (p+n) (p+n+v)))) R) :
 Ev (fun k=>tlv_reader_read.g0_1 k (p:Int) (strOfNums l) T (spl F To) (iz O)) R :=
 prog_head l hl (by omega) p e hpe he T F To O tl hC.sp hC.o (by have:=hC.d;omega) hC.e hh (pK1_ok _ _ _ _ p n v _ _ _ _ _ (by omega) (by omega) (by omega) (by omega) (cut_seg' l (by omega) (p+n) v (by omega)) k)
theorem look (l:List Int) (hl:OkB l) (hs:l.length≤65535) (p e:Nat) (hpe:p < e) (he:e≤l.length) (dep tl:Nat) (hd:dep≤16) (ht:tl≤1000):(∃ code,LookBad l p e dep tl code)∨∃ a b c n v,LookOk l p e dep tl a b c n v:=by
 rcases headH_bd _ (seg_ok hl p e) with h | h | ⟨a,b,c,v,n,h,n2,a0,a1,b0,b1,v1,hn,hid⟩
 ·exact .inl ⟨5,look_code l hl hs p e hpe he dep tl hd 5 (by decide) h⟩
 ·exact .inl ⟨4,look_code l hl hs p e hpe he dep tl hd 4 (by decide) h⟩
 rw [seg_len l p e he] at hn
 by_cases g1:p+n+v > e
 ·exact .inl ⟨5,look_big l hl hs p e hpe he dep tl hd a b c n v hn v1 h g1⟩
 have g:p+n+v≤e:=by omega
 by_cases g2:dep=16
 ·exact .inl ⟨6,by decide,fun T F To hT=>look_ref l hl hs p e hpe he _ a b c n v g h T F To (rK2_deep _ _ _ _ _ _ _ _ _ _ _ (by omega)),fun T F To O hC=>look_prog l hl hs p e hpe he dep tl hd a b c n v g h T F To O hC (pK2_bad _ _ _ _ _ _ _ _ _ _ _ _ _ (by decide) (may_deep _ _ _ _ _ _ _ _ _ (by rw [iz_length,hC.d];omega)))⟩
 by_cases g3:tl=1000
 ·exact .inl ⟨4,by decide,fun T F To hT=>look_ref l hl hs p e hpe he _ a b c n v g h T F To (rK2_many _ _ _ _ _ _ _ _ _ _ _ (by omega) (by omega)),fun T F To O hC=>look_prog l hl hs p e hpe he dep tl hd a b c n v g h T F To O hC (pK2_bad _ _ _ _ _ _ _ _ _ _ _ _ _ (by decide) (may_many _ _ _ _ _ _ _ _ _ (by rw [iz_length,hC.d];omega) (by rw [hC.t];omega)))⟩
 obtain ⟨t,ht1,ht2,ht3⟩:=may_is l hl hs (p+n) v (by omega) a b c
 cases t with
 | false =>
  refine .inl ⟨5,by decide,fun T F To hT=>look_ref l hl hs p e hpe he _ a b c n v g h T F To (rK2_ok _ _ _ _ _ _ _ _ _ _ _ (by omega) (by omega) (ht2 _ _ _ _ _ _ (by rw [if_neg (by decide)]))),fun T F To O hC=>look_prog l hl hs p e hpe he dep tl hd a b c n v g h T F To O hC (pK2_bad _ _ _ _ _ _ _ _ _ _ _ _ _ (by decide) (ht3 _ _ _ (by rw [hC.t];omega) (by rw [iz_length,hC.d];omega)))⟩
 | true =>
  refine .inr ⟨a,b,c,n,v,n2,g,by omega,by omega,a0,a1,b0,b1,hid,ht1.1 rfl,fun T F To r hT hF hTo hr=>look_ref l hl hs p e hpe he _ a b c n v g h T F To (rK2_ok _ _ _ _ _ _ _ _ _ _ _ (by omega) (by omega) (ht2 _ _ _ _ _ _ ?_)),fun T F To O R hC hR=>look_prog l hl hs p e hpe he dep tl hd a b c n v g h T F To O hC (pK2_ok l T F To O e dep tl hC (by omega) (by omega) p (p+n) (p+n+v) (by omega) (by omega) a b c v _ (ht3 _ _ _ (by rw [hC.t];omega) (by rw [iz_length,hC.d];omega)) hR)⟩
  rw [if_pos rfl]
  exact j1_is l T F To p _ a b c (p+n) v (by omega) tl hT hF hTo (by omega) hr
theorem look_ok_of (l:List Int) (hl:OkB l) (hs:l.length≤65535) (p e:Nat) (hpe:p < e) (he:e≤l.length) (dep tl:Nat) (hd:dep < 16) (ht:tl < 1000) (a b:Int) (c:Bool) (n v:Nat) (a0:0≤a) (a1:a≤3) (b0:0≤b) (b1:b≤2097151) (v1:v≤65535)
 (hn:(idB a b c++lenB (v:Int)).length=n) (n2:2≤n) (hid:(seg l p e).take n=idB a b c++lenB (v:Int)) (g:p+n+v≤e) (hm:May a b c (seg l (p+n) (p+n+v))):LookOk l p e dep tl a b c n v:=by
 have h:headH (seg l p e)=(a,b,c,(v:Int),(n:Int),0):=by
  rw [← List.take_append_drop n (seg l p e),hid,headH_back a b c (v:Int) a0 a1 b0 b1 (by omega) (by omega),hn]
 obtain ⟨t,ht1,ht2,ht3⟩:=may_is l hl hs (p+n) v (by omega) a b c
 obtain rfl:t=true:=ht1.2 hm
 refine ⟨n2,g,by omega,by omega,a0,a1,b0,b1,hid,hm,fun T F To r hT hF hTo hr=>look_ref l hl hs p e hpe he _ a b c n v g h T F To (rK2_ok _ _ _ _ _ _ _ _ _ _ _ (by omega) (by omega) (ht2 _ _ _ _ _ _ ?_)),fun T F To O R hC hR=>look_prog l hl hs p e hpe he dep tl (by omega) a b c n v g h T F To O hC (pK2_ok l T F To O e dep tl hC (by omega) (by omega) p (p+n) (p+n+v) (by omega) (by omega) a b c v _ (ht3 _ _ _ (by rw [hC.t];omega) (by rw [iz_length,hC.d];omega)) hR)⟩
 rw [if_pos rfl]
 exact j1_is l T F To p _ a b c (p+n) v (by omega) tl hT hF hTo (by omega) hr
inductive Fo
 | nil:Fo
 | cons (a b:Int) (c:Bool) (d:List Int) (ks rest:Fo):Fo
namespace Fo
def size:Fo→Nat
 | nil=>0
 | cons _ _ _ _ ks r=>1+ks.size+r.size
def enc:Fo→List Int
 | nil=>[]
 | cons a b c d ks r=>idB a b c++lenB ((d++ks.enc).length:Int)++(d++ks.enc)++r.enc
def roots:Fo→Nat→List Int
 | nil,_=>[]
 | cons _ _ _ _ ks r,n=>(n:Int) :: r.roots (n+1+ks.size)
def flat:Fo→Nat→List Nd
 | nil,_=>[]
 | cons a b c d ks r,n=>nd a b c (strOfNums d) (ks.roots (n+1)) :: (ks.flat (n+1)++r.flat (n+1+ks.size))
def hd (a b:Int) (c:Bool) (d:List Int) (ks:Fo):Nat:=(idB a b c++lenB ((d++ks.enc).length:Int)).length
def froms:Fo→Nat→List Int
 | nil,_=>[]
 | cons a b c d ks r,p=>(p:Int) :: (ks.froms (p+hd a b c d ks)++r.froms (p+hd a b c d ks+(d++ks.enc).length))
def tos:Fo→Nat→List Int
 | nil,_=>[]
 | cons a b c d ks r,p=>((p+hd a b c d ks+(d++ks.enc).length:Nat):Int) :: (ks.tos (p+hd a b c d ks)++r.tos (p+hd a b c d ks+(d++ks.enc).length))
def Ok:Fo→Nat→Prop
 | nil,_=>True
 | cons a b c d ks r,dep=>(0≤a∧a≤3∧0≤b∧b≤2097151)∧(d++ks.enc).length≤65535∧dep < 16∧May a b c d∧OkB d∧(c=true→d=[])∧(c=false→ks=nil)∧ks.Ok (dep+1)∧r.Ok dep
theorem enc_cons (a b:Int) (c:Bool) (d:List Int) (ks r:Fo):(cons a b c d ks r).enc.length=hd a b c d ks+(d++ks.enc).length+r.enc.length:=by
 rw [enc,List.length_append,List.length_append];rfl
theorem flat_len:∀ (f:Fo) (n:Nat),(f.flat n).length=f.size
 | nil,_=>rfl
 | cons a b c d ks r,n=>by rw [flat,size,List.length_cons,List.length_append,flat_len ks,flat_len r];omega
theorem froms_len:∀ (f:Fo) (n:Nat),(f.froms n).length=f.size
 | nil,_=>rfl
 | cons a b c d ks r,n=>by rw [froms,size,List.length_cons,List.length_append,froms_len ks,froms_len r];omega
theorem tos_len:∀ (f:Fo) (n:Nat),(f.tos n).length=f.size
 | nil,_=>rfl
 | cons a b c d ks r,n=>by rw [tos,size,List.length_cons,List.length_append,tos_len ks,tos_len r];omega
theorem roots_len:∀ (f:Fo) (n:Nat),(f.roots n).length≤f.size
 | nil,_=>Nat.le_refl _
 | cons a b c d ks r,n=>by rw [roots,size,List.length_cons];have:=roots_len r (n+1+ks.size);omega
theorem flat_kids:∀ (f:Fo) (n:Nat),∀ x∈f.flat n,x.f4.length≤f.size
 | nil,_,x,h=>by cases h
 | cons a b c d ks r,n,x,h=>by
  rw [flat] at h
  rw [size]
  rcases List.mem_cons.1 h with rfl | h
  ·have:=roots_len ks (n+1);show (ks.roots (n+1)).length≤_;omega
  ·rcases List.mem_append.1 h with h | h
   ·have:=flat_kids ks _ x h;omega
   ·have:=flat_kids r _ x h;omega
theorem sp_app (l:List Int):∀ (f:Fo) (F To:List Int) (n p:Nat),Sp l F To n→p+f.enc.length≤l.length→Sp l (F++f.froms p) (To++f.tos p) (n+f.size)
 | nil,F,To,n,p,h,_=>by rw [froms,tos,size,List.append_nil,List.append_nil];exact h
 | cons a b c d ks r,F,To,n,p,h,hp=>by
  rw [enc_cons] at hp
  have hk:(d++ks.enc).length=d.length+ks.enc.length:=List.length_append
  have h1:=h.snoc p (p+hd a b c d ks+(d++ks.enc).length) (by omega) (by omega)
  have h2:=sp_app l ks _ _ _ (p+hd a b c d ks) h1 (by omega)
  have h3:=sp_app l r _ _ _ (p+hd a b c d ks+(d++ks.enc).length) h2 (by omega)
  rw [froms,tos,size]
  have e:n+(1+ks.size+r.size)=n+1+ks.size+r.size:=by omega
  rw [e]
  simpa only [List.append_assoc,List.singleton_append,List.cons_append,List.nil_append] using h3
end Fo
def addKs (T:List Nd) (i:Nat) (ks:List Int):List Nd:=T.set i ⟨(rd_T55 T i).f0,(rd_T55 T i).f1,(rd_T55 T i).f2,(rd_T55 T i).f3,(rd_T55 T i).f4++ks⟩
theorem addKs_len (T:List Nd) (i:Nat) (ks:List Int):(addKs T i ks).length=T.length:=List.length_set
theorem rdT_lt (T:List Nd) (i:Nat) (h:i < T.length):rd_T55 T (i:Int)=T[i]:=by
 rw [rdT,List.getD_eq_getElem?_getD,List.getElem?_eq_getElem h];rfl
theorem addKs_nil (T:List Nd) (i:Nat) (h:i < T.length):addKs T i []=T:=by
 unfold addKs
 rw [List.append_nil,rdT_lt T i h]
 exact List.set_getElem_self h
theorem addKs_app (T N:List Nd) (i:Nat) (ks:List Int) (h:i < T.length):addKs (T++N) i ks=addKs T i ks++N:=by
 unfold addKs
 rw [rdT_lt T i h,rdT_lt (T++N) i (by rw [List.length_append];omega),List.getElem_append_left h,List.set_append_left _ _ h]
theorem addKs_two (T:List Nd) (i:Nat) (a b:List Int) (h:i < T.length):addKs (addKs T i a) i b=addKs T i (a++b):=by
 have h':i < (addKs T i a).length:=by rw [addKs_len];exact h
 show (addKs T i a).set i ⟨(rd_T55 (addKs T i a) i).f0,(rd_T55 (addKs T i a) i).f1,(rd_T55 (addKs T i a) i).f2,(rd_T55 (addKs T i a) i).f3,(rd_T55 (addKs T i a) i).f4++b⟩=_
 rw [rdT_lt _ i h',show (addKs T i a)[i]=⟨(rd_T55 T i).f0,(rd_T55 T i).f1,(rd_T55 T i).f2,(rd_T55 T i).f3,(rd_T55 T i).f4++a⟩ from List.getElem_set_self _]
 unfold addKs
 rw [List.set_set,List.append_assoc]
theorem addKs_end (T:List Nd) (x:Nd) (N:List Nd) (ks:List Int) (tl:Nat) (h:T.length=tl):addKs (T++[x]) tl ks=T++[nd x.f0 x.f1 x.f2 x.f3 (x.f4++ks)]:=by
 subst h
 unfold addKs
 rw [rdT_lt _ _ (by simp),List.getElem_concat_length rfl]
 rw [List.set_append_right _ _ (Nat.le_refl _),Nat.sub_self]
 rfl
theorem upd_snoc (T:List Nd) (O:List Nat) (me:Nat):upd T (O++[me])=addKs T me [(T.length:Int)]:=by
 unfold upd
 rw [List.getLast?_append,List.getLast?_singleton]
 rfl
theorem upd_mem (T:List Nd) (O:List Nat) (n:Nat) (h:∀ x∈T,x.f4.length≤n) (hO:∀ o∈O,o < T.length):∀ x∈upd T O,x.f4.length≤n+1:=by
 rcases List.eq_nil_or_concat O with rfl | ⟨Q,o,rfl⟩
 ·intro x hx;have:=h x hx;omega
 ·rw [List.concat_eq_append] at *
  rw [upd_snoc]
  intro x hx
  unfold addKs at hx
  rcases List.mem_or_eq_of_mem_set hx with hx | rfl
  ·have:=h x hx;omega
  ·have ho:o < T.length:=hO o (by simp)
   have:=h T[o] (List.getElem_mem ho)
   rw [rdT_lt T o ho]
   show (T[o].f4++[(T.length:Int)]).length≤n+1
   rw [List.length_append];simpa using this
theorem endN_app (l To X:List Int) (O:List Nat) (h:∀ o∈O,o < To.length):endN l (To++X) O=endN l To O:=by
 rcases List.eq_nil_or_concat O with rfl | ⟨Q,o,rfl⟩
 ·rfl
 ·rw [List.concat_eq_append] at *
  unfold endN
  rw [List.getLast?_append,List.getLast?_singleton]
  exact getD_app_l To X 0 o (h o (by simp))
theorem Cond.next {l:List Int} {T:List Nd} {F To:List Int} {O:List Nat} {e dep tl:Nat} (h:Cond l T F To O e dep tl) (f:Fo) (p:Nat) (hf:1≤f.size) (hp:p+f.enc.length≤l.length):Cond l (upd T O++f.flat tl) (F++f.froms p) (To++f.tos p) O e dep (tl+f.size) where
 t:=by rw [List.length_append,upd_length,h.t,f.flat_len]
 sp:=f.sp_app l F To tl p h.sp hp
 o:=fun o ho=>Nat.lt_of_lt_of_le (h.o o ho) (Nat.le_add_right _ _)
 k:=fun x hx=>by
  rcases List.mem_append.1 hx with hx | hx
  ·have:=upd_mem T O tl h.k (by rw [h.t];exact h.o) x hx;omega
  ·have:=f.flat_kids tl x hx;omega
 d:=h.d
 e:=by rw [endN_app l To _ O (by rw [h.sp.t];exact h.o)];exact h.e
def ResA (l:List Int) (p e dep tl:Nat):Prop :=
 (∃ (code:Int) (q:Nat),code≠0∧q≤l.length∧(∀ (T:List Nd) (F To:List Int),T.length=tl→F.length=tl→To.length=tl→(∀ x∈T,x.f4.length≤tl+1)→∃ T' F' To',Ev (fun k=>cr19_walk_element.f k (strOfNums l) T F To (p:Int) (e:Int) ((dep:Int)+1)) (0,code,(q:Int),strOfNums l,T',F',To')) ∧
  ∀ (T:List Nd) (F To:List Int) (O:List Nat),Cond l T F To O e dep tl→∃ T' sp' O',Ev (fun k=>tlv_reader_read.g0_1 k (p:Int) (strOfNums l) T (spl F To) (iz O)) (code,(q:Int),strOfNums l,T',sp',O')) ∨
 ∃ (a b:Int) (c:Bool) (d:List Int) (ks:Fo),p+(Fo.cons a b c d ks .nil).enc.length≤e∧seg l p (p+(Fo.cons a b c d ks .nil).enc.length)=(Fo.cons a b c d ks .nil).enc∧(Fo.cons a b c d ks .nil).Ok dep∧tl+(Fo.cons a b c d ks .nil).size≤1000 ∧
  (∀ (T:List Nd) (F To:List Int),T.length=tl→F.length=tl→To.length=tl→(∀ x∈T,x.f4.length≤tl+1)→Ev (fun k=>cr19_walk_element.f k (strOfNums l) T F To (p:Int) (e:Int) ((dep:Int)+1)) (((p+(Fo.cons a b c d ks .nil).enc.length:Nat):Int),0,0,strOfNums l,T++(Fo.cons a b c d ks .nil).flat tl,F++(Fo.cons a b c d ks .nil).froms p,To++(Fo.cons a b c d ks .nil).tos p)) ∧
  ∀ (T:List Nd) (F To:List Int) (O:List Nat) (R:PR),Cond l T F To O e dep tl→Ev (fun k=>tlv_reader_read.j3 k ((p+(Fo.cons a b c d ks .nil).enc.length:Nat):Int) 0 (strOfNums l) (upd T O++(Fo.cons a b c d ks .nil).flat tl) (spl (F++(Fo.cons a b c d ks .nil).froms p) (To++(Fo.cons a b c d ks .nil).tos p)) (iz O)) R →
   Ev (fun k=>tlv_reader_read.g0_1 k (p:Int) (strOfNums l) T (spl F To) (iz O)) R
def ResB (l:List Int) (p q dep tl:Nat):Prop :=
 (∃ (code:Int) (x:Nat),code≠0∧x≤l.length∧(∀ (T:List Nd) (F To:List Int) (me:Nat),T.length=tl→F.length=tl→To.length=tl→me < tl→(∀ x∈T,x.f4.length≤tl)→∃ T' F' To',Ev (fun k=>cr19_walk_element.l0 k (dep:Int) (q:Int) (me:Int) (p:Int) (strOfNums l) T F To) (0,code,(x:Int),strOfNums l,T',F',To')) ∧
  ∀ (T:List Nd) (F To:List Int) (O:List Nat) (me:Nat),Cond l T F To (O++[me]) q dep tl→∃ T' sp' O',Ev (fun k=>tlv_reader_read.j3 k (p:Int) 0 (strOfNums l) T (spl F To) (iz (O++[me]))) (code,(x:Int),strOfNums l,T',sp',O')) ∨
 ∃ f:Fo,p+f.enc.length=q∧seg l p q=f.enc∧f.Ok dep∧tl+f.size≤1000 ∧
  (∀ (T:List Nd) (F To:List Int) (me:Nat),T.length=tl→F.length=tl→To.length=tl→me < tl→(∀ x∈T,x.f4.length≤tl)→Ev (fun k=>cr19_walk_element.l0 k (dep:Int) (q:Int) (me:Int) (p:Int) (strOfNums l) T F To) ((q:Int),0,0,strOfNums l,addKs T me (f.roots tl)++f.flat tl,F++f.froms p,To++f.tos p)) ∧
  ∀ (T:List Nd) (F To:List Int) (O:List Nat) (me:Nat) (R:PR),Cond l T F To (O++[me]) q dep tl→Ev (fun k=>tlv_reader_read.j3 k (q:Int) 0 (strOfNums l) (addKs T me (f.roots tl)++f.flat tl) (spl (F++f.froms p) (To++f.tos p)) (iz O)) R →
   Ev (fun k=>tlv_reader_read.j3 k (p:Int) 0 (strOfNums l) T (spl F To) (iz (O++[me]))) R
theorem Cond.last {l:List Int} {T:List Nd} {F To:List Int} {O:List Nat} {me q dep tl:Nat} (h:Cond l T F To (O++[me]) q dep tl):me < tl∧(∀ o∈O,o < tl)∧O.length+1=dep∧To.getD me 0=(q:Int):=by
 refine ⟨h.o me (by simp),fun o ho=>h.o o (by simp [ho]),by have:=h.d;simpa using this,?_⟩
 have:=h.e
 unfold endN at this
 rw [List.getLast?_append,List.getLast?_singleton] at this
 exact this
theorem seg_app (l:List Int) (p x q:Nat) (h1:p≤x) (h2:x≤q):seg l p q=seg l p x++seg l x q:=by
 unfold seg
 rw [show q - p=(x - p)+(q - x) by omega,List.take_add,List.drop_drop,show p+(x - p)=x by omega]
theorem kid_snoc {T:List Nd} {tl:Nat} (h:∀ x∈T,x.f4.length≤tl+1) {a b:Int} {c:Bool} {d:ByteArray}:∀ x∈T++[nd a b c d []],x.f4.length≤tl+1:=by
 intro x hx
 rcases List.mem_append.1 hx with hx | hx
 ·exact h x hx
 ·simp at hx;rw [hx];show 0≤_;omega
theorem kid_add {T:List Nd} {tl:Nat} (h:∀ x∈T,x.f4.length≤tl) {me:Nat} (hm:me < T.length) {y:Int}:∀ x∈addKs T me [y],x.f4.length≤tl+1:=by
 intro x hx
 unfold addKs at hx
 rcases List.mem_or_eq_of_mem_set hx with hx | rfl
 ·have:=h x hx;omega
 ·have:=h T[me] (List.getElem_mem hm)
  rw [rdT_lt T me hm]
  show (T[me].f4++[y]).length≤tl+1
  rw [List.length_append];simpa using this
theorem resB_nil (l:List Int) (hs:l.length≤65535) (p dep tl:Nat) (hd:dep≤16) (ht:tl≤1000):ResB l p p dep tl:=by
 refine .inr ⟨.nil,rfl,by rw [seg,Nat.sub_self];rfl,trivial,ht,fun T F To me hT hF hTo hm hkk=>?_,fun T F To O me R hC k=>?_⟩
 ·refine Ev.step (fun k=>by rw [cr19_walk_element.l0]) ?_
  refine Ev.ifn (by omega) ((Ev.now _).eq ?_)
  simp only [Fo.roots,Fo.flat,Fo.froms,Fo.tos,List.append_nil]
  rw [addKs_nil T me (by omega)]
 ·obtain ⟨h1,h2,h3,h4⟩:=hC.last
  simp only [Fo.roots,Fo.flat,Fo.froms,Fo.tos,List.append_nil] at k
  rw [addKs_nil T me (by rw [hC.t];exact h1)] at k
  exact tlv_pop l (by omega) T F To O me tl hC.sp h2 (by omega) h1 (p:Int) h4 k
theorem resA_of (l:List Int) (hl:OkB l) (hs:l.length≤65535) (m:Nat) (hB:∀ p q dep tl:Nat,p≤q→q≤l.length→q - p≤m→dep≤16→tl≤1000→ResB l p q dep tl) (p e dep tl:Nat) (hpe:p < e) (he:e≤l.length) (hm:e - p≤m+1) (hd:dep≤16) (ht:tl≤1000):ResA l p e dep tl:=by
 rcases look l hl hs p e hpe he dep tl hd ht with ⟨code,hc,h1,h2⟩ | ⟨a,b,c,n,v,hk⟩
 ·exact .inl ⟨code,p,hc,by omega,fun T F To hT hF hTo hkk=>⟨_,_,_,h1 T F To hT⟩,fun T F To O hC=>⟨_,_,_,h2 T F To O hC⟩⟩
 have hn2:=hk.n2
 have hfit:=hk.fit
 have htl:=hk.htl
 have hdep:=hk.hdep
 have hseg:seg l p (p+n)=idB a b c++lenB (v:Int):=by
  rw [← hk.hd,seg,seg,List.take_take,show p+n - p=n by omega,show min n (e - p)=n by omega]
 have hsl:=seg_len l (p+n) (p+n+v) (by omega)
 have hlen:(idB a b c++lenB (v:Int)).length=n:=by rw [← hseg,seg_len _ _ _ (by omega)];omega
 cases c with
 | false =>
  have e1:(seg l (p+n) (p+n+v)++Fo.nil.enc)=seg l (p+n) (p+n+v):=List.append_nil _
  have e2:(seg l (p+n) (p+n+v)).length=v:=by omega
  have e3:Fo.hd a b false (seg l (p+n) (p+n+v)) .nil=n:=by unfold Fo.hd;rw [e1,e2];exact hlen
  have e4:p+(Fo.cons a b false (seg l (p+n) (p+n+v)) .nil .nil).enc.length=p+n+v:=by rw [Fo.enc_cons,e3,e1,e2];show p+(n+v+0)=_;omega
  refine .inr ⟨a,b,false,seg l (p+n) (p+n+v),.nil,?_,?_,?_,?_,fun T F To hT hF hTo hkk=>?_,fun T F To O R hC k=>?_⟩
  ·rw [e4];exact hfit
  ·rw [e4,seg_app l p (p+n) (p+n+v) (by omega) (by omega),hseg,Fo.enc,e1,e2,Fo.enc,List.append_nil]
  ·exact ⟨⟨hk.a0,hk.a1,hk.b0,hk.b1⟩,by rw [e1,e2];omega,hdep,hk.may,seg_ok hl _ _,fun h=>(by cases h),fun _=>rfl,trivial,trivial⟩
  ·show tl+(1+0+0)≤1000;omega
  ·refine hk.ref T F To _ hT hF hTo ?_
   rw [if_neg (by decide),e4]
   simp only [Fo.flat,Fo.froms,Fo.tos,Fo.roots,e1,e2,e3,List.append_nil]
  ·refine hk.prog T F To O R hC ?_
   rw [if_neg (by decide)]
   rw [e4] at k
   simp only [Fo.flat,Fo.froms,Fo.tos,Fo.roots,e1,e2,e3,List.append_nil] at k
   exact k
 | true =>
  rcases hB (p+n) (p+n+v) (dep+1) (tl+1) (by omega) (by omega) (by omega) (by omega) (by omega) with ⟨code,x,hc,hx,h1,h2⟩ | ⟨f,f1,f2,f3,f4,h1,h2⟩
  ·refine .inl ⟨code,x,hc,hx,fun T F To hT hF hTo hkk=>?_,fun T F To O hC=>?_⟩
   ·obtain ⟨T',F',To',hh⟩:=h1 (T++[nd a b true ⟨#[]⟩ []]) (F++[(p:Int)]) (To++[((p+n+v:Nat):Int)]) tl (by simp [hT]) (by simp [hF]) (by simp [hTo]) (by omega) (kid_snoc hkk)
    exact ⟨T',F',To',hk.ref T F To _ hT hF hTo (by rw [if_pos rfl];exact hh)⟩
   ·obtain ⟨T',F',To',hh⟩:=h2 (upd T O++[nd a b true ⟨#[]⟩ []]) (F++[(p:Int)]) (To++[((p+n+v:Nat):Int)]) O tl (by
     have hs1:=hC.sp.snoc p (p+n+v) (by omega) (by omega)
     refine ⟨by rw [List.length_append,upd_length,hC.t];rfl,hs1,fun o ho=>?_,fun x hx=>?_,by rw [List.length_append,hC.d];rfl,?_⟩
     ·rcases List.mem_append.1 ho with ho | ho
      ·have:=hC.o o ho;omega
      ·simp at ho;omega
     ·rcases List.mem_append.1 hx with hx | hx
      ·exact upd_mem T O tl hC.k (by rw [hC.t];exact hC.o) x hx
      ·simp at hx;rw [hx];show 0≤_;omega
     ·unfold endN
      rw [List.getLast?_append,List.getLast?_singleton]
      show (To++[((p+n+v:Nat):Int)]).getD tl 0=_
      have:=getD_app_at To [] ((p+n+v:Nat):Int) 0
      rw [hC.sp.t] at this
      exact this)
    exact ⟨T',F',To',hk.prog T F To O _ hC (by rw [if_pos rfl];exact hh)⟩
  ·have e1:f.enc.length=v:=by omega
   have e0:([]++f.enc).length=v:=e1
   have e3:Fo.hd a b true [] f=n:=by unfold Fo.hd;rw [e0];exact hlen
   have e4:p+(Fo.cons a b true [] f .nil).enc.length=p+n+v:=by rw [Fo.enc_cons,e3,e0];show p+(n+v+0)=_;omega
   refine .inr ⟨a,b,true,[],f,?_,?_,?_,?_,fun T F To hT hF hTo hkk=>?_,fun T F To O R hC k=>?_⟩
   ·rw [e4];exact hfit
   ·rw [e4,seg_app l p (p+n) (p+n+v) (by omega) (by omega),hseg,Fo.enc,e0,f2,Fo.enc,List.append_nil];rfl
   ·refine ⟨⟨hk.a0,hk.a1,hk.b0,hk.b1⟩,by rw [e0];omega,hdep,?_,fun x hx=>(by cases hx),fun _=>rfl,fun h=>(by cases h),f3,trivial⟩
    exact fun h=>⟨(hk.may h).1,fun h=>(by cases h)⟩
   ·show tl+(1+f.size+0)≤1000;omega
   ·refine hk.ref T F To _ hT hF hTo ?_
    rw [if_pos rfl,e4]
    refine (h1 _ _ _ tl (by simp [hT]) (by simp [hF]) (by simp [hTo]) (by omega) (kid_snoc hkk)).eq ?_
    rw [addKs_end T _ [] _ tl hT]
    simp only [Fo.flat,Fo.froms,Fo.tos,e0,e3,List.append_nil,List.append_assoc,List.singleton_append]
    rfl
   ·refine hk.prog T F To O R hC ?_
    rw [if_pos rfl]
    refine h2 _ _ _ O tl R (by
     have hs1:=hC.sp.snoc p (p+n+v) (by omega) (by omega)
     refine ⟨by rw [List.length_append,upd_length,hC.t];rfl,hs1,fun o ho=>?_,fun x hx=>?_,by rw [List.length_append,hC.d];rfl,?_⟩
     ·rcases List.mem_append.1 ho with ho | ho
      ·have:=hC.o o ho;omega
      ·simp at ho;omega
     ·rcases List.mem_append.1 hx with hx | hx
      ·exact upd_mem T O tl hC.k (by rw [hC.t];exact hC.o) x hx
      ·simp at hx;rw [hx];show 0≤_;omega
     ·unfold endN
      rw [List.getLast?_append,List.getLast?_singleton]
      show (To++[((p+n+v:Nat):Int)]).getD tl 0=_
      have:=getD_app_at To [] ((p+n+v:Nat):Int) 0
      rw [hC.sp.t] at this
      exact this) ?_
    rw [addKs_end (upd T O) _ [] _ tl (by rw [upd_length,hC.t])]
    rw [e4] at k
    simp only [Fo.flat,Fo.froms,Fo.tos,e0,e3,List.append_nil,List.append_assoc,List.singleton_append] at k ⊢
    exact k
theorem resB_of (l:List Int) (hl:OkB l) (hs:l.length≤65535) (m:Nat) (hA:∀ p e dep tl:Nat,p < e→e≤l.length→e - p≤m+1→dep≤16→tl≤1000→ResA l p e dep tl)
 (hB:∀ p q dep tl:Nat,p≤q→q≤l.length→q - p≤m→dep≤16→tl≤1000→ResB l p q dep tl) (p q dep tl:Nat) (hpq:p≤q) (hq:q≤l.length) (hm:q - p≤m+1) (hd:dep≤16) (ht:tl≤1000):ResB l p q dep tl:=by
 by_cases g:p=q
 ·subst g;exact resB_nil l hs p dep tl hd ht
 have ref:∀ (T:List Nd) (F To:List Int) (me:Nat) (t:RR) (R:RR),T.length=tl→me < tl→(∀ x∈T,x.f4.length≤tl)→Ev (fun k=>cr19_walk_element.f k (strOfNums l) (addKs T me [(tl:Int)]) F To (p:Int) (q:Int) ((dep:Int)+1)) t→(if t.2.1=0 then Ev (fun k=>cr19_walk_element.l0 k (dep:Int) (q:Int) (me:Int) t.1 t.2.2.2.1 t.2.2.2.2.1 t.2.2.2.2.2.1 t.2.2.2.2.2.2) R else R=(0,t.2.1,t.2.2.1,t.2.2.2.1,t.2.2.2.2.1,t.2.2.2.2.2.1,t.2.2.2.2.2.2)) →
  Ev (fun k=>cr19_walk_element.l0 k (dep:Int) (q:Int) (me:Int) (p:Int) (strOfNums l) T F To) R:=by
  intro T F To me t R hT hme hkk ht hR
  refine Ev.step (fun k=>by rw [cr19_walk_element.l0]) ?_
  refine Ev.ifp (by omega) (Ev.ifp (by omega) (Ev.ifp (by omega) (Ev.ifp ?_ ?_)))
  ·rw [rdT_lt T me (by omega)];have:=hkk _ (List.getElem_mem (by omega:me < T.length));omega
  ·rw [w64 (x:=(dep:Int)+1) (by omega) (by omega),hT]
   refine Ev.bind ht ?_
   by_cases g:t.2.1=0
   ·rw [if_pos g] at hR;exact Ev.ifp g hR
   ·rw [if_neg g] at hR;subst hR;exact Ev.ifn g (Ev.now _)
 have hend:∀ (T:List Nd) (F To:List Int) (O:List Nat) (me:Nat),Cond l T F To (O++[me]) q dep tl→∀ R:PR,Ev (fun k=>tlv_reader_read.g0_1 k (p:Int) (strOfNums l) T (spl F To) (iz (O++[me]))) R→Ev (fun k=>tlv_reader_read.j3 k (p:Int) 0 (strOfNums l) T (spl F To) (iz (O++[me]))) R :=
  fun T F To O me hC R hR=>tlv_next l (by omega) T F To (O++[me]) tl hC.sp hC.o (by have:=hC.d;omega) (p:Int) (by simp) (by rw [hC.e];omega) hR
 rcases hA p q dep tl (by omega) hq hm hd ht with ⟨code,x,hc,hx,h1,h2⟩ | ⟨a,b,c,d,ks,f1,f2,f3,f4,h1,h2⟩
 ·refine .inl ⟨code,x,hc,hx,fun T F To me hT hF hTo hme hkk=>?_,fun T F To O me hC=>?_⟩
  ·obtain ⟨T',F',To',hh⟩:=h1 (addKs T me [(tl:Int)]) F To (by rw [addKs_len];exact hT) hF hTo (kid_add hkk (by omega))
   exact ⟨T',F',To',ref T F To me _ _ hT hme hkk hh (by rw [if_neg hc])⟩
  ·obtain ⟨T',F',To',hh⟩:=h2 T F To (O++[me]) hC
   exact ⟨T',F',To',hend T F To O me hC _ hh⟩
 have hsz:(Fo.cons a b c d ks .nil).size=1+ks.size:=rfl
 have hen:=Fo.enc_cons a b c d ks .nil
 have hen0:(Fo.nil.enc).length=0:=rfl
 have hpos:0 < Fo.hd a b c d ks:=by
  unfold Fo.hd
  rw [List.length_append]
  have:0 < (idB a b c).length:=by unfold idB;split<;>simp
  omega
 generalize hL:(Fo.cons a b c d ks .nil).enc.length=L at *
 rcases hB (p+L) q dep (tl+(1+ks.size)) (by omega) hq (by omega) hd (by omega) with ⟨code,x,hc,hx,g1,g2⟩ | ⟨r,r1,r2,r3,r4,g1,g2⟩
 ·refine .inl ⟨code,x,hc,hx,fun T F To me hT hF hTo hme hkk=>?_,fun T F To O me hC=>?_⟩
  ·obtain ⟨T',F',To',hh⟩:=g1 (addKs T me [(tl:Int)]++(Fo.cons a b c d ks .nil).flat tl) (F++(Fo.cons a b c d ks .nil).froms p) (To++(Fo.cons a b c d ks .nil).tos p) me (by rw [List.length_append,addKs_len,Fo.flat_len,hsz,hT]) (by rw [List.length_append,Fo.froms_len,hsz,hF]) (by rw [List.length_append,Fo.tos_len,hsz,hTo]) (by omega) (fun x hx=>by
    rcases List.mem_append.1 hx with hx | hx
    ·have:=kid_add hkk (by omega:me < T.length) x hx;omega
    ·have:=Fo.flat_kids _ _ x hx;omega)
   exact ⟨T',F',To',ref T F To me _ _ hT hme hkk (h1 (addKs T me [(tl:Int)]) F To (by rw [addKs_len];exact hT) hF hTo (kid_add hkk (by omega))) (by rw [if_pos rfl];exact hh)⟩
  ·obtain ⟨T',F',To',hh⟩:=g2 _ _ _ O me (hsz ▸ hC.next (Fo.cons a b c d ks .nil) p (by omega) (by omega))
   exact ⟨T',F',To',hend T F To O me hC _ (h2 T F To (O++[me]) _ hC hh)⟩
 have hen':=Fo.enc_cons a b c d ks r
 refine .inr ⟨.cons a b c d ks r,by omega,?_,?_,?_,fun T F To me hT hF hTo hme hkk=>?_,fun T F To O me R hC k=>?_⟩
 ·rw [seg_app l p (p+L) q (by omega) (by omega),f2,r2]
  simp only [Fo.enc,List.append_nil]
 ·obtain ⟨y1,y2,y3,y4,y5,y6,y7,y8,_⟩:=f3
  exact ⟨y1,y2,y3,y4,y5,y6,y7,y8,r3⟩
 ·show tl+(1+ks.size+r.size)≤1000;omega
 ·refine ref T F To me _ _ hT hme hkk (h1 (addKs T me [(tl:Int)]) F To (by rw [addKs_len];exact hT) hF hTo (kid_add hkk (by omega))) ?_
  rw [if_pos rfl]
  refine (g1 (addKs T me [(tl:Int)]++(Fo.cons a b c d ks .nil).flat tl) (F++(Fo.cons a b c d ks .nil).froms p) (To++(Fo.cons a b c d ks .nil).tos p) me (by rw [List.length_append,addKs_len,Fo.flat_len,hsz,hT]) (by rw [List.length_append,Fo.froms_len,hsz,hF]) (by rw [List.length_append,Fo.tos_len,hsz,hTo]) (by omega) (fun x hx=>by
   rcases List.mem_append.1 hx with hx | hx
   ·have:=kid_add hkk (by omega:me < T.length) x hx;omega
   ·have:=Fo.flat_kids _ _ x hx;omega)).eq ?_
  rw [addKs_app _ _ _ _ (by rw [addKs_len];omega),addKs_two _ _ _ _ (by omega)]
  have e1:p+Fo.hd a b c d ks+(d++ks.enc).length=p+L:=by omega
  have e2:tl+(1+ks.size)=tl+1+ks.size:=by omega
  simp only [Fo.flat,Fo.froms,Fo.tos,Fo.roots,List.append_nil,List.append_assoc,List.cons_append,List.nil_append,List.singleton_append,e1,e2]
 ·refine hend T F To O me hC _ (h2 T F To (O++[me]) _ hC (g2 _ _ _ O me _ (hsz ▸ hC.next (Fo.cons a b c d ks .nil) p (by omega) (by omega)) ?_))
  rw [upd_snoc,hC.t,addKs_app _ _ _ _ (by rw [addKs_len,hC.t];exact hC.last.1),addKs_two _ _ _ _ (by rw [hC.t];exact hC.last.1)]
  have e1:p+Fo.hd a b c d ks+(d++ks.enc).length=p+L:=by omega
  have e2:tl+(1+ks.size)=tl+1+ks.size:=by omega
  simp only [Fo.flat,Fo.froms,Fo.tos,Fo.roots,List.append_nil,List.append_assoc,List.cons_append,List.nil_append,List.singleton_append,e1,e2] at k ⊢
  exact k
theorem resAB (l:List Int) (hl:OkB l) (hs:l.length≤65535):∀ m:Nat,(∀ p e dep tl:Nat,p < e→e≤l.length→e - p≤m→dep≤16→tl≤1000→ResA l p e dep tl)∧∀ p q dep tl:Nat,p≤q→q≤l.length→q - p≤m→dep≤16→tl≤1000→ResB l p q dep tl
 | 0=>⟨fun p e dep tl h1 h2 h3=>by omega,fun p q dep tl h1 h2 h3 hd ht=>by
  obtain rfl:p=q:=by omega
  exact resB_nil l hs p dep tl hd ht⟩
 | m+1=>by
  have hA:=resA_of l hl hs m (resAB l hl hs m).2
  exact ⟨hA,resB_of l hl hs m hA (resAB l hl hs m).2⟩
theorem tlv_j0:tlv_reader_read.j0=tlv_reader_read.j3:=by
 funext k;cases k<;>rfl
theorem tread_is (l:List Int) (h0:l≠[]) (hs:l.length≤65535) {R:PR} (h:Ev (fun k=>tlv_reader_read.g0_1 k 0 (strOfNums l) [] [] []) R):Ev (fun k=>tlv_reader_read.f k (strOfNums l) [] [] []) R:=by
 obtain ⟨K,hK⟩:=h
 refine ⟨K,fun k hk=>?_⟩
 have:tlv_reader_read.g0_1 (k+1) 0 (strOfNums l) [] [] []=some R:=hK (k+1) (by omega)
 show tlv_reader_read.f k (strOfNums l) [] [] []=_
 rw [tlv_reader_read.f,if_neg (by rw [nums_toList_nil];exact h0),if_neg (by rw [nums_sizeI];omega),tlv_j0]
 rw [tlv_reader_read.g0_1] at this
 exact this
theorem sp_nil (l:List Int):Sp l [] [] 0:=⟨rfl,rfl,fun i hi=>by omega⟩
inductive Dec (l:List Int):Prop
 | bad (code:Int) (q:Nat) (hc:code≠0) (hq:q≤l.length) (p1:Ev (fun k=>tlv_Decode.f k (strOfNums l)) ([],code,(q:Int))) (p2:Ev (fun k=>cr19_Decode.f k (strOfNums l)) ([],code,(q:Int)))
  (p3:Ev (fun k=>tlv_Spans.f k (strOfNums l)) []) (p4:Ev (fun k=>cr19_Spans.f k (strOfNums l)) ([],[]))
 | ok (a b:Int) (c:Bool) (d:List Int) (ks:Fo) (he:l=(Fo.cons a b c d ks .nil).enc) (ho:(Fo.cons a b c d ks .nil).Ok 0) (hz:(Fo.cons a b c d ks .nil).size≤1000)
  (p1:Ev (fun k=>tlv_Decode.f k (strOfNums l)) ((Fo.cons a b c d ks .nil).flat 0,0,0)) (p2:Ev (fun k=>cr19_Decode.f k (strOfNums l)) ((Fo.cons a b c d ks .nil).flat 0,0,0))
  (p3:Ev (fun k=>tlv_Spans.f k (strOfNums l)) (spl ((Fo.cons a b c d ks .nil).froms 0) ((Fo.cons a b c d ks .nil).tos 0))) (p4:Ev (fun k=>cr19_Spans.f k (strOfNums l)) ((Fo.cons a b c d ks .nil).froms 0,(Fo.cons a b c d ks .nil).tos 0))
theorem tlv_bad {s:ByteArray} {code q:Int} {s':ByteArray} {T:List Nd} {sp:List (Nat × Nat)} {O:List Int} (hc:code≠0) (h:Ev (fun k=>tlv_reader_read.f k s [] [] []) (code,q,s',T,sp,O)):Ev (fun k=>tlv_Decode.f k s) ([],code,q)∧Ev (fun k=>tlv_Spans.f k s) [] :=
 ⟨Ev.congr (fun k=>by rw [tlv_Decode.f]) (Ev.bind h (Ev.ifn hc (Ev.now _))),Ev.congr (fun k=>by rw [tlv_Spans.f]) (Ev.bind h (Ev.ifn hc (Ev.now _)))⟩
theorem ref_bad {s:ByteArray} {code q:Int} {s':ByteArray} {T:List Nd} {F To:List Int} (hc:code≠0) (h:Ev (fun k=>cr19_whole.f k s) (s',T,F,To,code,q)):Ev (fun k=>cr19_Decode.f k s) ([],code,q)∧Ev (fun k=>cr19_Spans.f k s) ([],[]) :=
 ⟨Ev.congr (fun k=>by rw [cr19_Decode.f]) (Ev.bind h (Ev.ifn hc (Ev.now _))),Ev.congr (fun k=>by rw [cr19_Spans.f]) (Ev.bind h (Ev.ifn hc (Ev.now _)))⟩
theorem dec_is (l:List Int) (hl:OkB l) (hs:l.length≤65535):Dec l:=by
 by_cases h0:l=[]
 ·subst h0
  obtain ⟨p1,p3⟩:=tlv_bad (s:=strOfNums []) (q:=0) (code:=3) (by decide) (Ev.congr (fun k=>by rw [tlv_reader_read.f]) (Ev.ifp (by rw [nums_toList_nil]) (g00_is 3 0 _ _ _ _ (by decide))))
  have hw:Ev (fun k=>cr19_whole.f k (strOfNums [])) (strOfNums [],[],[],[],3,0):=by
   refine Ev.congr (fun k=>by rw [cr19_whole.f]) ?_
   exact Ev.ifp (by rw [nums_toList_nil]) (Ev.now _)
  obtain ⟨p2,p4⟩:=ref_bad (by decide) hw
  exact .bad 3 0 (by decide) (Nat.le_refl _) p1 p2 p3 p4
 have hpos:0 < l.length:=List.length_pos_iff.2 h0
 have hC:Cond l [] [] [] [] l.length 0 0:=⟨rfl,sp_nil l,fun o h=>(by cases h),fun x h=>(by cases h),rfl,rfl⟩
 have whole:∀ (t:RR),Ev (fun k=>cr19_walk_element.f k (strOfNums l) [] [] [] 0 (l.length:Int) 1) t→Ev (fun k=>cr19_whole.f k (strOfNums l)) (if t.2.1=0 then (if t.1 < (l.length:Int) then (t.2.2.2.1,t.2.2.2.2.1,t.2.2.2.2.2.1,t.2.2.2.2.2.2,5,t.1) else (t.2.2.2.1,t.2.2.2.2.1,t.2.2.2.2.2.1,t.2.2.2.2.2.2,t.2.1,t.2.2.1)) else (t.2.2.2.1,t.2.2.2.2.1,t.2.2.2.2.2.1,t.2.2.2.2.2.2,t.2.1,t.2.2.1)):=by
  intro t ht
  refine Ev.congr (fun k=>by rw [cr19_whole.f,nums_sizeI]) ?_
  refine Ev.ifn (by rw [nums_toList_nil];exact h0) (Ev.ifn (by omega) (Ev.bind ht ?_))
  exact Ev.ite (fun _=>Ev.ite (fun _=>Ev.now _) (fun _=>Ev.now _)) (fun _=>Ev.now _)
 rcases (resAB l hl hs l.length).1 0 l.length 0 0 hpos (Nat.le_refl _) (by omega) (by omega) (by omega) with ⟨code,q,hc,hq,h1,h2⟩ | ⟨a,b,c,d,ks,f1,f2,f3,f4,h1,h2⟩
 ·obtain ⟨T',F',To',hh⟩:=h1 [] [] [] rfl rfl rfl (fun x h=>(by cases h))
  obtain ⟨T2,F2,To2,hg⟩:=h2 [] [] [] [] hC
  have hw:=whole _ hh
  rw [if_neg hc] at hw
  obtain ⟨p1,p3⟩:=tlv_bad hc (tread_is l h0 (by omega) hg)
  obtain ⟨p2,p4⟩:=ref_bad hc hw
  exact .bad code q hc hq p1 p2 p3 p4
 rw [Nat.zero_add] at f1 f2 h1 h2 f4
 have hh:=whole _ (h1 [] [] [] rfl rfl rfl (fun x h=>(by cases h)))
 have hsp:=Fo.sp_app l _ [] [] 0 0 (sp_nil l) (by omega:0+(Fo.cons a b c d ks .nil).enc.length≤l.length)
 rw [Nat.zero_add] at hsp
 have hg:=h2 [] [] [] [] _ hC (tlv_done l (by omega) _ _ _ _ hsp _ f1)
 rw [if_pos rfl] at hh
 by_cases g:(Fo.cons a b c d ks .nil).enc.length < l.length
 ·rw [if_pos g] at hg
  rw [if_pos (by simpa using g)] at hh
  obtain ⟨p1,p3⟩:=tlv_bad (code:=5) (by decide) (tread_is l h0 (by omega) hg)
  obtain ⟨p2,p4⟩:=ref_bad (code:=5) (by decide) hh
  simp only [Nat.zero_add] at p2
  exact .bad 5 _ (by decide) f1 p1 p2 p3 p4
 ·rw [if_neg g] at hg
  rw [if_neg (by simpa using g)] at hh
  have he:(Fo.cons a b c d ks .nil).enc.length=l.length:=by omega
  rw [he] at f2
  have hl':seg l 0 l.length=l:=by rw [seg,List.drop_zero,Nat.sub_zero,List.take_length]
  have r:=tread_is l h0 (by omega) hg
  refine .ok a b c d ks (hl'.symm.trans f2) f3 f4 ?_ ?_ ?_ ?_
  ·exact Ev.congr (fun k=>by rw [tlv_Decode.f]) (Ev.bind r (Ev.ifp rfl (Ev.now _)))
  ·exact Ev.congr (fun k=>by rw [cr19_Decode.f]) (Ev.bind hh (Ev.ifp rfl (Ev.now _)))
  ·exact Ev.congr (fun k=>by rw [tlv_Spans.f]) (Ev.bind r (Ev.ifp rfl (Ev.now _)))
  ·exact Ev.congr (fun k=>by rw [cr19_Spans.f]) (Ev.bind hh (Ev.ifp rfl (Ev.now _)))
def Fo.encs:Fo→List (List Int)
 | .nil=>[]
 | .cons a b c d ks r=>(Fo.cons a b c d ks .nil).enc :: r.encs
theorem Fo.hd_pos (a b:Int) (c:Bool) (d:List Int) (ks:Fo):2≤Fo.hd a b c d ks:=by
 unfold Fo.hd
 rw [List.length_append]
 have h1:0 < (idB a b c).length:=by unfold idB;split<;>simp
 have h2:0 < (lenB ((d++ks.enc).length:Int)).length:=by unfold lenB;split;simp;split<;>simp
 omega
theorem Cond.inner {l:List Int} {T:List Nd} {F To:List Int} {O:List Nat} {e dep tl:Nat} (hC:Cond l T F To O e dep tl) (a b:Int) (c:Bool) (d:ByteArray) (p q:Nat) (h1:p≤q) (h2:q≤l.length):Cond l (upd T O++[nd a b c d []]) (F++[(p:Int)]) (To++[(q:Int)]) (O++[tl]) q (dep+1) (tl+1):=by
 have hs1:=hC.sp.snoc p q h1 h2
 refine ⟨by rw [List.length_append,upd_length,hC.t];rfl,hs1,fun o ho=>?_,fun x hx=>?_,by rw [List.length_append,hC.d];rfl,?_⟩
 ·rcases List.mem_append.1 ho with ho | ho
  ·have:=hC.o o ho;omega
  ·simp at ho;omega
 ·rcases List.mem_append.1 hx with hx | hx
  ·exact upd_mem T O tl hC.k (by rw [hC.t];exact hC.o) x hx
  ·simp at hx;rw [hx];show 0≤_;omega
 ·unfold endN
  rw [List.getLast?_append,List.getLast?_singleton]
  show (To++[(q:Int)]).getD tl 0=_
  have:=getD_app_at To [] (q:Int) 0
  rw [hC.sp.t] at this
  exact this
theorem seg_take (l:List Int) (p q e:Nat) (h:q≤e):(seg l p e).take (q - p)=seg l p q:=by
 rw [seg,seg,List.take_take,show min (q - p) (e - p)=q - p by omega]
theorem seg_parts {l:List Int} {p q:Nat} {x y:List Int} (h:seg l p q=x++y) (hq:q≤l.length) (hp:p≤q):seg l p (p+x.length)=x∧seg l (p+x.length) q=y∧p+x.length≤q:=by
 have hl:=congrArg List.length h
 rw [seg_len _ _ _ hq,List.length_append] at hl
 have h2:=seg_app l p (p+x.length) q (by omega) (by omega)
 rw [h] at h2
 have h3:=List.append_inj h2 (by rw [seg_len _ _ _ (by omega)];omega)
 exact ⟨h3.1.symm,h3.2.symm,by omega⟩
theorem seg_cons {l:List Int} {p q:Nat} {a b:Int} {c:Bool} {d:List Int} {ks r:Fo} (h:seg l p q=(Fo.cons a b c d ks r).enc) (hq:q≤l.length) (hp:p≤q):p+Fo.hd a b c d ks+(d++ks.enc).length+r.enc.length=q∧seg l p (p+Fo.hd a b c d ks)=idB a b c++lenB ((d++ks.enc).length:Int) ∧
 seg l (p+Fo.hd a b c d ks) (p+Fo.hd a b c d ks+(d++ks.enc).length)=d++ks.enc∧seg l (p+Fo.hd a b c d ks+(d++ks.enc).length) q=r.enc:=by
 have hl:=congrArg List.length h
 rw [seg_len _ _ _ hq,Fo.enc_cons] at hl
 rw [Fo.enc] at h
 obtain ⟨h1,h2,h3⟩:=seg_parts h hq hp
 rw [List.length_append] at h1 h2 h3
 have hh:(idB a b c++lenB ((d++ks.enc).length:Int)).length=Fo.hd a b c d ks:=rfl
 rw [hh] at h1 h2 h3
 obtain ⟨h4,h5,h6⟩:=seg_parts h1 (by omega) (by omega)
 rw [hh] at h4 h5
 rw [← Nat.add_assoc] at h2 h5
 exact ⟨by omega,h4,h5,h2⟩
theorem fwd_look {l:List Int} (hl:OkB l) (hs:l.length≤65535) {p q e dep tl:Nat} {a b:Int} {c:Bool} {d:List Int} {ks r:Fo} (h:seg l p q=(Fo.cons a b c d ks r).enc) (hp:p≤q) (hqe:q≤e) (he:e≤l.length) (ho:(Fo.cons a b c d ks r).Ok dep) (ht:tl < 1000) :
 LookOk l p e dep tl a b c (Fo.hd a b c d ks) (d++ks.enc).length:=by
 obtain ⟨h1,h2,h3,h4⟩:=seg_cons h (by omega) hp
 obtain ⟨⟨a0,a1,b0,b1⟩,o1,o2,o3,o4,o5,o6,o7,o8⟩:=ho
 have hpos:=Fo.hd_pos a b c d ks
 refine look_ok_of l hl hs p e (by omega) he dep tl o2 ht a b c _ _ a0 a1 b0 b1 o1 rfl hpos ?_ (by omega) ?_
 ·have:=seg_take l p (p+Fo.hd a b c d ks) e (by omega)
  rw [show p+Fo.hd a b c d ks - p=Fo.hd a b c d ks by omega] at this
  rw [this,h2]
 ·rw [h3]
  intro h0
  refine ⟨(o3 h0).1,fun hc=>?_⟩
  rw [o6 hc,show d++Fo.nil.enc=d from List.append_nil d]
  exact (o3 h0).2 hc
theorem fwd_kids (l:List Int) (hl:OkB l) (hs:l.length≤65535):∀ (f:Fo) (p q e dep tl:Nat),p≤q→q≤e→e≤l.length→seg l p q=f.enc→f.Ok dep→tl+f.size≤1000→∀ (T:List Nd) (F To:List Int) (O:List Nat) (me:Nat) (R:PR),Cond l T F To (O++[me]) e dep tl →
 Ev (fun k=>tlv_reader_read.j3 k (q:Int) 0 (strOfNums l) (addKs T me (f.roots tl)++f.flat tl) (spl (F++f.froms p) (To++f.tos p)) (iz (O++[me]))) R→Ev (fun k=>tlv_reader_read.j3 k (p:Int) 0 (strOfNums l) T (spl F To) (iz (O++[me]))) R:=by
 intro f
 induction f with
 | nil =>
  intro p q e dep tl hp hq he h ho ht T F To O me R hC k
  have hl0:=congrArg List.length h
  rw [seg_len _ _ _ (by omega)] at hl0
  obtain rfl:p=q:=by have:(Fo.nil.enc).length=0:=rfl;omega
  simp only [Fo.roots,Fo.flat,Fo.froms,Fo.tos,List.append_nil] at k
  rw [addKs_nil T me (by rw [hC.t];exact hC.last.1)] at k
  exact k
 | cons a b c d ks r ih1 ih2 =>
  intro p q e dep tl hp hq he h ho ht T F To O me R hC k
  have hk:=fwd_look (tl:=tl) hl hs h hp hq he ho (by rw [Fo.size] at ht;omega)
  obtain ⟨g1,g2,g3,g4⟩:=seg_cons h (by omega) hp
  have hpos:=Fo.hd_pos a b c d ks
  have hsz:(Fo.cons a b c d ks .nil).size=1+ks.size:=rfl
  rw [Fo.size] at ht
  obtain ⟨⟨a0,a1,b0,b1⟩,o1,o2,o3,o4,o5,o6,o7,o8⟩:=ho
  have hlen1:=Fo.enc_cons a b c d ks .nil
  have hz:Fo.nil.enc.length=0:=rfl
  have hnx:=hC.next (Fo.cons a b c d ks .nil) p (by omega) (by omega)
  rw [hsz] at hnx
  have hlast:=hC.last
  have rest:Ev (fun k=>tlv_reader_read.j3 k ((p+Fo.hd a b c d ks+(d++ks.enc).length:Nat):Int) 0 (strOfNums l) (upd T (O++[me])++(Fo.cons a b c d ks .nil).flat tl) (spl (F++(Fo.cons a b c d ks .nil).froms p) (To++(Fo.cons a b c d ks .nil).tos p)) (iz (O++[me]))) R:=by
   refine ih2 _ q e dep _ (by omega) hq he g4 o8 (by omega) _ _ _ O me R hnx ?_
   rw [upd_snoc,hC.t,addKs_app _ _ _ _ (by rw [addKs_len,hC.t];exact hlast.1),addKs_two _ _ _ _ (by rw [hC.t];exact hlast.1)]
   have e2:tl+(1+ks.size)=tl+1+ks.size:=by omega
   simp only [Fo.flat,Fo.froms,Fo.tos,Fo.roots,List.append_nil,List.append_assoc,List.cons_append,List.nil_append,List.singleton_append,e2] at k ⊢
   exact k
  refine tlv_next l hs T F To (O++[me]) tl hC.sp hC.o (by have:=hC.d;omega) (p:Int) (by simp) (by rw [hC.e];omega) (hk.prog T F To (O++[me]) R hC ?_)
  cases c with
  | false =>
   rw [if_neg (by decide)]
   rw [g3]
   obtain rfl:=o6 rfl
   simpa only [Fo.flat,Fo.froms,Fo.tos,Fo.roots,Fo.enc,List.append_nil,List.nil_append] using rest
  | true =>
   rw [if_pos rfl]
   obtain rfl:=o5 rfl
   have hin:=hC.inner a b true ⟨#[]⟩ p (p+Fo.hd a b true [] ks+([]++ks.enc).length) (by omega) (by omega)
   refine ih1 _ _ _ (dep+1) (tl+1) (by omega) (Nat.le_refl _) (by omega) g3 o7 (by omega) _ _ _ (O++[me]) tl R hin ?_
   have hin2:=hin.sp
   have e5:addKs (upd T (O++[me])++[nd a b true ⟨#[]⟩ []]) tl (ks.roots (tl+1))++ks.flat (tl+1)=upd T (O++[me])++(Fo.cons a b true [] ks .nil).flat tl:=by
    rw [addKs_end (upd T (O++[me])) _ [] _ tl (by rw [upd_length,hC.t])]
    simp only [Fo.flat,List.append_nil,List.append_assoc,List.singleton_append]
    rfl
   have e6:F++[(p:Int)]++ks.froms (p+Fo.hd a b true [] ks)=F++(Fo.cons a b true [] ks .nil).froms p:=by
    simp only [Fo.froms,List.append_nil,List.append_assoc,List.singleton_append]
   have e7:To++[((p+Fo.hd a b true [] ks+([]++ks.enc).length:Nat):Int)]++ks.tos (p+Fo.hd a b true [] ks)=To++(Fo.cons a b true [] ks .nil).tos p:=by
    simp only [Fo.tos,List.append_nil,List.append_assoc,List.singleton_append]
   rw [e5,e6,e7]
   refine tlv_pop l hs _ _ _ (O++[me]) tl _ hnx.sp hnx.o (by have:=hC.d;omega) (by omega) _ ?_ rest
   rw [← e7,List.append_assoc,List.singleton_append]
   have:=getD_app_at To (ks.tos (p+Fo.hd a b true [] ks)) ((p+Fo.hd a b true [] ks+([]++ks.enc).length:Nat):Int) 0
   rw [hC.sp.t] at this
   exact this
theorem dec_enc (l:List Int) (hl:OkB l) (hs:l.length≤65535) (a b:Int) (c:Bool) (d:List Int) (ks:Fo) (he:l=(Fo.cons a b c d ks .nil).enc) (ho:(Fo.cons a b c d ks .nil).Ok 0) (hz:(Fo.cons a b c d ks .nil).size≤1000):Ev (fun k=>tlv_Decode.f k (strOfNums l)) ((Fo.cons a b c d ks .nil).flat 0,0,0)∧Ev (fun k=>cr19_Decode.f k (strOfNums l)) ((Fo.cons a b c d ks .nil).flat 0,0,0):=by
 have hseg:seg l 0 l.length=(Fo.cons a b c d ks .nil).enc:=by rw [seg,List.drop_zero,Nat.sub_zero,List.take_length,← he]
 have hk:=fwd_look (tl:=0) hl hs hseg (Nat.zero_le _) (Nat.le_refl _) (Nat.le_refl _) ho (by omega)
 obtain ⟨g1,g2,g3,g4⟩:=seg_cons hseg (Nat.le_refl _) (Nat.zero_le _)
 have hpos:=Fo.hd_pos a b c d ks
 have hn0:(Fo.nil.enc).length=0:=rfl
 have h0:l≠[]:=fun h=>by rw [h] at g1;simp at g1;omega
 have hpos':0 < l.length:=List.length_pos_iff.2 h0
 have hC:Cond l [] [] [] [] l.length 0 0:=⟨rfl,sp_nil l,fun o h=>(by cases h),fun x h=>(by cases h),rfl,rfl⟩
 obtain ⟨⟨a0,a1,b0,b1⟩,o1,o2,o3,o4,o5,o6,o7,o8⟩:=ho
 have hlen:=Fo.enc_cons a b c d ks .nil
 have hsp:=Fo.sp_app l (Fo.cons a b c d ks .nil) [] [] 0 0 (sp_nil l) (by rw [← he];omega)
 rw [Nat.zero_add,List.nil_append,List.nil_append] at hsp
 have hdone:=tlv_done l hs ((Fo.cons a b c d ks .nil).flat 0) ((Fo.cons a b c d ks .nil).froms 0) ((Fo.cons a b c d ks .nil).tos 0) _ hsp l.length (Nat.le_refl _)
 rw [if_neg (Nat.lt_irrefl _)] at hdone
 have e1:0+Fo.hd a b c d ks+(d++ks.enc).length=l.length:=by omega
 have hr:Ev (fun k=>tlv_reader_read.g0_1 k 0 (strOfNums l) [] [] []) (0,0,strOfNums l,(Fo.cons a b c d ks .nil).flat 0,spl ((Fo.cons a b c d ks .nil).froms 0) ((Fo.cons a b c d ks .nil).tos 0),[]):=by
  refine hk.prog [] [] [] [] _ hC ?_
  cases c with
  | false =>
   rw [if_neg (by decide),g3]
   obtain rfl:=o6 rfl
   rw [e1]
   have e2:Fo.hd a b false d .nil+d.length=l.length:=by
    have:=e1
    rw [show Fo.nil.enc=[] from rfl,List.append_nil] at this
    omega
   have hu:upd ([]:List Nd) []=[]:=rfl
   simpa only [Fo.flat,Fo.froms,Fo.tos,Fo.roots,Fo.enc,List.append_nil,List.nil_append,Nat.zero_add,e2,hu] using hdone
  | true =>
   rw [if_pos rfl]
   obtain rfl:=o5 rfl
   have hin:=hC.inner a b true ⟨#[]⟩ 0 (0+Fo.hd a b true [] ks+([]++ks.enc).length) (by omega) (by omega)
   rw [Fo.size] at hz
   refine fwd_kids l hl hs ks _ _ _ 1 1 (by omega) (Nat.le_refl _) (by omega) g3 o7 (by omega) _ _ _ [] 0 _ hin ?_
   have e5:addKs (upd [] []++[nd a b true ⟨#[]⟩ []]) 0 (ks.roots 1)++ks.flat 1=(Fo.cons a b true [] ks .nil).flat 0:=by
    have:=addKs_end [] (nd a b true ⟨#[]⟩ []) [] (ks.roots 1) 0 rfl
    show addKs ([]++[nd a b true ⟨#[]⟩ []]) 0 (ks.roots 1)++ks.flat 1=_
    rw [this]
    simp only [Fo.flat,List.append_nil,Nat.zero_add]
    rfl
   have e6:[]++[((0:Nat):Int)]++ks.froms (0+Fo.hd a b true [] ks)=(Fo.cons a b true [] ks .nil).froms 0:=by
    simp only [Fo.froms,List.append_nil,List.nil_append,List.singleton_append]
   have e7:[]++[((0+Fo.hd a b true [] ks+([]++ks.enc).length:Nat):Int)]++ks.tos (0+Fo.hd a b true [] ks)=(Fo.cons a b true [] ks .nil).tos 0:=by
    simp only [Fo.tos,List.append_nil,List.nil_append,List.singleton_append]
   rw [e5,e6,e7]
   refine tlv_pop l hs _ _ _ [] 0 _ hsp (fun o h=>(by cases h)) (by decide) (by rw [Fo.size];omega) _ ?_ ?_
   ·rw [← e7];rfl
   ·rw [e1];exact hdone
 have r:=tread_is l h0 hs hr
 have hp:Ev (fun k=>tlv_Decode.f k (strOfNums l)) ((Fo.cons a b c d ks .nil).flat 0,0,0):=Ev.congr (fun k=>by rw [tlv_Decode.f]) (Ev.bind r (Ev.ifp rfl (Ev.now _)))
 refine ⟨hp,?_⟩
 cases dec_is l hl hs with
 | bad code q hc hq p1 p2 p3 p4 =>
  have:=hp.det p1
  exact absurd (congrArg (fun z=>z.2.1) this).symm hc
 | ok a' b' c' d' ks' he' ho' hz' p1 p2 p3 p4 =>
  have:=hp.det p1
  rw [this]
  exact p2
theorem mn_lt0 {a b:Int}:mn a b < 0↔a < 0∨b < 0:=by unfold mn;split<;>omega
theorem one_key (x:S55) (hs:x.f3.size≤2000):∃ b,Ev (fun k=>tree_one.f k x.f0 x.f1 x.f2 x.f3 x.f4) b∧Ev (fun k=>cr20_one.f k x.f0 x.f1 x.f2 x.f3 x.f4) b∧(b=true→(0≤x.f0∧x.f0≤3∧0≤x.f1∧x.f1≤2097151)∧(x.f2=true→x.f3.toList=[])∧(x.f2=false→x.f4=[])∧(x.f0=0→(x.f2=true→x.f1=16∨x.f1=17)∧(x.f2=false→Ev (fun k=>strs_Right.f k x.f1 x.f3) true∧Ev (fun k=>cr18_Right.f k x.f1 x.f3) true))):=by
 obtain ⟨a,b,c,d,e⟩:=x
 obtain ⟨l,hl,rfl⟩:=str_nums d
 rw [show (⟨a,b,c,strOfNums l,e⟩:S55).f3.size=l.length from strOfNums_size l] at hs
 dsimp only
 obtain ⟨t,t1,t2⟩:=strs_right_key b l hl (by omega)
 have hno1:Ev (fun k=>tree_one.j0 k true a b c (strOfNums l) e) false:=by
  refine Ev.step (fun k=>by rw [tree_one.j0]) ?_
  exact Ev.ifp rfl (Ev.now _)
 have hno2:Ev (fun k=>cr20_one.j0 k true a b c (strOfNums l) e) false:=by
  refine Ev.step (fun k=>by rw [cr20_one.j0]) ?_
  exact Ev.ifp rfl (Ev.now _)
 by_cases hb:0≤a∧a≤3∧0≤b∧b≤2097151
 case neg =>
  refine ⟨false,?_,?_,fun h=>by cases h⟩
  ·refine Ev.congr (fun k=>by rw [tree_one.f]) ?_
   by_cases h1:mn a b < 0
   ·exact Ev.ifp h1 hno1
   refine Ev.ifn h1 ?_
   rw [mn_lt0] at h1
   by_cases h2:a > 3
   ·exact Ev.ifp h2 hno1
   refine Ev.ifn h2 ?_
   rw [decide_eq_true (by omega)]
   exact hno1
  ·refine Ev.congr (fun k=>by rw [cr20_one.f]) ?_
   by_cases h1:a < 0
   ·exact Ev.ifp h1 hno2
   refine Ev.ifn h1 ?_
   by_cases h2:a > 3
   ·exact Ev.ifp h2 hno2
   refine Ev.ifn h2 ?_
   by_cases h3:b < 0
   ·exact Ev.ifp h3 hno2
   refine Ev.ifn h3 ?_
   rw [decide_eq_true (by omega)]
   exact hno2
 have s1:∀ {r},Ev (fun k=>tree_one.j0 k false a b c (strOfNums l) e) r→Ev (fun k=>tree_one.f k a b c (strOfNums l) e) r:=by
  intro r h
  refine Ev.congr (fun k=>by rw [tree_one.f]) ?_
  refine Ev.ifn (by rw [mn_lt0];omega) (Ev.ifn (by omega) ?_)
  rw [decide_eq_false (by omega)]
  exact h
 have s2:∀ {r},Ev (fun k=>cr20_one.j0 k false a b c (strOfNums l) e) r→Ev (fun k=>cr20_one.f k a b c (strOfNums l) e) r:=by
  intro r h
  refine Ev.congr (fun k=>by rw [cr20_one.f]) ?_
  refine Ev.ifn (by omega) (Ev.ifn (by omega) (Ev.ifn (by omega) ?_))
  rw [decide_eq_false (by omega)]
  exact h
 have e1:∀ k,tree_one.j0 (k+1) false a b c (strOfNums l) e=_:=fun k=>by rw [tree_one.j0]
 have e2:∀ k,cr20_one.j0 (k+1) false a b c (strOfNums l) e=_:=fun k=>by rw [cr20_one.j0]
 cases c with
 | true =>
  by_cases hd:(strOfNums l).toList=[]
  case neg=>exact ⟨false,s1 (Ev.step e1 (Ev.ifn (by simp) (Ev.ifp rfl (Ev.ifn hd (Ev.now _))))),s2 (Ev.step e2 (Ev.ifn (by simp) (Ev.ifp rfl (Ev.ifn hd (Ev.now _))))),fun h=>by cases h⟩
  by_cases h0:a=0
  case neg=>exact ⟨true,s1 (Ev.step e1 (Ev.ifn (by simp) (Ev.ifp rfl (Ev.ifp hd (Ev.ifn h0 (Ev.now _)))))),s2 (Ev.step e2 (Ev.ifn (by simp) (Ev.ifp rfl (Ev.ifp hd (Ev.ifn h0 (Ev.now _)))))),fun _=>⟨hb,fun _=>hd,(fun h=>by cases h),fun h=>absurd h h0⟩⟩
  by_cases h16:b=16
  ·exact ⟨true,s1 (Ev.step e1 (Ev.ifn (by simp) (Ev.ifp rfl (Ev.ifp hd (Ev.ifp h0 (Ev.ifp h16 (Ev.now _))))))),s2 (Ev.step e2 (Ev.ifn (by simp) (Ev.ifp rfl (Ev.ifp hd (Ev.ifp h0 (Ev.ifp h16 (Ev.now _))))))),fun _=>⟨hb,fun _=>hd,(fun h=>by cases h),fun _=>⟨fun _=>.inl h16,fun h=>by cases h⟩⟩⟩
  ·exact ⟨b == 17,s1 (Ev.step e1 (Ev.ifn (by simp) (Ev.ifp rfl (Ev.ifp hd (Ev.ifp h0 (Ev.ifn h16 (Ev.now _))))))),s2 (Ev.step e2 (Ev.ifn (by simp) (Ev.ifp rfl (Ev.ifp hd (Ev.ifp h0 (Ev.ifn h16 (Ev.now _))))))),fun h=>⟨hb,fun _=>hd,(fun h=>by cases h),fun _=>⟨fun _=>.inr (eq_of_beq h),fun h=>by cases h⟩⟩⟩
 | false =>
  by_cases he:(e.length:Int)=0
  case neg=>exact ⟨false,s1 (Ev.step e1 (Ev.ifn (by simp) (Ev.ifn (by simp) (Ev.ifn he (Ev.now _))))),s2 (Ev.step e2 (Ev.ifn (by simp) (Ev.ifn (by simp) (Ev.ifn he (Ev.now _))))),fun h=>by cases h⟩
  have hee:e=[]:=List.eq_nil_of_length_eq_zero (by omega)
  by_cases h0:a=0
  ·exact ⟨t,s1 (Ev.step e1 (Ev.ifn (by simp) (Ev.ifn (by simp) (Ev.ifp he (Ev.ifp h0 (Ev.bind t1 (Ev.now _))))))),s2 (Ev.step e2 (Ev.ifn (by simp) (Ev.ifn (by simp) (Ev.ifp he (Ev.ifp h0 (Ev.bind t2 (Ev.now _))))))),fun ht=>⟨hb,(fun h=>by cases h),(fun _=>hee),fun _=>⟨(fun h=>by cases h),fun _=>by subst ht;exact ⟨t1,t2⟩⟩⟩⟩
  ·exact ⟨true,s1 (Ev.step e1 (Ev.ifn (by simp) (Ev.ifn (by simp) (Ev.ifp he (Ev.ifn h0 (Ev.now _)))))),s2 (Ev.step e2 (Ev.ifn (by simp) (Ev.ifn (by simp) (Ev.ifp he (Ev.ifn h0 (Ev.now _)))))),fun _=>⟨hb,(fun h=>by cases h),(fun _=>hee),fun h=>absurd h h0⟩⟩
def kidsOf (t:List S55) (n:Nat):List Int:=(rd_T55 t (n:Int)).f4
inductive Ch (ob:S55→Bool) (t:List S55):List Int→Nat→Nat→Nat→Prop where
 | nil (n:Nat):Ch ob t [] n n 0
 | cons {k:Int} {ks:List Int} {n m j h1 h2:Nat} (hk:k=(n:Int)) (hn:n < t.length) (ho:ob (rd_T55 t (n:Int))=true) (h:Ch ob t (kidsOf t n) (n+1) m h1) (hs:Ch ob t ks m j h2):Ch ob t (k :: ks) n j (max (h1+1) h2)
theorem Ch.le {ob:S55→Bool} {t:List S55} {ks:List Int} {n j h:Nat} (c:Ch ob t ks n j h):n≤j∧(n≤t.length→j≤t.length):=by
 induction c with
 | nil n=>exact ⟨Nat.le_refl _,id⟩
 | cons hk hn ho h hs ih1 ih2=>exact ⟨by omega,fun _=>ih2.2 (ih1.2 (by omega))⟩
theorem Ch.det {ob:S55→Bool} {t:List S55} {ks:List Int} {n j h:Nat} (c:Ch ob t ks n j h):∀ {j' h':Nat},Ch ob t ks n j' h'→j=j'∧h=h':=by
 induction c with
 | nil n=>intro j' h' c';cases c';exact ⟨rfl,rfl⟩
 | cons hk hn ho h hs ih1 ih2 =>
  intro j' h' c'
  cases c' with
  | cons _ _ _ g gs =>
   obtain ⟨rfl,rfl⟩:=ih1 g
   obtain ⟨rfl,rfl⟩:=ih2 gs
   exact ⟨rfl,rfl⟩
def RT (ob:S55→Bool) (t:List S55) (h:Nat):Prop:=0 < t.length∧t.length≤1000∧ob (rd_T55 t 0)=true∧Ch ob t (kidsOf t 0) 1 t.length h∧h+1≤16
theorem rd_last {α:Type} (s:List α) (x d:α):(s++[x]).getD s.length d=x:=by simp [List.getD_eq_getElem?_getD]
theorem behind_is (ob:S55→Bool) (t:List S55) (hN:t.length≤1000) (hk:∀ n,n < t.length→(kidsOf t n).length≤100000)
 (hob:∀ n,n < t.length→Ev (fun k=>cr20_one.f k (rd_T55 t (n:Int)).f0 (rd_T55 t (n:Int)).f1 (rd_T55 t (n:Int)).f2 (rd_T55 t (n:Int)).f3 (rd_T55 t (n:Int)).f4) (ob (rd_T55 t (n:Int)))) :
 ∀ (d deep i:Nat),17 - deep≤d→deep≤17→i≤t.length→∃ r:Int,Ev (fun k=>cr20_behind.f k t (i:Int) (deep:Int)) r ∧
  ((r = -1∧¬ ∃ j h,i < t.length∧ob (rd_T55 t (i:Int))=true∧Ch ob t (kidsOf t i) (i+1) j h∧deep+h≤16)∨∃ j h:Nat,r=(j:Int)∧i < t.length∧ob (rd_T55 t (i:Int))=true∧Ch ob t (kidsOf t i) (i+1) j h∧deep+h≤16):=by
 intro d
 induction d with
 | zero =>
  intro deep i hd h17 hi
  have hno:Ev (fun k=>cr20_behind.j0 k t (i:Int) (deep:Int) true) (-1):=by
   refine Ev.step (fun k=>by rw [cr20_behind.j0]) ?_
   exact Ev.ifp rfl (Ev.now _)
  refine ⟨-1,?_,Or.inl ⟨rfl,fun ⟨j,h,_,_,_,hh⟩=>by omega⟩⟩
  refine Ev.step (fun k=>by rw [cr20_behind.f]) ?_
  by_cases g:(i:Int)≥(t.length:Int)
  ·exact Ev.ifp g hno
  ·exact Ev.ifn g (Ev.ifp (by omega) hno)
 | succ d ih =>
  intro deep i hd h17 hi
  have hno:Ev (fun k=>cr20_behind.j0 k t (i:Int) (deep:Int) true) (-1):=by
   refine Ev.step (fun k=>by rw [cr20_behind.j0]) ?_
   exact Ev.ifp rfl (Ev.now _)
  by_cases g:(i:Int)≥(t.length:Int)
  ·refine ⟨-1,?_,Or.inl ⟨rfl,fun ⟨j,h,hh,_⟩=>by omega⟩⟩
   refine Ev.step (fun k=>by rw [cr20_behind.f]) ?_
   exact Ev.ifp g hno
  by_cases g2:(deep:Int) > 16
  ·refine ⟨-1,?_,Or.inl ⟨rfl,fun ⟨j,h,_,_,_,hh⟩=>by omega⟩⟩
   refine Ev.step (fun k=>by rw [cr20_behind.f]) ?_
   exact Ev.ifn g (Ev.ifp g2 hno)
  have hiN:i < t.length:=by omega
  cases hb:ob (rd_T55 t (i:Int)) with
  | false =>
   refine ⟨-1,?_,Or.inl ⟨rfl,fun ⟨j,h,_,hh,_⟩=>by cases hh⟩⟩
   refine Ev.step (fun k=>by rw [cr20_behind.f]) ?_
   refine Ev.ifn g (Ev.ifn g2 (Ev.ifp (by omega) (Ev.ifp (by omega) (Ev.bind (hob i hiN) ?_))))
   rw [hb]
   exact hno
  | true =>
   have loop:∀ (ks:List Int) (p n:Nat),(kidsOf t i).drop p=ks→p≤(kidsOf t i).length→n≤t.length→∃ r:Int,Ev (fun k=>cr20_behind.l0 k t (i:Int) (deep:Int) (n:Int) (p:Int)) r ∧
    ((r = -1∧¬ ∃ j h,Ch ob t ks n j h∧deep+h≤16)∨∃ j h:Nat,r=(j:Int)∧Ch ob t ks n j h∧deep+h≤16):=by
    intro ks
    induction ks with
    | nil =>
     intro p n hp hpl hn
     have hpe:p=(kidsOf t i).length:=by
      have:=congrArg List.length hp
      simp at this
      omega
     refine ⟨(n:Int),?_,Or.inr ⟨n,0,rfl,Ch.nil n,by omega⟩⟩
     refine Ev.step (fun k=>by rw [cr20_behind.l0]) ?_
     refine Ev.ifp (by omega) (Ev.ifp (by omega) (Ev.ifn ?_ (Ev.now _)))
     show ¬ (p:Int) < ((kidsOf t i).length:Int)
     omega
    | cons k0 ks' ihk =>
     intro p n hp hpl hn
     have hpl2:p < (kidsOf t i).length:=by
      have:=congrArg List.length hp
      simp at this
      omega
     have hdrop:=List.drop_eq_getElem_cons hpl2
     rw [hp] at hdrop
     obtain ⟨hk0,hks⟩:=List.cons.inj hdrop
     have hkl:=hk i hiN
     have hrd:rd (rd_T55 t (i:Int)).f4 (p:Int)=k0:=by rw [hk0];exact rd_get p hpl2
     have step:∀ {r},Ev (fun k=>if rd (rd_T55 t (i:Int)).f4 (p:Int)=(n:Int) then ((cr20_behind.f k t (n:Int) (wrap64 ((deep:Int)+1))).bind fun t380=>(if t380 < 0 then (some (-1)) else (cr20_behind.l0 k t (i:Int) (deep:Int) t380 (wrap64 ((p:Int)+1))))) else some (-1)) r→Ev (fun k=>cr20_behind.l0 k t (i:Int) (deep:Int) (n:Int) (p:Int)) r:=by
      intro r h
      refine Ev.step (fun k=>by rw [cr20_behind.l0]) ?_
      refine Ev.ifp (by omega) (Ev.ifp (by omega) (Ev.ifp ?_ (Ev.ifp (by omega) h)))
      show (p:Int) < ((kidsOf t i).length:Int)
      omega
     rw [hrd,w64 (x:=(deep:Int)+1) (by omega) (by omega),w64 (x:=(p:Int)+1) (by omega) (by omega)] at step
     by_cases hkn:k0=(n:Int)
     case neg=>exact ⟨-1,step (Ev.ifn hkn (Ev.now _)),Or.inl ⟨rfl,fun ⟨j,h,c,_⟩=>by cases c;contradiction⟩⟩
     obtain ⟨r1,hr1,hc1⟩:=ih (deep+1) n (by omega) (by omega) hn
     rw [show ((deep+1:Nat):Int)=(deep:Int)+1 by omega] at hr1
     rcases hc1 with ⟨rfl,hnot⟩ | ⟨j1,h1,rfl,hnN,hob1,c1,hd1⟩
     ·refine ⟨-1,step (Ev.ifp hkn (Ev.bind hr1 (Ev.ifp (by decide) (Ev.now _)))),Or.inl ⟨rfl,fun ⟨j,h,c,hh⟩=>hnot ?_⟩⟩
      cases c with
      | cons _ hn' ho' g gs=>exact ⟨_,_,hn',ho',g,by omega⟩
     ·have hle:=c1.le
      obtain ⟨r2,hr2,hc2⟩:=ihk (p+1) j1 hks.symm (by omega) (hle.2 (by omega))
      rw [show ((p+1:Nat):Int)=(p:Int)+1 by omega] at hr2
      refine ⟨r2,step (Ev.ifp hkn (Ev.bind hr1 (Ev.ifn (by omega) hr2))),?_⟩
      rcases hc2 with ⟨rfl,hnot⟩ | ⟨j,h,rfl,c,hh⟩
      ·refine Or.inl ⟨rfl,fun ⟨j,h,c,hh⟩=>hnot ?_⟩
       cases c with
       | cons _ hn' ho' g gs =>
        obtain ⟨rfl,rfl⟩:=c1.det g
        exact ⟨_,_,gs,by omega⟩
      ·exact Or.inr ⟨j,_,rfl,Ch.cons hkn hnN hob1 c1 c,by omega⟩
   obtain ⟨r,hr,hc⟩:=loop _ 0 (i+1) rfl (by omega) (by omega)
   refine ⟨r,?_,?_⟩
   ·refine Ev.step (fun k=>by rw [cr20_behind.f]) ?_
    refine Ev.ifn g (Ev.ifn g2 (Ev.ifp (by omega) (Ev.ifp (by omega) (Ev.bind (hob i hiN) ?_))))
    rw [hb]
    refine Ev.step (fun k=>by rw [cr20_behind.j0]) ?_
    rw [w64 (by omega) (by omega)]
    exact Ev.ifn (by simp) hr
   ·rw [List.drop_zero] at hc
    rcases hc with ⟨rfl,hnot⟩ | ⟨j,h,rfl,c,hh⟩
    ·exact Or.inl ⟨rfl,fun ⟨j,h,_,_,c,hh⟩=>hnot ⟨j,h,c,hh⟩⟩
    ·exact Or.inr ⟨j,h,rfl,hiN,rfl,c,hh⟩
theorem ref_right_is (ob:S55→Bool) (t:List S55) (hk:∀ n,n < t.length→(kidsOf t n).length≤100000)
 (hob:∀ n,n < t.length→Ev (fun k=>cr20_one.f k (rd_T55 t (n:Int)).f0 (rd_T55 t (n:Int)).f1 (rd_T55 t (n:Int)).f2 (rd_T55 t (n:Int)).f3 (rd_T55 t (n:Int)).f4) (ob (rd_T55 t (n:Int)))) :
 ∃ b,Ev (fun k=>cr20_Right.f k t) b∧(b=true↔∃ h,RT ob t h):=by
 by_cases h0:(t.length:Int) > 0
 case neg =>
  refine ⟨false,?_,by simp;intro h hh;have:=hh.1;omega⟩
  refine Ev.congr (fun k=>by rw [cr20_Right.f]) ?_
  exact Ev.ifn h0 (Ev.now _)
 by_cases h1:(t.length:Int)≤1000
 case neg =>
  refine ⟨false,?_,by simp;intro h hh;have:=hh.2.1;omega⟩
  refine Ev.congr (fun k=>by rw [cr20_Right.f]) ?_
  exact Ev.ifp h0 (Ev.ifn h1 (Ev.now _))
 obtain ⟨r,hr,hc⟩:=behind_is ob t (by omega) hk hob 16 1 0 (by omega) (by omega) (by omega)
 refine ⟨r == (t.length:Int),?_,?_⟩
 ·refine Ev.congr (fun k=>by rw [cr20_Right.f]) ?_
  exact Ev.ifp h0 (Ev.ifp h1 (Ev.bind hr (Ev.now _)))
 ·rw [beq_iff_eq]
  rcases hc with ⟨rfl,hnot⟩ | ⟨j,h,rfl,hi,ho,c,hh⟩
  ·exact ⟨fun h=>by omega,fun ⟨h,a1,a2,a3,a4,a5⟩=>absurd ⟨_,h,a1,a3,a4,by omega⟩ hnot⟩
  ·constructor
   ·intro e
    obtain rfl:j=t.length:=by omega
    exact ⟨h,hi,by omega,ho,c,by omega⟩
   ·rintro ⟨h',a1,a2,a3,a4,a5⟩
    rw [(c.det a4).1]
theorem fr_last (s:List S158) (x:S158) (i:Int) (h:i=(s.length:Int)):rd_T158 (s++[x]) i=x:=by
 subst h
 unfold rd_T158
 rw [Int.toNat_natCast]
 exact rd_last _ _ _
def Done (t:List S55) (l:List S158):Prop:=∀ f∈l,∃ p:Nat,p < t.length∧f=⟨(p:Int),((kidsOf t p).length:Int)⟩
theorem pops (t:List S55) (hN:t.length≤1000) (s:List S158) (hs:s.length≤100000) (most i:Int) (r:Int):∀ (n:Nat) (l:List S158),l.length=n→l.length≤100000→Done t l →
 Ev (fun k=>tree_depth.l1 k t s most i t (t.length:Int) i) r→Ev (fun k=>tree_depth.l1 k t (s++l) most i t (t.length:Int) i) r:=by
 intro n
 induction n with
 | zero =>
  intro l hl _ _ h
  obtain rfl:=List.eq_nil_of_length_eq_zero hl
  rw [List.append_nil]
  exact h
 | succ n ih =>
  intro l hl h5 hd h
  obtain ⟨q,x,rfl⟩:∃ q x,l=q++[x]:=⟨l.dropLast,l.getLast (by intro e;subst e;simp at hl),(List.dropLast_concat_getLast _).symm⟩
  simp at hl h5
  have h2:=ih q hl (by omega) (fun f hf=>hd f (by simp [hf])) h
  obtain ⟨p,hp,rfl⟩:=hd x (by simp)
  have hlen:((s++(q++[(⟨(p:Int),((kidsOf t p).length:Int)⟩:S158)])).length:Int)=(s++q).length+1:=by simp;omega
  refine Ev.step (fun k=>by rw [tree_depth.l1]) ?_
  have hsq:(s++q).length≤200000:=by simp;omega
  rw [hlen,w64 (by omega) (by omega),show ((s++q).length:Int)+1 - 1=((s++q).length:Int) by omega,← List.append_assoc,fr_last (s++q) _ _ rfl]
  refine Ev.ifp (by omega) (Ev.ifp (by omega) (Ev.ifp (by omega) (Ev.ifp (by simp) (Ev.ifp (by simp;omega) (Ev.ifp rfl (Ev.ifp (by omega) ?_))))))
  rw [Int.toNat_natCast,List.take_left]
  exact h2
theorem l2_all (t:List S55) (most:Int) (x:List S158) (hx:x.length≤100000) (hd:Done t x) (d:Nat):∀ i:Nat,i≤x.length→x.length - i=d →
 Ev (fun k=>tree_depth.l2 k t x most (x.length:Int) (i:Int)) (if most > 16 then 0 else most):=by
 induction d with
 | zero =>
  intro i hi hdd
  refine Ev.step (fun k=>by rw [tree_depth.l2]) ?_
  refine Ev.ifn (by omega) ?_
  exact Ev.ite (fun _=>Ev.now _) (fun _=>Ev.now _)
 | succ d ih =>
  intro i hi hdd
  have hlt:i < x.length:=by omega
  obtain ⟨p,hp,hf⟩:=hd x[i] (List.getElem_mem hlt)
  have hr:rd_T158 x (i:Int)=x[i]:=by unfold rd_T158;simp [List.getD_eq_getElem?_getD,hlt]
  refine Ev.step (fun k=>by rw [tree_depth.l2]) ?_
  rw [hr,hf,w64 (by omega) (by omega),show (i:Int)+1=((i+1:Nat):Int) by omega]
  exact Ev.ifp (by omega) (Ev.ifp (by omega) (Ev.ifp (by omega) (Ev.ifp (by simp) (Ev.ifp (by simp;omega) (Ev.ifp rfl (ih (i+1) (by omega) (by omega)))))))
theorem l2_not (t:List S55) (most:Int) (x:List S158) (hx:x.length≤100000) (hw:∀ f∈x,0≤f.f0∧f.f0 < (t.length:Int)) (j:Nat) (hj:j < x.length) (hn:x[j].f1≠((rd_T55 t x[j].f0).f4.length:Int)) (d:Nat):∀ i:Nat,i≤j→j - i=d →
 Ev (fun k=>tree_depth.l2 k t x most (x.length:Int) (i:Int)) 0:=by
 induction d with
 | zero =>
  intro i hi hdd
  obtain rfl:i=j:=by omega
  have hr:rd_T158 x (i:Int)=x[i]:=by unfold rd_T158;simp [List.getD_eq_getElem?_getD,hj]
  have hwf:=hw x[i] (List.getElem_mem hj)
  refine Ev.step (fun k=>by rw [tree_depth.l2]) ?_
  rw [hr]
  exact Ev.ifp (by omega) (Ev.ifp (by omega) (Ev.ifp (by omega) (Ev.ifp hwf.1 (Ev.ifp hwf.2 (Ev.ifn hn (Ev.now _))))))
 | succ d ih =>
  intro i hi hdd
  have hlt:i < x.length:=by omega
  have hr:rd_T158 x (i:Int)=x[i]:=by unfold rd_T158;simp [List.getD_eq_getElem?_getD,hlt]
  have hwf:=hw x[i] (List.getElem_mem hlt)
  refine Ev.step (fun k=>by rw [tree_depth.l2]) ?_
  rw [hr,w64 (by omega) (by omega),show (i:Int)+1=((i+1:Nat):Int) by omega]
  refine Ev.ifp (by omega) (Ev.ifp (by omega) (Ev.ifp (by omega) (Ev.ifp hwf.1 (Ev.ifp hwf.2 ?_))))
  by_cases hc:x[i].f1=((rd_T55 t x[i].f0).f4.length:Int)
  ·exact Ev.ifp hc (ih (i+1) (by omega) (by omega))
  ·exact Ev.ifn hc (Ev.now _)
theorem Ev.uniq {α:Type} {g:Nat→Option α} {r s:α} (h:Ev g r) (h':Ev g s):r=s:=by
 obtain ⟨a,ha⟩:=h
 obtain ⟨b,hb⟩:=h'
 exact Option.some.inj ((ha (max a b) (Nat.le_max_left _ _)).symm.trans (hb (max a b) (Nat.le_max_right _ _)))
def ObT (ob:S55→Bool) (t:List S55):Prop:=∀ n,n < t.length→Ev (fun k=>tree_one.f k (rd_T55 t (n:Int)).f0 (rd_T55 t (n:Int)).f1 (rd_T55 t (n:Int)).f2 (rd_T55 t (n:Int)).f3 (rd_T55 t (n:Int)).f4) (ob (rd_T55 t (n:Int)))
theorem dp_step (ob:S55→Bool) (t:List S55) (hob:ObT ob t) (x:List S158) (most:Int) (n:Nat) (hn:n < t.length) (ho:ob (rd_T55 t (n:Int))=true) {r:Int}
 (h:Ev (fun k=>tree_depth.l1 k t x most (n:Int) t (t.length:Int) (n:Int)) r):Ev (fun k=>tree_depth.l0 k t x most t (t.length:Int) (n:Int)) r:=by
 refine Ev.step (fun k=>by rw [tree_depth.l0]) ?_
 refine Ev.ifp (by omega) (Ev.ifp (by omega) (Ev.ifp (by omega) (Ev.bind (hob n hn) ?_)))
 rw [ho]
 exact Ev.ifp rfl h
theorem set_last {α:Type} (s:List α) (x y:α) (i:Int) (h:i=(s.length:Int)):(s++[x]).set i.toNat y=s++[y]:=by
 subst h
 rw [Int.toNat_natCast]
 simp
theorem dp_top (t:List S55) (hN:t.length≤1000) (s:List S158) (hs:s.length≤2000) (p q n:Nat) (hp:p < t.length) (hq:q < (kidsOf t p).length) (hk:(kidsOf t p).length≤100000) (hn0:0 < n) (hn:n < t.length) (most:Int) {r:Int}
 (h:Ev (fun k=>if rd (kidsOf t p) (q:Int)=(n:Int) then tree_depth.l0 k t (s++[⟨(p:Int),((q+1:Nat):Int)⟩]++[⟨(n:Int),0⟩]) (mx most ((s.length+2:Nat):Int)) t (t.length:Int) ((n+1:Nat):Int) else some 0) r) :
 Ev (fun k=>tree_depth.l1 k t (s++[⟨(p:Int),(q:Int)⟩]) most (n:Int) t (t.length:Int) (n:Int)) r:=by
 have hlen:((s++[(⟨(p:Int),(q:Int)⟩:S158)]).length:Int)=(s.length:Int)+1:=by simp
 have hlen2:∀ y:S158,((s++[y]).length:Int)=(s.length:Int)+1:=by intro y;simp
 refine Ev.step (fun k=>by rw [tree_depth.l1]) ?_
 rw [hlen,w64 (by omega) (by omega),show (s.length:Int)+1 - 1=(s.length:Int) by omega,fr_last s _ _ rfl]
 refine Ev.ifp (by omega) (Ev.ifp (by omega) (Ev.ifp (by omega) (Ev.ifp (by simp) (Ev.ifp (by simp;omega) (Ev.ifn ?_ ?_)))))
 ·show ¬ (q:Int)=((kidsOf t p).length:Int)
  omega
 refine Ev.step (fun k=>by rw [tree_depth.j3]) ?_
 rw [hlen,w64 (by omega) (by omega),show (s.length:Int)+1 - 1=(s.length:Int) by omega,fr_last s _ _ rfl,set_last s _ _ _ rfl]
 refine Ev.ifp (by omega) (Ev.ifn (by omega) (Ev.ifp (by omega) (Ev.ifp (by omega) (Ev.ifp (by simp) (Ev.ifp (by simp;omega) (Ev.ifp (by simp) (Ev.ifp ?_ ?_)))))))
 ·show (q:Int) < ((kidsOf t p).length:Int)
  omega
 refine (Ev.congr (fun k=>?_) h)
 show (if rd (kidsOf t p) (q:Int)=(n:Int) then _ else _)=_
 by_cases hv:rd (kidsOf t p) (q:Int)=(n:Int)
 ·rw [if_pos hv,if_pos hv,Option.bind_some,if_pos (by simp;omega),Option.bind_some]
  dsimp only
  rw [w64 (x:=(q:Int)+1) (by omega) (by omega),w64 (x:=(n:Int)+1) (by omega) (by omega)]
  rw [show ((s++[(⟨(p:Int),(q:Int)+1⟩:S158)]++[(⟨(n:Int),0⟩:S158)]).length:Int)=((s.length+2:Nat):Int) by simp]
  rfl
 ·rw [if_neg hv,if_neg hv]
theorem mx_nat (a b:Nat):mx (a:Int) (b:Int)=((max a b:Nat):Int):=by unfold mx;split<;>omega
theorem depth_fwd (ob:S55→Bool) (t:List S55) (hN:t.length≤1000) (hk:∀ n,n < t.length→(kidsOf t n).length≤100000) (hob:ObT ob t) {ks:List Int} {n j h:Nat} (c:Ch ob t ks n j h) :
 ∀ (s:List S158) (p q:Nat) (dn:List S158) (most:Nat),p < t.length→(kidsOf t p).drop q=ks→q≤(kidsOf t p).length→Done t dn→s.length+1+dn.length≤n→n≤t.length→s.length+1≤most →
 ∃ dn',Done t dn'∧s.length+1+dn'.length≤j∧∀ r,Ev (fun k=>tree_depth.l0 k t (s++([⟨(p:Int),((q+ks.length:Nat):Int)⟩]++dn')) ((max most (s.length+1+h):Nat):Int) t (t.length:Int) (j:Int)) r →
  Ev (fun k=>tree_depth.l0 k t (s++([⟨(p:Int),(q:Int)⟩]++dn)) (most:Int) t (t.length:Int) (n:Int)) r:=by
 induction c with
 | nil n =>
  intro s p q dn most hp hks hq hd hl hn hm
  refine ⟨dn,hd,hl,fun r hr=>?_⟩
  rw [show max most (s.length+1+0)=most by omega] at hr
  exact hr
 | @cons k ks n m j h1 h2 hkn hnN ho c1 c2 ih1 ih2 =>
  intro s p q dn most hp hks hq hd hl hn hm
  have hq2:q < (kidsOf t p).length:=by
   have:=congrArg List.length hks
   simp at this
   omega
  have hdrop:=List.drop_eq_getElem_cons hq2
  rw [hks] at hdrop
  obtain ⟨hk0,hks'⟩:=List.cons.inj hdrop
  have hv:rd (kidsOf t p) (q:Int)=(n:Int):=by rw [rd_get q hq2,← hk0,hkn]
  have le1:=c1.le
  obtain ⟨dn1,hd1,hl1,g1⟩:=ih1 (s++[⟨(p:Int),((q+1:Nat):Int)⟩]) n 0 [] (max most (s.length+2)) hnN rfl (by omega) (by intro f hf;cases hf) (by simp;omega) (by omega) (by simp;omega)
  simp only [List.length_append,List.length_cons,List.length_nil] at hl1 g1
  obtain ⟨dn2,hd2,hl2,g2⟩:=ih2 s p (q+1) ([⟨(n:Int),((kidsOf t n).length:Int)⟩]++dn1) (max (max most (s.length+2)) (s.length+(0+1)+1+h1)) hp hks'.symm (by omega)
   (by
    intro f hf
    rcases List.mem_append.1 hf with hf | hf
    ·exact ⟨n,hnN,by simpa using hf⟩
    ·exact hd1 f hf) (by simp;omega) (le1.2 (by omega)) (by omega)
  refine ⟨dn2,hd2,hl2,fun r hr=>?_⟩
  refine dp_step ob t hob _ _ n hnN ho ?_
  rw [← List.append_assoc]
  refine pops t hN _ (by simp;omega) _ _ _ _ dn rfl (by omega) hd ?_
  refine dp_top t hN s (by omega) p q n hp hq2 (hk p hp) (by omega) hnN _ ?_
  refine Ev.ifp hv ?_
  rw [mx_nat]
  have g3:=g1 r
  rw [List.append_nil] at g3
  refine g3 ?_
  rw [List.append_assoc,show 0+(kidsOf t n).length=(kidsOf t n).length by omega]
  refine g2 r ?_
  rw [show q+1+ks.length=q+(k :: ks).length by simp;omega,show max (max (max most (s.length+2)) (s.length+(0+1)+1+h1)) (s.length+1+h2)=max most (s.length+1+max (h1+1) h2) by omega]
  exact hr
def Shut (ob:S55→Bool) (t:List S55):List S158→Nat→Prop
 | [],n=>n=t.length
 | f :: rest,n=>∃ m h,Ch ob t ((kidsOf t f.f0.toNat).drop f.f1.toNat) n m h∧Shut ob t rest m
def FrOk (t:List S55) (x:List S158):Prop:=∀ f∈x,∃ p q:Nat,p < t.length∧q≤(kidsOf t p).length∧f=⟨(p:Int),(q:Int)⟩
theorem shut_done (ob:S55→Bool) (t:List S55) (y:List S158) (n:Nat) (h:Shut ob t y n):∀ l:List S158,Done t l→Shut ob t (l++y) n
 | [],_=>h
 | f :: l,hd=>by
  obtain ⟨p,hp,hf⟩:=hd f (by simp)
  refine ⟨n,0,?_,shut_done ob t y n h l (fun g hg=>hd g (by simp [hg]))⟩
  rw [hf]
  dsimp only
  rw [Int.toNat_natCast,Int.toNat_natCast,List.drop_length]
  exact Ch.nil n
theorem split_done (t:List S55):∀ (m:Nat) (x:List S158),x.length=m→FrOk t x→∃ y dn,x=y++dn∧Done t dn∧(y=[]∨∃ s,∃ p q:Nat,p < t.length∧q < (kidsOf t p).length∧y=s++[⟨(p:Int),(q:Int)⟩]):=by
 intro m
 induction m with
 | zero =>
  intro x hx _
  obtain rfl:=List.eq_nil_of_length_eq_zero hx
  exact ⟨[],[],rfl,(fun f hf=>by cases hf),Or.inl rfl⟩
 | succ m ih =>
  intro x hx hw
  obtain ⟨z,f,rfl⟩:∃ z f,x=z++[f]:=⟨x.dropLast,x.getLast (by intro e;subst e;simp at hx),(List.dropLast_concat_getLast _).symm⟩
  simp at hx
  obtain ⟨p,q,hp,hq,rfl⟩:=hw f (by simp)
  by_cases hqe:q=(kidsOf t p).length
  ·obtain ⟨y,dn,hy,hd,hc⟩:=ih z hx (fun g hg=>hw g (by simp [hg]))
   refine ⟨y,dn++[⟨(p:Int),(q:Int)⟩],by rw [hy,List.append_assoc],?_,hc⟩
   intro g hg
   rcases List.mem_append.1 hg with hg | hg
   ·exact hd g hg
   ·exact ⟨p,hp,by rw [← hqe];simpa using hg⟩
  ·exact ⟨z++[⟨(p:Int),(q:Int)⟩],[],by simp,(fun f hf=>by cases hf),Or.inr ⟨z,p,q,hp,by omega,rfl⟩⟩
theorem depth_neg (ob:S55→Bool) (t:List S55) (hN:t.length≤1000) (hk:∀ n,n < t.length→(kidsOf t n).length≤100000) (hob:ObT ob t) :
 ∀ (d n:Nat),t.length - n=d→0 < n→n≤t.length→∀ (x:List S158) (most:Int),FrOk t x→x.length≤n→∃ r,Ev (fun k=>tree_depth.l0 k t x most t (t.length:Int) (n:Int)) r∧(r=0∨Shut ob t x.reverse n):=by
 intro d
 induction d with
 | zero =>
  intro n hd h0 hn x most hw hx
  obtain rfl:n=t.length:=by omega
  have h1:∀ {r},Ev (fun k=>tree_depth.l2 k t x most (x.length:Int) ((0:Nat):Int)) r→Ev (fun k=>tree_depth.l0 k t x most t (t.length:Int) (t.length:Int)) r:=by
   intro r h
   refine Ev.step (fun k=>by rw [tree_depth.l0]) ?_
   exact Ev.ifn (by omega) h
  by_cases hdn:Done t x
  ·refine ⟨_,h1 (l2_all t most x (by omega) hdn x.length 0 (by omega) (by omega)),Or.inr ?_⟩
   have:=shut_done ob t [] t.length rfl x.reverse (fun f hf=>hdn f (by simpa using hf))
   rwa [List.append_nil] at this
  ·have:∃ f,f∈x∧¬ ∃ p:Nat,p < t.length∧f=⟨(p:Int),((kidsOf t p).length:Int)⟩:=by
    apply Classical.byContradiction
    intro hc
    exact hdn (fun f hf=>Classical.byContradiction (fun h=>hc ⟨f,hf,h⟩))
   obtain ⟨f,hf,hne⟩:=this
   obtain ⟨j,hj,rfl⟩:=List.mem_iff_getElem.1 hf
   refine ⟨0,h1 (l2_not t most x (by omega) ?_ j hj ?_ j 0 (by omega) (by omega)),Or.inl rfl⟩
   ·intro f hf
    obtain ⟨p,q,hp,_,rfl⟩:=hw f hf
    dsimp only
    omega
   ·obtain ⟨p,q,hp,hq,hfe⟩:=hw _ hf
    rw [hfe] at hne ⊢
    intro e
    exact hne ⟨p,hp,by rw [show ((q:Nat):Int)=((kidsOf t p).length:Int) from e]⟩
 | succ d ih =>
  intro n hd h0 hn x most hw hx
  have hnN:n < t.length:=by omega
  cases hb:ob (rd_T55 t (n:Int)) with
  | false =>
   refine ⟨0,?_,Or.inl rfl⟩
   refine Ev.step (fun k=>by rw [tree_depth.l0]) ?_
   refine Ev.ifp (by omega) (Ev.ifp (by omega) (Ev.ifp (by omega) (Ev.bind (hob n hnN) ?_)))
   rw [hb]
   exact Ev.ifn (by simp) (Ev.now _)
  | true =>
   obtain ⟨y,dn,rfl,hdn,hc⟩:=split_done t x.length x rfl hw
   rw [List.length_append] at hx
   rcases hc with rfl | ⟨s,p,q,hp,hq,rfl⟩
   ·refine ⟨0,dp_step ob t hob _ _ n hnN hb (pops t hN _ (by simp) _ _ _ _ dn rfl (by omega) hdn ?_),Or.inl rfl⟩
    refine Ev.step (fun k=>by rw [tree_depth.l1]) ?_
    refine Ev.ifn (by simp) ?_
    refine Ev.step (fun k=>by rw [tree_depth.j3]) ?_
    exact Ev.ifp (by omega) (Ev.ifp (by simp) (Ev.now _))
   ·simp at hx
    by_cases hv:rd (kidsOf t p) (q:Int)=(n:Int)
    ·have hw2:FrOk t (s++[⟨(p:Int),((q+1:Nat):Int)⟩]++[⟨(n:Int),0⟩]):=by
      intro f hf
      simp at hf
      rcases hf with hf | rfl | rfl
      ·exact hw f (by simp [hf])
      ·exact ⟨p,q+1,hp,by omega,by simp⟩
      ·exact ⟨n,0,hnN,by omega,rfl⟩
     obtain ⟨r,hr,hcr⟩:=ih (n+1) (by omega) (by omega) (by omega) _ (mx most ((s.length+2:Nat):Int)) hw2 (by simp;omega)
     refine ⟨r,dp_step ob t hob _ _ n hnN hb (pops t hN _ (by simp;omega) _ _ _ _ dn rfl (by omega) hdn (dp_top t hN s (by omega) p q n hp hq (hk p hp) h0 hnN _ (Ev.ifp hv hr))),?_⟩
     rcases hcr with rfl | hsh
     ·exact Or.inl rfl
     refine Or.inr ?_
     simp only [List.reverse_append,List.reverse_cons,List.reverse_nil,List.nil_append,List.singleton_append,List.cons_append] at hsh ⊢
     obtain ⟨m,h1,c1,m2,h2,c2,hsr⟩:=hsh
     refine shut_done ob t _ n ?_ dn.reverse (fun f hf=>hdn f (by simpa using hf))
     refine ⟨m2,max (h1+1) h2,?_,hsr⟩
     dsimp only at c1 c2 ⊢
     rw [Int.toNat_natCast,Int.toNat_natCast] at c2 ⊢
     rw [Int.toNat_natCast] at c1
     rw [List.drop_eq_getElem_cons hq]
     refine Ch.cons ?_ hnN hb c1 c2
     rw [← rd_get q hq]
     exact hv
    ·exact ⟨0,dp_step ob t hob _ _ n hnN hb (pops t hN _ (by simp;omega) _ _ _ _ dn rfl (by omega) hdn (dp_top t hN s (by omega) p q n hp hq (hk p hp) h0 hnN _ (Ev.ifn hv (Ev.now _)))),Or.inl rfl⟩
theorem tree_depth_is (ob:S55→Bool) (t:List S55) (hk:∀ n,n < t.length→(kidsOf t n).length≤100000) (hob:ObT ob t) :
 ∃ r:Int,Ev (fun k=>tree_depth.f k t) r∧((∃ h:Nat,r=(h:Int)+1∧RT ob t h)∨r=0∧¬ ∃ h,RT ob t h):=by
 have hno:Ev (fun k=>tree_depth.j0 k t true) 0:=by
  refine Ev.step (fun k=>by rw [tree_depth.j0]) ?_
  exact Ev.ifp rfl (Ev.now _)
 by_cases h0:(t.length:Int)=0
 ·refine ⟨0,?_,Or.inr ⟨rfl,fun ⟨h,a,_⟩=>by omega⟩⟩
  refine Ev.congr (fun k=>by rw [tree_depth.f]) ?_
  exact Ev.ifp h0 hno
 by_cases h1:t.length≤1000
 case neg =>
  refine ⟨0,?_,Or.inr ⟨rfl,fun ⟨h,_,a,_⟩=>by omega⟩⟩
  refine Ev.congr (fun k=>by rw [tree_depth.f]) ?_
  refine Ev.ifn h0 ?_
  rw [decide_eq_true (by omega)]
  exact hno
 have hin:∀ {r},Ev (fun k=>tree_depth.l0 k t ([]:List S158) 0 t (t.length:Int) ((0:Nat):Int)) r→Ev (fun k=>tree_depth.f k t) r:=by
  intro r h
  refine Ev.congr (fun k=>by rw [tree_depth.f]) ?_
  refine Ev.ifn h0 ?_
  rw [decide_eq_false (by omega)]
  refine Ev.step (fun k=>by rw [tree_depth.j0]) ?_
  exact Ev.ifn (by simp) h
 have hN:0 < t.length:=by omega
 cases hb:ob (rd_T55 t ((0:Nat):Int)) with
 | false =>
  refine ⟨0,hin ?_,Or.inr ⟨rfl,fun ⟨h,_,_,a,_⟩=>by rw [show (0:Int)=((0:Nat):Int) from rfl,hb] at a;cases a⟩⟩
  refine Ev.step (fun k=>by rw [tree_depth.l0]) ?_
  refine Ev.ifp (by omega) (Ev.ifp (by omega) (Ev.ifp (by omega) (Ev.bind (hob 0 hN) ?_)))
  rw [hb]
  exact Ev.ifn (by simp) (Ev.now _)
 | true =>
  have hone:∀ {r},Ev (fun k=>tree_depth.l0 k t [⟨((0:Nat):Int),((0:Nat):Int)⟩] ((1:Nat):Int) t (t.length:Int) ((1:Nat):Int)) r→Ev (fun k=>tree_depth.f k t) r:=by
   intro r h
   refine hin (dp_step ob t hob _ _ 0 hN hb ?_)
   refine Ev.step (fun k=>by rw [tree_depth.l1]) ?_
   refine Ev.ifn (by simp) ?_
   refine Ev.step (fun k=>by rw [tree_depth.j3]) ?_
   refine Ev.ifn (by omega) (Ev.ifp (by simp) (Ev.bindc rfl ?_))
   rw [w64 (by omega) (by omega)]
   exact h
  have hw:FrOk t [⟨((0:Nat):Int),((0:Nat):Int)⟩]:=by
   intro f hf
   exact ⟨0,0,hN,by omega,by simpa using hf⟩
  by_cases hc:∃ h,Ch ob t (kidsOf t 0) 1 t.length h
  ·obtain ⟨h,c⟩:=hc
   obtain ⟨dn,hdn,hl,g⟩:=depth_fwd ob t h1 hk hob c [] 0 0 [] 1 hN rfl (by omega) (by intro f hf;cases hf) (by simp) (by omega) (by simp)
   have hdd:Done t ([⟨((0:Nat):Int),((0+(kidsOf t 0).length:Nat):Int)⟩]++dn):=by
    intro f hf
    rcases List.mem_append.1 hf with hf | hf
    ·exact ⟨0,hN,by rw [Nat.zero_add] at hf;simpa using hf⟩
    ·exact hdn f hf
   have g2:=l2_all t ((max 1 (([]:List S158).length+1+h):Nat):Int) _ (by simp at hl ⊢;omega) hdd _ 0 (by omega) rfl
   obtain ⟨R,hR⟩:∃ R:Int,R=if ((max 1 (([]:List S158).length+1+h):Nat):Int) > 16 then 0 else ((max 1 (([]:List S158).length+1+h):Nat):Int):=⟨_,rfl⟩
   rw [← hR] at g2
   have g3:=g R (by
    refine Ev.step (fun k=>by rw [tree_depth.l0]) ?_
    exact Ev.ifn (by omega) g2)
   refine ⟨R,hone g3,?_⟩
   rw [hR]
   by_cases h16:h+1≤16
   ·refine Or.inl ⟨h,?_,hN,h1,hb,c,h16⟩
    rw [if_neg (by simp;omega)]
    simp
    omega
   ·refine Or.inr ⟨if_pos (by simp;omega),fun ⟨h',_,_,_,c',hh⟩=>?_⟩
    have:=(c.det c').2
    omega
  ·obtain ⟨r,hr,hcr⟩:=depth_neg ob t h1 hk hob _ 1 rfl (by omega) (by omega) _ ((1:Nat):Int) hw (by simp)
   refine ⟨r,hone hr,Or.inr ⟨?_,fun ⟨h',_,_,_,c',_⟩=>hc ⟨_,c'⟩⟩⟩
   rcases hcr with rfl | ⟨m,h,c,hm⟩
   ·rfl
   ·exact absurd ⟨h,by rw [show m=t.length from hm] at c;exact c⟩ hc
def OneOk (x:S55) (b:Bool):Prop:=x.f3.size≤2000→Ev (fun k=>tree_one.f k x.f0 x.f1 x.f2 x.f3 x.f4) b∧Ev (fun k=>cr20_one.f k x.f0 x.f1 x.f2 x.f3 x.f4) b∧(b=true→(0≤x.f0∧x.f0≤3∧0≤x.f1∧x.f1≤2097151)∧(x.f2=true→x.f3.toList=[])∧(x.f2=false→x.f4=[])∧(x.f0=0→(x.f2=true→x.f1=16∨x.f1=17)∧(x.f2=false→Ev (fun k=>strs_Right.f k x.f1 x.f3) true∧Ev (fun k=>cr18_Right.f k x.f1 x.f3) true)))
theorem one_all:∃ ob:S55→Bool,∀ x,OneOk x (ob x):=by
 have h:∀ x:S55,∃ b,OneOk x b:=by
  intro x
  by_cases h:x.f3.size≤2000
  ·obtain ⟨b,h1,h2,h3⟩:=one_key x h
   exact ⟨b,fun _=>⟨h1,h2,h3⟩⟩
  ·exact ⟨false,fun h'=>absurd h' h⟩
 exact Classical.axiomOfChoice h
def shN (by_:Int) (x:S55):S55:=⟨x.f0,x.f1,x.f2,x.f3,x.f4.map (fun y=>wrap64 (y+by_))⟩
theorem moved_is (by_:Int) (a b:Int) (c:Bool) (d:ByteArray) (l:List Int) (hl:l.length≤100000) :
 Ev (fun k=>tree_moved.f k a b c d l by_) (a,b,c,d,l.map (fun y=>wrap64 (y+by_))):=by
 have loop:∀ (suf pre:List Int),pre.length+suf.length≤100000→Ev (fun k=>tree_moved.l0 k by_ ((pre.length+suf.length:Nat):Int) (pre.length:Int) a b c d (pre++suf)) (a,b,c,d,pre++suf.map (fun y=>wrap64 (y+by_))):=by
  intro suf
  induction suf with
  | nil =>
   intro pre hp
   refine Ev.step (fun k=>by rw [tree_moved.l0]) ?_
   exact Ev.ifn (by simp) (Ev.now _)
  | cons x suf ih =>
   intro pre hp
   simp at hp
   refine Ev.step (fun k=>by rw [tree_moved.l0]) ?_
   have hlt:pre.length < (pre++x :: suf).length:=by simp
   rw [rd_get pre.length hlt,w64 (x:=(pre.length:Int)+1) (by omega) (by omega)]
   refine Ev.ifp (by simp;omega) (Ev.ifp (by omega) (Ev.ifp (by simp;omega) ?_))
   have:=ih (pre++[wrap64 (x+by_)]) (by simp;omega)
   simp only [List.length_append,List.length_cons,List.length_nil,List.append_assoc,List.singleton_append] at this
   rw [show pre.length+(x :: suf).length=pre.length+(0+1)+suf.length by simp;omega,List.map_cons]
   rw [show (pre++x :: suf).set (pre.length:Int).toNat (wrap64 ((pre++x :: suf)[pre.length]+by_))=pre++wrap64 (x+by_) :: suf by rw [Int.toNat_natCast];simp,show (pre.length:Int)+1=((pre.length+(0+1):Nat):Int) by omega]
   exact this
 refine Ev.congr (fun k=>by rw [tree_moved.f]) ?_
 refine Ev.bindc (a:=l) (by rw [slices_Clone_int_int.f,if_pos (by rw [List.length_nil];omega)];rfl) ?_
 have:=loop l [] (by simp;omega)
 simp only [List.length_nil,Nat.zero_add,List.nil_append] at this
 exact this
theorem Ch.last {ob:S55→Bool} {t:List S55} {ks:List Int} {n j h:Nat} (c:Ch ob t ks n j h) (hne:0 < ks.length):∃ l h':Nat,rd ks ((ks.length:Int) - 1)=(l:Int)∧l < t.length∧Ch ob t (kidsOf t l) (l+1) j h'∧h' < h:=by
 induction c with
 | nil n=>simp at hne
 | @cons k ks n m j h1 h2 hkn hnN ho c1 c2 ih1 ih2 =>
  cases ks with
  | nil =>
   cases c2
   exact ⟨n,h1,by simp [← hkn,rd],hnN,c1,by omega⟩
  | cons a ks =>
   obtain ⟨l,h',e,hl,c',hh⟩:=ih2 (by simp)
   refine ⟨l,h',?_,hl,c',by omega⟩
   rw [← e,show (((k :: a :: ks).length:Nat):Int) - 1=((ks.length+1:Nat):Int) by simp,show (((a :: ks).length:Nat):Int) - 1=((ks.length:Nat):Int) by simp,rd_get _ (by simp),rd_get _ (by simp)]
   rfl
theorem tree_end_is (ob:S55→Bool) (t:List S55) (hN:t.length≤1000) (hk:∀ n,n < t.length→(kidsOf t n).length≤100000):∀ (h i j:Nat),i < t.length→Ch ob t (kidsOf t i) (i+1) j h→Ev (fun k=>tree_end.f k t (i:Int)) (j:Int):=by
 intro h
 induction h using Nat.strongRecOn with
 | ind h ih =>
  intro i j hi c
  refine Ev.congr (fun k=>by rw [tree_end.f]) ?_
  refine Ev.step (fun k=>by rw [tree_end.l0]) ?_
  refine Ev.ifp (by omega) (Ev.ifp (by omega) ?_)
  by_cases h0:0 < (kidsOf t i).length
  ·obtain ⟨l,h',e,hl,c',hh⟩:=c.last h0
   have:=hk i hi
   refine Ev.ifp (show ((kidsOf t i).length:Int) > 0 by omega) ?_
   rw [show ((rd_T55 t (i:Int)).f4.length:Int)=((kidsOf t i).length:Int) from rfl,w64 (x:=((kidsOf t i).length:Int) - 1) (by omega) (by omega)]
   refine Ev.ifp (by omega) (Ev.ifp (show ((kidsOf t i).length:Int) - 1 < ((kidsOf t i).length:Int) by omega) ?_)
   rw [show rd (rd_T55 t (i:Int)).f4 (((kidsOf t i).length:Int) - 1)=(l:Int) from e]
   have:=ih h' hh l j hl c'
   refine Ev.congr (fun k=>?_) this
   rw [tree_end.f]
  ·have e:kidsOf t i=[]:=List.eq_nil_of_length_eq_zero (by omega)
   rw [e] at c
   cases c
   refine Ev.ifn (show ¬ ((kidsOf t i).length:Int) > 0 by omega) ?_
   rw [w64 (by omega) (by omega)]
   exact Ev.now _
theorem rdN_get (t:List S55) (n:Nat) (h:n < t.length):rd_T55 t (n:Int)=t[n]:=by unfold rd_T55;simp [List.getD_eq_getElem?_getD,h]
def win (t:List S55) (i m:Nat):List S55:=((t.take m).drop i).map (shN (wrap64 (-(i:Int))))
theorem win_len (t:List S55) (i m:Nat) (hm:m≤t.length):(win t i m).length=m - i:=by unfold win;simp;omega
theorem win_rd (t:List S55) (i m n:Nat) (hm:m≤t.length) (hi:i≤n) (hn:n < m):rd_T55 (win t i m) ((n - i:Nat):Int)=shN (wrap64 (-(i:Int))) (rd_T55 t (n:Int)):=by
 rw [rdN_get _ _ (by rw [win_len t i m hm];omega),rdN_get _ _ (by omega)]
 unfold win
 simp only [List.getElem_map,List.getElem_drop,List.getElem_take]
 congr 2
 omega
theorem Ch.wins {ob:S55→Bool} (hsh:∀ c x,x.f3.size≤2000→ob (shN c x)=ob x) {t:List S55} (hN:t.length≤1000) (hsz:∀ n,n < t.length→(rd_T55 t (n:Int)).f3.size≤2000) {ks:List Int} {n j h:Nat} (c:Ch ob t ks n j h) (i m:Nat):i≤n→j≤m→m≤t.length→Ch ob (win t i m) (ks.map (fun y=>wrap64 (y+wrap64 (-(i:Int))))) (n - i) (j - i) h:=by
 induction c with
 | nil n=>intro h1 h2 h3;exact Ch.nil _
 | @cons k ks n m' j h1 h2 hkn hnN ho c1 c2 ih1 ih2 =>
  intro hi hj hm
  have l1:=c1.le
  have l2:=c2.le
  have i1:=ih1 (by omega) (by omega) hm
  have i2:=ih2 (by omega) hj hm
  rw [List.map_cons]
  have hr:=win_rd t i m n hm hi (by omega)
  refine Ch.cons ?_ (by rw [win_len t i m hm];omega) (by rw [hr,hsh _ _ (hsz n hnN)];exact ho) ?_ i2
  ·rw [hkn,w64 (x:=-(i:Int)) (by omega) (by omega),w64 (by omega) (by omega)]
   omega
  ·rw [show n - i+1=n+1 - i by omega,show kidsOf (win t i m) (n - i)=(kidsOf t n).map (fun y=>wrap64 (y+wrap64 (-(i:Int)))) by unfold kidsOf;rw [hr];rfl]
   exact i1
theorem right_depth (ob:S55→Bool) (t:List S55) (hk:∀ n,n < t.length→(kidsOf t n).length≤100000) (hob:ObT ob t) (h:Nat) (hR:RT ob t h) :
 Ev (fun k=>tree_Right.f k t) true∧Ev (fun k=>tree_Depth.f k t) ((h:Int)+1):=by
 obtain ⟨r,hr,hc⟩:=tree_depth_is ob t hk hob
 have hr':r=(h:Int)+1:=by
  rcases hc with ⟨h',rfl,hR'⟩ | ⟨_,hn⟩
  ·rw [(hR'.2.2.2.1.det hR.2.2.2.1).2]
  ·exact absurd ⟨h,hR⟩ hn
 subst hr'
 constructor
 ·refine Ev.congr (fun k=>by rw [tree_Right.f]) ?_
  refine Ev.bind hr ?_
  rw [decide_eq_true (by omega)]
  exact Ev.now _
 ·refine Ev.congr (fun k=>by rw [tree_Depth.f]) ?_
  exact Ev.bind hr (Ev.now _)
theorem sub_is (ob:S55→Bool) (t:List S55) (hk:∀ n,n < t.length→(kidsOf t n).length≤100000) (hob:ObT ob t) (H:Nat) (hR:RT ob t H) (i j h:Nat) (hi:i < t.length) (c:Ch ob t (kidsOf t i) (i+1) j h) (hj:j≤t.length) :
 Ev (fun k=>tree_Sub.f k t (i:Int)) (win t i j):=by
 have hN:=hR.2.1
 have hle:=c.le
 refine Ev.congr (fun k=>by rw [tree_Sub.f]) ?_
 refine Ev.ifn (by omega) (Ev.ifn (by omega) (Ev.bind (right_depth ob t hk hob H hR).1 ?_))
 refine Ev.step (fun k=>by rw [tree_Sub.j0]) ?_
 refine Ev.ifn (by simp) (Ev.bind (tree_end_is ob t hN hk h i j hi c) (Ev.ifp (by omega) (Ev.ifp (by omega) (Ev.ifp (by omega) (Ev.bindc rfl ?_)))))
 rw [Int.toNat_natCast,Int.toNat_natCast]
 have hy:∀ x∈(t.take j).drop i,x.f4.length≤100000:=by
  intro x hx
  obtain ⟨n,hn,rfl⟩:=List.mem_iff_getElem.1 (List.mem_of_mem_take (List.mem_of_mem_drop hx))
  have:=hk n hn
  unfold kidsOf at this
  rwa [rdN_get t n hn] at this
 have hyl:((t.take j).drop i).length≤1000:=by simp;omega
 unfold win
 obtain ⟨y,hyd⟩:∃ y,y=(t.take j).drop i:=⟨_,rfl⟩
 rw [← hyd] at hy hyl ⊢
 have loop:∀ (d p:Nat) (acc:List S55),y.length - p=d→p≤y.length→acc.length=p →
  Ev (fun k=>tree_Sub.l0 k (i:Int) acc y (y.length:Int) (p:Int)) (acc++(y.drop p).map (shN (wrap64 (-(i:Int))))):=by
  intro d
  induction d with
  | zero =>
   intro p acc hd hp ha
   refine Ev.step (fun k=>by rw [tree_Sub.l0]) ?_
   rw [List.drop_eq_nil_of_le (by omega),List.map_nil,List.append_nil]
   exact Ev.ifn (by omega) (Ev.now _)
  | succ d ih =>
   intro p acc hd hp ha
   have hlt:p < y.length:=by omega
   refine Ev.step (fun k=>by rw [tree_Sub.l0]) ?_
   rw [rdN_get _ p hlt,w64 (x:=(p:Int)+1) (by omega) (by omega),List.drop_eq_getElem_cons hlt,List.map_cons]
   refine Ev.ifp (by omega) (Ev.ifp (by omega) (Ev.ifp (by omega) (Ev.bind (moved_is _ _ _ _ _ _ (hy _ (List.getElem_mem hlt))) (Ev.ifp (by omega) ?_))))
   have:=ih (p+1) (acc++[shN (wrap64 (-(i:Int))) y[p]]) (by omega) (by omega) (by simp;omega)
   rw [List.append_assoc,List.singleton_append] at this
   exact this
 have:=loop _ 0 [] rfl (by omega) rfl
 rw [List.drop_zero,List.nil_append] at this
 exact this
inductive Pt (ob:S55→Bool) (t:List S55) (H:Nat):List Int→Nat→Nat→List (List S55)→Prop where
 | nil (n:Nat):Pt ob t H [] n n []
 | cons {k:Int} {ks:List Int} {n m j h:Nat} {L:List (List S55)} (hk:k=(n:Int)) (hn:n < t.length) (ho:ob (rd_T55 t (n:Int))=true) (c:Ch ob t (kidsOf t n) (n+1) m h) (hh:h < H) (hm:m≤t.length) (p:Pt ob t H ks m j L):Pt ob t H (k :: ks) n j (win t n m :: L)
theorem Ch.pt {ob:S55→Bool} {t:List S55} {H:Nat} {ks:List Int} {n j h:Nat} (c:Ch ob t ks n j h):h≤H→j≤t.length→∃ L,Pt ob t H ks n j L:=by
 induction c with
 | nil n=>intro _ _;exact ⟨[],Pt.nil n⟩
 | @cons k ks n m j h1 h2 hkn hnN ho c1 c2 ih1 ih2 =>
  intro hH hj
  have l2:=c2.le
  obtain ⟨L,p⟩:=ih2 (by omega) hj
  exact ⟨_,Pt.cons hkn hnN ho c1 (by omega) (by omega) p⟩
theorem Pt.len {ob:S55→Bool} {t:List S55} {H:Nat} {ks:List Int} {n j:Nat} {L:List (List S55)} (p:Pt ob t H ks n j L):L.length=ks.length:=by
 induction p with
 | nil n=>rfl
 | cons _ _ _ _ _ _ _ ih=>simp [ih]
theorem Pt.good {ob:S55→Bool} (hsh:∀ c x,x.f3.size≤2000→ob (shN c x)=ob x) (hall:∀ x:S55,x.f3.size≤2000→Ev (fun k=>tree_one.f k x.f0 x.f1 x.f2 x.f3 x.f4) (ob x)) {t:List S55} (hN:t.length≤1000) (hsz:∀ n,n < t.length→(rd_T55 t (n:Int)).f3.size≤2000) (hk:∀ n,n < t.length→(kidsOf t n).length≤100000) {H:Nat} (h16:H+1≤16) {ks:List Int} {n j:Nat} {L:List (List S55)} (p:Pt ob t H ks n j L) :
 ∀ x∈L,∃ h:Nat,h < H∧Ev (fun k=>tree_Right.f k x) true∧Ev (fun k=>tree_Depth.f k x) ((h:Int)+1):=by
 induction p with
 | nil n=>intro x hx;cases hx
 | @cons k ks n m j h L hkn hnN ho c hh hm p ih =>
  intro x hx
  rcases List.mem_cons.1 hx with rfl | hx
  case inr=>exact ih x hx
  have hle:=c.le
  have hwl:=win_len t n m hm
  have hr:∀ q,q < (win t n m).length→rd_T55 (win t n m) (q:Int)=shN (wrap64 (-(n:Int))) (rd_T55 t ((q+n:Nat):Int)):=by
   intro q hq
   have:=win_rd t n m (q+n) hm (by omega) (by omega)
   rwa [Nat.add_sub_cancel] at this
  refine ⟨h,hh,?_⟩
  refine right_depth ob _ ?_ ?_ h ⟨by omega,by omega,?_,?_,by omega⟩
  ·intro q hq
   unfold kidsOf
   rw [hr q hq]
   have:=hk (q+n) (by omega)
   unfold kidsOf at this
   unfold shN
   simpa using this
  ·intro q hq
   refine hall _ ?_
   rw [hr q hq]
   exact hsz (q+n) (by omega)
  ·have:=hr 0 (by omega)
   rw [show (0:Int)=((0:Nat):Int) from rfl,this,hsh _ _ (hsz _ (by omega)),Nat.zero_add]
   exact ho
  ·have:=c.wins hsh hN hsz n m (by omega) (by omega) hm
   rw [show n+1 - n=1 by omega] at this
   rw [hwl]
   rw [show kidsOf (win t n m) 0=(kidsOf t n).map (fun y=>wrap64 (y+wrap64 (-(n:Int)))) by unfold kidsOf;rw [hr 0 (by omega),Nat.zero_add];rfl]
   exact this
theorem kids_is (ob:S55→Bool) (t:List S55) (hk:∀ n,n < t.length→(kidsOf t n).length≤100000) (hob:ObT ob t) (H:Nat) (hR:RT ob t H) (L:List (List S55)) (j:Nat) (p0:Pt ob t H (kidsOf t 0) 1 j L):Ev (fun k=>tree_Kids.f k t) L:=by
 have loop:∀ {ks:List Int} {n:Nat} {L:List (List S55)},Pt ob t H ks n j L→∀ (q:Nat) (acc:List (List S55)),(kidsOf t 0).drop q=ks→q≤(kidsOf t 0).length→acc.length=q→Ev (fun k=>tree_Kids.l0 k t acc (kidsOf t 0) ((kidsOf t 0).length:Int) (q:Int)) (acc++L):=by
  clear p0
  intro ks n L p
  induction p with
  | nil n =>
   intro q acc hq hql ha
   have:(kidsOf t 0).length≤q:=by
    have:=congrArg List.length hq
    simp at this
    omega
   refine Ev.step (fun k=>by rw [tree_Kids.l0]) ?_
   rw [List.append_nil]
   exact Ev.ifn (by omega) (Ev.now _)
  | @cons k ks n m j h L hkn hnN ho c hh hm p ih =>
   intro q acc hq hql ha
   have hq2:q < (kidsOf t 0).length:=by
    have:=congrArg List.length hq
    simp at this
    omega
   have hdrop:=List.drop_eq_getElem_cons hq2
   rw [hq] at hdrop
   obtain ⟨hk0,hks'⟩:=List.cons.inj hdrop
   have hv:rd (kidsOf t 0) (q:Int)=(n:Int):=by rw [rd_get q hq2,← hk0,hkn]
   have hk1:=hk 0 hR.1
   refine Ev.step (fun k=>by rw [tree_Kids.l0]) ?_
   rw [hv,w64 (x:=(q:Int)+1) (by omega) (by omega)]
   refine Ev.ifp (by omega) (Ev.ifp (by omega) (Ev.ifp (by omega) (Ev.bind (sub_is ob t hk hob H hR n m h hnN c hm) (Ev.ifp (by omega) ?_))))
   have:=ih (q+1) (acc++[win t n m]) hks'.symm (by omega) (by simp;omega)
   rw [List.append_assoc,List.singleton_append] at this
   exact this
 refine Ev.congr (fun k=>by rw [tree_Kids.f]) ?_
 refine Ev.bind (right_depth ob t hk hob H hR).1 (Ev.ifp rfl (Ev.ifp (by have:=hR.1;omega) ?_))
 have:=loop p0 0 [] rfl (by omega) rfl
 rw [List.nil_append] at this
 exact this
theorem of_l1 (off:Int) (x17:List (List S55)) (x18 x19:Int) (y:List S55) (hy:y.length≤1000) (hk:∀ x∈y,x.f4.length≤100000) {r:List S55}:∀ (d p:Nat) (acc:List S55),y.length - p=d→p≤y.length→acc.length+d≤100000 →
 Ev (fun k=>tree_Of.l0 k (acc++(y.drop p).map (shN off)) x17 x18 (wrap64 (x19+1))) r→Ev (fun k=>tree_Of.l1 k acc off x17 x18 x19 y (y.length:Int) (p:Int)) r:=by
 intro d
 induction d with
 | zero =>
  intro p acc hd hp ha h
  refine Ev.step (fun k=>by rw [tree_Of.l1]) ?_
  rw [List.drop_eq_nil_of_le (by omega),List.map_nil,List.append_nil] at h
  exact Ev.ifn (by omega) h
 | succ d ih =>
  intro p acc hd hp ha h
  have hlt:p < y.length:=by omega
  refine Ev.step (fun k=>by rw [tree_Of.l1]) ?_
  rw [rdN_get _ p hlt,w64 (x:=(p:Int)+1) (by omega) (by omega)]
  rw [List.drop_eq_getElem_cons hlt,List.map_cons] at h
  refine Ev.ifp (by omega) (Ev.ifp (by omega) (Ev.ifp (by omega) (Ev.bind (moved_is _ _ _ _ _ _ (hk _ (List.getElem_mem hlt))) (Ev.ifp (by omega) ?_))))
  refine ih (p+1) (acc++[shN off y[p]]) (by omega) (by omega) (by simp;omega) ?_
  rw [List.append_assoc,List.singleton_append]
  exact h
theorem ref_moved_is (by_:Int) (l:List Int) (hl:l.length≤100000):Ev (fun k=>cr20_moved.f k l by_) (l.map (fun y=>wrap64 (y+by_))):=by
 have loop:∀ (d p:Nat) (acc:List Int),l.length - p=d→p≤l.length→acc.length=p→Ev (fun k=>cr20_moved.l0 k l by_ acc (p:Int)) (acc++(l.drop p).map (fun y=>wrap64 (y+by_))):=by
  intro d
  induction d with
  | zero =>
   intro p acc hd hp ha
   refine Ev.step (fun k=>by rw [cr20_moved.l0]) ?_
   rw [List.drop_eq_nil_of_le (by omega),List.map_nil,List.append_nil]
   exact Ev.ifn (by omega) (Ev.now _)
  | succ d ih =>
   intro p acc hd hp ha
   have hlt:p < l.length:=by omega
   refine Ev.step (fun k=>by rw [cr20_moved.l0]) ?_
   rw [rd_get p hlt,w64 (x:=(p:Int)+1) (by omega) (by omega),List.drop_eq_getElem_cons hlt,List.map_cons]
   refine Ev.ifp (by omega) (Ev.ifp (by omega) (Ev.ifp (by omega) ?_))
   have:=ih (p+1) (acc++[wrap64 (l[p]+by_)]) (by omega) (by omega) (by simp;omega)
   rw [List.append_assoc,List.singleton_append] at this
   exact this
 refine Ev.congr (fun k=>by rw [cr20_moved.f]) ?_
 have:=loop _ 0 [] rfl (by omega) rfl
 rw [List.drop_zero,List.nil_append] at this
 exact this
def ofB (n:Nat):List (List S55)→List S55
 | []=>[]
 | p :: ps=>p.map (shN (n:Int))++ofB (n+p.length) ps
theorem rd9 (LL:List (List S55)) (q:Nat) (h:q < LL.length):rd_L55 LL (q:Int)=LL[q]:=by unfold rd_L55;simp [List.getD_eq_getElem?_getD,h]
theorem ref_of_l1 (off:Int) (LL:List (List S55)) (q:Nat) (hq:q < LL.length) (hL:LL.length≤1000) (hy:(LL[q]).length≤1000) (hk:∀ x∈LL[q],x.f4.length≤100000) {r:List S55}:∀ (d p:Nat) (acc:List S55),(LL[q]).length - p=d→p≤(LL[q]).length→acc.length+d≤100000 →
 Ev (fun k=>cr20_Of.l0 k LL (acc++((LL[q]).drop p).map (shN off)) (((q+1:Nat)):Int)) r→Ev (fun k=>cr20_Of.l1 k LL acc (q:Int) off (p:Int)) r:=by
 intro d
 induction d with
 | zero =>
  intro p acc hd hp ha h
  refine Ev.step (fun k=>by rw [cr20_Of.l1]) ?_
  rw [List.drop_eq_nil_of_le (by omega),List.map_nil,List.append_nil] at h
  rw [rd9 LL q hq,w64 (x:=(q:Int)+1) (by omega) (by omega)]
  exact Ev.ifp (by omega) (Ev.ifp (by omega) (Ev.ifn (by omega) h))
 | succ d ih =>
  intro p acc hd hp ha h
  have hlt:p < (LL[q]).length:=by omega
  refine Ev.step (fun k=>by rw [cr20_Of.l1]) ?_
  rw [rd9 LL q hq,rdN_get _ p hlt,w64 (x:=(p:Int)+1) (by omega) (by omega)]
  rw [List.drop_eq_getElem_cons hlt,List.map_cons] at h
  refine Ev.ifp (by omega) (Ev.ifp (by omega) (Ev.ifp (by omega) (Ev.ifp (by omega) (Ev.bind (ref_moved_is _ _ (hk _ (List.getElem_mem hlt))) (Ev.ifp (by omega) ?_)))))
  refine ih (p+1) (acc++[shN off (LL[q])[p]]) (by omega) (by omega) (by simp;omega) ?_
  rw [List.append_assoc,List.singleton_append]
  exact h
def blN (t:List S55) (n:Nat):List Int:=bytesOf (rd_T55 t (n:Int)).f3
def nodeL (t:List S55) (n:Nat) (cs:List Int):List Int:=idB (rd_T55 t (n:Int)).f0 (rd_T55 t (n:Int)).f1 (rd_T55 t (n:Int)).f2++lenB (cs.length:Int)++cs
inductive En (t:List S55):List Int→Nat→Nat→List Int→Prop where
 | nil (n:Nat):En t [] n n []
 | cons {k:Int} {ks:List Int} {n m j:Nat} {cs rs:List Int} (hk:k=(n:Int)) (hn:n < t.length) (c:En t (kidsOf t n) (n+1) m cs) (hf:(nodeL t n (blN t n++cs)).length≤65535) (r:En t ks m j rs):En t (k :: ks) n j (nodeL t n (blN t n++cs)++rs)
theorem En.det {t:List S55} {ks:List Int} {n j:Nat} {bs:List Int} (c:En t ks n j bs):∀ {j':Nat} {bs':List Int},En t ks n j' bs'→j=j'∧bs=bs':=by
 induction c with
 | nil n=>intro j' bs' c';cases c';exact ⟨rfl,rfl⟩
 | cons hk hn c hf r ih1 ih2 =>
  intro j' bs' c'
  cases c' with
  | cons _ _ g _ gs =>
   obtain ⟨rfl,rfl⟩:=ih1 g
   obtain ⟨rfl,rfl⟩:=ih2 gs
   exact ⟨rfl,rfl⟩
theorem En.pos {ob:S55→Bool} {t:List S55} {ks:List Int} {n j h:Nat} (c:Ch ob t ks n j h):∀ {j':Nat} {bs:List Int},En t ks n j' bs→j'=j:=by
 induction c with
 | nil n=>intro j' bs c';cases c';rfl
 | cons hk hn ho c1 c2 ih1 ih2 =>
  intro j' bs c'
  cases c' with
  | cons _ _ g _ gs =>
   obtain rfl:=ih1 g
   exact ih2 gs
theorem tagD_len (b:Int):0 < (tagD b).length∧(tagD b).length≤3:=by unfold tagD;split;simp;split<;>simp
theorem idB_len2 (a b:Int) (c:Bool):0 < (idB a b c).length∧(idB a b c).length≤4:=by
 have:=tagD_len b
 unfold idB
 split
 ·simp
 ·simp
  omega
theorem lenB_len (n:Int):(lenB n).length≤3:=by unfold lenB;split;simp;split<;>simp
theorem nodeL_len (t:List S55) (n:Nat) (cs:List Int):cs.length < (nodeL t n cs).length∧(nodeL t n cs).length≤cs.length+7:=by
 have h1:=idB_len2 (rd_T55 t (n:Int)).f0 (rd_T55 t (n:Int)).f1 (rd_T55 t (n:Int)).f2
 have h2:=lenB_len (cs.length:Int)
 unfold nodeL
 simp
 omega
def InR (ob:S55→Bool):Prop:=∀ x:S55,x.f3.size≤2000→ob x=true→(0≤x.f0∧x.f0≤3∧0≤x.f1∧x.f1≤2097151)
theorem ref_bytes_is (ob:S55→Bool) (hin:InR ob) (t:List S55) (hN:t.length≤1000) (hsz:∀ n,n < t.length→(rd_T55 t (n:Int)).f3.size≤2000) (hk:∀ n,n < t.length→(kidsOf t n).length≤100000) {ks:List Int} {n j h:Nat} (c:Ch ob t ks n j h) :
 ∀ (i q:Nat) (acc:List Int),i < t.length→ob (rd_T55 t (i:Int))=true→(kidsOf t i).drop q=ks→q≤(kidsOf t i).length→acc.length≤65535 →
 ∃ v ok,Ev (fun k=>cr20_bytes.l0 k t (i:Int) (strOfNums acc) (q:Int)) (v,ok)∧v.size≤140000∧(ok=true→∃ bs,En t ks n j bs∧(nodeL t i (acc++bs)).length≤65535∧v=strOfNums (nodeL t i (acc++bs)))∧((∃ j' bs,En t ks n j' bs∧(nodeL t i (acc++bs)).length≤65535)→ok=true):=by
 induction c with
 | nil n =>
  intro i q acc hi ho hq hql ha
  have hqe:(kidsOf t i).length≤q:=by
   have:=congrArg List.length hq
   simp at this
   omega
  obtain ⟨r1,r2,r3,r4⟩:=hin _ (hsz i hi) ho
  have hh:=ref_henc_is _ _ (rd_T55 t (i:Int)).f2 (acc.length:Int) r1 r2 r3 r4 (by omega)
  rw [if_pos (by omega)] at hh
  have h1:=idB_len2 (rd_T55 t (i:Int)).f0 (rd_T55 t (i:Int)).f1 (rd_T55 t (i:Int)).f2
  have h2:=lenB_len (acc.length:Int)
  have hln:(nodeL t i acc).length=(idB (rd_T55 t (i:Int)).f0 (rd_T55 t (i:Int)).f1 (rd_T55 t (i:Int)).f2++lenB (acc.length:Int)).length+acc.length:=by unfold nodeL;rw [List.length_append]
  have hln2:=nodeL_len t i acc
  refine ⟨strOfNums (nodeL t i acc),decide ((nodeL t i acc).length≤65535),?_,by rw [nums_size];omega,?_,?_⟩
  ·refine Ev.step (fun k=>by rw [cr20_bytes.l0]) ?_
   rw [nums_sizeI,nums_size]
   refine Ev.ifp (by omega) (Ev.ifp (by omega) (Ev.ifn (show ¬ (q:Int) < ((kidsOf t i).length:Int) by omega) (Ev.bind hh (Ev.ifp (by rw [nums_size];simp;omega) (Ev.ifp rfl ((Ev.now _).eq ?_))))))
   rw [str_append,nums_sizeI,w64 (by omega) (by omega)]
   show (strOfNums (nodeL t i acc),_)=_
   rw [hln]
   refine congrArg _ (decide_eq_decide.2 ?_)
   omega
  ·intro hok
   exact ⟨[],En.nil n,by rw [List.append_nil];exact of_decide_eq_true hok,by rw [List.append_nil]⟩
  ·rintro ⟨j',bs,e,hf⟩
   cases e
   rw [List.append_nil] at hf
   exact decide_eq_true hf
 | @cons k ks n m j h1 h2 hkn hnN hob c1 c2 ih1 ih2 =>
  intro i q acc hi ho hq hql ha
  have hq2:q < (kidsOf t i).length:=by
   have:=congrArg List.length hq
   simp at this
   omega
  have hdrop:=List.drop_eq_getElem_cons hq2
  rw [hq] at hdrop
  obtain ⟨hk0,hks'⟩:=List.cons.inj hdrop
  have hv:rd (kidsOf t i) (q:Int)=(n:Int):=by rw [rd_get q hq2,← hk0,hkn]
  have hki:=hk i hi
  have hbl:(blN t n).length≤2000:=by
   have:=hsz n hnN
   rw [← strOfNums_bytesOf (rd_T55 t (n:Int)).f3,nums_size] at this
   exact this
  obtain ⟨v,ok,he,hvs,hA,hB⟩:=ih1 n 0 (blN t n) hnN hob rfl (by omega) (by omega)
  have hef:Ev (fun k=>cr20_bytes.f k t (n:Int)) (v,ok):=by
   refine Ev.step (fun k=>by rw [cr20_bytes.f]) ?_
   refine Ev.ifp (by omega) (Ev.ifp (by omega) ?_)
   unfold blN at he
   rw [strOfNums_bytesOf] at he
   exact he
  have step:∀ {r:ByteArray × Bool},Ev (fun k=>if ok=true then (if ((strOfNums acc++v).size:Int) > 65535 then some ((⟨#[]⟩:ByteArray),false) else cr20_bytes.l0 k t (i:Int) (strOfNums acc++v) ((q+1:Nat):Int)) else some ((⟨#[]⟩:ByteArray),false)) r→Ev (fun k=>cr20_bytes.l0 k t (i:Int) (strOfNums acc) (q:Int)) r:=by
   intro r h
   refine Ev.step (fun k=>by rw [cr20_bytes.l0]) ?_
   rw [show rd (rd_T55 t (i:Int)).f4 (q:Int)=(n:Int) from hv,w64 (x:=(q:Int)+1) (by omega) (by omega)]
   refine Ev.ifp (by omega) (Ev.ifp (by omega) (Ev.ifp (show (q:Int) < ((kidsOf t i).length:Int) by omega) (Ev.ifp (by omega) (Ev.bind hef (Ev.ifp (by rw [nums_size];show acc.length+v.size≤_;omega) h)))))
  cases ok with
  | false =>
   refine ⟨_,_,step (Ev.ifn (by simp) (Ev.now _)),by decide,(fun h=>by cases h),?_⟩
   rintro ⟨j',bs,e,hf⟩
   cases e with
   | cons _ _ g gf gs=>have:=hB ⟨_,_,g,gf⟩;cases this
  | true =>
   obtain ⟨cs,g,gf,rfl⟩:=hA rfl
   rw [str_append,nums_sizeI] at step
   by_cases hbig:(acc++nodeL t n (blN t n++cs)).length≤65535
   ·obtain ⟨v2,ok2,he2,hvs2,hA2,hB2⟩:=ih2 i (q+1) (acc++nodeL t n (blN t n++cs)) hi ho hks'.symm (by omega) hbig
    refine ⟨v2,ok2,step (Ev.ifp rfl (Ev.ifn (by omega) he2)),hvs2,?_,?_⟩
    ·intro hok
     obtain ⟨rs,e,f,w⟩:=hA2 hok
     rw [List.append_assoc] at f w
     exact ⟨_,En.cons hkn hnN g gf e,f,w⟩
    ·rintro ⟨j',bs,e,hf⟩
     cases e with
     | cons _ _ g' gf' gs =>
      obtain ⟨rfl,rfl⟩:=g.det g'
      exact hB2 ⟨_,_,gs,by rw [List.append_assoc];exact hf⟩
   ·refine ⟨_,_,step (Ev.ifp rfl (Ev.ifp (by omega) (Ev.now _))),by decide,(fun h=>by cases h),?_⟩
    rintro ⟨j',bs,e,hf⟩
    cases e with
    | cons _ _ g' gf' gs =>
     obtain ⟨rfl,rfl⟩:=g.det g'
     rw [← List.append_assoc] at hf
     have h3:=Nat.le_trans (Nat.le_of_lt (nodeL_len t i _).1) hf
     rw [List.length_append] at h3
     omega
theorem En.le {t:List S55} {ks:List Int} {n j:Nat} {bs:List Int} (e:En t ks n j bs):n≤j∧(n≤t.length→j≤t.length):=by
 induction e with
 | nil n=>exact ⟨Nat.le_refl _,id⟩
 | cons hk hn c hf r ih1 ih2=>exact ⟨by omega,fun _=>ih2.2 (ih1.2 (by omega))⟩
theorem En.bd {t:List S55} {ks:List Int} {n j:Nat} {bs:List Int} (e:En t ks n j bs):bs.length+65535*n≤65535*j∧bs.length≤65535*ks.length:=by
 induction e with
 | nil n=>simp
 | cons hk hn c hf r ih1 ih2 =>
  have:=c.le
  rw [List.length_append,List.length_cons]
  omega
def Fit1 (t:List S55) (i:Nat):Prop:=∃ m cs,En t (kidsOf t i) (i+1) m cs∧(nodeL t i (blN t i++cs)).length≤65535
theorem Ch.cover {ob:S55→Bool} {t:List S55} {ks:List Int} {n j h:Nat} (c:Ch ob t ks n j h):∀ i,n≤i→i < j→ob (rd_T55 t (i:Int))=true∧∃ m h',Ch ob t (kidsOf t i) (i+1) m h'∧m≤j∧h' < h:=by
 induction c with
 | nil n=>intro i h1 h2;omega
 | @cons k ks n m j h1 h2 hk hn ho c1 c2 ih1 ih2 =>
  intro i hi hj
  have l2:=c2.le
  by_cases e:i=n
  ·subst e
   exact ⟨ho,m,h1,c1,by omega,by omega⟩
  by_cases e2:i < m
  ·obtain ⟨a,m',h',c',hm,hh⟩:=ih1 i (by omega) e2
   exact ⟨a,m',h',c',by omega,by omega⟩
  ·obtain ⟨a,m',h',c',hm,hh⟩:=ih2 i (by omega) hj
   exact ⟨a,m',h',c',by omega,by omega⟩
theorem En.cover {t:List S55} {ks:List Int} {n j:Nat} {bs:List Int} (e:En t ks n j bs):∀ i,n≤i→i < j→Fit1 t i:=by
 induction e with
 | nil n=>intro i h1 h2;omega
 | @cons k ks n m j cs rs hk hn c hf r ih1 ih2 =>
  intro i hi hj
  by_cases e:i=n
  ·subst e
   exact ⟨_,_,c,hf⟩
  by_cases e2:i < m
  ·exact ih1 i (by omega) e2
  ·exact ih2 i (by omega) hj
theorem Ch.en {ob:S55→Bool} {t:List S55} {ks:List Int} {n j h:Nat} (c:Ch ob t ks n j h):(∀ i,n≤i→i < t.length→Fit1 t i)→∃ bs,En t ks n j bs:=by
 induction c with
 | nil n=>intro _;exact ⟨[],En.nil n⟩
 | @cons k ks n m j h1 h2 hk hn ho c1 c2 ih1 ih2 =>
  intro hf
  have l1:=c1.le
  obtain ⟨m',cs,e,hfit⟩:=hf n (Nat.le_refl _) hn
  obtain rfl:=En.pos c1 e
  obtain ⟨rs,er⟩:=ih2 (fun i hi hN=>hf i (by omega) hN)
  exact ⟨_,En.cons hk hn e hfit er⟩
def hdL (t:List S55) (n:Nat) (c:Nat):Nat:=(idB (rd_T55 t (n:Int)).f0 (rd_T55 t (n:Int)).f1 (rd_T55 t (n:Int)).f2++lenB (c:Int)).length
theorem nodeL_hd (t:List S55) (n:Nat) (cs:List Int):(nodeL t n cs).length=hdL t n cs.length+cs.length:=by unfold nodeL hdL;rw [List.length_append]
def Good (t:List S55) (x:List (Nat × Nat)) (d:Nat):Prop:=x.length=t.length∧∀ p,d≤p→p < t.length→∃ m cs,En t (kidsOf t p) (p+1) m cs∧(nodeL t p (blN t p++cs)).length≤65535∧rdOf ((0,0):Nat × Nat) x (p:Int)=(fl (hdL t p (blN t p++cs).length),fl (blN t p++cs).length)
theorem sizes_in (t:List S55) (hN:t.length≤1000) (x:List (Nat × Nat)) {ks:List Int} {n j:Nat} {bs:List Int} (e:En t ks n j bs):∀ (i q s:Nat),Good t x n→(kidsOf t i).length≤100000→(kidsOf t i).drop q=ks→q≤(kidsOf t i).length→s≤65535*q+65535 →
 ∀ r,Ev (fun k=>tree_sizes.l1 k t x (i:Int) ((s+bs.length:Nat):Int) (kidsOf t i) ((kidsOf t i).length:Int) ((kidsOf t i).length:Int)) r→Ev (fun k=>tree_sizes.l1 k t x (i:Int) (s:Int) (kidsOf t i) ((kidsOf t i).length:Int) (q:Int)) r:=by
 induction e with
 | nil n =>
  intro i q s hg hki hq hql hs r h
  have hqe:(kidsOf t i).length=q:=by
   have:=congrArg List.length hq
   simp at this
   omega
  rw [← hqe]
  exact h
 | @cons k ks n m j cs rs hkn hnN c hf er ih1 ih2 =>
  intro i q s hg hki hq hql hs r h
  have hq2:q < (kidsOf t i).length:=by
   have:=congrArg List.length hq
   simp at this
   omega
  have hdrop:=List.drop_eq_getElem_cons hq2
  rw [hq] at hdrop
  obtain ⟨hk0,hks'⟩:=List.cons.inj hdrop
  have hv:rd (kidsOf t i) (q:Int)=(n:Int):=by rw [rd_get q hq2,← hk0,hkn]
  have lc:=c.le
  obtain ⟨m',cs',e',hf',hx⟩:=hg.2 n (Nat.le_refl _) hnN
  obtain ⟨rfl,rfl⟩:=c.det e'
  have hnl:=nodeL_hd t n (blN t n++cs)
  have hxl:=hg.1
  refine Ev.step (fun k=>by rw [tree_sizes.l1]) ?_
  rw [hv,hx]
  dsimp only
  rw [fadd_fl (by omega),fint_fl (by omega),fok_fl (by omega),fiok_fl (by omega),w64 (x:=(q:Int)+1) (by omega) (by omega),w64 (by omega) (by omega)]
  refine Ev.ifp (by omega) (Ev.ifp (by omega) (Ev.ifp (by omega) (Ev.ifp (by omega) (Ev.ifp (by omega) (Ev.ifp rfl (Ev.ifp rfl ?_))))))
  have:=ih2 i (q+1) (s+(hdL t n (blN t n++cs).length+(blN t n++cs).length)) ⟨hg.1,fun p hp=>hg.2 p (by omega)⟩ hki hks'.symm (by omega) (by omega) r (by
   rw [List.length_append,hnl] at h
   rw [Nat.add_assoc]
   exact h)
  exact this
theorem sizes_is (ob:S55→Bool) (hin:InR ob) (t:List S55) (hN:t.length≤1000) (hsz:∀ n,n < t.length→(rd_T55 t (n:Int)).f3.size≤2000) (hk:∀ n,n < t.length→(kidsOf t n).length≤100000)
 (hcov:∀ i,i < t.length→ob (rd_T55 t (i:Int))=true∧∃ m h',Ch ob t (kidsOf t i) (i+1) m h'):∀ (d:Nat) (x:List (Nat × Nat)),d≤t.length→Good t x d →
 ∃ y b,Ev (fun k=>tree_sizes.l0 k t x ((d:Int) - 1)) (y,b)∧((b=true∧Good t y 0)∨(b=false∧∃ i,i < t.length∧¬ Fit1 t i)):=by
 intro d
 induction d with
 | zero =>
  intro x hd hg
  refine ⟨x,true,?_,Or.inl ⟨rfl,hg⟩⟩
  refine Ev.step (fun k=>by rw [tree_sizes.l0]) ?_
  exact Ev.ifn (by omega) (Ev.now _)
 | succ d ih =>
  intro x hd hg
  have hdN:d < t.length:=by omega
  obtain ⟨ho,m,h',c⟩:=hcov d hdN
  obtain ⟨bs,e⟩:=c.en (fun i hi hiN=>by
   obtain ⟨m,cs,e,hf,_⟩:=hg.2 i hi hiN
   exact ⟨m,cs,e,hf⟩)
  obtain ⟨r1,r2,r3,r4⟩:=hin _ (hsz d hdN) ho
  have hbl:(rd_T55 t (d:Int)).f3.size=(blN t d).length:=by
   unfold blN
   conv=>lhs;rw [← strOfNums_bytesOf (rd_T55 t (d:Int)).f3,nums_size]
  have hbd:=e.bd
  have hkd:=hk d hdN
  have hszd:=hsz d hdN
  have hxl:=hg.1
  have hsum:(blN t d).length+bs.length=(blN t d++bs).length:=by rw [List.length_append]
  have go:∀ {r:List (Nat × Nat) × Bool},Ev (fun k=>tree_sizes.l1 k t x (d:Int) (((blN t d++bs).length:Nat):Int) (kidsOf t d) ((kidsOf t d).length:Int) ((kidsOf t d).length:Int)) r→Ev (fun k=>tree_sizes.l0 k t x (((d+1:Nat):Int) - 1)) r:=by
   intro r h
   refine Ev.step (fun k=>by rw [tree_sizes.l0]) ?_
   rw [show ((d+1:Nat):Int) - 1=(d:Int) by omega,hbl]
   refine Ev.ifp (by omega) (Ev.ifp (by omega) (Ev.ifp (by omega) ?_))
   refine sizes_in t hN x e d 0 (blN t d).length hg hkd rfl (by omega) (by omega) r ?_
   rw [hsum]
   exact h
  have hh:=henc_is _ _ (rd_T55 t (d:Int)).f2 ((blN t d++bs).length:Int) r1 r2 r3 r4 (by omega)
  have hsize:Ev (fun k=>head_Size.f k (rd_T55 t (d:Int)).f0 (rd_T55 t (d:Int)).f1 (rd_T55 t (d:Int)).f2 ((blN t d++bs).length:Int)) (if ((blN t d++bs).length:Int)≤65535 then (hdL t d (blN t d++bs).length:Int) else 0):=by
   refine Ev.congr (fun k=>by rw [head_Size.f]) ?_
   refine Ev.bind hh ((Ev.now _).eq ?_)
   split
   ·rw [nums_sizeI]
    rfl
   ·rfl
  have hnl:=nodeL_hd t d (blN t d++bs)
  have hno:¬ (nodeL t d (blN t d++bs)).length≤65535→∃ i,i < t.length∧¬ Fit1 t i:=by
   intro hb
   refine ⟨d,hdN,?_⟩
   rintro ⟨m',cs,e',hf⟩
   obtain ⟨rfl,rfl⟩:=e.det e'
   exact hb hf
  have h1:=idB_len2 (rd_T55 t (d:Int)).f0 (rd_T55 t (d:Int)).f1 (rd_T55 t (d:Int)).f2
  have h2:=lenB_len ((blN t d++bs).length:Int)
  have hhd:0 < hdL t d (blN t d++bs).length∧hdL t d (blN t d++bs).length≤7:=by unfold hdL;rw [List.length_append];omega
  by_cases g:((blN t d++bs).length:Int)≤65535
  case neg =>
   rw [if_neg g] at hsize
   refine ⟨[],false,go ?_,Or.inr ⟨rfl,hno (by omega)⟩⟩
   refine Ev.step (fun k=>by rw [tree_sizes.l1]) ?_
   exact Ev.ifn (by omega) (Ev.ifp (by omega) (Ev.ifp (by omega) (Ev.bind hsize (Ev.ifp rfl (Ev.now _)))))
  rw [if_pos g] at hsize
  by_cases g2:(nodeL t d (blN t d++bs)).length≤65535
  case neg =>
   refine ⟨[],false,go ?_,Or.inr ⟨rfl,hno g2⟩⟩
   refine Ev.step (fun k=>by rw [tree_sizes.l1]) ?_
   refine Ev.ifn (by omega) (Ev.ifp (by omega) (Ev.ifp (by omega) (Ev.bind hsize (Ev.ifn (by omega) ?_))))
   rw [w64 (by omega) (by omega)]
   exact Ev.ifp (by omega) (Ev.now _)
  obtain ⟨y,b,hy,hc⟩:=ih (x.set d (fl (hdL t d (blN t d++bs).length),fl (blN t d++bs).length)) (by omega) (by
   refine ⟨by rw [List.length_set];exact hxl,fun p hp hpN=>?_⟩
   by_cases e0:p=d
   ·subst e0
    refine ⟨m,bs,e,g2,?_⟩
    rw [rdOf_get _ p (by rw [List.length_set];omega),List.getElem_set_self]
   ·obtain ⟨m',cs,e',hf,hx⟩:=hg.2 p (by omega) hpN
    refine ⟨m',cs,e',hf,?_⟩
    rw [← hx,rdOf_get _ p (by rw [List.length_set];omega),rdOf_get _ p (by omega),List.getElem_set_ne (by omega)])
  refine ⟨y,b,go ?_,hc⟩
  refine Ev.step (fun k=>by rw [tree_sizes.l1]) ?_
  refine Ev.ifn (by omega) (Ev.ifp (by omega) (Ev.ifp (by omega) (Ev.bind hsize (Ev.ifn (by omega) ?_))))
  rw [w64 (x:=(hdL t d (blN t d++bs).length:Int)+_) (by omega) (by omega),w64 (x:=(d:Int) - 1) (by omega) (by omega),fl_of (by omega),fl_of (by omega),Int.toNat_natCast,Int.toNat_natCast,Int.toNat_natCast]
  exact Ev.ifn (by omega) (Ev.ifp (by omega) hy)
theorem tagD_ok {b:Int} (b0:0≤b) (b1:b≤2097151):OkB (tagD b):=by
 unfold tagD
 split
 ·exact OkB.one b0 (by omega)
 ·split
  ·exact OkB.cons (by omega) (by omega) (OkB.one (by omega) (by omega))
  ·exact OkB.cons (by omega) (by omega) (OkB.cons (by omega) (by omega) (OkB.one (by omega) (by omega)))
theorem idB_ok {a b:Int} {c:Bool} (a0:0≤a) (a1:a≤3) (b0:0≤b) (b1:b≤2097151):OkB (idB a b c):=by
 have h:0≤(if c then (32:Int) else 0)∧(if c then (32:Int) else 0)≤32:=by split<;>omega
 unfold idB
 split
 ·exact OkB.one (by omega) (by omega)
 ·exact OkB.cons (by omega) (by omega) (tagD_ok b0 b1)
theorem lenB_ok {n:Int} (h0:0≤n) (h1:n≤65535):OkB (lenB n):=by
 unfold lenB
 split
 ·exact OkB.one h0 (by omega)
 ·split
  ·exact OkB.cons (by omega) (by omega) (OkB.one h0 (by omega))
  ·exact OkB.cons (by omega) (by omega) (OkB.cons (by omega) (by omega) (OkB.one (by omega) (by omega)))
theorem enc_loop20 (ob:S55→Bool) (hin:InR ob) (t:List S55) (hN:t.length≤1000) (hsz:∀ n,n < t.length→(rd_T55 t (n:Int)).f3.size≤2000) (hall:∀ i,i < t.length→ob (rd_T55 t (i:Int))=true) (x:List (Nat × Nat)) (hg:Good t x 0) {ks:List Int} {n j:Nat} {bs:List Int} (e:En t ks n j bs) :
 ∀ (acc:List Int),acc.length≤65535*n→n≤t.length→∀ r,Ev (fun k=>tree_Encode.l0 k x (acc++bs) t (t.length:Int) (j:Int)) r→Ev (fun k=>tree_Encode.l0 k x acc t (t.length:Int) (n:Int)) r:=by
 induction e with
 | nil n=>intro acc _ _ r h;rw [List.append_nil] at h;exact h
 | @cons k ks n m j cs rs hkn hnN c hf er ih1 ih2 =>
  intro acc ha hn r h
  obtain ⟨m',cs',e',hf',hx⟩:=hg.2 n (Nat.zero_le _) hnN
  obtain ⟨rfl,rfl⟩:=c.det e'
  obtain ⟨r1,r2,r3,r4⟩:=hin _ (hsz n hnN) (hall n hnN)
  have hnl:=nodeL_hd t n (blN t n++cs)
  have hxl:=hg.1
  have hbd:=c.bd
  have lc:=c.le
  have hh:=henc_is _ _ (rd_T55 t (n:Int)).f2 ((blN t n++cs).length:Int) r1 r2 r3 r4 (by omega)
  rw [if_pos (by omega)] at hh
  have hbl:(rd_T55 t (n:Int)).f3.size=(blN t n).length:=by
   unfold blN
   conv=>lhs;rw [← strOfNums_bytesOf (rd_T55 t (n:Int)).f3,nums_size]
  have hok:=bytesOf_nums (OkB.append (idB_ok (c:=(rd_T55 t (n:Int)).f2) r1 r2 r3 r4) (lenB_ok (n:=((blN t n++cs).length:Int)) (by omega) (by omega)))
  have hls:(blN t n++cs).length=(blN t n).length+cs.length:=List.length_append
  have hdd:(idB (rd_T55 t (n:Int)).f0 (rd_T55 t (n:Int)).f1 (rd_T55 t (n:Int)).f2++lenB ((blN t n++cs).length:Int)).length=hdL t n (blN t n++cs).length:=rfl
  refine Ev.step (fun k=>by rw [tree_Encode.l0]) ?_
  rw [hx]
  dsimp only
  rw [fiok_fl (by omega),fint_fl (by omega),w64 (x:=(n:Int)+1) (by omega) (by omega)]
  refine Ev.ifp (by omega) (Ev.ifp (by omega) (Ev.ifp (by omega) (Ev.ifp (by omega) (Ev.ifp rfl (Ev.bind hh (Ev.ifp (by rw [nums_size,hdd];omega) (Ev.bindc rfl ?_)))))))
  rw [hok]
  refine Ev.ifp (by rw [List.length_append,hdd,hbl];omega) ?_
  refine ih1 (acc++(idB (rd_T55 t (n:Int)).f0 (rd_T55 t (n:Int)).f1 (rd_T55 t (n:Int)).f2++lenB ((blN t n++cs).length:Int))++blN t n) (by rw [List.length_append,List.length_append,hdd];omega) (by omega) r ?_
  refine ih2 _ (by rw [List.length_append,List.length_append,List.length_append,hdd];omega) (lc.2 (by omega)) r ?_
  unfold nodeL at h
  simp only [List.append_assoc] at h ⊢
  exact h
theorem enc_both (ob:S55→Bool) (hin:InR ob) (t:List S55) (hsz:∀ n,n < t.length→(rd_T55 t (n:Int)).f3.size≤2000) (hk:∀ n,n < t.length→(kidsOf t n).length≤100000) (hcov:∀ i,i < t.length→ob (rd_T55 t (i:Int))=true∧∃ m h',Ch ob t (kidsOf t i) (i+1) m h')
 (H:Nat) (hR:RT ob t H) (hr1:Ev (fun k=>tree_Right.f k t) true) (hr2:Ev (fun k=>cr20_Right.f k t) true):∃ e:ByteArray × Int,Ev (fun k=>tree_Encode.f k t) e∧Ev (fun k=>cr20_Encode.f k t) e∧(∀ cs,En t (kidsOf t 0) 1 t.length cs→(nodeL t 0 (blN t 0++cs)).length≤65535→e=(strOfNums (nodeL t 0 (blN t 0++cs)),0))∧(e.2=0→∃ cs,En t (kidsOf t 0) 1 t.length cs∧(nodeL t 0 (blN t 0++cs)).length≤65535∧e=(strOfNums (nodeL t 0 (blN t 0++cs)),0)):=by
 have hN:=hR.2.1
 have h0:=hR.1
 have hbl:(blN t 0).length≤65535:=by
  have:=hsz 0 h0
  rw [← strOfNums_bytesOf (rd_T55 t ((0:Nat):Int)).f3,nums_size] at this
  show (bytesOf (rd_T55 t ((0:Nat):Int)).f3).length≤65535
  omega
 obtain ⟨v,ok,hv,_,hA,hB⟩:=ref_bytes_is ob hin t hN hsz hk hR.2.2.2.1 0 0 (blN t 0) h0 hR.2.2.1 rfl (by omega) hbl
 have hvf:Ev (fun k=>cr20_bytes.f k t 0) (v,ok):=by
  refine Ev.step (fun k=>by rw [cr20_bytes.f]) ?_
  refine Ev.ifp (by omega) (Ev.ifp (by omega) ?_)
  unfold blN at hv
  rw [strOfNums_bytesOf] at hv
  exact hv
 obtain ⟨y,b,hy,hc⟩:=sizes_is ob hin t hN hsz hk hcov t.length (List.replicate t.length ((0,0):Nat × Nat)) (Nat.le_refl _) ⟨by simp,fun p h1 h2=>by omega⟩
 have hs:Ev (fun k=>tree_sizes.f k t) (y,b):=by
  refine Ev.congr (fun k=>by rw [tree_sizes.f]) ?_
  rw [w64 (by omega) (by omega),Int.toNat_natCast]
  exact Ev.ifp (by omega) (Ev.ifp (by omega) hy)
 have root:∀ bs,En t (kidsOf t 0) 1 t.length bs→(nodeL t 0 (blN t 0++bs)).length≤65535→En t [(0:Int)] 0 t.length (nodeL t 0 (blN t 0++bs)++[]):=fun bs e f=>En.cons rfl h0 e f (En.nil _)
 rcases hc with ⟨rfl,hg⟩ | ⟨rfl,i,hi,hnf⟩
 ·obtain ⟨m,cs,e,hf,_⟩:=hg.2 0 (Nat.le_refl _) h0
  obtain rfl:=En.pos hR.2.2.2.1 e
  obtain rfl:=hB ⟨_,cs,e,hf⟩
  obtain ⟨cs',e',_,rfl⟩:=hA rfl
  obtain ⟨_,rfl⟩:=e.det e'
  refine ⟨(strOfNums (nodeL t 0 (blN t 0++cs)),0),?_,?_,fun cs2 e2 _=>(by obtain ⟨_,rfl⟩:=e.det e2;rfl),fun _=>⟨cs,e,hf,rfl⟩⟩
  ·refine Ev.congr (fun k=>by rw [tree_Encode.f]) ?_
   refine Ev.bind hr1 (Ev.ifp rfl (Ev.bind hs (Ev.ifp rfl ?_)))
   refine enc_loop20 ob hin t hN hsz (fun i hi=>(hcov i hi).1) y hg (root cs e hf) [] (by simp) (by omega) _ ?_
   refine Ev.step (fun k=>by rw [tree_Encode.l0]) ?_
   rw [List.nil_append,List.append_nil]
   exact Ev.ifn (by omega) (Ev.now _)
  ·refine Ev.congr (fun k=>by rw [cr20_Encode.f]) ?_
   exact Ev.bind hr2 (Ev.ifp rfl (Ev.bind hvf (Ev.ifp rfl (Ev.now _))))
 ·have hok:ok=false:=by
   cases ok with
   | false=>rfl
   | true =>
    obtain ⟨bs,e,f,_⟩:=hA rfl
    exact absurd ((root bs e f).cover i (Nat.zero_le _) hi) hnf
  subst hok
  refine ⟨(⟨#[]⟩,4),?_,?_,fun cs2 e2 f2=>absurd ((root cs2 e2 f2).cover i (Nat.zero_le _) hi) hnf,fun h=>absurd h (by decide)⟩
  ·refine Ev.congr (fun k=>by rw [tree_Encode.f]) ?_
   exact Ev.bind hr1 (Ev.ifp rfl (Ev.bind hs (Ev.ifn (by simp) (Ev.now _))))
  ·refine Ev.congr (fun k=>by rw [cr20_Encode.f]) ?_
   exact Ev.bind hr2 (Ev.ifp rfl (Ev.bind hvf (Ev.ifn (by simp) (Ev.now _))))
theorem Ch.hle {ob:S55→Bool} {t:List S55} {ks:List Int} {n j h:Nat} (c:Ch ob t ks n j h):h+n≤j:=by
 induction c with
 | nil n=>omega
 | cons hk hn ho c1 c2 ih1 ih2=>omega
def FW (t:List Nd) (n:Nat) (f:Fo):Prop:=(t.drop n).take f.size=f.flat n
theorem fw_cons {t:List Nd} {n:Nat} {a b:Int} {c:Bool} {d:List Int} {ks r:Fo}:FW t n (.cons a b c d ks r)↔∃ h:n < t.length,t[n]=nd a b c (strOfNums d) (ks.roots (n+1))∧FW t (n+1) ks∧FW t (n+1+ks.size) r:=by
 have e:(t.drop n).take (1+ks.size+r.size)=(t.drop n).take 1++((t.drop (n+1)).take ks.size++(t.drop (n+1+ks.size)).take r.size):=by
  rw [Nat.add_assoc,List.take_add,List.drop_drop,List.take_add,List.drop_drop]
 constructor
 ·intro h
  unfold FW at h
  rw [Fo.size,e,Fo.flat] at h
  have hn:n < t.length:=by
   rcases Nat.lt_or_ge n t.length with hn | hn
   ·exact hn
   ·rw [List.drop_eq_nil_of_le hn,List.drop_eq_nil_of_le (by omega),List.drop_eq_nil_of_le (by omega)] at h
    simp at h
  rw [List.drop_eq_getElem_cons hn] at h
  simp only [List.take_succ_cons,List.take_zero,List.singleton_append,List.cons.injEq] at h
  obtain ⟨h1,h2⟩:=h
  have hl:=congrArg List.length h2
  rw [List.length_append,List.length_append,Fo.flat_len,Fo.flat_len] at hl
  have l1:((t.drop (n+1)).take ks.size).length≤ks.size:=by rw [List.length_take];omega
  have l2:((t.drop (n+1+ks.size)).take r.size).length≤r.size:=by rw [List.length_take];omega
  obtain ⟨h3,h4⟩:=List.append_inj h2 (by rw [Fo.flat_len];omega)
  exact ⟨hn,h1,h3,h4⟩
 ·rintro ⟨hn,h1,h2,h3⟩
  unfold FW at h2 h3 ⊢
  rw [Fo.size,e,h2,h3,List.drop_eq_getElem_cons hn,h1]
  rfl
theorem fw_le {t:List Nd} {n:Nat} {f:Fo} (h:FW t n f) (hn:n≤t.length):n+f.size≤t.length:=by
 have hl:=congrArg List.length h
 rw [Fo.flat_len,List.length_take,List.length_drop] at hl
 omega
theorem fw_flat (f:Fo):FW (f.flat 0) 0 f:=by
 unfold FW
 rw [List.drop_zero,← Fo.flat_len f 0,List.take_length]
def Fo.height:Fo→Nat
 | .nil=>0
 | .cons _ _ _ _ ks r=>max (ks.height+1) r.height
theorem Fo.Ok.deep:∀ {f:Fo} {dep:Nat},f.Ok dep→dep≤16→dep+f.height≤16
 | .nil,dep,_,h=>h
 | .cons a b c d ks r,dep,⟨_,_,o2,_,_,_,_,o7,o8⟩,h=>by
  have h1:=o7.deep (by omega)
  have h2:=o8.deep h
  rw [Fo.height]
  omega
theorem kidsOf_at {t:List Nd} {n:Nat} (h:n < t.length):kidsOf t n=t[n].f4:=by unfold kidsOf;rw [rdT_lt t n h]
theorem blN_at {t:List Nd} {n:Nat} (h:n < t.length):blN t n=bytesOf t[n].f3:=by unfold blN;rw [rdT_lt t n h]
theorem nodeL_at {t:List Nd} {n:Nat} (h:n < t.length) (cs:List Int):nodeL t n cs=idB t[n].f0 t[n].f1 t[n].f2++lenB (cs.length:Int)++cs:=by unfold nodeL;rw [rdT_lt t n h]
theorem fw_en (t:List Nd):∀ (f:Fo) (n dep:Nat),FW t n f→f.Ok dep→f.enc.length≤65535→En t (f.roots n) n (n+f.size) f.enc
 | .nil,n,dep,_,_,_=>.nil n
 | .cons a b c d ks r,n,dep,h,ho,hl=>by
  obtain ⟨hn,h1,h2,h3⟩:=fw_cons.1 h
  obtain ⟨_,_,_,_,o5,_,_,o7,o8⟩:=ho
  rw [Fo.enc_cons] at hl
  have hk:(d++ks.enc).length=d.length+ks.enc.length:=List.length_append
  have i1:=fw_en t ks (n+1) _ h2 o7 (by omega)
  have i2:=fw_en t r (n+1+ks.size) _ h3 o8 (by omega)
  have e1:nodeL t n (blN t n++ks.enc)=idB a b c++lenB ((d++ks.enc).length:Int)++(d++ks.enc):=by
   rw [nodeL_at hn,blN_at hn,h1]
   show idB a b c++lenB ((bytesOf (strOfNums d)++ks.enc).length:Int)++(bytesOf (strOfNums d)++ks.enc)=_
   rw [bytesOf_nums o5]
  have:=En.cons (t:=t) (k:=(n:Int)) rfl hn (by rw [kidsOf_at hn,h1];exact i1) (by rw [e1,List.length_append];show Fo.hd a b c d ks+_≤_;omega) i2
  rw [e1] at this
  rw [Fo.size,show n+(1+ks.size+r.size)=n+1+ks.size+r.size by omega]
  exact this
theorem one_true (a b:Int) (c:Bool) (d:ByteArray) (e:List Int) (hb:0≤a∧a≤3∧0≤b∧b≤2097151) (hc:c=true→d.toList=[]) (he:c=false→e=[]) (hm:a=0→(c=true→b=16∨b=17)∧(c=false→Ev (fun k=>strs_Right.f k b d) true)):Ev (fun k=>tree_one.f k a b c d e) true:=by
 refine Ev.congr (fun k=>by rw [tree_one.f]) ?_
 refine Ev.ifn (by rw [mn_lt0];omega) (Ev.ifn (by omega) ?_)
 rw [decide_eq_false (by omega)]
 refine Ev.step (fun k=>by rw [tree_one.j0]) ?_
 refine Ev.ifn (by simp) ?_
 cases c with
 | true =>
  refine Ev.ifp rfl (Ev.ifp (hc rfl) ?_)
  by_cases h0:a=0
  ·refine Ev.ifp h0 ?_
   rcases (hm h0).1 rfl with h | h
   ·exact Ev.ifp h (Ev.now _)
   ·refine Ev.ifn (by omega) ((Ev.now _).eq ?_)
    rw [h];rfl
  ·exact Ev.ifn h0 (Ev.now _)
 | false =>
  refine Ev.ifn (by simp) (Ev.ifp (by rw [he rfl];rfl) ?_)
  by_cases h0:a=0
  ·exact Ev.ifp h0 (Ev.bind ((hm h0).2 rfl) (Ev.now _))
  ·exact Ev.ifn h0 (Ev.now _)
theorem ob_of (ob:Nd→Bool) (hone:∀ x,OneOk x (ob x)) {a b:Int} {c:Bool} {d:List Int} {ks r:Fo} {dep m:Nat} (ho:(Fo.cons a b c d ks r).Ok dep) (hs:d.length≤2000):ob (nd a b c (strOfNums d) (ks.roots m))=true:=by
 obtain ⟨hb,_,_,o4,o5,o6,o7,_⟩:=ho
 have h1:=(hone (nd a b c (strOfNums d) (ks.roots m)) (by show (strOfNums d).size≤2000;rw [nums_size];exact hs)).1
 exact Ev.det h1 (one_true a b c (strOfNums d) (ks.roots m) hb (fun h=>by rw [o6 h,nums_toList_nil]) (fun h=>by rw [o7 h];rfl) (fun h=>⟨(o4 h).1,fun h2=>((o4 h).2 h2).1⟩))
def Fo.Small:Fo→Nat→Prop
 | .nil,_=>True
 | .cons _ _ _ d ks r,m=>d.length≤m∧ks.Small m∧r.Small m
theorem Fo.small_of:∀ (f:Fo) (m:Nat),f.enc.length≤m→f.Small m
 | .nil,_,_=>trivial
 | .cons a b c d ks r,m,h=>by
  rw [Fo.enc_cons] at h
  have hk:(d++ks.enc).length=d.length+ks.enc.length:=List.length_append
  exact ⟨by omega,Fo.small_of ks m (by omega),Fo.small_of r m (by omega)⟩
theorem fw_ch (ob:Nd→Bool) (hone:∀ x,OneOk x (ob x)) (t:List Nd):∀ (f:Fo) (n dep:Nat),FW t n f→f.Ok dep→f.Small 2000→Ch ob t (f.roots n) n (n+f.size) f.height
 | .nil,n,dep,_,_,_=>.nil n
 | .cons a b c d ks r,n,dep,h,ho,hs=>by
  obtain ⟨hn,h1,h2,h3⟩:=fw_cons.1 h
  have hob:=ob_of ob hone (m:=n+1) ho hs.1
  obtain ⟨_,_,_,_,o5,_,_,o7,o8⟩:=ho
  have i1:=fw_ch ob hone t ks (n+1) _ h2 o7 hs.2.1
  have i2:=fw_ch ob hone t r (n+1+ks.size) _ h3 o8 hs.2.2
  have:=Ch.cons (ob:=ob) (t:=t) (k:=(n:Int)) rfl hn (by rw [rdT_lt t n hn,h1];exact hob) (by rw [kidsOf_at hn,h1];exact i1) i2
  rw [Fo.size,show n+(1+ks.size+r.size)=n+1+ks.size+r.size by omega]
  exact this
theorem tree_of_fo (a b:Int) (c:Bool) (d:List Int) (ks:Fo) (ho:(Fo.cons a b c d ks .nil).Ok 0) (hz:(Fo.cons a b c d ks .nil).size≤1000) (hs:(Fo.cons a b c d ks .nil).Small 2000) (hl:(Fo.cons a b c d ks .nil).enc.length≤65535) :
 Ev (fun k=>tree_Right.f k ((Fo.cons a b c d ks .nil).flat 0)) true∧Ev (fun k=>cr20_Right.f k ((Fo.cons a b c d ks .nil).flat 0)) true∧Ev (fun k=>tree_Depth.f k ((Fo.cons a b c d ks .nil).flat 0)) ((ks.height:Int)+1)∧ks.height+1≤16 ∧
 Ev (fun k=>tree_Encode.f k ((Fo.cons a b c d ks .nil).flat 0)) (strOfNums (Fo.cons a b c d ks .nil).enc,0)∧Ev (fun k=>cr20_Encode.f k ((Fo.cons a b c d ks .nil).flat 0)) (strOfNums (Fo.cons a b c d ks .nil).enc,0):=by
 obtain ⟨ob,hone⟩:=one_all
 have hfw:=fw_flat (Fo.cons a b c d ks .nil)
 have hlen:=Fo.flat_len (Fo.cons a b c d ks .nil) 0
 have hkk:=Fo.flat_kids (Fo.cons a b c d ks .nil) 0
 have hdeep:=ho.deep (by omega)
 have hch:=fw_ch ob hone _ _ 0 0 hfw ho hs
 have hen:=fw_en _ _ 0 0 hfw ho hl
 have hob:=ob_of ob hone (m:=1) ho hs.1
 have hsz1:(Fo.cons a b c d ks .nil).size=1+ks.size+0:=rfl
 have hh1:(Fo.cons a b c d ks .nil).height=max (ks.height+1) 0:=rfl
 rw [Nat.zero_add] at hch hen
 have hen0:(Fo.cons a b c d ks .nil).enc=idB a b c++lenB ((d++ks.enc).length:Int)++(d++ks.enc):=by rw [Fo.enc,Fo.enc,List.append_nil]
 obtain ⟨hn,g1,g2,_⟩:=fw_cons.1 hfw
 have hd5:=ho.2.2.2.2.1
 generalize hT:(Fo.cons a b c d ks .nil).flat 0=t at *
 have hsz:∀ n,n < t.length→(rd_T55 t (n:Int)).f3.size≤2000:=by
  have key:∀ (f:Fo) (n:Nat),f.Small 2000→∀ x∈f.flat n,x.f3.size≤2000:=by
   intro f
   induction f with
   | nil=>intro n _ x hx;cases hx
   | cons a b c d ks r ih1 ih2 =>
    intro n hs x hx
    rw [Fo.flat] at hx
    rcases List.mem_cons.1 hx with rfl | hx
    ·show (strOfNums d).size≤2000;rw [nums_size];exact hs.1
    ·rcases List.mem_append.1 hx with hx | hx
     ·exact ih1 _ hs.2.1 x hx
     ·exact ih2 _ hs.2.2 x hx
  intro n hn
  rw [rdT_lt t n hn]
  exact key (Fo.cons a b c d ks .nil) 0 hs _ (by rw [hT];exact List.getElem_mem hn)
 have hk:∀ n,n < t.length→(kidsOf t n).length≤100000:=fun n hn=>by
  rw [kidsOf_at hn]
  have:=hkk _ (List.getElem_mem hn)
  omega
 have hob2:ObT ob t:=fun n hn=>(hone _ (hsz n hn)).1
 have hin:InR ob:=fun x hx ho=>((hone x hx).2.2 ho).1
 have hks:kidsOf t 0=ks.roots 1:=by rw [kidsOf_at hn,g1];rfl
 have hc0:Ch ob t (kidsOf t 0) 1 t.length ks.height:=by
  rw [hks]
  have:=fw_ch ob hone t ks 1 1 g2 ho.2.2.2.2.2.2.2.1 hs.2.1
  rw [hlen,hsz1]
  exact this
 have hR:RT ob t ks.height:=⟨by omega,by omega,by rw [show (0:Int)=((0:Nat):Int) from rfl,rdT_lt t 0 hn,g1];exact hob,hc0,by omega⟩
 have hrd:=right_depth ob t hk hob2 _ hR
 obtain ⟨b2,hb2,hb2t⟩:=ref_right_is ob t hk (fun n hn=>(hone _ (hsz n hn)).2.1)
 have hb2':b2=true:=hb2t.2 ⟨_,hR⟩
 subst hb2'
 obtain ⟨e,he1,he2,he3,_⟩:=enc_both ob hin t hsz hk (fun i hi=>by
  obtain ⟨x,m,h',c',_⟩:=hch.cover i (Nat.zero_le _) (by omega)
  exact ⟨x,m,h',c'⟩) _ hR hrd.1 hb2
 have hkl:(d++ks.enc).length=d.length+ks.enc.length:=List.length_append
 have henk:En t (kidsOf t 0) 1 t.length ks.enc:=by
  rw [hks]
  have hel:=Fo.enc_cons a b c d ks .nil
  have:=fw_en t ks 1 1 g2 ho.2.2.2.2.2.2.2.1 (by omega)
  rw [hlen,hsz1]
  exact this
 have hnl:nodeL t 0 (blN t 0++ks.enc)=(Fo.cons a b c d ks .nil).enc:=by
  rw [nodeL_at hn,blN_at hn,g1,hen0]
  show idB a b c++lenB ((bytesOf (strOfNums d)++ks.enc).length:Int)++(bytesOf (strOfNums d)++ks.enc)=_
  rw [bytesOf_nums hd5]
 have he:=he3 ks.enc henk (by rw [hnl];exact hl)
 rw [hnl] at he
 subst he
 exact ⟨hrd.1,hb2,hrd.2,by omega,he1,he2⟩
theorem Fo.enc_ok:∀ (f:Fo) (dep:Nat),f.Ok dep→OkB f.enc
 | .nil,_,_=>OkB.nil
 | .cons a b c d ks r,dep,⟨⟨a0,a1,b0,b1⟩,o1,_,_,o5,_,_,o7,o8⟩=>by
  rw [Fo.enc]
  exact (((idB_ok a0 a1 b0 b1).append (lenB_ok (by omega) (by omega))).append (o5.append (Fo.enc_ok ks _ o7))).append (Fo.enc_ok r _ o8)
def Fo.parts:Fo→List (List Nd)
 | .nil=>[]
 | .cons a b c d ks r=>(Fo.cons a b c d ks .nil).flat 0 :: r.parts
theorem Fo.parts_len:∀ f:Fo,f.parts.length≤f.size
 | .nil=>Nat.le_refl _
 | .cons a b c d ks r=>by rw [Fo.parts,Fo.size,List.length_cons];have:=Fo.parts_len r;omega
theorem Fo.single_flat (a b:Int) (c:Bool) (d:List Int) (ks:Fo) (n:Nat):(Fo.cons a b c d ks .nil).flat n=nd a b c (strOfNums d) (ks.roots (n+1)) :: ks.flat (n+1):=by
 rw [Fo.flat,Fo.flat,List.append_nil]
theorem Fo.roots_shift (n m:Nat) (by_:Int) (h:(n:Int)+by_=(m:Int)):∀ (f:Fo) (j:Nat),n+j+f.size≤1000000→m+j+f.size≤1000000→(f.roots (n+j)).map (fun y=>wrap64 (y+by_))=f.roots (m+j)
 | .nil,_,_,_=>rfl
 | .cons a b c d ks r,j,h1,h2=>by
  rw [Fo.size] at h1 h2
  rw [Fo.roots,Fo.roots,List.map_cons]
  have i:=Fo.roots_shift n m by_ h r (j+1+ks.size) (by omega) (by omega)
  rw [show n+(j+1+ks.size)=n+j+1+ks.size by omega,show m+(j+1+ks.size)=m+j+1+ks.size by omega] at i
  rw [i,w64 (by omega) (by omega)]
  congr 1
  omega
theorem Fo.flat_shift (n m:Nat) (by_:Int) (h:(n:Int)+by_=(m:Int)):∀ (f:Fo) (j:Nat),n+j+f.size≤1000000→m+j+f.size≤1000000→(f.flat (n+j)).map (shN by_)=f.flat (m+j)
 | .nil,_,_,_=>rfl
 | .cons a b c d ks r,j,h1,h2=>by
  rw [Fo.size] at h1 h2
  rw [Fo.flat,Fo.flat,List.map_cons,List.map_append]
  have i0:=Fo.roots_shift n m by_ h ks (j+1) (by omega) (by omega)
  have i1:=Fo.flat_shift n m by_ h ks (j+1) (by omega) (by omega)
  have i2:=Fo.flat_shift n m by_ h r (j+1+ks.size) (by omega) (by omega)
  rw [show n+(j+1)=n+j+1 by omega,show m+(j+1)=m+j+1 by omega] at i0 i1
  rw [show n+(j+1+ks.size)=n+j+1+ks.size by omega,show m+(j+1+ks.size)=m+j+1+ks.size by omega] at i2
  rw [i1,i2]
  congr 1
  show (⟨a,b,c,strOfNums d,((ks.roots (n+j+1)).map fun y=>wrap64 (y+by_))⟩:Nd)=⟨a,b,c,strOfNums d,ks.roots (m+j+1)⟩
  rw [i0]
theorem parts_at {LL:List (List Nd)} {q:Nat} {a b:Int} {c:Bool} {d:List Int} {ks r:Fo} (h:LL.drop q=(Fo.cons a b c d ks r).parts):∃ hq:q < LL.length,LL[q]=(Fo.cons a b c d ks .nil).flat 0∧LL.drop (q+1)=r.parts:=by
 have hq:q < LL.length:=by
  rcases Nat.lt_or_ge q LL.length with g | g
  ·exact g
  ·rw [List.drop_eq_nil_of_le g,Fo.parts] at h;cases h
 rw [List.drop_eq_getElem_cons hq,Fo.parts] at h
 obtain ⟨h1,h2⟩:=List.cons.inj h
 exact ⟨hq,h1,h2⟩
theorem of_fo (a b:Int) (LL:List (List Nd)) (hLL:LL.length≤1000):∀ (g:Fo) (q:Nat) (kd:List Int) (body:List Nd),LL.drop q=g.parts→q≤LL.length→kd.length+g.size≤1000→body.length+1+g.size≤1000 →
 Ev (fun k=>tree_Of.l0 k (nd a b true ⟨#[]⟩ kd :: body) LL (LL.length:Int) (q:Int)) (nd a b true ⟨#[]⟩ (kd++g.roots (body.length+1)) :: (body++g.flat (body.length+1))):=by
 intro g
 induction g with
 | nil =>
  intro q kd body hq hql _ _
  have:LL.length≤q:=by
   have:=congrArg List.length hq
   simp [Fo.parts] at this
   omega
  refine Ev.step (fun k=>by rw [tree_Of.l0]) ?_
  rw [Fo.roots,Fo.flat,List.append_nil,List.append_nil]
  exact Ev.ifn (by omega) (Ev.now _)
 | cons a' b' c' d' ks r _ ih =>
  intro q kd body hq hql hkd hb
  obtain ⟨hlt,e1,e2⟩:=parts_at hq
  rw [Fo.size] at hkd hb
  have hl1:(LL[q]).length=1+ks.size:=by rw [e1,Fo.flat_len];rfl
  have hkk:=Fo.flat_kids (Fo.cons a' b' c' d' ks .nil) 0
  have hv:rd_L55 LL (q:Int)=LL[q]:=by unfold rd_L55;simp [List.getD_eq_getElem?_getD,hlt]
  have hx7:((nd a b true ⟨#[]⟩ kd :: body).length:Int)=((body.length+1:Nat):Int):=by simp
  have hr0:rd_T55 (nd a b true ⟨#[]⟩ kd :: body) 0=nd a b true ⟨#[]⟩ kd:=rfl
  refine Ev.step (fun k=>by rw [tree_Of.l0]) ?_
  rw [hv,hx7,hr0]
  refine Ev.ifp (by omega) (Ev.ifp (by omega) (Ev.ifp (by omega) (Ev.ifp (by omega) (Ev.ifp (by omega) (Ev.ifp (by show kd.length < _;omega) ?_)))))
  refine Ev.step (fun k=>by rw [tree_Of.j1]) ?_
  refine of_l1 ((body.length+1:Nat):Int) LL _ _ (LL[q]) (by omega) (fun x hx=>by have:=hkk x (e1 ▸ hx);rw [Fo.size] at this;simp only [Fo.size] at this;omega) _ 0 _ rfl (by omega) (by simp;omega) ?_
  have es:=Fo.flat_shift 0 (body.length+1) ((body.length+1:Nat):Int) (by omega) (Fo.cons a' b' c' d' ks .nil) 0 (by simp only [Fo.size];omega) (by simp only [Fo.size];omega)
  rw [List.drop_zero,e1,es,Nat.add_zero,w64 (x:=(q:Int)+1) (by omega) (by omega)]
  have hbl:(body++(Fo.cons a' b' c' d' ks .nil).flat (body.length+1)).length=body.length+1+ks.size:=by rw [List.length_append,Fo.flat_len];simp only [Fo.size];omega
  have:=ih (q+1) (kd++[((body.length+1:Nat):Int)]) (body++(Fo.cons a' b' c' d' ks .nil).flat (body.length+1)) e2 (by omega) (by simp;omega) (by rw [hbl];omega)
  rw [hbl] at this
  refine this.eq ?_
  simp only [Fo.roots,Fo.flat,List.append_nil,List.append_assoc,List.cons_append,List.nil_append,List.singleton_append,show body.length+1+ks.size+1=body.length+1+1+ks.size by omega]
theorem tree_Of_fo (a b:Int) (g:Fo) (h:g.size≤999):Ev (fun k=>tree_Of.f k a b g.parts) ((Fo.cons a b true [] g .nil).flat 0):=by
 have hp:=g.parts_len
 refine Ev.congr (fun k=>by rw [tree_Of.f]) ?_
 have:=of_fo a b g.parts (by omega) g 0 [] [] (by rw [List.drop_zero]) (by omega) (by simp;omega) (by simp;omega)
 refine this.eq ?_
 rw [Fo.single_flat]
 rfl
def Fo.app:Fo→Fo→Fo
 | .nil,g=>g
 | .cons a b c d ks r,g=>.cons a b c d ks (r.app g)
theorem ref_of_fo (a b:Int) (LL:List (List Nd)) (hLL:LL.length≤1000):∀ (g:Fo) (q:Nat) (kd:List Int) (body:List Nd),LL.drop q=g.parts→q≤LL.length→kd.length+g.size≤1000→body.length+1+g.size≤1000 →
 Ev (fun k=>cr20_Of.l0 k LL (nd a b true ⟨#[]⟩ kd :: body) (q:Int)) (nd a b true ⟨#[]⟩ (kd++g.roots (body.length+1)) :: (body++g.flat (body.length+1))):=by
 intro g
 induction g with
 | nil =>
  intro q kd body hq hql _ _
  have:LL.length≤q:=by
   have:=congrArg List.length hq
   simp [Fo.parts] at this
   omega
  refine Ev.step (fun k=>by rw [cr20_Of.l0]) ?_
  rw [Fo.roots,Fo.flat,List.append_nil,List.append_nil]
  exact Ev.ifn (by omega) (Ev.now _)
 | cons a' b' c' d' ks r _ ih =>
  intro q kd body hq hql hkd hb
  obtain ⟨hlt,e1,e2⟩:=parts_at hq
  rw [Fo.size] at hkd hb
  have hl1:(LL[q]).length=1+ks.size:=by rw [e1,Fo.flat_len];rfl
  have hkk:=Fo.flat_kids (Fo.cons a' b' c' d' ks .nil) 0
  have hx7:((nd a b true ⟨#[]⟩ kd :: body).length:Int)=((body.length+1:Nat):Int):=by simp
  have hr0:rd_T55 (nd a b true ⟨#[]⟩ kd :: body) 0=nd a b true ⟨#[]⟩ kd:=rfl
  refine Ev.step (fun k=>by rw [cr20_Of.l0]) ?_
  rw [rd9 LL q hlt,hx7,hr0]
  refine Ev.ifp (by omega) (Ev.ifp (by omega) (Ev.ifp (by omega) (Ev.ifp (by omega) (Ev.ifp (by show kd.length < _;omega) ?_))))
  refine Ev.step (fun k=>by rw [cr20_Of.j1]) ?_
  refine ref_of_l1 ((body.length+1:Nat):Int) LL q hlt (by omega) (by omega) (fun x hx=>by have:=hkk x (e1 ▸ hx);simp only [Fo.size] at this;omega) _ 0 _ rfl (by omega) (by simp;omega) ?_
  have es:=Fo.flat_shift 0 (body.length+1) ((body.length+1:Nat):Int) (by omega) (Fo.cons a' b' c' d' ks .nil) 0 (by simp only [Fo.size];omega) (by simp only [Fo.size];omega)
  rw [List.drop_zero,e1,es,Nat.add_zero]
  have hbl:(body++(Fo.cons a' b' c' d' ks .nil).flat (body.length+1)).length=body.length+1+ks.size:=by rw [List.length_append,Fo.flat_len];simp only [Fo.size];omega
  have:=ih (q+1) (kd++[((body.length+1:Nat):Int)]) (body++(Fo.cons a' b' c' d' ks .nil).flat (body.length+1)) e2 (by omega) (by simp;omega) (by rw [hbl];omega)
  rw [hbl] at this
  refine this.eq ?_
  simp only [Fo.roots,Fo.flat,List.append_nil,List.append_assoc,List.cons_append,List.nil_append,List.singleton_append,show body.length+1+ks.size+1=body.length+1+1+ks.size by omega]
theorem ref_Of_fo (a b:Int) (g:Fo) (h:g.size≤999):Ev (fun k=>cr20_Of.f k a b g.parts) ((Fo.cons a b true [] g .nil).flat 0):=by
 have hp:=g.parts_len
 refine Ev.congr (fun k=>by rw [cr20_Of.f]) ?_
 have:=ref_of_fo a b g.parts (by omega) g 0 [] [] (by rw [List.drop_zero]) (by omega) (by simp;omega) (by simp;omega)
 refine this.eq ?_
 rw [Fo.single_flat]
 rfl
structure Tr (ob:Nd→Bool) (t:List Nd) (H:Nat):Prop where
 one:∀ x,OneOk x (ob x)
 sz:∀ n,n < t.length→(rd_T55 t (n:Int)).f3.size≤2000
 kd:∀ n,n < t.length→(kidsOf t n).length≤100000
 rt:RT ob t H
theorem Tr.obT {ob:Nd→Bool} {t:List Nd} {H:Nat} (h:Tr ob t H):ObT ob t:=fun n hn=>(h.one _ (h.sz n hn)).1
theorem fo_tr (a b:Int) (c:Bool) (d:List Int) (ks:Fo) (ho:(Fo.cons a b c d ks .nil).Ok 0) (hz:(Fo.cons a b c d ks .nil).size≤1000) (hs:(Fo.cons a b c d ks .nil).Small 2000):∃ ob,Tr ob ((Fo.cons a b c d ks .nil).flat 0) ks.height:=by
 obtain ⟨ob,hone⟩:=one_all
 have hfw:=fw_flat (Fo.cons a b c d ks .nil)
 have hlen:=Fo.flat_len (Fo.cons a b c d ks .nil) 0
 have hkk:=Fo.flat_kids (Fo.cons a b c d ks .nil) 0
 have hdeep:=ho.deep (by omega)
 have hob:=ob_of ob hone (m:=1) ho hs.1
 have hsz1:(Fo.cons a b c d ks .nil).size=1+ks.size+0:=rfl
 have hh1:(Fo.cons a b c d ks .nil).height=max (ks.height+1) 0:=rfl
 obtain ⟨hn,g1,g2,_⟩:=fw_cons.1 hfw
 generalize hT:(Fo.cons a b c d ks .nil).flat 0=t at *
 have hsz:∀ n,n < t.length→(rd_T55 t (n:Int)).f3.size≤2000:=by
  have key:∀ (f:Fo) (n:Nat),f.Small 2000→∀ x∈f.flat n,x.f3.size≤2000:=by
   intro f
   induction f with
   | nil=>intro n _ x hx;cases hx
   | cons a b c d ks r ih1 ih2 =>
    intro n hs x hx
    rw [Fo.flat] at hx
    rcases List.mem_cons.1 hx with rfl | hx
    ·show (strOfNums d).size≤2000;rw [nums_size];exact hs.1
    ·rcases List.mem_append.1 hx with hx | hx
     ·exact ih1 _ hs.2.1 x hx
     ·exact ih2 _ hs.2.2 x hx
  intro n hn
  rw [rdT_lt t n hn]
  exact key (Fo.cons a b c d ks .nil) 0 hs _ (by rw [hT];exact List.getElem_mem hn)
 refine ⟨ob,hone,hsz,fun n hn=>?_,by omega,by omega,by rw [show (0:Int)=((0:Nat):Int) from rfl,rdT_lt t 0 hn,g1];exact hob,?_,by omega⟩
 ·rw [kidsOf_at hn]
  have:=hkk _ (List.getElem_mem hn)
  omega
 ·have hks:kidsOf t 0=ks.roots 1:=by rw [kidsOf_at hn,g1];rfl
  rw [hks]
  have:=fw_ch ob hone t ks 1 1 g2 ho.2.2.2.2.2.2.2.1 hs.2.1
  rw [hlen,hsz1]
  exact this
theorem fw_single {t:List Nd} {n:Nat} {a b:Int} {c:Bool} {d:List Int} {ks r:Fo} (h:FW t n (.cons a b c d ks r)):FW t n (.cons a b c d ks .nil):=by
 obtain ⟨h1,h2,h3,_⟩:=fw_cons.1 h
 exact fw_cons.2 ⟨h1,h2,h3,by unfold FW;rw [Fo.size,Fo.flat,List.take_zero]⟩
theorem win_fo {t:List Nd} {n:Nat} {a b:Int} {c:Bool} {d:List Int} {ks:Fo} (h:FW t n (.cons a b c d ks .nil)) (hl:n+(1+ks.size)≤1000):win t n (n+1+ks.size)=(Fo.cons a b c d ks .nil).flat 0:=by
 unfold win
 rw [List.drop_take,show n+1+ks.size - n=(Fo.cons a b c d ks .nil).size by simp only [Fo.size];omega,h,w64 (by omega) (by omega)]
 exact Fo.flat_shift n 0 (-(n:Int)) (by omega) _ 0 (by simp only [Fo.size];omega) (by simp only [Fo.size];omega)
theorem pt_fo {ob:Nd→Bool} (hone:∀ x,OneOk x (ob x)) {t:List Nd} {H:Nat} (ht:t.length≤1000):∀ (f:Fo) (n dep:Nat),FW t n f→f.Ok dep→f.Small 2000→f.height≤H→n≤t.length→Pt ob t H (f.roots n) n (n+f.size) f.parts
 | .nil,n,_,_,_,_,_,_=>.nil n
 | .cons a b c d ks r,n,dep,h,ho,hs,hh,hn=>by
  have hle:=fw_le h hn
  obtain ⟨h1,h2,h3,h4⟩:=fw_cons.1 h
  rw [Fo.height] at hh
  rw [Fo.size] at hle
  have i:=pt_fo (H:=H) hone ht r (n+1+ks.size) dep h4 ho.2.2.2.2.2.2.2.2 hs.2.2 (by omega) (by omega)
  rw [Fo.roots,Fo.parts,Fo.size,← win_fo (fw_single h) (by omega),show n+(1+ks.size+r.size)=n+1+ks.size+r.size by omega]
  refine Pt.cons (m:=n+1+ks.size) (h:=ks.height) rfl h1 ?_ ?_ (Nat.lt_of_lt_of_le (Nat.lt_succ_self _) (Nat.le_trans (Nat.le_max_left _ _) hh)) (by omega) i
  ·rw [rdT_lt t n h1,h2]
   exact ob_of ob hone ho hs.1
  ·rw [kidsOf_at h1,h2]
   exact fw_ch ob hone t ks (n+1) _ h3 ho.2.2.2.2.2.2.2.1 hs.2.1
theorem tree_Kids_fo (a b:Int) (c:Bool) (d:List Int) (ks:Fo) (ho:(Fo.cons a b c d ks .nil).Ok 0) (hz:(Fo.cons a b c d ks .nil).size≤1000) (hs:(Fo.cons a b c d ks .nil).Small 2000):Ev (fun k=>tree_Kids.f k ((Fo.cons a b c d ks .nil).flat 0)) ks.parts:=by
 obtain ⟨ob,T⟩:=fo_tr a b c d ks ho hz hs
 have hfw:=fw_flat (Fo.cons a b c d ks .nil)
 have hlen:=Fo.flat_len (Fo.cons a b c d ks .nil) 0
 obtain ⟨hn,g1,g2,_⟩:=fw_cons.1 hfw
 generalize (Fo.cons a b c d ks .nil).flat 0=t at *
 have p:=pt_fo (H:=ks.height) T.one (by omega) ks 1 1 g2 ho.2.2.2.2.2.2.2.1 hs.2.1 (Nat.le_refl _) (by omega)
 refine kids_is ob t T.kd T.obT ks.height T.rt ks.parts (1+ks.size) ?_
 rw [kidsOf_at hn,g1]
 exact p
inductive TE (t:List Nd):Prop
 | no (h1:Ev (fun k=>tree_Encode.f k t) (⟨#[]⟩,1)) (h2:Ev (fun k=>cr20_Right.f k t) false)
 | yes (e:ByteArray × Int) (h1:Ev (fun k=>tree_Encode.f k t) e) (h2:Ev (fun k=>cr20_Right.f k t) true) (h3:Ev (fun k=>cr20_Encode.f k t) e)
  (h4:e.2=0→∃ (a b:Int) (c:Bool) (d:List Int) (ks:Fo),t=(Fo.cons a b c d ks .nil).flat 0∧(Fo.cons a b c d ks .nil).Ok 0∧(Fo.cons a b c d ks .nil).enc.length≤65535∧e.1=strOfNums (Fo.cons a b c d ks .nil).enc)
def Fo.By:Fo→Prop
 | .nil=>True
 | .cons _ _ _ d ks r=>OkB d∧ks.By∧r.By
theorem Fo.Ok.by:∀ {f:Fo} {dep:Nat},f.Ok dep→f.By
 | .nil,_,_=>trivial
 | .cons _ _ _ _ _ _,_,h=>⟨h.2.2.2.2.1,Fo.Ok.by h.2.2.2.2.2.2.2.1,Fo.Ok.by h.2.2.2.2.2.2.2.2⟩
theorem nums_inj {l m:List Int} (hl:OkB l) (hm:OkB m) (h:strOfNums l=strOfNums m):l=m:=by
 rw [← bytesOf_nums hl,← bytesOf_nums hm,h]
theorem Fo.size_enc:∀ f:Fo,2*f.size≤f.enc.length
 | .nil=>Nat.zero_le _
 | .cons a b c d ks r=>by
  rw [Fo.enc_cons,Fo.size]
  have h1:=Fo.size_enc ks
  have h2:=Fo.size_enc r
  have h3:=Fo.hd_pos a b c d ks
  rw [List.length_append]
  omega
theorem Fo.Ok.less:∀ {f:Fo} {dep dep':Nat},f.Ok dep→dep'≤dep→f.Ok dep'
 | .nil,_,_,_,_=>trivial
 | .cons a b c d ks r,dep,dep',h,hd=>⟨h.1,h.2.1,by have:=h.2.2.1;omega,h.2.2.2.1,h.2.2.2.2.1,h.2.2.2.2.2.1,h.2.2.2.2.2.2.1,Fo.Ok.less h.2.2.2.2.2.2.2.1 (by omega),Fo.Ok.less h.2.2.2.2.2.2.2.2 hd⟩
theorem Fo.Ok.one {a b:Int} {c:Bool} {d:List Int} {ks r:Fo} {dep:Nat} (h:(Fo.cons a b c d ks r).Ok dep):(Fo.cons a b c d ks .nil).Ok 0:=Fo.Ok.less (dep:=dep) ⟨h.1,h.2.1,h.2.2.1,h.2.2.2.1,h.2.2.2.2.1,h.2.2.2.2.2.1,h.2.2.2.2.2.2.1,h.2.2.2.2.2.2.2.1,trivial⟩ (Nat.zero_le _)
theorem Fo.Ok.rest {a b:Int} {c:Bool} {d:List Int} {ks r:Fo} {dep:Nat} (h:(Fo.cons a b c d ks r).Ok dep):r.Ok dep:=h.2.2.2.2.2.2.2.2
theorem Fo.Ok.kids {a b:Int} {c:Bool} {d:List Int} {ks r:Fo} {dep:Nat} (h:(Fo.cons a b c d ks r).Ok dep):ks.Ok (dep+1):=h.2.2.2.2.2.2.2.1
theorem Fo.enc_le1 (a b:Int) (c:Bool) (d:List Int) (ks r:Fo):(Fo.cons a b c d ks .nil).enc.length≤(Fo.cons a b c d ks r).enc.length∧r.enc.length≤(Fo.cons a b c d ks r).enc.length∧ks.enc.length≤(Fo.cons a b c d ks r).enc.length∧d.length≤(Fo.cons a b c d ks r).enc.length:=by
 rw [Fo.enc_cons,Fo.enc_cons,List.length_append]
 simp only [Fo.enc,List.length_nil]
 omega
theorem toList_inj {x y:ByteArray} (h:x.toList=y.toList):x=y:=by
 rw [ByteArray.toList_eq,ByteArray.toList_eq] at h
 exact ByteArray.ext (Array.toList_inj.1 h)
theorem prim {a b:Int} {c:Bool} {d:List Int} {ks r:Fo} {dep:Nat} (h:(Fo.cons a b c d ks r).Ok dep) (ha:a=0) (h16:b≠16) (h17:b≠17):c=false∧ks=.nil∧Rt b d:=by
 obtain ⟨_,_,_,hm,_,_,hk,_⟩:=h
 have:=hm ha
 cases c with
 | true=>rcases this.1 rfl with h | h<;>contradiction
 | false=>exact ⟨rfl,hk rfl,this.2 rfl⟩
theorem made_of {a b:Int} {c:Bool} {d:List Int} {ks r:Fo} {dep:Nat} (h:(Fo.cons a b c d ks r).Ok dep) (hk:ks≠.nil):c=true∧d=[]:=by
 obtain ⟨_,_,_,_,_,hd,hk',_⟩:=h
 cases c with
 | true=>exact ⟨rfl,hd rfl⟩
 | false=>exact absurd (hk' rfl) hk
theorem rt6 {d:List Int} (hd:OkB d) (hl:d.length≤65535) (h:Rt 6 d):∃ arcs,goodA d arcs∧decA d=(arcs,true):=by
 have h1:Ev (fun k=>strs_Right.f k 6 (strOfNums d)) (decA d).2:=by
  refine Ev.congr (fun k=>by rw [strs_Right.f]) ?_
  exact Ev.ifn (by decide) (Ev.ifn (by decide) (Ev.ifn (by decide) (Ev.ifn (by decide) (Ev.ifn (by decide) (Ev.ifp rfl (Ev.bind (oid_decode_is d hd (by omega)) (Ev.now _)))))))
 have h2:(decA d).2=true:=Ev.uniq h1 h.1
 have h3:decA d=((decA d).1,true):=by rw [← h2]
 exact ⟨_,decA_sound hd h3,h3⟩
theorem dA_len (c:List Int) (hc:OkB c):(decA c).1.length≤20:=by
 unfold decA
 split
 ·split
  ·rename_i h;obtain ⟨a,b,r,e,h18,_⟩:=right_parts h;rw [e];simp only [List.length_cons];omega
  ·simp
 ·simp
theorem ref17_dec (l:List Int) (hl:OkB l) (hs:l.length≤1000000):Ev (fun k=>cr17_Decode.f k (strOfNums l)) (decA l):=by
 rw [← decE_is l hl]
 exact ref17_decode_is l hl hs
theorem at_fw {t:List Nd} {n:Nat} {a b:Int} {c:Bool} {d:List Int} {ks r:Fo} (h:FW t n (.cons a b c d ks r)):n < t.length∧rd_T55 t (n:Int)=nd a b c (strOfNums d) (ks.roots (n+1))∧FW t (n+1) ks∧FW t (n+1+ks.size) r:=by
 obtain ⟨h1,h2,h3,h4⟩:=fw_cons.1 h
 exact ⟨h1,by rw [rdT_lt t n h1,h2],h3,h4⟩
theorem compare_less:∀ (a b:List UInt8),decide (Lib.compareBytes a b < 0)=Op.bytesLess a b
 | [],[]=>rfl
 | [],_ :: _=>rfl
 | _ :: _,[]=>rfl
 | a :: x,b :: y=>by
  rw [Lib.compareBytes,Op.bytesLess]
  by_cases h1:a < b
  ·rw [if_pos h1]
   simp [h1]
  ·rw [if_neg h1]
   by_cases h2:b < a
   ·rw [if_pos h2]
    have h3:(a == b)=false:=beq_eq_false_iff_ne.2 (fun e=>by subst e;exact h1 h2)
    simp [h1,h3]
   ·rw [if_neg h2,compare_less x y]
    have h3:a=b:=UInt8.le_antisymm (UInt8.not_lt.1 h2) (UInt8.not_lt.1 h1)
    subst h3
    simp [h1]
theorem drop_all (p:UInt8→Bool):∀ l:List UInt8,(∀ x∈l.dropWhile p,p x=true)→∀ x∈l,p x=true
 | [],_,x,hx=>by cases hx
 | a :: l,h,x,hx=>by
  by_cases ha:p a=true
  ·rw [List.dropWhile_cons,if_pos ha] at h
   rcases List.mem_cons.1 hx with rfl | hx
   ·exact ha
   ·exact drop_all p l h x hx
  ·rw [List.dropWhile_cons,if_neg ha] at h
   exact absurd (h a (by simp)) ha
theorem trimB_nil (l:List UInt8):Lib.trimB l 0=[]↔∀ b∈l,b=0:=by
 unfold Lib.trimB Lib.trimLeftB Lib.trimRightB
 constructor
 ·intro h b hb
  have h1:∀ x∈(l.reverse.dropWhile (· == 0)).reverse,(x == 0)=true:=by
   have h2:=drop_all (· == 0) ((l.reverse.dropWhile (· == 0)).reverse) (by rw [h];intro x hx;cases hx)
   exact h2
  have h3:=drop_all (· == 0) l.reverse (fun x hx=>h1 x (List.mem_reverse.2 hx)) b (List.mem_reverse.2 hb)
  exact beq_iff_eq.1 h3
 ·intro h
  have h1:l.reverse.dropWhile (· == 0)=[]:=by
   have:∀ m:List UInt8,(∀ x∈m,x=0)→m.dropWhile (· == 0)=[]:=by
    intro m
    induction m with
    | nil=>intro _;rfl
    | cons a m ih =>
     intro hm
     rw [List.dropWhile_cons,if_pos (beq_iff_eq.2 (hm a (by simp)))]
     exact ih (fun x hx=>hm x (List.mem_cons_of_mem _ hx))
   exact this _ (fun x hx=>h x (List.mem_reverse.1 hx))
  rw [h1]
  rfl
theorem bt_at22 (s:ByteArray) (i:Nat) (h:i < s.size):bt s (i:Int)=((s.data.toList.getD i 0).toNat:Int):=by
 have hl:i < s.data.toList.length:=by rw [Array.length_toList];exact h
 unfold bt
 rw [dif_pos (by simpa using h)]
 rw [List.getD_eq_getElem?_getD,List.getElem?_eq_getElem hl]
 rfl
def ordF (c:Int):ByteArray:=(curve_Order.f 200 c).getD ⟨#[]⟩
theorem four {c:Int} (h1:1≤c) (h4:c≤4):c=1∨c=2∨c=3∨c=4:=by omega
theorem order_isP {c:Int} (h1:1≤c) (h4:c≤4):Ev (fun k=>curve_Order.f k c) (ordF c):=by
 rcases four h1 h4 with rfl | rfl | rfl | rfl
 ·exact Ev.from_ 80 (fun n=>by kernel_rfl)
 ·exact Ev.from_ 80 (fun n=>by kernel_rfl)
 ·exact Ev.from_ 80 (fun n=>by kernel_rfl)
 ·exact Ev.from_ 80 (fun n=>by kernel_rfl)
def scalarA (o s:ByteArray):Bool:=s.data.toList.any (fun b=>!(b == 0)) && Op.bytesLess s.toList o.toList
def widths (c:Int):Int:=if c=1 then 28 else if c=2 then 32 else if c=3 then 48 else if c=4 then 66 else 0
theorem widths_out {c:Int} (h:¬ (1≤c∧c≤4)):widths c=0:=by
 unfold widths
 rw [if_neg (by omega),if_neg (by omega),if_neg (by omega),if_neg (by omega)]
theorem line_out {c:Int} (h:¬ (1≤c∧c≤4)):curve_line.f c=some ((⟨#[]⟩:ByteArray),(⟨#[]⟩:ByteArray),(⟨#[]⟩:ByteArray),0):=by
 unfold curve_line.f curve_table.f
 rw [Option.bind_some]
 by_cases h1:c < 1
 ·rw [if_pos h1]
 ·rw [if_neg h1,if_pos (by omega)]
theorem line_width (c:Int):∃ a b o,curve_line.f c=some (a,b,o,widths c):=by
 by_cases h:1≤c∧c≤4
 ·have key:∀ n:Int,(curve_line.f n).map (fun t=>t.2.2.2)=some (widths n)→∃ a b o,curve_line.f n=some (a,b,o,widths n):=fun n hn=>by
   cases hh:curve_line.f n with
   | none=>rw [hh] at hn;cases hn
   | some t =>
    rw [hh] at hn
    exact ⟨t.1,t.2.1,t.2.2.1,by rw [← Option.some.inj hn]⟩
  rcases four h.1 h.2 with rfl | rfl | rfl | rfl
  ·exact key 1 (by kernel_rfl)
  ·exact key 2 (by kernel_rfl)
  ·exact key 3 (by kernel_rfl)
  ·exact key 4 (by kernel_rfl)
 ·exact ⟨_,_,_,by rw [line_out h,widths_out h]⟩
theorem widths_pos {c:Int} (h0:¬ widths c=0):1≤c∧c≤4:=by
 unfold widths at h0
 by_cases c1:c=1
 ·omega
 by_cases c2:c=2
 ·omega
 by_cases c3:c=3
 ·omega
 by_cases c4:c=4
 ·omega
 ·rw [if_neg c1,if_neg c2,if_neg c3,if_neg c4] at h0
  exact absurd rfl h0
def scalarF (c:Int) (s:ByteArray):Bool:=if widths c=0 then false else if (s.size:Int)=widths c then scalarA (ordF c) s else false
theorem any_all (l:List UInt8):(l.any (fun b=>!(b == 0))) = !decide (∀ b∈l,b=0):=by
 by_cases hz:∀ b∈l,b=0
 ·rw [decide_eq_true hz,List.any_eq_false.2 (fun x hx=>by simp [hz x hx])]
  rfl
 ·rw [decide_eq_false hz,List.any_eq_true.2]
  ·rfl
  ·exact Classical.byContradiction fun hn=>hz fun b hb=>Classical.byContradiction fun hne=>hn ⟨b,hb,by simp [hne]⟩
theorem scalar_isP (c:Int) (s:ByteArray) (hs:s.size≤1000000):Ev (fun k=>curve_Scalar.f k c s) (scalarF c s):=by
 unfold scalarF
 obtain ⟨n,a,o,hw⟩:=line_width c
 have hno1:Ev (fun k=>curve_Scalar.j0 k c s true) false:=by
  refine Ev.step (fun k=>by rw [curve_Scalar.j0]) ?_
  exact Ev.ifp rfl (Ev.now _)
 by_cases h0:widths c=0
 ·rw [if_pos h0]
  exact Ev.congr (fun k=>by rw [curve_Scalar.f]) (Ev.bindc hw (Ev.ifp h0 hno1))
 by_cases h1:(s.size:Int)=widths c
 ·have hb:((s.size:Int) != widths c)=false:=by rw [h1];simp
  have hc:=widths_pos h0
  have o1:=order_isP hc.1 hc.2
  rw [if_neg h0,if_pos h1]
  generalize ordF c=o at *
  refine Ev.congr (fun k=>by rw [curve_Scalar.f]) (Ev.bindc hw (Ev.ifn h0 ?_))
  show Ev (fun k=>curve_Scalar.j0 k c s ((s.size:Int) != widths c)) _
  rw [hb]
  refine Ev.step (fun k=>by rw [curve_Scalar.j0]) ?_
  refine Ev.ifn (by simp) ?_
  refine Ev.bindc (a:=⟨(Lib.trimB s.data.toList 0).toArray⟩) (by
   unfold strings_Trim.f
   rw [if_pos ⟨rfl,by omega⟩,if_pos (by decide)]
   rfl) ?_
  by_cases hz:∀ b∈s.data.toList,b=0
  ·refine Ev.ifp ?_ ((Ev.now _).eq ?_)
   ·rw [(trimB_nil _).2 hz,toList_data]
   ·unfold scalarA
    rw [any_all,decide_eq_true hz]
    rfl
  ·refine Ev.ifn ?_ ?_
   ·rw [toList_data]
    intro e
    exact hz ((trimB_nil _).1 e)
   ·refine Ev.bind o1 ?_
    refine Ev.bindc rfl ?_
    refine (Ev.now _).eq ?_
    unfold scalarA
    rw [any_all,decide_eq_false hz,compare_less,toList_data,toList_data]
    rfl
 ·have hb:((s.size:Int) != widths c)=true:=bne_iff_ne.2 h1
  rw [if_neg h0,if_neg h1]
  refine Ev.congr (fun k=>by rw [curve_Scalar.f]) (Ev.bindc hw (Ev.ifn h0 ?_))
  show Ev (fun k=>curve_Scalar.j0 k c s ((s.size:Int) != widths c)) _
  rw [hb]
  exact hno1
theorem order_isR {c:Int} (h1:1≤c) (h4:c≤4):Ev (fun k=>cr22_Order.f k c) (ordF c):=by
 rcases four h1 h4 with rfl | rfl | rfl | rfl
 ·exact Ev.from_ 200 (fun n=>by kernel_rfl)
 ·exact Ev.from_ 200 (fun n=>by kernel_rfl)
 ·exact Ev.from_ 200 (fun n=>by kernel_rfl)
 ·exact Ev.from_ 200 (fun n=>by kernel_rfl)
theorem ref_scalar_loop (c:Int) (s o:ByteArray) (hs:s.size≤1000000) (ho:Ev (fun k=>cr22_Order.f k c) o) (d:Nat):∀ (i:Nat) (f:Bool),i≤s.size→s.size - i=d →
 Ev (fun k=>cr22_Scalar.l0 k c s f (i:Int)) ((f || (s.data.toList.drop i).any (fun b=>!(b == 0))) && Op.bytesLess s.toList o.toList):=by
 have hl:s.data.toList.length=s.size:=Array.length_toList
 induction d with
 | zero =>
  intro i f hi hd
  refine Ev.step (fun k=>by rw [cr22_Scalar.l0]) ?_
  refine Ev.ifn (by omega) ?_
  rw [List.drop_eq_nil_of_le (by omega)]
  cases f with
  | true=>exact Ev.ifp rfl (Ev.bind ho ((Ev.now _).eq (by simp)))
  | false=>exact Ev.ifn (by simp) ((Ev.now _).eq (by simp))
 | succ d ih =>
  intro i f hi hd
  have hlt:i < s.data.toList.length:=by omega
  have hd2:s.data.toList.drop i=s.data.toList.getD i 0 :: s.data.toList.drop (i+1):=by
   rw [List.drop_eq_getElem_cons hlt,List.getD_eq_getElem?_getD,List.getElem?_eq_getElem hlt]
   rfl
  refine Ev.step (fun k=>by rw [cr22_Scalar.l0]) ?_
  refine Ev.ifp (by omega) ?_
  refine Ev.ifp (by omega) ?_
  rw [bt_at22 s i (by omega),w64 (by omega) (by omega),hd2,List.any_cons]
  by_cases h0:((s.data.toList.getD i 0).toNat:Int)=0
  ·refine Ev.ifp h0 ?_
   have e:s.data.toList.getD i 0=0:=UInt8.toNat_inj.1 (by simpa using h0)
   refine (ih (i+1) f (by omega) (by omega)).eq ?_
   rw [e];rfl
  ·refine Ev.ifn h0 ?_
   have e:¬ s.data.toList.getD i 0=0:=fun e=>h0 (by rw [e];rfl)
   refine (ih (i+1) true (by omega) (by omega)).eq ?_
   have e2:(s.data.toList.getD i 0 == 0)=false:=beq_eq_false_iff_ne.2 e
   rw [e2]
   simp
theorem ref_width (c:Int):cr22_Width.f c=some (widths c):=by
 unfold cr22_Width.f widths
 repeat' split
 all_goals rfl
theorem scalar_isR (c:Int) (s:ByteArray) (hs:s.size≤1000000):Ev (fun k=>cr22_Scalar.f k c s) (scalarF c s):=by
 unfold scalarF
 have hno2:Ev (fun k=>cr22_Scalar.j0 k c s true) false:=by
  refine Ev.step (fun k=>by rw [cr22_Scalar.j0]) ?_
  exact Ev.ifp rfl (Ev.now _)
 by_cases h0:widths c=0
 ·rw [if_pos h0]
  exact Ev.congr (fun k=>by rw [cr22_Scalar.f]) (Ev.bindc (ref_width c) (Ev.ifp h0 hno2))
 by_cases h1:(s.size:Int)=widths c
 ·have hb:((s.size:Int) != widths c)=false:=by rw [h1];simp
  have hc:=widths_pos h0
  have o2:=order_isR hc.1 hc.2
  rw [if_neg h0,if_pos h1]
  refine Ev.congr (fun k=>by rw [cr22_Scalar.f]) (Ev.bindc (ref_width c) (Ev.ifn h0 ?_))
  show Ev (fun k=>cr22_Scalar.j0 k c s ((s.size:Int) != widths c)) _
  rw [hb]
  refine Ev.step (fun k=>by rw [cr22_Scalar.j0]) ?_
  refine Ev.ifn (by simp) ?_
  refine (ref_scalar_loop c s _ hs o2 _ 0 false (by omega) rfl).eq ?_
  unfold scalarA
  simp
 ·have hb:((s.size:Int) != widths c)=true:=bne_iff_ne.2 h1
  rw [if_neg h0,if_neg h1]
  refine Ev.congr (fun k=>by rw [cr22_Scalar.f]) (Ev.bindc (ref_width c) (Ev.ifn h0 ?_))
  show Ev (fun k=>cr22_Scalar.j0 k c s ((s.size:Int) != widths c)) _
  rw [hb]
  exact hno2
def ofC (q:Nat→Bool):Int × Bool:=if q 0=true then (1,true) else if q 1=true then (2,true) else if q 2=true then (3,true) else if q 3=true then (4,true) else (0,false)
def curveRows:List S85:=match curve_table.f with
 | some t=>[⟨t.1,t.2.1,t.2.2.1,t.2.2.2.1⟩,⟨t.2.2.2.2.1,t.2.2.2.2.2.1,t.2.2.2.2.2.2.1,t.2.2.2.2.2.2.2.1⟩,⟨t.2.2.2.2.2.2.2.2.1,t.2.2.2.2.2.2.2.2.2.1,t.2.2.2.2.2.2.2.2.2.2.1,t.2.2.2.2.2.2.2.2.2.2.2.1⟩,⟨t.2.2.2.2.2.2.2.2.2.2.2.2.1,t.2.2.2.2.2.2.2.2.2.2.2.2.2.1,t.2.2.2.2.2.2.2.2.2.2.2.2.2.2.1,t.2.2.2.2.2.2.2.2.2.2.2.2.2.2.2⟩]
 | none=>[]
def idxF {α:Type} (p:α→Bool):List α→Nat→Int
 | [],_=>-1
 | x :: r,i=>if p x=true then (i:Int) else idxF p r (i+1)
theorem idx_loop22 (l:List S85) (hl:l.length≤1000) (g:ByteArray→ByteArray→ByteArray→Int→Option Bool) (p:S85→Bool) (hg:∀ x:S85,g x.f0 x.f1 x.f2 x.f3=some (p x)):∀ (d i:Nat),i≤l.length→l.length - i=d →
 Ev (fun k=>curve_curve.l0 k g l (l.length:Int) (i:Int)) (idxF p (l.drop i) i):=by
 intro d
 induction d with
 | zero =>
  intro i hi hd
  refine Ev.step (fun k=>by rw [curve_curve.l0]) ?_
  rw [List.drop_eq_nil_of_le (by omega)]
  exact Ev.ifn (by omega) (Ev.now _)
 | succ d ih =>
  intro i hi hd
  have hlt:i < l.length:=by omega
  refine Ev.step (fun k=>by rw [curve_curve.l0]) ?_
  have e:rd_T85 l (i:Int)=l[i]:=by unfold rd_T85;simp [List.getD_eq_getElem?_getD,hlt]
  rw [List.drop_eq_getElem_cons hlt,idxF,e,hg,w64 (x:=(i:Int)+1) (by omega) (by omega)]
  refine Ev.ifp (by omega) (Ev.ifp (by omega) (Ev.ifp (by omega) (Ev.bindc rfl ?_)))
  exact Ev.ite (fun _=>Ev.now _) (fun _=>ih (i+1) (by omega) (by omega))
theorem found_is (g:ByteArray→ByteArray→ByteArray→Int→Option Bool) (p:S85→Bool) (hg:∀ x:S85,g x.f0 x.f1 x.f2 x.f3=some (p x)):Ev (fun k=>curve_found.f k g) (ofC fun i=>p (rd_T85 curveRows (i:Int))):=by
 refine Ev.congr (fun k=>by rw [curve_found.f]) ?_
 obtain ⟨t,ht⟩:∃ t,curve_table.f=some t:=⟨_,rfl⟩
 have hrows:curveRows=[⟨t.1,t.2.1,t.2.2.1,t.2.2.2.1⟩,⟨t.2.2.2.2.1,t.2.2.2.2.2.1,t.2.2.2.2.2.2.1,t.2.2.2.2.2.2.2.1⟩,⟨t.2.2.2.2.2.2.2.2.1,t.2.2.2.2.2.2.2.2.2.1,t.2.2.2.2.2.2.2.2.2.2.1,t.2.2.2.2.2.2.2.2.2.2.2.1⟩,⟨t.2.2.2.2.2.2.2.2.2.2.2.2.1,t.2.2.2.2.2.2.2.2.2.2.2.2.2.1,t.2.2.2.2.2.2.2.2.2.2.2.2.2.2.1,t.2.2.2.2.2.2.2.2.2.2.2.2.2.2.2⟩]:=by
  unfold curveRows
  rw [ht]
 have e:curveRows=[rd_T85 curveRows 0,rd_T85 curveRows 1,rd_T85 curveRows 2,rd_T85 curveRows 3]:=by rw [hrows];rfl
 have hlen:curveRows.length=4:=by rw [hrows];rfl
 refine Ev.bindc ht ?_
 rw [← hrows]
 have h:=idx_loop22 curveRows (by omega) g p hg _ 0 (Nat.zero_le _) rfl
 refine Ev.bind (a:=idxF p curveRows 0) (Ev.congr (fun k=>by rw [curve_curve.f];rfl) h) ((Ev.now _).eq ?_)
 have key:∀ a b c d:S85,(wrap64 (idxF p [a,b,c,d] 0+1),decide (idxF p [a,b,c,d] 0≥0))=if p a=true then ((1:Int),true) else if p b=true then (2,true) else if p c=true then (3,true) else if p d=true then (4,true) else (0,false):=by
  intro a b c d
  simp only [idxF]
  rcases Bool.eq_false_or_eq_true (p a) with ha | ha
  ·simp only [ha,if_true];decide +kernel
  rcases Bool.eq_false_or_eq_true (p b) with hb | hb
  ·simp only [ha,hb,if_true,Bool.false_eq_true,if_false];decide +kernel
  rcases Bool.eq_false_or_eq_true (p c) with hc | hc
  ·simp only [ha,hb,hc,if_true,Bool.false_eq_true,if_false];decide +kernel
  rcases Bool.eq_false_or_eq_true (p d) with hd | hd
  ·simp only [ha,hb,hc,hd,if_true,Bool.false_eq_true,if_false];decide +kernel
  ·simp only [ha,hb,hc,hd,Bool.false_eq_true,if_false];decide +kernel
 have:=key (rd_T85 curveRows 0) (rd_T85 curveRows 1) (rd_T85 curveRows 2) (rd_T85 curveRows 3)
 rw [← e] at this
 exact this
def cA (i:Nat):List Int:=(cr22_Arcs.f ((i:Int)+1)).getD []
theorem rows4_all:((List.range 4).all fun i=>decide ((rd_T85 curveRows (i:Int)).f1=strOfNums (joinI ((cA i).map num))) && decide ((rd_T85 curveRows (i:Int)).f3=widths ((i:Int)+1)) && decide (rightA (cA i)=true) && decide (cr22_Arcs.f ((i:Int)+1)=some (cA i)))=true:=by decide +kernel
theorem row4 (i:Nat) (h:i < 4):(rd_T85 curveRows (i:Int)).f1=strOfNums (joinI ((cA i).map num))∧(rd_T85 curveRows (i:Int)).f3=widths ((i:Int)+1)∧rightA (cA i)=true∧cr22_Arcs.f ((i:Int)+1)=some (cA i):=by
 have h1:=List.all_eq_true.1 rows4_all i (List.mem_range.2 h)
 simp only [Bool.and_eq_true,decide_eq_true_eq] at h1
 exact ⟨h1.1.1.1,h1.1.1.2,h1.1.2,h1.2⟩
theorem ofC_congr {q q':Nat→Bool} (h:∀ i,i < 4→q i=q' i):ofC q=ofC q':=by
 unfold ofC
 rw [h 0 (by decide),h 1 (by decide),h 2 (by decide),h 3 (by decide)]
theorem row4_text (i:Nat) (h:i < 4) (l:List Int):((rd_T85 curveRows (i:Int)).f1.toList == (if rightA l=true then strOfNums (joinI (l.map num)) else ⟨#[]⟩).toList)=decide (cA i=l):=by
 obtain ⟨r1,_,r3,_⟩:=row4 i h
 rw [r1]
 by_cases hl:rightA l=true
 ·rw [if_pos hl]
  by_cases he:cA i=l
  ·rw [he];simp
  ·rw [decide_eq_false he]
   refine beq_eq_false_iff_ne.2 (fun e=>he ?_)
   have e2:=(nums_toList (joinN_ok _) (joinN_ok _)).1 e
   have h1:=ownP_text r3
   rw [e2,ownP_text hl] at h1
   exact ((Prod.mk.inj h1).1).symm
 ·rw [if_neg hl,decide_eq_false (fun e=>hl (by rw [← e];exact r3))]
  refine beq_eq_false_iff_ne.2 (fun e=>?_)
  have e2:=(nums_toList (l:=joinI ((cA i).map num)) (m:=[]) (joinN_ok _) OkB.nil).1 e
  have h1:=ownP_text r3
  rw [e2] at h1
  have h2:ownP (dotsI [])=([],false):=by decide +kernel
  rw [h2] at h1
  exact absurd (Prod.mk.inj h1).2 (by decide)
theorem curve_by_is (l:List Int) (hs:l.length≤1000):Ev (fun k=>curve_By.f k l) (ofC fun i=>decide (cA i=l)):=by
 refine Ev.congr (fun k=>by rw [curve_By.f]) ?_
 refine Ev.bind (oid_text_is l (by omega)) ?_
 refine Ev.bind (found_is _ (fun x=>x.f1.toList == (if rightA l=true then strOfNums (joinI (l.map num)) else ⟨#[]⟩).toList) (fun _=>rfl)) ((Ev.now _).eq ?_)
 exact ofC_congr fun i hi=>row4_text i hi l
theorem same22_is (a b:List Int) (h:a.length≤1000):Ev (fun k=>cr22_same.f k a b) (decide (a=b)):=by
 refine Ev.congr (fun k=>by rw [cr22_same.f]) ?_
 by_cases hl:a.length=b.length
 case neg =>
  refine Ev.ifn (by omega) ((Ev.now _).eq ?_)
  rw [decide_eq_false (fun e=>hl (by rw [e]))]
 refine Ev.ifp (by omega) ?_
 have loop:∀ d i:Nat,i≤a.length→a.length - i=d→Ev (fun k=>cr22_same.l0 k a b (i:Int)) (decide (a.drop i=b.drop i)):=by
  intro d
  induction d with
  | zero =>
   intro i hi hd
   refine Ev.step (fun k=>by rw [cr22_same.l0]) ?_
   refine Ev.ifn (by omega) ((Ev.now _).eq ?_)
   rw [List.drop_eq_nil_of_le (by omega),List.drop_eq_nil_of_le (by omega),decide_eq_true rfl]
  | succ d ih =>
   intro i hi hd
   refine Ev.step (fun k=>by rw [cr22_same.l0]) ?_
   rw [w64 (by omega) (by omega)]
   refine Ev.ifp (by omega) (Ev.ifp (by omega) (Ev.ifp (by omega) ?_))
   have ha:i < a.length:=by omega
   have hb:i < b.length:=by omega
   rw [rd_get i ha,rd_get i hb,List.drop_eq_getElem_cons ha,List.drop_eq_getElem_cons hb]
   by_cases he:a[i]=b[i]
   ·refine Ev.ifp he ((ih (i+1) (by omega) (by omega)).eq ?_)
    rw [he]
    simp only [List.cons.injEq,true_and]
   ·refine Ev.ifn he ((Ev.now _).eq ?_)
    exact (decide_eq_false (fun e=>he (List.cons.inj e).1)).symm
 have:=loop _ 0 (by omega) rfl
 simpa using this
theorem cA_len:∀ i,i < 4→(cA i).length≤1000:=by
 intro i h
 have:i=0∨i=1∨i=2∨i=3:=by omega
 rcases this with rfl | rfl | rfl | rfl<;>decide
theorem ref22_by_is (l:List Int):Ev (fun k=>cr22_By.f k l) (ofC fun i=>decide (cA i=l)):=by
 have step:∀ (i:Nat) (r:Int × Bool),i < 4→Ev (fun k=>cr22_By.l0 k l ((i:Int)+2)) r→Ev (fun k=>cr22_By.l0 k l ((i:Int)+1)) (if decide (cA i=l)=true then ((i:Int)+1,true) else r):=by
  intro i r hi h
  refine Ev.step (fun k=>by rw [cr22_By.l0]) ?_
  rw [w64 (by omega) (by omega),show (i:Int)+1+1=(i:Int)+2 by omega]
  refine Ev.ifp (by omega) (Ev.bindc (row4 i hi).2.2.2 (Ev.bind (same22_is (cA i) l (cA_len i hi)) ?_))
  by_cases he:decide (cA i=l)=true
  ·rw [if_pos he];exact Ev.ifp he (Ev.now _)
  ·rw [if_neg he];exact Ev.ifn he h
 have last:Ev (fun k=>cr22_By.l0 k l (((3:Nat):Int)+2)) (0,false):=by
  refine Ev.step (fun k=>by rw [cr22_By.l0]) ?_
  exact Ev.ifn (by decide) (Ev.now _)
 have h:=step 0 _ (by decide) (step 1 _ (by decide) (step 2 _ (by decide) (step 3 _ (by decide) last)))
 refine Ev.congr (fun k=>by rw [cr22_By.f]) ?_
 exact h
theorem c_width (c:Int):curve_Width.f c=some (widths c):=by
 obtain ⟨a,b,o,h⟩:=line_width c
 unfold curve_Width.f
 rw [h]
 rfl
theorem c_arcs (c:Int):∃ l:List Int,l.length≤1000∧Ev (fun k=>curve_Arcs.f k c) l∧cr22_Arcs.f c=some l:=by
 by_cases h:1≤c∧c≤4
 ·rcases four h.1 h.2 with rfl | rfl | rfl | rfl
  ·exact ⟨cA 0,by decide,Ev.from_ 80 (fun n=>by kernel_rfl),rfl⟩
  ·exact ⟨cA 1,by decide,Ev.from_ 80 (fun n=>by kernel_rfl),rfl⟩
  ·exact ⟨cA 2,by decide,Ev.from_ 80 (fun n=>by kernel_rfl),rfl⟩
  ·exact ⟨cA 3,by decide,Ev.from_ 80 (fun n=>by kernel_rfl),rfl⟩
 ·refine ⟨[],by decide,?_,?_⟩
  ·refine Ev.congr (fun k=>by rw [curve_Arcs.f]) ?_
   refine Ev.bindc (line_out h) ?_
   refine Ev.bind (a:=(([]:List Int),false)) (Ev.from_ 20 (fun n=>by kernel_rfl)) ?_
   exact Ev.now _
  ·unfold cr22_Arcs.f
   rw [if_neg (by omega),if_neg (by omega),if_neg (by omega),if_neg (by omega)]
def nmF (no:Int):List Int:=digs (numsOf (cA (no - 1).toNat))
def sFo (name x:List Int):Fo:=.cons 0 16 true [] (.cons 0 2 false [1] .nil (.cons 0 4 false x .nil (.cons 2 0 true [] (.cons 0 6 false name .nil .nil) .nil))) .nil
def mayF (no:Int) (s:ByteArray):Int:=if widths no=0 then 8 else if widths no=(s.size:Int) then (if scalarF no s=true then 0 else 10) else 9
theorem may25 (no:Int) (s:ByteArray) (hs:s.size≤1000000):Ev (fun k=>sec1_may.f k no s) (mayF no s):=by
 unfold mayF
 refine Ev.congr (fun k=>by rw [sec1_may.f]) (Ev.bindc (c_width no) ?_)
 refine Ev.ite (fun _=>Ev.now _) (fun _=>Ev.ite (fun _=>Ev.bind (scalar_isP no s hs) (Ev.ite (fun _=>Ev.now _) (fun _=>Ev.now _))) (fun _=>Ev.now _))
theorem mayF_four {no:Int} {s:ByteArray} (h:mayF no s=0):(1≤no∧no≤4)∧(s.size:Int)=widths no∧widths no≠0∧scalarF no s=true:=by
 unfold mayF at h
 by_cases h0:widths no=0
 ·rw [if_pos h0] at h;cases h
 rw [if_neg h0] at h
 by_cases h1:widths no=(s.size:Int)
 ·rw [if_pos h1] at h
  by_cases h2:scalarF no s=true
  ·exact ⟨widths_pos h0,h1.symm,h0,h2⟩
  ·rw [if_neg h2] at h;cases h
 ·rw [if_neg h1] at h;cases h
theorem widths_le (no:Int):0≤widths no∧widths no≤66:=by
 unfold widths
 repeat' split
 all_goals omega
theorem cA_right {no:Int} (h:1≤no∧no≤4):rightA (cA (no - 1).toNat)=true∧cr22_Arcs.f no=some (cA (no - 1).toNat)∧(cA (no - 1).toNat).length≤1000:=by
 have h1:=row4 (no - 1).toNat (by omega)
 have e:(((no - 1).toNat:Nat):Int)+1=no:=by omega
 rw [e] at h1
 exact ⟨h1.2.2.1,h1.2.2.2,cA_len _ (by omega)⟩
theorem curve_arcs_is {no:Int} (h:1≤no∧no≤4):Ev (fun k=>curve_Arcs.f k no) (cA (no - 1).toNat):=by
 obtain ⟨l,_,h1,h2⟩:=c_arcs no
 rw [(cA_right h).2.1] at h2
 rw [Option.some.inj h2]
 exact h1
theorem whole_one:Ev (fun k=>whole_Encode.f k 1) ⟨#[1]⟩:=(whole_Encode_eq 1 (by decide) (by decide)).eq (by kernel_rfl)
theorem made_is {no:Int} (h:1≤no∧no≤4) (x:List Int):Ev (fun k=>sec1_made.f k no (strOfNums x)) ((Fo.cons 0 2 false [1] .nil .nil).flat 0,(Fo.cons 0 4 false x .nil .nil).flat 0,(Fo.cons 2 0 true [] (.cons 0 6 false (nmF no) .nil .nil) .nil).flat 0):=by
 obtain ⟨hr,_,hl⟩:=cA_right h
 have e1:=oid_encode_is (cA (no - 1).toNat) hl
 rw [if_pos hr] at e1
 refine Ev.congr (fun k=>by rw [sec1_made.f]) ?_
 refine Ev.bind (curve_arcs_is h) (Ev.bind e1 (Ev.bind whole_one (Ev.bindc rfl (Ev.bindc rfl (Ev.bindc rfl ?_)))))
 exact Ev.bind (tree_Of_fo 2 0 (.cons 0 6 false (nmF no) .nil .nil) (by simp only [Fo.size];omega)) (Ev.now _)
theorem tree_is (name x:List Int):Ev (fun k=>sec1_parts_tree.f k ((Fo.cons 0 2 false [1] .nil .nil).flat 0) ((Fo.cons 0 4 false x .nil .nil).flat 0) ((Fo.cons 2 0 true [] (.cons 0 6 false name .nil .nil) .nil).flat 0)) ((sFo name x).flat 0):=by
 refine Ev.congr (fun k=>by rw [sec1_parts_tree.f]) ?_
 exact Ev.bind (tree_Of_fo 0 16 (.cons 0 2 false [1] .nil (.cons 0 4 false x .nil (.cons 2 0 true [] (.cons 0 6 false name .nil .nil) .nil))) (by simp only [Fo.size];omega)) (Ev.now _)
theorem Rt_of {b:Int} {d:List Int} (hd:OkB d) (hl:d.length≤65535) (h:Ev (fun k=>strs_Right.f k b (strOfNums d)) true):Rt b d:=by
 obtain ⟨t,h1,h2⟩:=strs_right_key b d hd hl
 rw [← Ev.det h h1] at h2
 exact ⟨h,h2⟩
theorem rt2_one:Rt 2 [1]:=Rt_of (OkB.cons (by decide) (by decide) OkB.nil) (by decide) (by
 refine Ev.congr (fun k=>by rw [strs_Right.f]) ?_
 exact Ev.ifn (by decide) (Ev.ifp rfl (Ev.bindc (whole_Right_eq [1] (OkB.cons (by decide) (by decide) OkB.nil)) ((Ev.now _).eq (by decide)))))
theorem rt4_all {x:List Int} (hx:OkB x) (hl:x.length≤65535):Rt 4 x:=Rt_of hx hl (by
 refine Ev.congr (fun k=>by rw [strs_Right.f]) ?_
 exact Ev.ifn (by decide) (Ev.ifn (by decide) (Ev.ifn (by decide) (Ev.ifp rfl (Ev.now _)))))
theorem rt6_name {arcs:List Int} (h:rightA arcs=true) (hl:(digs (numsOf arcs)).length≤65535):Rt 6 (digs (numsOf arcs)):=Rt_of (digs_ok _) hl (by
 refine Ev.congr (fun k=>by rw [strs_Right.f]) ?_
 refine Ev.ifn (by decide) (Ev.ifn (by decide) (Ev.ifn (by decide) (Ev.ifn (by decide) (Ev.ifn (by decide) (Ev.ifp rfl (Ev.bind (oid_decode_is _ (digs_ok _) (by omega)) ((Ev.now _).eq ?_)))))))
 rw [decA_complete (l:=digs (numsOf arcs)) (arcs:=arcs) ⟨h,rfl⟩])
theorem nmF_len:∀ i,i < 4→(digs (numsOf (cA i))).length≤20:=by
 intro i h
 have:i=0∨i=1∨i=2∨i=3:=by omega
 rcases this with rfl | rfl | rfl | rfl<;>decide +kernel
theorem hd_le (a b:Int) (c:Bool) (d:List Int) (ks:Fo):Fo.hd a b c d ks≤7:=by
 unfold Fo.hd
 rw [List.length_append]
 have:=(idB_len2 a b c).2
 have:=lenB_len ((d++ks.enc).length:Int)
 omega
theorem sFo_len (name x:List Int):(sFo name x).enc.length≤36+name.length+x.length:=by
 unfold sFo
 have h1:=hd_le 0 16 true [] (.cons 0 2 false [1] .nil (.cons 0 4 false x .nil (.cons 2 0 true [] (.cons 0 6 false name .nil .nil) .nil)))
 have h2:=hd_le 0 2 false [1] .nil
 have h3:=hd_le 0 4 false x .nil
 have h4:=hd_le 2 0 true [] (.cons 0 6 false name .nil .nil)
 have h5:=hd_le 0 6 false name .nil
 rw [Fo.enc_cons,List.length_append,Fo.enc_cons,Fo.enc_cons,Fo.enc_cons,List.length_append,List.length_append,List.length_append,Fo.enc_cons]
 simp only [Fo.enc,List.length_append,List.length_nil,List.length_cons]
 omega
theorem sFo_ok {name x:List Int} (h6:Rt 6 name) (hn:OkB name) (hnl:name.length≤1000) (hx:OkB x) (hxl:x.length≤1000):(sFo name x).Ok 0:=by
 have hl:=sFo_len name x
 have h1:=Fo.enc_le1 0 16 true [] (.cons 0 2 false [1] .nil (.cons 0 4 false x .nil (.cons 2 0 true [] (.cons 0 6 false name .nil .nil) .nil))) .nil
 have h2:=Fo.enc_le1 0 2 false [1] .nil (.cons 0 4 false x .nil (.cons 2 0 true [] (.cons 0 6 false name .nil .nil) .nil))
 have h3:=Fo.enc_le1 0 4 false x .nil (.cons 2 0 true [] (.cons 0 6 false name .nil .nil) .nil)
 have h4:=Fo.enc_le1 2 0 true [] (.cons 0 6 false name .nil .nil) .nil
 unfold sFo at hl ⊢
 refine ⟨by decide,by rw [List.nil_append];omega,by decide,fun _=>⟨fun _=>.inl rfl,fun h=>by cases h⟩,OkB.nil,fun _=>rfl,(fun h=>by cases h),?_,trivial⟩
 refine ⟨by decide,by simp [Fo.enc],by decide,fun _=>⟨(fun h=>by cases h),fun _=>rt2_one⟩,OkB.cons (by decide) (by decide) OkB.nil,(fun h=>by cases h),fun _=>rfl,trivial,?_⟩
 refine ⟨by decide,by rw [Fo.enc,List.append_nil];omega,by decide,fun _=>⟨(fun h=>by cases h),fun _=>rt4_all hx (by omega)⟩,hx,(fun h=>by cases h),fun _=>rfl,trivial,?_⟩
 refine ⟨by decide,by rw [List.nil_append];omega,by decide,(fun h=>by cases h),OkB.nil,fun _=>rfl,(fun h=>by cases h),?_,trivial⟩
 exact ⟨by decide,by rw [Fo.enc,List.append_nil];omega,by decide,fun _=>⟨(fun h=>by cases h),fun _=>h6⟩,hn,(fun h=>by cases h),fun _=>rfl,trivial,trivial⟩
theorem nmF_ok {no:Int} (h:1≤no∧no≤4):Rt 6 (nmF no)∧OkB (nmF no)∧(nmF no).length≤20:=by
 have hl:=nmF_len (no - 1).toNat (by omega)
 exact ⟨rt6_name (cA_right h).1 (by omega),digs_ok _,hl⟩
theorem enc25 (no:Int) (x:List Int) (hx:OkB x) (hl:x.length≤500):∃ e,Ev (fun k=>sec1_Encode.f k no (strOfNums x)) e∧Ev (fun k=>cr25_Encode.f k no (strOfNums x)) e∧e.2=mayF no (strOfNums x)∧(mayF no (strOfNums x)=0→e.1=strOfNums (sFo (nmF no) x).enc∧(sFo (nmF no) x).Ok 0):=by
 have hm:=may25 no (strOfNums x) (by rw [nums_size];omega)
 have hsc:=scalar_isR no (strOfNums x) (by rw [nums_size];omega)
 by_cases h0:mayF no (strOfNums x)=0
 ·obtain ⟨hno,hw,hw0,hs⟩:=mayF_four h0
  obtain ⟨n1,n2,n3⟩:=nmF_ok hno
  have hok:=sFo_ok n1 n2 (by omega) hx (by omega)
  have hle:=sFo_len (nmF no) x
  obtain ⟨_,_,_,_,T1,T2⟩:=tree_of_fo 0 16 true [] _ hok (by rw [show (Fo.cons 0 16 true [] (.cons 0 2 false [1] .nil (.cons 0 4 false x .nil (.cons 2 0 true [] (.cons 0 6 false (nmF no) .nil .nil) .nil))) .nil).size=5 from rfl];omega) (Fo.small_of _ _ (by show (sFo (nmF no) x).enc.length≤2000;omega)) (by show (sFo (nmF no) x).enc.length≤65535;omega)
  refine ⟨(strOfNums (sFo (nmF no) x).enc,0),?_,?_,h0.symm,fun _=>⟨rfl,hok⟩⟩
  ·refine Ev.congr (fun k=>by rw [sec1_Encode.f]) ?_
   exact Ev.bind hm (Ev.ifp h0 (Ev.bind (made_is hno x) (Ev.bind (tree_is (nmF no) x) (Ev.bind T1 (Ev.now _)))))
  ·have e17:=ref17_encode_is (cA (no - 1).toNat) (cA_right hno).2.2
   rw [if_pos (cA_right hno).1] at e17
   rw [hs] at hsc
   refine Ev.congr (fun k=>by rw [cr25_Encode.f]) ?_
   refine Ev.bindc (ref_width no) (Ev.ifn hw0 (Ev.bindc (ref_width no) (Ev.ifp hw (Ev.bind hsc (Ev.ifp rfl (Ev.bindc (cA_right hno).2.1 (Ev.bind e17 (Ev.bindc rfl ?_))))))))
   refine Ev.bind (ref_Of_fo 2 0 (.cons 0 6 false (nmF no) .nil .nil) (by simp only [Fo.size];omega)) (Ev.bindc rfl (Ev.bindc rfl ?_))
   exact Ev.bind (ref_Of_fo 0 16 (.cons 0 2 false [1] .nil (.cons 0 4 false x .nil (.cons 2 0 true [] (.cons 0 6 false (nmF no) .nil .nil) .nil))) (by simp only [Fo.size];omega)) (Ev.bind T2 (Ev.now _))
 ·refine ⟨(⟨#[]⟩,mayF no (strOfNums x)),?_,?_,rfl,fun h=>absurd h h0⟩
  ·refine Ev.congr (fun k=>by rw [sec1_Encode.f]) ?_
   exact Ev.bind hm (Ev.ifn h0 (Ev.now _))
  ·refine Ev.congr (fun k=>by rw [cr25_Encode.f]) ?_
   unfold mayF at h0 ⊢
   refine Ev.bindc (ref_width no) ?_
   by_cases w0:widths no=0
   ·rw [if_pos w0];exact Ev.ifp w0 (Ev.now _)
   rw [if_neg w0] at h0 ⊢
   refine Ev.ifn w0 (Ev.bindc (ref_width no) ?_)
   by_cases w1:widths no=((strOfNums x).size:Int)
   ·rw [if_pos w1] at h0 ⊢
    refine Ev.ifp w1.symm (Ev.bind hsc ?_)
    by_cases w2:scalarF no (strOfNums x)=true
    ·rw [if_pos w2] at h0;exact absurd rfl h0
    ·rw [if_neg w2];exact Ev.ifn w2 (Ev.now _)
   ·rw [if_neg w1];exact Ev.ifn (fun h=>w1 h.symm) (Ev.now _)
def isF (f:Fo) (n:Nat) (cl tg kn:Int):Bool:=match f with
 | .nil=>false
 | .cons a b _ _ ks _=>decide (a=cl∧b=tg∧((ks.roots (n+1)).length:Int)=kn)
theorem is25 (f:Fo) (n:Nat) (cl tg kn:Int):sec1_is.f (f.flat n) cl tg kn=some (isF f n cl tg kn):=by
 cases f with
 | nil=>rfl
 | cons a b c d ks r =>
  unfold sec1_is.f
  rw [Fo.flat]
  have hl:((nd a b c (strOfNums d) (ks.roots (n+1)) :: (ks.flat (n+1)++r.flat (n+1+ks.size))).length:Int) > 0:=by rw [List.length_cons];omega
  rw [if_pos hl,if_pos hl]
  show (if a=cl then (if b=tg then some (((ks.roots (n+1)).length:Int) == kn) else some false) else some false)=some (decide (a=cl∧b=tg∧((ks.roots (n+1)).length:Int)=kn))
  by_cases h1:a=cl
  ·rw [if_pos h1]
   by_cases h2:b=tg
   ·rw [if_pos h2]
    by_cases h3:((ks.roots (n+1)).length:Int)=kn
    ·rw [decide_eq_true ⟨h1,h2,h3⟩,beq_iff_eq.2 h3]
    ·rw [decide_eq_false (fun h=>h3 h.2.2),beq_eq_false_iff_ne.2 h3]
   ·rw [if_neg h2,decide_eq_false (fun h=>h2 h.2.1)]
  ·rw [if_neg h1,decide_eq_false (fun h=>h1 h.1)]
theorem decS_one {d:List Int} (hd:OkB d) (h:(decS d).1=1):d=[1]:=by
 unfold decS at h
 by_cases hc:d.length≤8∧rightL d=true
 ·rw [if_pos hc] at h
  have h1:=(enc_dec d hd hc.1 hc.2).1
  rw [show valS d=1 from h] at h1
  rw [← h1]
  decide +kernel
 ·rw [if_neg hc] at h;cases h
theorem three {ks:Fo} {n:Nat} (h:((ks.roots n).length:Int)=3):∃ a0 b0 c0 d0 k0 a1 b1 c1 d1 k1 a2 b2 c2 d2 k2,ks=.cons a0 b0 c0 d0 k0 (.cons a1 b1 c1 d1 k1 (.cons a2 b2 c2 d2 k2 .nil)):=by
 rcases ks with _ | ⟨a0,b0,c0,d0,k0,_ | ⟨a1,b1,c1,d1,k1,_ | ⟨a2,b2,c2,d2,k2,_ | ⟨a3,b3,c3,d3,k3,r⟩⟩⟩⟩
 ·simp [Fo.roots] at h
 ·simp [Fo.roots] at h
 ·simp [Fo.roots] at h
 ·exact ⟨_,_,_,_,_,_,_,_,_,_,_,_,_,_,_,rfl⟩
 ·simp only [Fo.roots,List.length_cons] at h;omega
theorem taken_is (a b:Int) (c:Bool) (d:List Int) (ks:Fo) (ho:(Fo.cons a b c d ks .nil).Ok 0) (hs:(Fo.cons a b c d ks .nil).enc.length≤2000) :
 (∃ nm x,Fo.cons a b c d ks .nil=sFo nm x∧Ev (fun k=>sec1_taken.f k ((Fo.cons a b c d ks .nil).flat 0)) ((Fo.cons 0 2 false [1] .nil .nil).flat 0,(Fo.cons 0 4 false x .nil .nil).flat 0,(Fo.cons 2 0 true [] (.cons 0 6 false nm .nil .nil) .nil).flat 0,true)) ∨
 ((¬ ∃ nm x,Fo.cons a b c d ks .nil=sFo nm x)∧∃ p q r,Ev (fun k=>sec1_taken.f k ((Fo.cons a b c d ks .nil).flat 0)) (p,q,r,false)):=by
 have hz:=Fo.size_enc (Fo.cons a b c d ks .nil)
 have kids:=tree_Kids_fo a b c d ks ho (by omega) (Fo.small_of _ _ hs)
 have i0:=is25 (Fo.cons a b c d ks .nil) 0 0 16 3
 by_cases h:isF (Fo.cons a b c d ks .nil) 0 0 16 3=true
 case neg =>
  refine .inr ⟨fun ⟨nm,x,e⟩=>h (by rw [e];rfl),[],[],[],?_⟩
  refine Ev.congr (fun k=>by rw [sec1_taken.f]) ?_
  exact Ev.bind kids (Ev.bindc i0 (Ev.ifn h (Ev.now _)))
 obtain ⟨rfl,rfl,h3⟩:=of_decide_eq_true h
 obtain ⟨a0,b0,c0,d0,k0,a1,b1,c1,d1,k1,a2,b2,c2,d2,k2,rfl⟩:=three h3
 obtain ⟨rfl,rfl⟩:=made_of ho (by simp)
 have o0:=ho.kids
 have o1:=o0.rest
 have o2:=o1.rest
 have j0:=is25 (Fo.cons a0 b0 c0 d0 k0 .nil) 0 0 2 0
 have j1:=is25 (Fo.cons a1 b1 c1 d1 k1 .nil) 0 0 4 0
 have j2:=is25 (Fo.cons a2 b2 c2 d2 k2 .nil) 0 2 0 1
 have j3:=is25 k2 1 0 6 0
 have hd:=whole_Decode_eq d0 o0.2.2.2.2.1
 have shp:∀ nm x,Fo.cons 0 16 true [] (.cons a0 b0 c0 d0 k0 (.cons a1 b1 c1 d1 k1 (.cons a2 b2 c2 d2 k2 .nil))) .nil=sFo nm x→isF (Fo.cons a0 b0 c0 d0 k0 .nil) 0 0 2 0=true∧(decS d0).1=1∧isF (Fo.cons a1 b1 c1 d1 k1 .nil) 0 0 4 0=true∧isF (Fo.cons a2 b2 c2 d2 k2 .nil) 0 2 0 1=true∧isF k2 1 0 6 0=true:=fun nm x e=>by
  simp only [sFo,Fo.cons.injEq] at e
  obtain ⟨_,_,_,_,⟨rfl,rfl,rfl,rfl,rfl,rfl,rfl,rfl,rfl,rfl,rfl,rfl,rfl,rfl,rfl,_⟩,_⟩:=e
  exact ⟨rfl,by decide +kernel,rfl,rfl,rfl⟩
 have run:∀ {R},Ev (fun k=>if isF (Fo.cons a0 b0 c0 d0 k0 .nil) 0 0 2 0=true then (if (decS d0).1=1 then (if isF (Fo.cons a1 b1 c1 d1 k1 .nil) 0 0 4 0=true then (if isF (Fo.cons a2 b2 c2 d2 k2 .nil) 0 2 0 1=true then (some ((Fo.cons a0 b0 c0 d0 k0 .nil).flat 0,(Fo.cons a1 b1 c1 d1 k1 .nil).flat 0,(Fo.cons a2 b2 c2 d2 k2 .nil).flat 0,isF k2 1 0 6 0)) else (some ((Fo.cons a0 b0 c0 d0 k0 .nil).flat 0,(Fo.cons a1 b1 c1 d1 k1 .nil).flat 0,(Fo.cons a2 b2 c2 d2 k2 .nil).flat 0,false))) else (some ((Fo.cons a0 b0 c0 d0 k0 .nil).flat 0,(Fo.cons a1 b1 c1 d1 k1 .nil).flat 0,(Fo.cons a2 b2 c2 d2 k2 .nil).flat 0,false))) else (some ((Fo.cons a0 b0 c0 d0 k0 .nil).flat 0,(Fo.cons a1 b1 c1 d1 k1 .nil).flat 0,(Fo.cons a2 b2 c2 d2 k2 .nil).flat 0,false))) else (some ((Fo.cons a0 b0 c0 d0 k0 .nil).flat 0,(Fo.cons a1 b1 c1 d1 k1 .nil).flat 0,(Fo.cons a2 b2 c2 d2 k2 .nil).flat 0,false))) R →
  Ev (fun k=>sec1_taken.f k ((Fo.cons 0 16 true [] (.cons a0 b0 c0 d0 k0 (.cons a1 b1 c1 d1 k1 (.cons a2 b2 c2 d2 k2 .nil))) .nil).flat 0)) R:=fun {R} hR=>by
  refine Ev.congr (fun k=>by rw [sec1_taken.f]) ?_
  refine Ev.bind kids (Ev.bindc i0 (Ev.ifp h (Ev.ifp (by simp [Fo.parts]) (Ev.ifp (by simp [Fo.parts]) (Ev.ifp (by simp [Fo.parts]) (Ev.ifp (by simp [Fo.parts,Fo.flat,rd_L55]) (Ev.bind hd (Ev.bindc j0 ?_))))))))
  by_cases g0:isF (Fo.cons a0 b0 c0 d0 k0 .nil) 0 0 2 0=true
  case neg=>simp only [if_neg g0] at hR;exact Ev.ifn g0 hR
  refine Ev.ifp g0 ?_
  by_cases g1:(decS d0).1=1
  case neg=>simp only [if_pos g0,if_neg g1] at hR;exact Ev.ifn g1 hR
  refine Ev.ifp g1 (Ev.bindc j1 ?_)
  by_cases g2:isF (Fo.cons a1 b1 c1 d1 k1 .nil) 0 0 4 0=true
  case neg=>simp only [if_pos g0,if_pos g1,if_neg g2] at hR;exact Ev.ifn g2 hR
  refine Ev.ifp g2 (Ev.bindc j2 ?_)
  by_cases g3:isF (Fo.cons a2 b2 c2 d2 k2 .nil) 0 2 0 1=true
  case neg=>simp only [if_pos g0,if_pos g1,if_pos g2,if_neg g3] at hR;exact Ev.ifn g3 hR
  simp only [if_pos g0,if_pos g1,if_pos g2,if_pos g3] at hR
  refine Ev.ifp g3 (Ev.ifp (by simp [Fo.parts,Fo.flat,rd_L55];omega) (Ev.bindc (a:=isF k2 1 0 6 0) ?_ hR))
  have e:(rd_L55 (Fo.cons a0 b0 c0 d0 k0 (.cons a1 b1 c1 d1 k1 (.cons a2 b2 c2 d2 k2 .nil))).parts 2).drop 1=k2.flat 1:=by
   show ((Fo.cons a2 b2 c2 d2 k2 .nil).flat 0).drop 1=_
   rw [Fo.single_flat]
   rfl
  rw [e]
  exact j3
 by_cases g0:isF (Fo.cons a0 b0 c0 d0 k0 .nil) 0 0 2 0=true
 case neg=>exact .inr ⟨fun ⟨nm,x,e⟩=>g0 (shp nm x e).1,_,_,_,run (Ev.ifn g0 (Ev.now _))⟩
 by_cases g1:(decS d0).1=1
 case neg=>exact .inr ⟨fun ⟨nm,x,e⟩=>g1 (shp nm x e).2.1,_,_,_,run (Ev.ifp g0 (Ev.ifn g1 (Ev.now _)))⟩
 by_cases g2:isF (Fo.cons a1 b1 c1 d1 k1 .nil) 0 0 4 0=true
 case neg=>exact .inr ⟨fun ⟨nm,x,e⟩=>g2 (shp nm x e).2.2.1,_,_,_,run (Ev.ifp g0 (Ev.ifp g1 (Ev.ifn g2 (Ev.now _))))⟩
 by_cases g3:isF (Fo.cons a2 b2 c2 d2 k2 .nil) 0 2 0 1=true
 case neg=>exact .inr ⟨fun ⟨nm,x,e⟩=>g3 (shp nm x e).2.2.2.1,_,_,_,run (Ev.ifp g0 (Ev.ifp g1 (Ev.ifp g2 (Ev.ifn g3 (Ev.now _)))))⟩
 by_cases g4:isF k2 1 0 6 0=true
 case neg=>exact .inr ⟨fun ⟨nm,x,e⟩=>g4 (shp nm x e).2.2.2.2,_,_,_,run (Ev.ifp g0 (Ev.ifp g1 (Ev.ifp g2 (Ev.ifp g3 ((Ev.now _).eq (by rw [Bool.eq_false_iff.2 g4]))))))⟩
 obtain ⟨rfl,rfl,_⟩:=of_decide_eq_true g0
 obtain ⟨rfl,rfl,_⟩:=prim o0 rfl (by decide) (by decide)
 obtain rfl:=decS_one o0.2.2.2.2.1 g1
 obtain ⟨rfl,rfl,_⟩:=of_decide_eq_true g2
 obtain ⟨rfl,rfl,_⟩:=prim o1 rfl (by decide) (by decide)
 obtain ⟨rfl,rfl,hk⟩:=of_decide_eq_true g3
 rcases k2 with _ | ⟨a3,b3,c3,d3,k3,_ | ⟨a4,b4,c4,d4,k4,r4⟩⟩
 ·cases g4
 ·obtain ⟨rfl,rfl⟩:=made_of o2 (by simp)
  obtain ⟨rfl,rfl,_⟩:=of_decide_eq_true g4
  obtain ⟨rfl,rfl,_⟩:=prim o2.kids rfl (by decide) (by decide)
  exact .inl ⟨d3,d1,rfl,run (Ev.ifp g0 (Ev.ifp g1 (Ev.ifp g2 (Ev.ifp g3 (Ev.now _)))))⟩
 ·simp only [Fo.roots,List.length_cons] at hk;omega
def Cond25 (t:List Nd):Prop:=(t.length:Int)=5∧(((rd_T55 t 0).f4).length:Int)=3∧(rd_T55 t 0).f0=0∧(rd_T55 t 0).f1=16∧(rd_T55 t 1).f0=0∧(rd_T55 t 1).f1=2∧(rd_T55 t 1).f3.toList=([1]:List UInt8) ∧
 (rd_T55 t 2).f0=0∧(rd_T55 t 2).f1=4∧(rd_T55 t 3).f0=2∧(rd_T55 t 3).f1=0∧(((rd_T55 t 3).f4).length:Int)=1∧(rd_T55 t 4).f0=0∧(rd_T55 t 4).f1=6
def N25:Int × ByteArray × Int:=(0,⟨#[]⟩,5)
theorem d25_0 {t:List Nd}:Ev (fun k=>cr25_Decode.j0 k t true) N25:=by
 refine Ev.step (fun k=>by rw [cr25_Decode.j0]) ?_
 exact Ev.ifp rfl (Ev.now _)
theorem d25_1 {t:List Nd}:Ev (fun k=>cr25_Decode.j1 k t true) N25:=by
 refine Ev.step (fun k=>by rw [cr25_Decode.j1]) ?_
 exact Ev.ifp rfl (Ev.now _)
theorem d25_2 {t:List Nd}:Ev (fun k=>cr25_Decode.j2 k t true) N25:=by
 refine Ev.step (fun k=>by rw [cr25_Decode.j2]) ?_
 exact Ev.ifp rfl (Ev.now _)
theorem bne_t {x y:Int} (h:¬ x=y):(x != y)=true:=bne_iff_ne.2 h
theorem bne_f {x y:Int} (h:x=y):(x != y)=false:=by rw [h];simp
theorem doc25 {s:ByteArray} {t:List Nd} (ht:0 < t.length) (hd:Ev (fun k=>cr19_Decode.f k s) (t,0,0)) {R:Int × ByteArray × Int} (hR:Cond25 t→Ev (fun k=>cr25_Decode.j2 k t false) R) (hN:¬ Cond25 t→R=N25):Ev (fun k=>cr25_Decode.f k s) R:=by
 refine Ev.congr (fun k=>by rw [cr25_Decode.f]) (Ev.bind hd (Ev.ifp rfl ?_))
 have c1':∀ h:(t.length:Int)=5,(4:Int) < (t.length:Int):=fun h=>by omega
 by_cases c1:(t.length:Int)=5
 case neg=>rw [hN fun h=>c1 h.1];exact Ev.ifn c1 d25_0
 refine Ev.ifp c1 (Ev.ifp (show (0:Int) < (t.length:Int) by omega) ?_)
 by_cases c2:(((rd_T55 t 0).f4).length:Int)=3
 case neg=>rw [hN fun h=>c2 h.2.1];exact Ev.ifn c2 d25_0
 refine Ev.ifp c2 ?_
 by_cases c3:(rd_T55 t 0).f0=0
 case neg=>rw [hN fun h=>c3 h.2.2.1];exact Ev.ifn c3 d25_0
 refine Ev.ifp c3 ?_
 by_cases c4:(rd_T55 t 0).f1=16
 case neg=>rw [hN fun h=>c4 h.2.2.2.1,bne_t c4];exact d25_0
 rw [bne_f c4]
 refine Ev.step (fun k=>by rw [cr25_Decode.j0]) ?_
 refine (Ev.ifn (by simp) (Ev.ifp (show (1:Int) < (t.length:Int) by omega) ?_))
 by_cases c5:(rd_T55 t 1).f0=0
 case neg=>rw [hN fun h=>c5 h.2.2.2.2.1];exact Ev.ifn c5 d25_1
 refine Ev.ifp c5 ?_
 by_cases c6:(rd_T55 t 1).f1=2
 case neg=>rw [hN fun h=>c6 h.2.2.2.2.2.1];exact Ev.ifn c6 d25_1
 refine Ev.ifp c6 ?_
 by_cases c7:(rd_T55 t 1).f3.toList=([1]:List UInt8)
 case neg=>rw [hN fun h=>c7 h.2.2.2.2.2.2.1];exact Ev.ifn c7 d25_1
 refine Ev.ifp c7 (Ev.ifp (show (2:Int) < (t.length:Int) by omega) ?_)
 by_cases c8:(rd_T55 t 2).f0=0
 case neg=>rw [hN fun h=>c8 h.2.2.2.2.2.2.2.1];exact Ev.ifn c8 d25_1
 refine Ev.ifp c8 ?_
 by_cases c9:(rd_T55 t 2).f1=4
 case neg=>rw [hN fun h=>c9 h.2.2.2.2.2.2.2.2.1,bne_t c9];exact d25_1
 rw [bne_f c9]
 refine Ev.step (fun k=>by rw [cr25_Decode.j1]) ?_
 refine (Ev.ifn (by simp) (Ev.ifp (show (3:Int) < (t.length:Int) by omega) ?_))
 by_cases ca:(rd_T55 t 3).f0=2
 case neg=>rw [hN fun h=>ca h.2.2.2.2.2.2.2.2.2.1];exact Ev.ifn ca d25_2
 refine Ev.ifp ca ?_
 by_cases cb:(rd_T55 t 3).f1=0
 case neg=>rw [hN fun h=>cb h.2.2.2.2.2.2.2.2.2.2.1];exact Ev.ifn cb d25_2
 refine Ev.ifp cb ?_
 by_cases cc:(((rd_T55 t 3).f4).length:Int)=1
 case neg=>rw [hN fun h=>cc h.2.2.2.2.2.2.2.2.2.2.2.1];exact Ev.ifn cc d25_2
 refine Ev.ifp cc (Ev.ifp (show (4:Int) < (t.length:Int) by omega) ?_)
 by_cases cd:(rd_T55 t 4).f0=0
 case neg=>rw [hN fun h=>cd h.2.2.2.2.2.2.2.2.2.2.2.2.1];exact Ev.ifn cd d25_2
 refine Ev.ifp cd ?_
 by_cases ce:(rd_T55 t 4).f1=6
 case neg=>rw [hN fun h=>ce h.2.2.2.2.2.2.2.2.2.2.2.2.2,bne_t ce];exact d25_2
 rw [bne_f ce]
 exact hR ⟨c1,c2,c3,c4,c5,c6,c7,c8,c9,ca,cb,cc,cd,ce⟩
theorem cond25_is (a b:Int) (c:Bool) (d:List Int) (ks:Fo) (ho:(Fo.cons a b c d ks .nil).Ok 0):Cond25 ((Fo.cons a b c d ks .nil).flat 0)↔∃ nm x,Fo.cons a b c d ks .nil=sFo nm x:=by
 constructor
 ·rintro ⟨h1,h2,h3,h4,h5,h6,h7,h8,h9,ha,hb,hc,hd,he⟩
  have hfw:=fw_flat (Fo.cons a b c d ks .nil)
  rw [Fo.flat_len] at h1
  obtain ⟨_,r0,f0,_⟩:=at_fw hfw
  rw [show ((0:Nat):Int)=0 from rfl] at r0
  rw [r0] at h2 h3 h4
  have h2:((ks.roots (0+1)).length:Int)=3:=h2
  obtain rfl:a=0:=h3
  obtain rfl:b=16:=h4
  obtain ⟨a0,b0,c0,d0,k0,a1,b1,c1,d1,k1,a2,b2,c2,d2,k2,rfl⟩:=three h2
  obtain ⟨rfl,rfl⟩:=made_of ho (by simp)
  have o0:=ho.kids
  have o1:=o0.rest
  have o2:=o1.rest
  obtain ⟨_,r1,_,f1⟩:=at_fw f0
  rw [show ((0+1:Nat):Int)=1 from rfl] at r1
  rw [r1] at h5 h6 h7
  obtain rfl:a0=0:=h5
  obtain rfl:b0=2:=h6
  obtain ⟨rfl,rfl,_⟩:=prim o0 rfl (by decide) (by decide)
  obtain rfl:d0=[1]:=(nums_toList_lit o0.2.2.2.2.1 [1]).1 h7
  obtain ⟨_,r2,_,f2⟩:=at_fw f1
  rw [show ((0+1+1+Fo.nil.size:Nat):Int)=2 from rfl] at r2
  rw [r2] at h8 h9
  obtain rfl:a1=0:=h8
  obtain rfl:b1=4:=h9
  obtain ⟨rfl,rfl,_⟩:=prim o1 rfl (by decide) (by decide)
  obtain ⟨_,r3,f3,_⟩:=at_fw f2
  rw [show ((0+1+1+Fo.nil.size+1+Fo.nil.size:Nat):Int)=3 from rfl] at r3
  rw [r3] at ha hb hc
  obtain rfl:a2=2:=ha
  obtain rfl:b2=0:=hb
  have hc:((k2.roots (0+1+1+Fo.nil.size+1+Fo.nil.size+1)).length:Int)=1:=hc
  rcases k2 with _ | ⟨a3,b3,c3,d3,k3,_ | ⟨a4,b4,c4,d4,k4,r4⟩⟩
  ·simp [Fo.roots] at hc
  ·obtain ⟨rfl,rfl⟩:=made_of o2 (by simp)
   obtain ⟨_,r4,_,_⟩:=at_fw f3
   rw [show ((0+1+1+Fo.nil.size+1+Fo.nil.size+1:Nat):Int)=4 from rfl] at r4
   rw [r4] at hd he
   obtain rfl:a3=0:=hd
   obtain rfl:b3=6:=he
   obtain ⟨rfl,rfl,_⟩:=prim o2.kids rfl (by decide) (by decide)
   exact ⟨d3,d1,rfl⟩
  ·simp only [Fo.roots,List.length_cons] at hc;omega
 ·rintro ⟨nm,x,e⟩
  rw [e]
  exact ⟨rfl,rfl,rfl,rfl,rfl,rfl,(nums_toList_lit (OkB.cons (by decide) (by decide) OkB.nil) [1]).2 rfl,rfl,rfl,rfl,rfl,rfl,rfl,rfl⟩
theorem ofC_or (q:Nat→Bool):ofC q=(0,false)∨∃ i,i < 4∧q i=true∧ofC q=((i:Int)+1,true):=by
 unfold ofC
 by_cases h0:q 0=true
 ·exact .inr ⟨0,by decide,h0,by rw [if_pos h0];rfl⟩
 by_cases h1:q 1=true
 ·exact .inr ⟨1,by decide,h1,by rw [if_neg h0,if_pos h1];rfl⟩
 by_cases h2:q 2=true
 ·exact .inr ⟨2,by decide,h2,by rw [if_neg h0,if_neg h1,if_pos h2];rfl⟩
 by_cases h3:q 3=true
 ·exact .inr ⟨3,by decide,h3,by rw [if_neg h0,if_neg h1,if_neg h2,if_pos h3];rfl⟩
 ·exact .inl (by rw [if_neg h0,if_neg h1,if_neg h2,if_neg h3])
def resF (nm x:List Int):Int × ByteArray × Int :=
 if (ofC fun i=>decide (cA i=(decA nm).1)).2=true then (if mayF (ofC fun i=>decide (cA i=(decA nm).1)).1 (strOfNums x)=0 then ((ofC fun i=>decide (cA i=(decA nm).1)).1,strOfNums x,0) else (0,⟨#[]⟩,mayF (ofC fun i=>decide (cA i=(decA nm).1)).1 (strOfNums x))) else (0,⟨#[]⟩,8)
theorem resF_no {nm x:List Int} (h:(ofC fun i=>decide (cA i=(decA nm).1))=(0,false)):resF nm x=(0,⟨#[]⟩,8):=by unfold resF;rw [h];rfl
theorem resF_yes {nm x:List Int} {no:Int} (h:(ofC fun i=>decide (cA i=(decA nm).1))=(no,true)):resF nm x=if mayF no (strOfNums x)=0 then (no,strOfNums x,0) else (0,⟨#[]⟩,mayF no (strOfNums x)):=by unfold resF;rw [h];rfl
theorem dec25_yes (nm x l:List Int) (hl:OkB l) (he:l=(sFo nm x).enc) (ho:(sFo nm x).Ok 0) (hs:l.length≤500):Ev (fun k=>sec1_Decode.f k (strOfNums l)) (resF nm x)∧Ev (fun k=>cr25_Decode.f k (strOfNums l)) (resF nm x):=by
 have hnm:OkB nm:=ho.kids.rest.rest.kids.2.2.2.2.1
 have hx:OkB x:=ho.kids.rest.2.2.2.2.1
 have hls:nm.length≤l.length∧x.length≤l.length:=by
  rw [he]
  have h1:=Fo.enc_le1 0 16 true [] (.cons 0 2 false [1] .nil (.cons 0 4 false x .nil (.cons 2 0 true [] (.cons 0 6 false nm .nil .nil) .nil))) .nil
  have h2:=Fo.enc_le1 0 2 false [1] .nil (.cons 0 4 false x .nil (.cons 2 0 true [] (.cons 0 6 false nm .nil .nil) .nil))
  have h3:=Fo.enc_le1 0 4 false x .nil (.cons 2 0 true [] (.cons 0 6 false nm .nil .nil) .nil)
  have h4:=Fo.enc_le1 2 0 true [] (.cons 0 6 false nm .nil .nil) .nil
  have h5:=Fo.enc_le1 0 6 false nm .nil .nil
  unfold sFo
  omega
 obtain ⟨p1,p2⟩:=dec_enc l hl (by omega) 0 16 true [] _ he ho (by rw [show (Fo.cons 0 16 true [] (.cons 0 2 false [1] .nil (.cons 0 4 false x .nil (.cons 2 0 true [] (.cons 0 6 false nm .nil .nil) .nil))) .nil).size=5 from rfl];omega)
 have hdl:=dA_len nm hnm
 have by1:=curve_by_is (decA nm).1 (by omega)
 have by2:=ref22_by_is (decA nm).1
 have dn:=oid_decode_is nm hnm (by omega)
 have dr:=ref17_dec nm hnm (by omega)
 obtain ⟨e,e1,e2,e3,e4⟩:=enc25 (ofC fun i=>decide (cA i=(decA nm).1)).1 x hx (by omega)
 have may:=may25 (ofC fun i=>decide (cA i=(decA nm).1)).1 (strOfNums x) (by rw [nums_size];omega)
 constructor
 ·refine Ev.congr (fun k=>by rw [sec1_Decode.f]) (Ev.bind p1 (Ev.ifp rfl ?_))
  rcases taken_is 0 16 true [] _ ho (by rw [show (Fo.cons 0 16 true [] (.cons 0 2 false [1] .nil (.cons 0 4 false x .nil (.cons 2 0 true [] (.cons 0 6 false nm .nil .nil) .nil))) .nil).enc=l from he.symm];omega) with ⟨nm',x',e',ht⟩ | ⟨hn,_⟩
  ·simp only [sFo,Fo.cons.injEq] at e'
   obtain ⟨_,_,_,_,⟨_,_,_,_,_,_,_,_,rfl,_,_,_,_,_,⟨_,_,_,rfl,_⟩,_⟩,_⟩:=e'
   refine Ev.bind ht (Ev.ifp rfl (Ev.ifp (by show (1:Int) < (((Fo.cons 2 0 true [] (.cons 0 6 false nm .nil .nil) .nil).flat 0).length:Int);rw [Fo.flat_len];simp only [Fo.size];omega) (Ev.bind (a:=decA nm) dn (Ev.bind by1 (Ev.ifp (by show (0:Int) < (((Fo.cons 0 4 false x .nil .nil).flat 0).length:Int);rw [Fo.flat_len];simp only [Fo.size];omega) (Ev.bind may ?_))))))
   rcases ofC_or (fun i=>decide (cA i=(decA nm).1)) with h | ⟨i,hi,_,h⟩
   ·rw [resF_no h,h]
    exact Ev.ifn (show ¬ (8:Int)=0 by decide) (Ev.now _)
   ·rw [resF_yes h,h]
    exact Ev.ite (fun _=>Ev.now _) (fun _=>Ev.now _)
  ·exact absurd ⟨nm,x,rfl⟩ hn
 ·refine doc25 (by rw [Fo.flat_len];simp only [Fo.size];omega) p2 (fun hc=>?_) (fun hn=>absurd ((cond25_is 0 16 true [] _ ho).2 ⟨nm,x,rfl⟩) hn)
  refine Ev.step (fun k=>by rw [cr25_Decode.j2]) ?_
  refine Ev.ifn (by simp) (Ev.ifp (by rw [Fo.flat_len];simp only [Fo.size];omega) (Ev.bind (a:=decA nm) dr (Ev.bind by2 ?_)))
  rcases ofC_or (fun i=>decide (cA i=(decA nm).1)) with h | ⟨i,hi,_,h⟩
  ·rw [resF_no h,h]
   exact Ev.ifn (by simp) (Ev.now _)
  ·rw [resF_yes h]
   rw [h] at e2 e3 ⊢
   refine Ev.ifp rfl (Ev.ifp (by rw [Fo.flat_len];simp only [Fo.size];omega) (Ev.bind e2 ?_))
   rw [e3]
   exact Ev.ite (fun _=>Ev.now _) (fun _=>Ev.now _)
theorem dec25 (l:List Int) (hl:OkB l) (hs:l.length≤500):∃ R,Ev (fun k=>sec1_Decode.f k (strOfNums l)) R∧Ev (fun k=>cr25_Decode.f k (strOfNums l)) R∧((R=(0,⟨#[]⟩,R.2.2)∧R.2.2≠0)∨∃ nm x,l=(sFo nm x).enc∧(sFo nm x).Ok 0∧R=resF nm x):=by
 cases dec_is l hl (by omega) with
 | bad code q hc hq p1 p2 _ _ =>
  refine ⟨(0,⟨#[]⟩,code),?_,?_,.inl ⟨rfl,hc⟩⟩
  ·refine Ev.congr (fun k=>by rw [sec1_Decode.f]) ?_
   exact Ev.bind p1 (Ev.ifn hc (Ev.now _))
  ·refine Ev.congr (fun k=>by rw [cr25_Decode.f]) ?_
   exact Ev.bind p2 (Ev.ifn hc (Ev.now _))
 | ok a b c d ks he ho hz p1 p2 _ _ =>
  by_cases hS:∃ nm x,Fo.cons a b c d ks .nil=sFo nm x
  ·obtain ⟨nm,x,e⟩:=hS
   rw [e] at he ho
   obtain ⟨h1,h2⟩:=dec25_yes nm x l hl he ho hs
   exact ⟨_,h1,h2,.inr ⟨nm,x,he,ho,rfl⟩⟩
  ·refine ⟨N25,?_,doc25 (by rw [Fo.flat_len];simp only [Fo.size];omega) p2 (fun hc=>absurd ((cond25_is a b c d ks ho).1 hc) hS) (fun _=>rfl),.inl ⟨rfl,by decide⟩⟩
   rcases taken_is a b c d ks ho (by rw [← he];omega) with ⟨nm,x,e,_⟩ | ⟨_,p,q,r,ht⟩
   ·exact absurd ⟨nm,x,e⟩ hS
   ·refine Ev.congr (fun k=>by rw [sec1_Decode.f]) ?_
    exact Ev.bind p1 (Ev.ifp rfl (Ev.bind ht (Ev.ifn (by simp) (Ev.now _))))
theorem hd2 (a b:Int) (c:Bool) (d:List Int) (ks:Fo) (h:b < 31) (hl:(d++ks.enc).length < 128):Fo.hd a b c d ks=2:=by
 unfold Fo.hd
 rw [lenB1 (by omega),idB,if_pos h]
 rfl
theorem sFo_enc_len (nm x:List Int) (hn:nm.length≤20) (hx:x.length≤66):(sFo nm x).enc.length=11+nm.length+x.length:=by
 have e4:(Fo.cons 0 6 false nm .nil .nil).enc.length=2+nm.length:=by
  rw [Fo.enc_cons,hd2 _ _ _ _ _ (by decide) (by simp only [Fo.enc,List.append_nil];omega)]
  simp only [Fo.enc,List.append_nil,List.length_nil];omega
 have e3:(Fo.cons 2 0 true [] (.cons 0 6 false nm .nil .nil) .nil).enc.length=4+nm.length:=by
  rw [Fo.enc_cons,hd2 _ _ _ _ _ (by decide) (by rw [List.nil_append];omega),List.nil_append,e4]
  simp only [Fo.enc,List.length_nil];omega
 have e2:(Fo.cons 0 4 false x .nil (.cons 2 0 true [] (.cons 0 6 false nm .nil .nil) .nil)).enc.length=6+x.length+nm.length:=by
  rw [Fo.enc_cons,hd2 _ _ _ _ _ (by decide) (by simp only [Fo.enc,List.append_nil];omega),e3]
  simp only [Fo.enc,List.append_nil];omega
 have e1:(Fo.cons 0 2 false [1] .nil (.cons 0 4 false x .nil (.cons 2 0 true [] (.cons 0 6 false nm .nil .nil) .nil))).enc.length=9+x.length+nm.length:=by
  rw [Fo.enc_cons,hd2 _ _ _ _ _ (by decide) (by simp [Fo.enc]),e2]
  simp only [Fo.enc,List.append_nil,List.length_cons,List.length_nil];omega
 unfold sFo
 rw [Fo.enc_cons,hd2 _ _ _ _ _ (by decide) (by rw [List.nil_append];omega),List.nil_append,e1]
 simp only [Fo.enc,List.length_nil];omega
theorem size25 (no:Int):∃ n:Int,Ev (fun k=>sec1_Size.f k no) n∧Ev (fun k=>cr25_Size.f k no) n∧(1≤no∧no≤4→n=11+((nmF no).length:Int)+widths no):=by
 by_cases h:1≤no∧no≤4
 ·rcases four h.1 h.2 with rfl | rfl | rfl | rfl
  ·exact ⟨44,Ev.from_ 200 (fun n=>by kernel_rfl),Ev.from_ 200 (fun n=>by kernel_rfl),fun _=>by decide +kernel⟩
  ·exact ⟨51,Ev.from_ 200 (fun n=>by kernel_rfl),Ev.from_ 200 (fun n=>by kernel_rfl),fun _=>by decide +kernel⟩
  ·exact ⟨64,Ev.from_ 200 (fun n=>by kernel_rfl),Ev.from_ 200 (fun n=>by kernel_rfl),fun _=>by decide +kernel⟩
  ·exact ⟨82,Ev.from_ 400 (fun n=>by kernel_rfl),Ev.from_ 400 (fun n=>by kernel_rfl),fun _=>by decide +kernel⟩
 ·refine ⟨0,?_,?_,fun hh=>absurd hh h⟩
  ·refine Ev.congr (fun k=>by rw [sec1_Size.f]) (Ev.bindc (c_width no) (Ev.ifp (widths_out h) (Ev.now _)))
  ·refine Ev.congr (fun k=>by rw [cr25_Size.f]) (Ev.bindc (ref_width no) (Ev.ifp (widths_out h) (Ev.now _)))
theorem resF_own {no:Int} {x:List Int} (h:mayF no (strOfNums x)=0):resF (nmF no) x=(no,strOfNums x,0):=by
 have hno:=(mayF_four h).1
 have e:(decA (nmF no)).1=cA (no - 1).toNat:=by
  unfold nmF
  rw [decA_complete (l:=digs (numsOf (cA (no - 1).toNat))) (arcs:=cA (no - 1).toNat) ⟨(cA_right hno).1,rfl⟩]
 have e2:(ofC fun i=>decide (cA i=(decA (nmF no)).1))=(no,true):=by
  rw [e]
  rcases four hno.1 hno.2 with rfl | rfl | rfl | rfl<;>decide +kernel
 rw [resF_yes e2,if_pos h]
theorem again25 (nm x l:List Int) (hl:OkB l) (he:l=(sFo nm x).enc) (ho:(sFo nm x).Ok 0) (hs:l.length≤500):(resF nm x=(0,⟨#[]⟩,(resF nm x).2.2)∧(resF nm x).2.2≠0)∨((resF nm x).2.2=0∧Ev (fun k=>sec1_Encode.f k (resF nm x).1 (resF nm x).2.1) (strOfNums l,0)):=by
 rcases ofC_or (fun i=>decide (cA i=(decA nm).1)) with h | ⟨i,hi,hq,h⟩
 ·rw [resF_no h];exact .inl ⟨rfl,by decide⟩
 rw [resF_yes h]
 by_cases hm:mayF ((i:Int)+1) (strOfNums x)=0
 case neg=>rw [if_neg hm];exact .inl ⟨rfl,hm⟩
 rw [if_pos hm]
 refine .inr ⟨rfl,?_⟩
 have hx:OkB x:=ho.kids.rest.2.2.2.2.1
 have ok6:=ho.kids.rest.rest.kids
 have hn:x.length≤l.length∧nm.length≤l.length:=by
  rw [he]
  have h1:=Fo.enc_le1 0 16 true [] (.cons 0 2 false [1] .nil (.cons 0 4 false x .nil (.cons 2 0 true [] (.cons 0 6 false nm .nil .nil) .nil))) .nil
  have h2:=Fo.enc_le1 0 2 false [1] .nil (.cons 0 4 false x .nil (.cons 2 0 true [] (.cons 0 6 false nm .nil .nil) .nil))
  have h3:=Fo.enc_le1 0 4 false x .nil (.cons 2 0 true [] (.cons 0 6 false nm .nil .nil) .nil)
  have h4:=Fo.enc_le1 2 0 true [] (.cons 0 6 false nm .nil .nil) .nil
  have h5:=Fo.enc_le1 0 6 false nm .nil .nil
  unfold sFo
  omega
 obtain ⟨arcs,g,hd⟩:=rt6 ok6.2.2.2.2.1 (by omega) ((ok6.2.2.2.1 rfl).2 rfl)
 rw [hd] at hq
 have hq:=of_decide_eq_true hq
 have hnm:nmF ((i:Int)+1)=nm:=by
  unfold nmF
  rw [show ((i:Int)+1 - 1).toNat=i by omega,hq,← g.2]
 obtain ⟨e,e1,_,e3,e4⟩:=enc25 ((i:Int)+1) x hx (by omega)
 have e5:=(e4 hm).1
 rw [hnm,← he] at e5
 refine e1.eq ?_
 rw [← e5,← hm,← e3]
theorem aw25:Ev (fun k=>clavigerlaw25_awake.f k) true:=Ev.from_ 200 (fun n=>by kernel_rfl)
theorem Sec1Back (a0:Int) (a1 a2:ByteArray) (_:(Lit.int .i64 a0).wf=true) (_:a1.size≤140737488351232) (_:a2.size≤140737488351232):∃ k,clavigerlaw25_Sec1Back.f k a0 a1 a2=some true:=by
 obtain ⟨x,hx,rfl⟩:=str_nums a1
 obtain ⟨l,hl,rfl⟩:=str_nums a2
 refine Ev.rounds (r:=true) ?_
 refine Ev.congr (fun k=>by rw [clavigerlaw25_Sec1Back.f,nums_sizeI,nums_sizeI]) ?_
 have hnone:Ev (fun k=>clavigerlaw25_Sec1Back.j0 k a0 (strOfNums x) (strOfNums l) true) true:=by
  refine Ev.step (fun k=>by rw [clavigerlaw25_Sec1Back.j0]) ?_
  exact Ev.ifp rfl (Ev.bind aw25 (Ev.now _))
 by_cases c0:(x.length:Int) > 200
 ·exact Ev.ifp c0 hnone
 refine Ev.ifn c0 ?_
 by_cases c1:(l.length:Int) > 500
 ·rw [decide_eq_true c1];exact hnone
 rw [decide_eq_false c1]
 have read:Ev (fun k=>clavigerlaw25_Sec1Back.j1 k (strOfNums l)) true:=by
  refine Ev.step (fun k=>by rw [clavigerlaw25_Sec1Back.j1]) ?_
  have none:∀ {R:Int × ByteArray × Int},Ev (fun k=>sec1_Decode.f k (strOfNums l)) R→R=(0,⟨#[]⟩,R.2.2)→R.2.2≠0→Ev (fun k=>(sec1_Decode.f k (strOfNums l)).bind fun t1302=>(if t1302.2.2=0 then ((sec1_Encode.f k t1302.1 t1302.2.1).bind fun t1305=>(if t1305.1.toList=(strOfNums l).toList then (if t1305.2=0 then ((clavigerlaw25_awake.f k).bind fun t1309=>(some t1309)) else (some false)) else (some false))) else (if t1302.1=0 then (if t1302.2.1.toList=([]:List UInt8) then ((clavigerlaw25_awake.f k).bind fun t1313=>(some t1313)) else (some false)) else (some false)))) true:=fun {R} h e hc=>by
   refine Ev.bind h (Ev.ifn hc ?_)
   rw [e]
   exact Ev.ifp rfl (Ev.ifp ((nums_toList_nil []).2 rfl) (Ev.bind aw25 (Ev.now _)))
  obtain ⟨R,r1,_,⟨hR,hc⟩ | ⟨nm,y,he,ho,rfl⟩⟩:=dec25 l hl (by omega)
  ·exact none r1 hR hc
  ·rcases again25 nm y l hl he ho (by omega) with ⟨hR,hc⟩ | ⟨hc,hE⟩
   ·exact none r1 hR hc
   ·exact Ev.bind r1 (Ev.ifp hc (Ev.bind hE (Ev.ifp rfl (Ev.ifp rfl (Ev.bind aw25 (Ev.now _))))))
 obtain ⟨e,e1,e2,e3,e4⟩:=enc25 a0 x hx (by omega)
 refine Ev.step (fun k=>by rw [clavigerlaw25_Sec1Back.j0]) ?_
 refine Ev.ifn (by simp) (Ev.bind e1 ?_)
 by_cases h0:e.2=0
 case neg=>exact Ev.ifn h0 read
 have hm:mayF a0 (strOfNums x)=0:=e3 ▸ h0
 obtain ⟨q1,q2⟩:=e4 hm
 obtain ⟨hno,hw,_,_⟩:=mayF_four hm
 have hx66:=widths_le a0
 rw [nums_size] at hw
 have hn:=(nmF_ok hno).2.2
 have hlen:=sFo_enc_len (nmF a0) x hn (by omega)
 obtain ⟨n,s1,_,s3⟩:=size25 a0
 have D:=(dec25_yes (nmF a0) x _ (Fo.enc_ok _ 0 q2) rfl q2 (by omega)).1
 rw [resF_own hm,← q1] at D
 refine Ev.ifp h0 (Ev.bind D (Ev.ifp rfl (Ev.ifp rfl (Ev.ifp rfl (Ev.bind s1 (Ev.ifp ?_ read))))))
 rw [q1,nums_size,hlen,s3 hno]
 omega
inductive Gs:List (List Int)→Fo→Prop
 | nil:Gs [] .nil
 | cons {z:List Int} {Z:List (List Int)} {a b:Int} {c:Bool} {d:List Int} {ks g:Fo} (he:z=(Fo.cons a b c d ks .nil).enc) (ho:(Fo.cons a b c d ks .nil).Ok 0)
  (p1:Ev (fun k=>tlv_Decode.f k (strOfNums z)) ((Fo.cons a b c d ks .nil).flat 0,0,0)) (p2:Ev (fun k=>cr19_Decode.f k (strOfNums z)) ((Fo.cons a b c d ks .nil).flat 0,0,0)) (h:Gs Z g):Gs (z :: Z) (.cons a b c d ks g)
theorem Gs.enc {Z:List (List Int)} {g:Fo} (h:Gs Z g):g.enc=Z.flatten:=by
 induction h with
 | nil=>rfl
 | cons he ho p1 p2 h ih=>rw [List.flatten_cons,← ih,he,Fo.enc,Fo.enc,Fo.enc,List.append_nil]
theorem Gs.ok {Z:List (List Int)} {g:Fo} (h:Gs Z g):g.Ok 0:=by
 induction h with
 | nil=>trivial
 | cons he ho p1 p2 h ih=>exact ⟨ho.1,ho.2.1,ho.2.2.1,ho.2.2.2.1,ho.2.2.2.2.1,ho.2.2.2.2.2.1,ho.2.2.2.2.2.2.1,ho.2.2.2.2.2.2.2.1,ih⟩
end Go.Proofs.YtdombjceoocnhaaGreatDoor.Pure
