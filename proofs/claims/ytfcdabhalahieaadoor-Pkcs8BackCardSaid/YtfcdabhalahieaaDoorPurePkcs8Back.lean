/- What is written is read as it was; what is read is written so again (P26.3), for arcs and parameters of up to 60 numbers, a key and attributes of up to 500 bytes each, and bytes of up to 1000. -/
import Derived.Test.YtfcdabhalahieaaDoorPurePkcs8Back0
set_option linter.unusedSectionVars false
set_option linter.unusedSimpArgs false
set_option linter.unusedVariables false
namespace Go.Proofs.YtfcdabhalahieaaDoor.Pure
open Go Go.RowKit Go.Rf Go.Rf.T
set_option linter.unusedVariables false
set_option linter.unusedSimpArgs false
theorem resB_of (l:List Int) (hl:OkB l) (hs:l.length≤65535) (m:Nat) (hA:∀ p e dep tl:Nat,p < e→e≤l.length→e - p≤m+1→dep≤16→tl≤1000→ResA l p e dep tl)
 (hB:∀ p q dep tl:Nat,p≤q→q≤l.length→q - p≤m→dep≤16→tl≤1000→ResB l p q dep tl) (p q dep tl:Nat) (hpq:p≤q) (hq:q≤l.length) (hm:q - p≤m+1) (hd:dep≤16) (ht:tl≤1000):ResB l p q dep tl:=by
 by_cases g:p=q
 ·subst g;exact resB_nil l hs p dep tl hd ht
 have ref:∀ (T:List Nd) (F To:List Int) (me:Nat) (t:RR) (R:RR),T.length=tl→me < tl→(∀ x∈T,x.f4.length≤tl)→Ev (fun k=>cr19_walk_element.f k (strOfNums l) (addKs T me [(tl:Int)]) F To (p:Int) (q:Int) ((dep:Int)+1)) t→(if t.2.1=0 then Ev (fun k=>cr19_walk_element.l0 k (dep:Int) (q:Int) (me:Int) t.1 t.2.2.2.1 t.2.2.2.2.1 t.2.2.2.2.2.1 t.2.2.2.2.2.2) R else R=(0,t.2.1,t.2.2.1,t.2.2.2.1,t.2.2.2.2.1,t.2.2.2.2.2.1,t.2.2.2.2.2.2)) →
  Ev (fun k=>cr19_walk_element.l0 k (dep:Int) (q:Int) (me:Int) (p:Int) (strOfNums l) T F To) R:=by
  intro T F To me t R hT hme hkk ht hR
  refine Ev.step (fun k=>by rw [cr19_walk_element.l0]) ?_
  refine Ev.ifp (by omega) (Ev.ifp (by omega) (Ev.ifp (by omega) (Ev.ifp ?_ ?_)))
  ·rw [rdT_lt T me (by omega)];have:=hkk _ (List.getElem_mem (by omega:me < T.length));omega
  ·rw [w64 (x:=(dep:Int)+1) (by omega) (by omega),hT]
   refine Ev.bind ht ?_
   by_cases g:t.2.1=0
   ·rw [if_pos g] at hR;exact Ev.ifp g hR
   ·rw [if_neg g] at hR;subst hR;exact Ev.ifn g (Ev.now _)
 have hend:∀ (T:List Nd) (F To:List Int) (O:List Nat) (me:Nat),Cond l T F To (O++[me]) q dep tl→∀ R:PR,Ev (fun k=>tlv_reader_read.g0_1 k (p:Int) (strOfNums l) T (spl F To) (iz (O++[me]))) R→Ev (fun k=>tlv_reader_read.j3 k (p:Int) 0 (strOfNums l) T (spl F To) (iz (O++[me]))) R :=
  fun T F To O me hC R hR=>tlv_next l (by omega) T F To (O++[me]) tl hC.sp hC.o (by have:=hC.d;omega) (p:Int) (by simp) (by rw [hC.e];omega) hR
 rcases hA p q dep tl (by omega) hq hm hd ht with ⟨code,x,hc,hx,h1,h2⟩ | ⟨a,b,c,d,ks,f1,f2,f3,f4,h1,h2⟩
 ·refine .inl ⟨code,x,hc,hx,fun T F To me hT hF hTo hme hkk=>?_,fun T F To O me hC=>?_⟩
  ·obtain ⟨T',F',To',hh⟩:=h1 (addKs T me [(tl:Int)]) F To (by rw [addKs_len];exact hT) hF hTo (kid_add hkk (by omega))
   exact ⟨T',F',To',ref T F To me _ _ hT hme hkk hh (by rw [if_neg hc])⟩
  ·obtain ⟨T',F',To',hh⟩:=h2 T F To (O++[me]) hC
   exact ⟨T',F',To',hend T F To O me hC _ hh⟩
 have hsz:(Fo.cons a b c d ks .nil).size=1+ks.size:=rfl
 have hen:=Fo.enc_cons a b c d ks .nil
 have hen0:(Fo.nil.enc).length=0:=rfl
 have hpos:0 < Fo.hd a b c d ks:=by
  unfold Fo.hd
  rw [List.length_append]
  have:0 < (idB a b c).length:=by unfold idB;split<;>simp
  omega
 generalize hL:(Fo.cons a b c d ks .nil).enc.length=L at *
 rcases hB (p+L) q dep (tl+(1+ks.size)) (by omega) hq (by omega) hd (by omega) with ⟨code,x,hc,hx,g1,g2⟩ | ⟨r,r1,r2,r3,r4,g1,g2⟩
 ·refine .inl ⟨code,x,hc,hx,fun T F To me hT hF hTo hme hkk=>?_,fun T F To O me hC=>?_⟩
  ·obtain ⟨T',F',To',hh⟩:=g1 (addKs T me [(tl:Int)]++(Fo.cons a b c d ks .nil).flat tl) (F++(Fo.cons a b c d ks .nil).froms p) (To++(Fo.cons a b c d ks .nil).tos p) me (by rw [List.length_append,addKs_len,Fo.flat_len,hsz,hT]) (by rw [List.length_append,Fo.froms_len,hsz,hF]) (by rw [List.length_append,Fo.tos_len,hsz,hTo]) (by omega) (fun x hx=>by
    rcases List.mem_append.1 hx with hx | hx
    ·have:=kid_add hkk (by omega:me < T.length) x hx;omega
    ·have:=Fo.flat_kids _ _ x hx;omega)
   exact ⟨T',F',To',ref T F To me _ _ hT hme hkk (h1 (addKs T me [(tl:Int)]) F To (by rw [addKs_len];exact hT) hF hTo (kid_add hkk (by omega))) (by rw [if_pos rfl];exact hh)⟩
  ·obtain ⟨T',F',To',hh⟩:=g2 _ _ _ O me (hsz ▸ hC.next (Fo.cons a b c d ks .nil) p (by omega) (by omega))
   exact ⟨T',F',To',hend T F To O me hC _ (h2 T F To (O++[me]) _ hC hh)⟩
 have hen':=Fo.enc_cons a b c d ks r
 refine .inr ⟨.cons a b c d ks r,by omega,?_,?_,?_,fun T F To me hT hF hTo hme hkk=>?_,fun T F To O me R hC k=>?_⟩
 ·rw [seg_app l p (p+L) q (by omega) (by omega),f2,r2]
  simp only [Fo.enc,List.append_nil]
 ·obtain ⟨y1,y2,y3,y4,y5,y6,y7,y8,_⟩:=f3
  exact ⟨y1,y2,y3,y4,y5,y6,y7,y8,r3⟩
 ·show tl+(1+ks.size+r.size)≤1000;omega
 ·refine ref T F To me _ _ hT hme hkk (h1 (addKs T me [(tl:Int)]) F To (by rw [addKs_len];exact hT) hF hTo (kid_add hkk (by omega))) ?_
  rw [if_pos rfl]
  refine (g1 (addKs T me [(tl:Int)]++(Fo.cons a b c d ks .nil).flat tl) (F++(Fo.cons a b c d ks .nil).froms p) (To++(Fo.cons a b c d ks .nil).tos p) me (by rw [List.length_append,addKs_len,Fo.flat_len,hsz,hT]) (by rw [List.length_append,Fo.froms_len,hsz,hF]) (by rw [List.length_append,Fo.tos_len,hsz,hTo]) (by omega) (fun x hx=>by
   rcases List.mem_append.1 hx with hx | hx
   ·have:=kid_add hkk (by omega:me < T.length) x hx;omega
   ·have:=Fo.flat_kids _ _ x hx;omega)).eq ?_
  rw [addKs_app _ _ _ _ (by rw [addKs_len];omega),addKs_two _ _ _ _ (by omega)]
  have e1:p+Fo.hd a b c d ks+(d++ks.enc).length=p+L:=by omega
  have e2:tl+(1+ks.size)=tl+1+ks.size:=by omega
  simp only [Fo.flat,Fo.froms,Fo.tos,Fo.roots,List.append_nil,List.append_assoc,List.cons_append,List.nil_append,List.singleton_append,e1,e2]
 ·refine hend T F To O me hC _ (h2 T F To (O++[me]) _ hC (g2 _ _ _ O me _ (hsz ▸ hC.next (Fo.cons a b c d ks .nil) p (by omega) (by omega)) ?_))
  rw [upd_snoc,hC.t,addKs_app _ _ _ _ (by rw [addKs_len,hC.t];exact hC.last.1),addKs_two _ _ _ _ (by rw [hC.t];exact hC.last.1)]
  have e1:p+Fo.hd a b c d ks+(d++ks.enc).length=p+L:=by omega
  have e2:tl+(1+ks.size)=tl+1+ks.size:=by omega
  simp only [Fo.flat,Fo.froms,Fo.tos,Fo.roots,List.append_nil,List.append_assoc,List.cons_append,List.nil_append,List.singleton_append,e1,e2] at k ⊢
  exact k
theorem resAB (l:List Int) (hl:OkB l) (hs:l.length≤65535):∀ m:Nat,(∀ p e dep tl:Nat,p < e→e≤l.length→e - p≤m→dep≤16→tl≤1000→ResA l p e dep tl)∧∀ p q dep tl:Nat,p≤q→q≤l.length→q - p≤m→dep≤16→tl≤1000→ResB l p q dep tl
 | 0=>⟨fun p e dep tl h1 h2 h3=>by omega,fun p q dep tl h1 h2 h3 hd ht=>by
  obtain rfl:p=q:=by omega
  exact resB_nil l hs p dep tl hd ht⟩
 | m+1=>by
  have hA:=resA_of l hl hs m (resAB l hl hs m).2
  exact ⟨hA,resB_of l hl hs m hA (resAB l hl hs m).2⟩
theorem tlv_j0:tlv_reader_read.j0=tlv_reader_read.j3:=by
 funext k;cases k<;>rfl
theorem tread_is (l:List Int) (h0:l≠[]) (hs:l.length≤65535) {R:PR} (h:Ev (fun k=>tlv_reader_read.g0_1 k 0 (strOfNums l) [] [] []) R):Ev (fun k=>tlv_reader_read.f k (strOfNums l) [] [] []) R:=by
 obtain ⟨K,hK⟩:=h
 refine ⟨K,fun k hk=>?_⟩
 have:tlv_reader_read.g0_1 (k+1) 0 (strOfNums l) [] [] []=some R:=hK (k+1) (by omega)
 show tlv_reader_read.f k (strOfNums l) [] [] []=_
 rw [tlv_reader_read.f,if_neg (by rw [nums_toList_nil];exact h0),if_neg (by rw [nums_sizeI];omega),tlv_j0]
 rw [tlv_reader_read.g0_1] at this
 exact this
theorem sp_nil (l:List Int):Sp l [] [] 0:=⟨rfl,rfl,fun i hi=>by omega⟩
inductive Dec (l:List Int):Prop
 | bad (code:Int) (q:Nat) (hc:code≠0) (hq:q≤l.length) (p1:Ev (fun k=>tlv_Decode.f k (strOfNums l)) ([],code,(q:Int))) (p2:Ev (fun k=>cr19_Decode.f k (strOfNums l)) ([],code,(q:Int)))
  (p3:Ev (fun k=>tlv_Spans.f k (strOfNums l)) []) (p4:Ev (fun k=>cr19_Spans.f k (strOfNums l)) ([],[]))
 | ok (a b:Int) (c:Bool) (d:List Int) (ks:Fo) (he:l=(Fo.cons a b c d ks .nil).enc) (ho:(Fo.cons a b c d ks .nil).Ok 0) (hz:(Fo.cons a b c d ks .nil).size≤1000)
  (p1:Ev (fun k=>tlv_Decode.f k (strOfNums l)) ((Fo.cons a b c d ks .nil).flat 0,0,0)) (p2:Ev (fun k=>cr19_Decode.f k (strOfNums l)) ((Fo.cons a b c d ks .nil).flat 0,0,0))
  (p3:Ev (fun k=>tlv_Spans.f k (strOfNums l)) (spl ((Fo.cons a b c d ks .nil).froms 0) ((Fo.cons a b c d ks .nil).tos 0))) (p4:Ev (fun k=>cr19_Spans.f k (strOfNums l)) ((Fo.cons a b c d ks .nil).froms 0,(Fo.cons a b c d ks .nil).tos 0))
theorem tlv_bad {s:ByteArray} {code q:Int} {s':ByteArray} {T:List Nd} {sp:List (Nat × Nat)} {O:List Int} (hc:code≠0) (h:Ev (fun k=>tlv_reader_read.f k s [] [] []) (code,q,s',T,sp,O)):Ev (fun k=>tlv_Decode.f k s) ([],code,q)∧Ev (fun k=>tlv_Spans.f k s) [] :=
 ⟨Ev.congr (fun k=>by rw [tlv_Decode.f]) (Ev.bind h (Ev.ifn hc (Ev.now _))),Ev.congr (fun k=>by rw [tlv_Spans.f]) (Ev.bind h (Ev.ifn hc (Ev.now _)))⟩
theorem ref_bad {s:ByteArray} {code q:Int} {s':ByteArray} {T:List Nd} {F To:List Int} (hc:code≠0) (h:Ev (fun k=>cr19_whole.f k s) (s',T,F,To,code,q)):Ev (fun k=>cr19_Decode.f k s) ([],code,q)∧Ev (fun k=>cr19_Spans.f k s) ([],[]) :=
 ⟨Ev.congr (fun k=>by rw [cr19_Decode.f]) (Ev.bind h (Ev.ifn hc (Ev.now _))),Ev.congr (fun k=>by rw [cr19_Spans.f]) (Ev.bind h (Ev.ifn hc (Ev.now _)))⟩
theorem dec_is (l:List Int) (hl:OkB l) (hs:l.length≤65535):Dec l:=by
 by_cases h0:l=[]
 ·subst h0
  obtain ⟨p1,p3⟩:=tlv_bad (s:=strOfNums []) (q:=0) (code:=3) (by decide) (Ev.congr (fun k=>by rw [tlv_reader_read.f]) (Ev.ifp (by rw [nums_toList_nil]) (g00_is 3 0 _ _ _ _ (by decide))))
  have hw:Ev (fun k=>cr19_whole.f k (strOfNums [])) (strOfNums [],[],[],[],3,0):=by
   refine Ev.congr (fun k=>by rw [cr19_whole.f]) ?_
   exact Ev.ifp (by rw [nums_toList_nil]) (Ev.now _)
  obtain ⟨p2,p4⟩:=ref_bad (by decide) hw
  exact .bad 3 0 (by decide) (Nat.le_refl _) p1 p2 p3 p4
 have hpos:0 < l.length:=List.length_pos_iff.2 h0
 have hC:Cond l [] [] [] [] l.length 0 0:=⟨rfl,sp_nil l,fun o h=>(by cases h),fun x h=>(by cases h),rfl,rfl⟩
 have whole:∀ (t:RR),Ev (fun k=>cr19_walk_element.f k (strOfNums l) [] [] [] 0 (l.length:Int) 1) t→Ev (fun k=>cr19_whole.f k (strOfNums l)) (if t.2.1=0 then (if t.1 < (l.length:Int) then (t.2.2.2.1,t.2.2.2.2.1,t.2.2.2.2.2.1,t.2.2.2.2.2.2,5,t.1) else (t.2.2.2.1,t.2.2.2.2.1,t.2.2.2.2.2.1,t.2.2.2.2.2.2,t.2.1,t.2.2.1)) else (t.2.2.2.1,t.2.2.2.2.1,t.2.2.2.2.2.1,t.2.2.2.2.2.2,t.2.1,t.2.2.1)):=by
  intro t ht
  refine Ev.congr (fun k=>by rw [cr19_whole.f,nums_sizeI]) ?_
  refine Ev.ifn (by rw [nums_toList_nil];exact h0) (Ev.ifn (by omega) (Ev.bind ht ?_))
  exact Ev.ite (fun _=>Ev.ite (fun _=>Ev.now _) (fun _=>Ev.now _)) (fun _=>Ev.now _)
 rcases (resAB l hl hs l.length).1 0 l.length 0 0 hpos (Nat.le_refl _) (by omega) (by omega) (by omega) with ⟨code,q,hc,hq,h1,h2⟩ | ⟨a,b,c,d,ks,f1,f2,f3,f4,h1,h2⟩
 ·obtain ⟨T',F',To',hh⟩:=h1 [] [] [] rfl rfl rfl (fun x h=>(by cases h))
  obtain ⟨T2,F2,To2,hg⟩:=h2 [] [] [] [] hC
  have hw:=whole _ hh
  rw [if_neg hc] at hw
  obtain ⟨p1,p3⟩:=tlv_bad hc (tread_is l h0 (by omega) hg)
  obtain ⟨p2,p4⟩:=ref_bad hc hw
  exact .bad code q hc hq p1 p2 p3 p4
 rw [Nat.zero_add] at f1 f2 h1 h2 f4
 have hh:=whole _ (h1 [] [] [] rfl rfl rfl (fun x h=>(by cases h)))
 have hsp:=Fo.sp_app l _ [] [] 0 0 (sp_nil l) (by omega:0+(Fo.cons a b c d ks .nil).enc.length≤l.length)
 rw [Nat.zero_add] at hsp
 have hg:=h2 [] [] [] [] _ hC (tlv_done l (by omega) _ _ _ _ hsp _ f1)
 rw [if_pos rfl] at hh
 by_cases g:(Fo.cons a b c d ks .nil).enc.length < l.length
 ·rw [if_pos g] at hg
  rw [if_pos (by simpa using g)] at hh
  obtain ⟨p1,p3⟩:=tlv_bad (code:=5) (by decide) (tread_is l h0 (by omega) hg)
  obtain ⟨p2,p4⟩:=ref_bad (code:=5) (by decide) hh
  simp only [Nat.zero_add] at p2
  exact .bad 5 _ (by decide) f1 p1 p2 p3 p4
 ·rw [if_neg g] at hg
  rw [if_neg (by simpa using g)] at hh
  have he:(Fo.cons a b c d ks .nil).enc.length=l.length:=by omega
  rw [he] at f2
  have hl':seg l 0 l.length=l:=by rw [seg,List.drop_zero,Nat.sub_zero,List.take_length]
  have r:=tread_is l h0 (by omega) hg
  refine .ok a b c d ks (hl'.symm.trans f2) f3 f4 ?_ ?_ ?_ ?_
  ·exact Ev.congr (fun k=>by rw [tlv_Decode.f]) (Ev.bind r (Ev.ifp rfl (Ev.now _)))
  ·exact Ev.congr (fun k=>by rw [cr19_Decode.f]) (Ev.bind hh (Ev.ifp rfl (Ev.now _)))
  ·exact Ev.congr (fun k=>by rw [tlv_Spans.f]) (Ev.bind r (Ev.ifp rfl (Ev.now _)))
  ·exact Ev.congr (fun k=>by rw [cr19_Spans.f]) (Ev.bind hh (Ev.ifp rfl (Ev.now _)))
def tpK (s:ByteArray) (X:List ByteArray) (p len:Int) (r:Hd) (k:Nat):Option (List ByteArray × Int × Int):=if r.2.2.2.2.2=0 then (if r.2.2.2.1 > (wrap64 ((wrap64 (len - p)) - r.2.2.2.2.1)) then (some (([]:List ByteArray),5,p)) else ((octets_Cut.f s p (wrap64 (r.2.2.2.2.1+r.2.2.2.1))).bind fun t730=>(if X.length < 8796093022208 then (tlv_Pieces.l0 k s (X++[t730]) (wrap64 (p+(wrap64 (r.2.2.2.2.1+r.2.2.2.1)))) 0 0) else (none)))) else (some (([]:List ByteArray),r.2.2.2.2.2,p))
def rpK (s:ByteArray) (X:List ByteArray) (p:Nat) (len:Int) (r:Hd) (k:Nat):Option (List ByteArray × Int × Int):=if r.2.2.2.2.2=0 then (if (wrap64 ((wrap64 (p+r.2.2.2.2.1))+r.2.2.2.1)) > len then ((cr19_faulty.f 5 p).bind fun t760=>(some (([]:List ByteArray),t760.1,t760.2))) else (if (p:Int)≤(wrap64 ((wrap64 (p+r.2.2.2.2.1))+r.2.2.2.1)) then (if (wrap64 ((wrap64 (p+r.2.2.2.2.1))+r.2.2.2.1))≤len then (if X.length < 8796093022208 then (cr19_Pieces.l0 k s (X++[s.extract p ((wrap64 ((wrap64 (p+r.2.2.2.2.1))+r.2.2.2.1)):Int).toNat]) (wrap64 ((wrap64 (p+r.2.2.2.2.1))+r.2.2.2.1))) else (none)) else (none)) else (none))) else ((cr19_faulty.f r.2.2.2.2.2 p).bind fun t766=>(some (([]:List ByteArray),t766.1,t766.2)))
theorem tail_ext (l:List Int) (p:Nat):(strOfNums l).extract p l.length=strOfNums (l.drop p):=by
 rw [str_extract,List.take_of_length_le (by rw [List.length_drop];omega)]
theorem tp_head (l:List Int) (hl:OkB l) (hs:l.length≤65535) (p:Nat) (hp:p < l.length) (X:List ByteArray) {R:List ByteArray × Int × Int} (h:Ev (tpK (strOfNums l) X p l.length (headH (l.drop p))) R):Ev (fun k=>tlv_Pieces.l0 k (strOfNums l) X (p:Int) 0 0) R:=by
 refine Ev.step (fun k=>by rw [tlv_Pieces.l0,nums_sizeI,nums_size]) ?_
 refine Ev.ifp (by omega) (Ev.ifp (by omega) (Ev.ifp (by omega) ?_))
 rw [Int.toNat_natCast,tail_ext]
 exact Ev.bind (head_is _ (hl.drop _) (by rw [List.length_drop];omega)) h
theorem rp_head (l:List Int) (hl:OkB l) (hs:l.length≤65535) (p:Nat) (hp:p < l.length) (X:List ByteArray) {R:List ByteArray × Int × Int} (h:Ev (rpK (strOfNums l) X p l.length (headH (l.drop p))) R):Ev (fun k=>cr19_Pieces.l0 k (strOfNums l) X (p:Int)) R:=by
 refine Ev.step (fun k=>by rw [cr19_Pieces.l0,nums_sizeI,nums_size]) ?_
 refine Ev.ifp (by omega) (Ev.ifp (by omega) (Ev.ifp (by omega) ?_))
 rw [Int.toNat_natCast,tail_ext]
 exact Ev.bind (ref_head_dec _ (hl.drop _) (by rw [List.length_drop];omega)) h
theorem tp_bad (s:ByteArray) (X:List ByteArray) (p len:Int) (c:Int) (hc:c≠0):Ev (tpK s X p len (noH c)) ([],c,p):=by
 unfold tpK
 exact Ev.ifn hc (Ev.now _)
theorem rp_bad (s:ByteArray) (X:List ByteArray) (p:Nat) (len:Int) (c:Int) (hc:c≠0):Ev (rpK s X p len (noH c)) ([],c,(p:Int)):=by
 unfold rpK
 exact Ev.ifn hc (Ev.now _)
theorem tp_big (s:ByteArray) (X:List ByteArray) (p len n v:Nat) (a b:Int) (c:Bool) (h1:p≤len) (h2:len≤65535) (hn:n≤65535) (h:p+n+v > len):Ev (tpK s X p len (a,b,c,(v:Int),(n:Int),0)) ([],5,(p:Int)):=by
 unfold tpK
 dsimp only
 rw [w64 (x:=(len:Int) - (p:Int)) (by omega) (by omega),w64 (x:=(len:Int) - (p:Int) - (n:Int)) (by omega) (by omega)]
 exact Ev.ifp rfl (Ev.ifp (by omega) (Ev.now _))
theorem rp_big (s:ByteArray) (X:List ByteArray) (p len n v:Nat) (a b:Int) (c:Bool) (hn:p+n+v≤1000000) (h:p+n+v > len):Ev (rpK s X p len (a,b,c,(v:Int),(n:Int),0)) ([],5,(p:Int)):=by
 unfold rpK
 dsimp only
 rw [w64_sum p n (by omega),w64_sum (p+n) v hn]
 exact Ev.ifp rfl (Ev.ifp (by omega) (Ev.now _))
theorem tp_ok (l:List Int) (hs:l.length≤65535) (X:List ByteArray) (p n v:Nat) (a b:Int) (c:Bool) (h:p+n+v≤l.length) (hX:X.length≤65535) {R:List ByteArray × Int × Int} (k:Ev (fun k=>tlv_Pieces.l0 k (strOfNums l) (X++[strOfNums (seg l p (p+n+v))]) ((p+n+v:Nat):Int) 0 0) R):Ev (tpK (strOfNums l) X p l.length (a,b,c,(v:Int),(n:Int),0)) R:=by
 unfold tpK
 dsimp only
 rw [w64 (x:=(l.length:Int) - (p:Int)) (by omega) (by omega),w64 (x:=(l.length:Int) - (p:Int) - (n:Int)) (by omega) (by omega),w64_sum n v (by omega),w64_sum p (n+v) (by omega)]
 have hc:=cut_seg' l hs p (n+v) (by omega)
 have e:p+(n+v)=p+n+v:=by omega
 rw [e] at hc
 rw [e]
 exact Ev.ifp rfl (Ev.ifn (by omega) (Ev.bindc hc (Ev.ifp (by omega) k)))
theorem rp_ok (l:List Int) (hs:l.length≤65535) (X:List ByteArray) (p n v:Nat) (a b:Int) (c:Bool) (h:p+n+v≤l.length) (hX:X.length≤65535) {R:List ByteArray × Int × Int} (k:Ev (fun k=>cr19_Pieces.l0 k (strOfNums l) (X++[strOfNums (seg l p (p+n+v))]) ((p+n+v:Nat):Int)) R):Ev (rpK (strOfNums l) X p l.length (a,b,c,(v:Int),(n:Int),0)) R:=by
 unfold rpK
 dsimp only
 rw [w64_sum p n (by omega),w64_sum (p+n) v (by omega),Int.toNat_natCast,str_extract]
 exact Ev.ifp rfl (Ev.ifn (by omega) (Ev.ifp (by omega) (Ev.ifp (by omega) (Ev.ifp (by omega) k))))
theorem pieces_both (l:List Int) (hl:OkB l) (hs:l.length≤65535):∀ (m p:Nat) (X:List ByteArray),p≤l.length→l.length - p≤m→X.length≤p→∃ (Y:List ByteArray) (c q:Int),Y.length≤l.length∧Ev (fun k=>tlv_Pieces.l0 k (strOfNums l) X (p:Int) 0 0) (Y,c,q)∧Ev (fun k=>cr19_Pieces.l0 k (strOfNums l) X (p:Int)) (Y,c,q)∧(c=0→∃ Z:List (List Int),Y=X++Z.map strOfNums∧Z.flatten=l.drop p):=by
 intro m
 have done:∀ (p:Nat) (X:List ByteArray),p≤l.length→¬ p < l.length→X.length≤p→∃ (Y:List ByteArray) (c q:Int),Y.length≤l.length∧Ev (fun k=>tlv_Pieces.l0 k (strOfNums l) X (p:Int) 0 0) (Y,c,q)∧Ev (fun k=>cr19_Pieces.l0 k (strOfNums l) X (p:Int)) (Y,c,q)∧(c=0→∃ Z:List (List Int),Y=X++Z.map strOfNums∧Z.flatten=l.drop p):=by
  intro p X hp g hX
  refine ⟨X,0,0,by omega,?_,?_,fun _=>⟨[],by simp,by rw [List.drop_eq_nil_of_le (by omega)];rfl⟩⟩
  ·refine Ev.step (fun k=>by rw [tlv_Pieces.l0,nums_sizeI]) ?_
   exact Ev.ifn (by omega) (Ev.now _)
  ·refine Ev.step (fun k=>by rw [cr19_Pieces.l0,nums_sizeI]) ?_
   exact Ev.ifn (by omega) (Ev.now _)
 induction m with
 | zero=>intro p X hp hm hX;exact done p X hp (by omega) hX
 | succ m ih =>
  intro p X hp hm hX
  by_cases g:p < l.length
  case neg=>exact done p X hp g hX
  have hdl:(l.drop p).length=l.length - p:=List.length_drop
  rcases headH_bd _ (hl.drop p) with h | h | ⟨a,b,c,v,n,h,n2,a0,a1,b0,b1,v1,hn,hid⟩
  ·exact ⟨[],5,p,by simp,tp_head l hl hs p g X (by rw [h];exact tp_bad _ _ _ _ _ (by decide)),rp_head l hl hs p g X (by rw [h];exact rp_bad _ _ _ _ _ (by decide)),fun h=>(by cases h)⟩
  ·exact ⟨[],4,p,by simp,tp_head l hl hs p g X (by rw [h];exact tp_bad _ _ _ _ _ (by decide)),rp_head l hl hs p g X (by rw [h];exact rp_bad _ _ _ _ _ (by decide)),fun h=>(by cases h)⟩
  rw [hdl] at hn
  by_cases gb:p+n+v > l.length
  ·exact ⟨[],5,p,by simp,tp_head l hl hs p g X (by rw [h];exact tp_big _ _ _ _ _ _ _ _ _ hp hs (by omega) gb),rp_head l hl hs p g X (by rw [h];exact rp_big _ _ _ _ _ _ _ _ _ (by omega) gb),fun h=>(by cases h)⟩
  ·obtain ⟨Y,c',q,hY,i1,i2,i3⟩:=ih (p+n+v) (X++[strOfNums (seg l p (p+n+v))]) (by omega) (by omega) (by rw [List.length_append,List.length_singleton];omega)
   exact ⟨Y,c',q,hY,tp_head l hl hs p g X (by rw [h];exact tp_ok l hs X p n v a b c (by omega) (by omega) i1),rp_head l hl hs p g X (by rw [h];exact rp_ok l hs X p n v a b c (by omega) (by omega) i2),fun h0=>by
    obtain ⟨Z,z1,z2⟩:=i3 h0
    refine ⟨seg l p (p+n+v) :: Z,by rw [z1,List.append_assoc];rfl,?_⟩
    rw [List.flatten_cons,z2,seg,show l.drop (p+n+v)=(l.drop p).drop (p+n+v - p) by rw [List.drop_drop];congr 1;omega,List.take_append_drop]⟩
theorem pieces_is (l:List Int) (hl:OkB l) (hs:l.length≤65535):∃ (Y:List ByteArray) (c q:Int),Y.length≤l.length∧Ev (fun k=>tlv_Pieces.f k (strOfNums l)) (Y,c,q)∧Ev (fun k=>cr19_Pieces.f k (strOfNums l)) (Y,c,q)∧(c=0→∃ Z:List (List Int),Y=Z.map strOfNums∧Z.flatten=l):=by
 obtain ⟨Y,c,q,h,h1,h2,h3⟩:=pieces_both l hl hs l.length 0 [] (Nat.zero_le _) (Nat.le_refl _) (Nat.le_refl _)
 refine ⟨Y,c,q,h,?_,?_,fun h0=>by obtain ⟨Z,z1,z2⟩:=h3 h0;exact ⟨Z,by rw [z1];rfl,by rw [z2];rfl⟩⟩
 ·refine Ev.congr (fun k=>by rw [tlv_Pieces.f,nums_sizeI]) ?_
  exact Ev.ifn (by omega) h1
 ·refine Ev.congr (fun k=>by rw [cr19_Pieces.f,nums_sizeI]) ?_
  exact Ev.ifn (by omega) h2
theorem Fo.hd_pos2 (a b:Int) (c:Bool) (d:List Int) (ks:Fo):1≤Fo.hd a b c d ks:=by
 unfold Fo.hd
 have:0 < (idB a b c).length:=by unfold idB;split<;>simp
 rw [List.length_append]
 omega
def Fo.encs:Fo→List (List Int)
 | .nil=>[]
 | .cons a b c d ks r=>(Fo.cons a b c d ks .nil).enc :: r.encs
theorem Fo.encs_len:∀ f:Fo,f.encs.length≤f.size
 | .nil=>Nat.le_refl _
 | .cons a b c d ks r=>by rw [Fo.encs,Fo.size,List.length_cons];have:=Fo.encs_len r;omega
theorem pieces_loop (l:List Int) (hl:OkB l) (hs:l.length≤65535):∀ (f:Fo) (p:Nat) (X:List ByteArray),f.Ok 0→l.drop p=f.enc→X.length+f.size≤65535→Ev (fun k=>tlv_Pieces.l0 k (strOfNums l) X (p:Int) 0 0) (X++f.encs.map strOfNums,0,0)
 | .nil,p,X,_,he,_=>by
  have:l.length≤p:=by
   have:=congrArg List.length he
   rw [List.length_drop] at this
   simp [Fo.enc] at this
   omega
  refine Ev.step (fun k=>by rw [tlv_Pieces.l0,nums_sizeI]) ?_
  rw [Fo.encs,List.map_nil,List.append_nil]
  exact Ev.ifn (by omega) (Ev.now _)
 | .cons a b c d ks r,p,X,hok,he,hX=>by
  have hlen:=Fo.enc_cons a b c d ks r
  have hl2:=congrArg List.length he
  rw [List.length_drop,hlen] at hl2
  obtain ⟨⟨a0,a1,b0,b1⟩,hv,_⟩:=id hok
  rw [Fo.size] at hX
  have hh:=headH_back a b c ((d++ks.enc).length:Int) a0 a1 b0 b1 (by omega) (by omega) (d++ks.enc++r.enc)
  have hhd:(idB a b c++lenB ((d++ks.enc).length:Int)).length=Fo.hd a b c d ks:=rfl
  have he':l.drop p=idB a b c++lenB ((d++ks.enc).length:Int)++(d++ks.enc++r.enc):=by rw [he,Fo.enc];simp only [List.append_assoc]
  rw [← he',hhd] at hh
  have h2:=Fo.hd_pos2 a b c d ks
  have i:=pieces_loop l hl hs r (p+Fo.hd a b c d ks+(d++ks.enc).length) (X++[(strOfNums (Fo.cons a b c d ks .nil).enc)]) hok.2.2.2.2.2.2.2.2 (by
   have e2:(Fo.cons a b c d ks r).enc=(Fo.cons a b c d ks .nil).enc++r.enc:=by rw [Fo.enc,Fo.enc,Fo.enc,List.append_nil]
   have e3:(Fo.cons a b c d ks .nil).enc.length=Fo.hd a b c d ks+(d++ks.enc).length:=by rw [Fo.enc_cons];rfl
   rw [Nat.add_assoc,← List.drop_drop,he,e2,← e3,List.drop_left]) (by rw [List.length_append,List.length_singleton];omega)
  rw [Fo.encs,List.map_cons]
  rw [List.append_assoc,List.singleton_append] at i
  refine tp_head l hl hs p (by omega) X ?_
  rw [hh]
  have hseg:seg l p (p+Fo.hd a b c d ks+(d++ks.enc).length)=(Fo.cons a b c d ks .nil).enc:=by
   have e2:(Fo.cons a b c d ks r).enc=(Fo.cons a b c d ks .nil).enc++r.enc:=by rw [Fo.enc,Fo.enc,Fo.enc,List.append_nil]
   have e3:(Fo.cons a b c d ks .nil).enc.length=Fo.hd a b c d ks+(d++ks.enc).length:=by rw [Fo.enc_cons];rfl
   rw [seg,he,e2,show p+Fo.hd a b c d ks+(d++ks.enc).length - p=(Fo.cons a b c d ks .nil).enc.length by omega,List.take_left]
  refine tp_ok l hs X p _ _ a b c (by omega) (by omega) ?_
  rw [hseg]
  exact i
theorem pieces_fo (f:Fo) (hok:f.Ok 0) (hb:OkB f.enc) (hs:f.enc.length≤65535) (hz:f.size≤65535):Ev (fun k=>tlv_Pieces.f k (strOfNums f.enc)) (f.encs.map strOfNums,0,0):=by
 refine Ev.congr (fun k=>by rw [tlv_Pieces.f,nums_sizeI]) ?_
 refine Ev.ifn (by omega) ?_
 have:=pieces_loop f.enc hb hs f 0 [] hok rfl (by simp;omega)
 rwa [List.nil_append] at this
theorem Fo.hd_pos (a b:Int) (c:Bool) (d:List Int) (ks:Fo):2≤Fo.hd a b c d ks:=by
 unfold Fo.hd
 rw [List.length_append]
 have h1:0 < (idB a b c).length:=by unfold idB;split<;>simp
 have h2:0 < (lenB ((d++ks.enc).length:Int)).length:=by unfold lenB;split;simp;split<;>simp
 omega
theorem Cond.inner {l:List Int} {T:List Nd} {F To:List Int} {O:List Nat} {e dep tl:Nat} (hC:Cond l T F To O e dep tl) (a b:Int) (c:Bool) (d:ByteArray) (p q:Nat) (h1:p≤q) (h2:q≤l.length):Cond l (upd T O++[nd a b c d []]) (F++[(p:Int)]) (To++[(q:Int)]) (O++[tl]) q (dep+1) (tl+1):=by
 have hs1:=hC.sp.snoc p q h1 h2
 refine ⟨by rw [List.length_append,upd_length,hC.t];rfl,hs1,fun o ho=>?_,fun x hx=>?_,by rw [List.length_append,hC.d];rfl,?_⟩
 ·rcases List.mem_append.1 ho with ho | ho
  ·have:=hC.o o ho;omega
  ·simp at ho;omega
 ·rcases List.mem_append.1 hx with hx | hx
  ·exact upd_mem T O tl hC.k (by rw [hC.t];exact hC.o) x hx
  ·simp at hx;rw [hx];show 0≤_;omega
 ·unfold endN
  rw [List.getLast?_append,List.getLast?_singleton]
  show (To++[(q:Int)]).getD tl 0=_
  have:=getD_app_at To [] (q:Int) 0
  rw [hC.sp.t] at this
  exact this
theorem seg_take (l:List Int) (p q e:Nat) (h:q≤e):(seg l p e).take (q - p)=seg l p q:=by
 rw [seg,seg,List.take_take,show min (q - p) (e - p)=q - p by omega]
theorem seg_parts {l:List Int} {p q:Nat} {x y:List Int} (h:seg l p q=x++y) (hq:q≤l.length) (hp:p≤q):seg l p (p+x.length)=x∧seg l (p+x.length) q=y∧p+x.length≤q:=by
 have hl:=congrArg List.length h
 rw [seg_len _ _ _ hq,List.length_append] at hl
 have h2:=seg_app l p (p+x.length) q (by omega) (by omega)
 rw [h] at h2
 have h3:=List.append_inj h2 (by rw [seg_len _ _ _ (by omega)];omega)
 exact ⟨h3.1.symm,h3.2.symm,by omega⟩
theorem seg_cons {l:List Int} {p q:Nat} {a b:Int} {c:Bool} {d:List Int} {ks r:Fo} (h:seg l p q=(Fo.cons a b c d ks r).enc) (hq:q≤l.length) (hp:p≤q):p+Fo.hd a b c d ks+(d++ks.enc).length+r.enc.length=q∧seg l p (p+Fo.hd a b c d ks)=idB a b c++lenB ((d++ks.enc).length:Int) ∧
 seg l (p+Fo.hd a b c d ks) (p+Fo.hd a b c d ks+(d++ks.enc).length)=d++ks.enc∧seg l (p+Fo.hd a b c d ks+(d++ks.enc).length) q=r.enc:=by
 have hl:=congrArg List.length h
 rw [seg_len _ _ _ hq,Fo.enc_cons] at hl
 rw [Fo.enc] at h
 obtain ⟨h1,h2,h3⟩:=seg_parts h hq hp
 rw [List.length_append] at h1 h2 h3
 have hh:(idB a b c++lenB ((d++ks.enc).length:Int)).length=Fo.hd a b c d ks:=rfl
 rw [hh] at h1 h2 h3
 obtain ⟨h4,h5,h6⟩:=seg_parts h1 (by omega) (by omega)
 rw [hh] at h4 h5
 rw [← Nat.add_assoc] at h2 h5
 exact ⟨by omega,h4,h5,h2⟩
theorem fwd_look {l:List Int} (hl:OkB l) (hs:l.length≤65535) {p q e dep tl:Nat} {a b:Int} {c:Bool} {d:List Int} {ks r:Fo} (h:seg l p q=(Fo.cons a b c d ks r).enc) (hp:p≤q) (hqe:q≤e) (he:e≤l.length) (ho:(Fo.cons a b c d ks r).Ok dep) (ht:tl < 1000) :
 LookOk l p e dep tl a b c (Fo.hd a b c d ks) (d++ks.enc).length:=by
 obtain ⟨h1,h2,h3,h4⟩:=seg_cons h (by omega) hp
 obtain ⟨⟨a0,a1,b0,b1⟩,o1,o2,o3,o4,o5,o6,o7,o8⟩:=ho
 have hpos:=Fo.hd_pos a b c d ks
 refine look_ok_of l hl hs p e (by omega) he dep tl o2 ht a b c _ _ a0 a1 b0 b1 o1 rfl hpos ?_ (by omega) ?_
 ·have:=seg_take l p (p+Fo.hd a b c d ks) e (by omega)
  rw [show p+Fo.hd a b c d ks - p=Fo.hd a b c d ks by omega] at this
  rw [this,h2]
 ·rw [h3]
  intro h0
  refine ⟨(o3 h0).1,fun hc=>?_⟩
  rw [o6 hc,show d++Fo.nil.enc=d from List.append_nil d]
  exact (o3 h0).2 hc
theorem fwd_kids (l:List Int) (hl:OkB l) (hs:l.length≤65535):∀ (f:Fo) (p q e dep tl:Nat),p≤q→q≤e→e≤l.length→seg l p q=f.enc→f.Ok dep→tl+f.size≤1000→∀ (T:List Nd) (F To:List Int) (O:List Nat) (me:Nat) (R:PR),Cond l T F To (O++[me]) e dep tl →
 Ev (fun k=>tlv_reader_read.j3 k (q:Int) 0 (strOfNums l) (addKs T me (f.roots tl)++f.flat tl) (spl (F++f.froms p) (To++f.tos p)) (iz (O++[me]))) R→Ev (fun k=>tlv_reader_read.j3 k (p:Int) 0 (strOfNums l) T (spl F To) (iz (O++[me]))) R:=by
 intro f
 induction f with
 | nil =>
  intro p q e dep tl hp hq he h ho ht T F To O me R hC k
  have hl0:=congrArg List.length h
  rw [seg_len _ _ _ (by omega)] at hl0
  obtain rfl:p=q:=by have:(Fo.nil.enc).length=0:=rfl;omega
  simp only [Fo.roots,Fo.flat,Fo.froms,Fo.tos,List.append_nil] at k
  rw [addKs_nil T me (by rw [hC.t];exact hC.last.1)] at k
  exact k
 | cons a b c d ks r ih1 ih2 =>
  intro p q e dep tl hp hq he h ho ht T F To O me R hC k
  have hk:=fwd_look (tl:=tl) hl hs h hp hq he ho (by rw [Fo.size] at ht;omega)
  obtain ⟨g1,g2,g3,g4⟩:=seg_cons h (by omega) hp
  have hpos:=Fo.hd_pos a b c d ks
  have hsz:(Fo.cons a b c d ks .nil).size=1+ks.size:=rfl
  rw [Fo.size] at ht
  obtain ⟨⟨a0,a1,b0,b1⟩,o1,o2,o3,o4,o5,o6,o7,o8⟩:=ho
  have hlen1:=Fo.enc_cons a b c d ks .nil
  have hz:Fo.nil.enc.length=0:=rfl
  have hnx:=hC.next (Fo.cons a b c d ks .nil) p (by omega) (by omega)
  rw [hsz] at hnx
  have hlast:=hC.last
  have rest:Ev (fun k=>tlv_reader_read.j3 k ((p+Fo.hd a b c d ks+(d++ks.enc).length:Nat):Int) 0 (strOfNums l) (upd T (O++[me])++(Fo.cons a b c d ks .nil).flat tl) (spl (F++(Fo.cons a b c d ks .nil).froms p) (To++(Fo.cons a b c d ks .nil).tos p)) (iz (O++[me]))) R:=by
   refine ih2 _ q e dep _ (by omega) hq he g4 o8 (by omega) _ _ _ O me R hnx ?_
   rw [upd_snoc,hC.t,addKs_app _ _ _ _ (by rw [addKs_len,hC.t];exact hlast.1),addKs_two _ _ _ _ (by rw [hC.t];exact hlast.1)]
   have e2:tl+(1+ks.size)=tl+1+ks.size:=by omega
   simp only [Fo.flat,Fo.froms,Fo.tos,Fo.roots,List.append_nil,List.append_assoc,List.cons_append,List.nil_append,List.singleton_append,e2] at k ⊢
   exact k
  refine tlv_next l hs T F To (O++[me]) tl hC.sp hC.o (by have:=hC.d;omega) (p:Int) (by simp) (by rw [hC.e];omega) (hk.prog T F To (O++[me]) R hC ?_)
  cases c with
  | false =>
   rw [if_neg (by decide)]
   rw [g3]
   obtain rfl:=o6 rfl
   simpa only [Fo.flat,Fo.froms,Fo.tos,Fo.roots,Fo.enc,List.append_nil,List.nil_append] using rest
  | true =>
   rw [if_pos rfl]
   obtain rfl:=o5 rfl
   have hin:=hC.inner a b true ⟨#[]⟩ p (p+Fo.hd a b true [] ks+([]++ks.enc).length) (by omega) (by omega)
   refine ih1 _ _ _ (dep+1) (tl+1) (by omega) (Nat.le_refl _) (by omega) g3 o7 (by omega) _ _ _ (O++[me]) tl R hin ?_
   have hin2:=hin.sp
   have e5:addKs (upd T (O++[me])++[nd a b true ⟨#[]⟩ []]) tl (ks.roots (tl+1))++ks.flat (tl+1)=upd T (O++[me])++(Fo.cons a b true [] ks .nil).flat tl:=by
    rw [addKs_end (upd T (O++[me])) _ [] _ tl (by rw [upd_length,hC.t])]
    simp only [Fo.flat,List.append_nil,List.append_assoc,List.singleton_append]
    rfl
   have e6:F++[(p:Int)]++ks.froms (p+Fo.hd a b true [] ks)=F++(Fo.cons a b true [] ks .nil).froms p:=by
    simp only [Fo.froms,List.append_nil,List.append_assoc,List.singleton_append]
   have e7:To++[((p+Fo.hd a b true [] ks+([]++ks.enc).length:Nat):Int)]++ks.tos (p+Fo.hd a b true [] ks)=To++(Fo.cons a b true [] ks .nil).tos p:=by
    simp only [Fo.tos,List.append_nil,List.append_assoc,List.singleton_append]
   rw [e5,e6,e7]
   refine tlv_pop l hs _ _ _ (O++[me]) tl _ hnx.sp hnx.o (by have:=hC.d;omega) (by omega) _ ?_ rest
   rw [← e7,List.append_assoc,List.singleton_append]
   have:=getD_app_at To (ks.tos (p+Fo.hd a b true [] ks)) ((p+Fo.hd a b true [] ks+([]++ks.enc).length:Nat):Int) 0
   rw [hC.sp.t] at this
   exact this
theorem dec_enc (l:List Int) (hl:OkB l) (hs:l.length≤65535) (a b:Int) (c:Bool) (d:List Int) (ks:Fo) (he:l=(Fo.cons a b c d ks .nil).enc) (ho:(Fo.cons a b c d ks .nil).Ok 0) (hz:(Fo.cons a b c d ks .nil).size≤1000):Ev (fun k=>tlv_Decode.f k (strOfNums l)) ((Fo.cons a b c d ks .nil).flat 0,0,0)∧Ev (fun k=>cr19_Decode.f k (strOfNums l)) ((Fo.cons a b c d ks .nil).flat 0,0,0):=by
 have hseg:seg l 0 l.length=(Fo.cons a b c d ks .nil).enc:=by rw [seg,List.drop_zero,Nat.sub_zero,List.take_length,← he]
 have hk:=fwd_look (tl:=0) hl hs hseg (Nat.zero_le _) (Nat.le_refl _) (Nat.le_refl _) ho (by omega)
 obtain ⟨g1,g2,g3,g4⟩:=seg_cons hseg (Nat.le_refl _) (Nat.zero_le _)
 have hpos:=Fo.hd_pos a b c d ks
 have hn0:(Fo.nil.enc).length=0:=rfl
 have h0:l≠[]:=fun h=>by rw [h] at g1;simp at g1;omega
 have hpos':0 < l.length:=List.length_pos_iff.2 h0
 have hC:Cond l [] [] [] [] l.length 0 0:=⟨rfl,sp_nil l,fun o h=>(by cases h),fun x h=>(by cases h),rfl,rfl⟩
 obtain ⟨⟨a0,a1,b0,b1⟩,o1,o2,o3,o4,o5,o6,o7,o8⟩:=ho
 have hlen:=Fo.enc_cons a b c d ks .nil
 have hsp:=Fo.sp_app l (Fo.cons a b c d ks .nil) [] [] 0 0 (sp_nil l) (by rw [← he];omega)
 rw [Nat.zero_add,List.nil_append,List.nil_append] at hsp
 have hdone:=tlv_done l hs ((Fo.cons a b c d ks .nil).flat 0) ((Fo.cons a b c d ks .nil).froms 0) ((Fo.cons a b c d ks .nil).tos 0) _ hsp l.length (Nat.le_refl _)
 rw [if_neg (Nat.lt_irrefl _)] at hdone
 have e1:0+Fo.hd a b c d ks+(d++ks.enc).length=l.length:=by omega
 have hr:Ev (fun k=>tlv_reader_read.g0_1 k 0 (strOfNums l) [] [] []) (0,0,strOfNums l,(Fo.cons a b c d ks .nil).flat 0,spl ((Fo.cons a b c d ks .nil).froms 0) ((Fo.cons a b c d ks .nil).tos 0),[]):=by
  refine hk.prog [] [] [] [] _ hC ?_
  cases c with
  | false =>
   rw [if_neg (by decide),g3]
   obtain rfl:=o6 rfl
   rw [e1]
   have e2:Fo.hd a b false d .nil+d.length=l.length:=by
    have:=e1
    rw [show Fo.nil.enc=[] from rfl,List.append_nil] at this
    omega
   have hu:upd ([]:List Nd) []=[]:=rfl
   simpa only [Fo.flat,Fo.froms,Fo.tos,Fo.roots,Fo.enc,List.append_nil,List.nil_append,Nat.zero_add,e2,hu] using hdone
  | true =>
   rw [if_pos rfl]
   obtain rfl:=o5 rfl
   have hin:=hC.inner a b true ⟨#[]⟩ 0 (0+Fo.hd a b true [] ks+([]++ks.enc).length) (by omega) (by omega)
   rw [Fo.size] at hz
   refine fwd_kids l hl hs ks _ _ _ 1 1 (by omega) (Nat.le_refl _) (by omega) g3 o7 (by omega) _ _ _ [] 0 _ hin ?_
   have e5:addKs (upd [] []++[nd a b true ⟨#[]⟩ []]) 0 (ks.roots 1)++ks.flat 1=(Fo.cons a b true [] ks .nil).flat 0:=by
    have:=addKs_end [] (nd a b true ⟨#[]⟩ []) [] (ks.roots 1) 0 rfl
    show addKs ([]++[nd a b true ⟨#[]⟩ []]) 0 (ks.roots 1)++ks.flat 1=_
    rw [this]
    simp only [Fo.flat,List.append_nil,Nat.zero_add]
    rfl
   have e6:[]++[((0:Nat):Int)]++ks.froms (0+Fo.hd a b true [] ks)=(Fo.cons a b true [] ks .nil).froms 0:=by
    simp only [Fo.froms,List.append_nil,List.nil_append,List.singleton_append]
   have e7:[]++[((0+Fo.hd a b true [] ks+([]++ks.enc).length:Nat):Int)]++ks.tos (0+Fo.hd a b true [] ks)=(Fo.cons a b true [] ks .nil).tos 0:=by
    simp only [Fo.tos,List.append_nil,List.nil_append,List.singleton_append]
   rw [e5,e6,e7]
   refine tlv_pop l hs _ _ _ [] 0 _ hsp (fun o h=>(by cases h)) (by decide) (by rw [Fo.size];omega) _ ?_ ?_
   ·rw [← e7];rfl
   ·rw [e1];exact hdone
 have r:=tread_is l h0 hs hr
 have hp:Ev (fun k=>tlv_Decode.f k (strOfNums l)) ((Fo.cons a b c d ks .nil).flat 0,0,0):=Ev.congr (fun k=>by rw [tlv_Decode.f]) (Ev.bind r (Ev.ifp rfl (Ev.now _)))
 refine ⟨hp,?_⟩
 cases dec_is l hl hs with
 | bad code q hc hq p1 p2 p3 p4 =>
  have:=hp.det p1
  exact absurd (congrArg (fun z=>z.2.1) this).symm hc
 | ok a' b' c' d' ks' he' ho' hz' p1 p2 p3 p4 =>
  have:=hp.det p1
  rw [this]
  exact p2
theorem mn_lt0 {a b:Int}:mn a b < 0↔a < 0∨b < 0:=by unfold mn;split<;>omega
theorem one_key (x:S52) (hs:x.f3.size≤2000):∃ b,Ev (fun k=>tree_one.f k x.f0 x.f1 x.f2 x.f3 x.f4) b∧Ev (fun k=>cr20_one.f k x.f0 x.f1 x.f2 x.f3 x.f4) b∧(b=true→(0≤x.f0∧x.f0≤3∧0≤x.f1∧x.f1≤2097151)∧(x.f2=true→x.f3.toList=[])∧(x.f2=false→x.f4=[])∧(x.f0=0→(x.f2=true→x.f1=16∨x.f1=17)∧(x.f2=false→Ev (fun k=>strs_Right.f k x.f1 x.f3) true∧Ev (fun k=>cr18_Right.f k x.f1 x.f3) true))):=by
 obtain ⟨a,b,c,d,e⟩:=x
 obtain ⟨l,hl,rfl⟩:=str_nums d
 rw [show (⟨a,b,c,strOfNums l,e⟩:S52).f3.size=l.length from strOfNums_size l] at hs
 dsimp only
 obtain ⟨t,t1,t2⟩:=strs_right_key b l hl (by omega)
 have hno1:Ev (fun k=>tree_one.j0 k true a b c (strOfNums l) e) false:=by
  refine Ev.step (fun k=>by rw [tree_one.j0]) ?_
  exact Ev.ifp rfl (Ev.now _)
 have hno2:Ev (fun k=>cr20_one.j0 k true a b c (strOfNums l) e) false:=by
  refine Ev.step (fun k=>by rw [cr20_one.j0]) ?_
  exact Ev.ifp rfl (Ev.now _)
 by_cases hb:0≤a∧a≤3∧0≤b∧b≤2097151
 case neg =>
  refine ⟨false,?_,?_,fun h=>by cases h⟩
  ·refine Ev.congr (fun k=>by rw [tree_one.f]) ?_
   by_cases h1:mn a b < 0
   ·exact Ev.ifp h1 hno1
   refine Ev.ifn h1 ?_
   rw [mn_lt0] at h1
   by_cases h2:a > 3
   ·exact Ev.ifp h2 hno1
   refine Ev.ifn h2 ?_
   rw [decide_eq_true (by omega)]
   exact hno1
  ·refine Ev.congr (fun k=>by rw [cr20_one.f]) ?_
   by_cases h1:a < 0
   ·exact Ev.ifp h1 hno2
   refine Ev.ifn h1 ?_
   by_cases h2:a > 3
   ·exact Ev.ifp h2 hno2
   refine Ev.ifn h2 ?_
   by_cases h3:b < 0
   ·exact Ev.ifp h3 hno2
   refine Ev.ifn h3 ?_
   rw [decide_eq_true (by omega)]
   exact hno2
 have s1:∀ {r},Ev (fun k=>tree_one.j0 k false a b c (strOfNums l) e) r→Ev (fun k=>tree_one.f k a b c (strOfNums l) e) r:=by
  intro r h
  refine Ev.congr (fun k=>by rw [tree_one.f]) ?_
  refine Ev.ifn (by rw [mn_lt0];omega) (Ev.ifn (by omega) ?_)
  rw [decide_eq_false (by omega)]
  exact h
 have s2:∀ {r},Ev (fun k=>cr20_one.j0 k false a b c (strOfNums l) e) r→Ev (fun k=>cr20_one.f k a b c (strOfNums l) e) r:=by
  intro r h
  refine Ev.congr (fun k=>by rw [cr20_one.f]) ?_
  refine Ev.ifn (by omega) (Ev.ifn (by omega) (Ev.ifn (by omega) ?_))
  rw [decide_eq_false (by omega)]
  exact h
 have e1:∀ k,tree_one.j0 (k+1) false a b c (strOfNums l) e=_:=fun k=>by rw [tree_one.j0]
 have e2:∀ k,cr20_one.j0 (k+1) false a b c (strOfNums l) e=_:=fun k=>by rw [cr20_one.j0]
 cases c with
 | true =>
  by_cases hd:(strOfNums l).toList=[]
  case neg=>exact ⟨false,s1 (Ev.step e1 (Ev.ifn (by simp) (Ev.ifp rfl (Ev.ifn hd (Ev.now _))))),s2 (Ev.step e2 (Ev.ifn (by simp) (Ev.ifp rfl (Ev.ifn hd (Ev.now _))))),fun h=>by cases h⟩
  by_cases h0:a=0
  case neg=>exact ⟨true,s1 (Ev.step e1 (Ev.ifn (by simp) (Ev.ifp rfl (Ev.ifp hd (Ev.ifn h0 (Ev.now _)))))),s2 (Ev.step e2 (Ev.ifn (by simp) (Ev.ifp rfl (Ev.ifp hd (Ev.ifn h0 (Ev.now _)))))),fun _=>⟨hb,fun _=>hd,(fun h=>by cases h),fun h=>absurd h h0⟩⟩
  by_cases h16:b=16
  ·exact ⟨true,s1 (Ev.step e1 (Ev.ifn (by simp) (Ev.ifp rfl (Ev.ifp hd (Ev.ifp h0 (Ev.ifp h16 (Ev.now _))))))),s2 (Ev.step e2 (Ev.ifn (by simp) (Ev.ifp rfl (Ev.ifp hd (Ev.ifp h0 (Ev.ifp h16 (Ev.now _))))))),fun _=>⟨hb,fun _=>hd,(fun h=>by cases h),fun _=>⟨fun _=>.inl h16,fun h=>by cases h⟩⟩⟩
  ·exact ⟨b == 17,s1 (Ev.step e1 (Ev.ifn (by simp) (Ev.ifp rfl (Ev.ifp hd (Ev.ifp h0 (Ev.ifn h16 (Ev.now _))))))),s2 (Ev.step e2 (Ev.ifn (by simp) (Ev.ifp rfl (Ev.ifp hd (Ev.ifp h0 (Ev.ifn h16 (Ev.now _))))))),fun h=>⟨hb,fun _=>hd,(fun h=>by cases h),fun _=>⟨fun _=>.inr (eq_of_beq h),fun h=>by cases h⟩⟩⟩
 | false =>
  by_cases he:(e.length:Int)=0
  case neg=>exact ⟨false,s1 (Ev.step e1 (Ev.ifn (by simp) (Ev.ifn (by simp) (Ev.ifn he (Ev.now _))))),s2 (Ev.step e2 (Ev.ifn (by simp) (Ev.ifn (by simp) (Ev.ifn he (Ev.now _))))),fun h=>by cases h⟩
  have hee:e=[]:=List.eq_nil_of_length_eq_zero (by omega)
  by_cases h0:a=0
  ·exact ⟨t,s1 (Ev.step e1 (Ev.ifn (by simp) (Ev.ifn (by simp) (Ev.ifp he (Ev.ifp h0 (Ev.bind t1 (Ev.now _))))))),s2 (Ev.step e2 (Ev.ifn (by simp) (Ev.ifn (by simp) (Ev.ifp he (Ev.ifp h0 (Ev.bind t2 (Ev.now _))))))),fun ht=>⟨hb,(fun h=>by cases h),(fun _=>hee),fun _=>⟨(fun h=>by cases h),fun _=>by subst ht;exact ⟨t1,t2⟩⟩⟩⟩
  ·exact ⟨true,s1 (Ev.step e1 (Ev.ifn (by simp) (Ev.ifn (by simp) (Ev.ifp he (Ev.ifn h0 (Ev.now _)))))),s2 (Ev.step e2 (Ev.ifn (by simp) (Ev.ifn (by simp) (Ev.ifp he (Ev.ifn h0 (Ev.now _)))))),fun _=>⟨hb,(fun h=>by cases h),(fun _=>hee),fun h=>absurd h h0⟩⟩
def kidsOf (t:List S52) (n:Nat):List Int:=(rd_T52 t (n:Int)).f4
inductive Ch (ob:S52→Bool) (t:List S52):List Int→Nat→Nat→Nat→Prop where
 | nil (n:Nat):Ch ob t [] n n 0
 | cons {k:Int} {ks:List Int} {n m j h1 h2:Nat} (hk:k=(n:Int)) (hn:n < t.length) (ho:ob (rd_T52 t (n:Int))=true) (h:Ch ob t (kidsOf t n) (n+1) m h1) (hs:Ch ob t ks m j h2):Ch ob t (k :: ks) n j (max (h1+1) h2)
theorem Ch.le {ob:S52→Bool} {t:List S52} {ks:List Int} {n j h:Nat} (c:Ch ob t ks n j h):n≤j∧(n≤t.length→j≤t.length):=by
 induction c with
 | nil n=>exact ⟨Nat.le_refl _,id⟩
 | cons hk hn ho h hs ih1 ih2=>exact ⟨by omega,fun _=>ih2.2 (ih1.2 (by omega))⟩
theorem Ch.det {ob:S52→Bool} {t:List S52} {ks:List Int} {n j h:Nat} (c:Ch ob t ks n j h):∀ {j' h':Nat},Ch ob t ks n j' h'→j=j'∧h=h':=by
 induction c with
 | nil n=>intro j' h' c';cases c';exact ⟨rfl,rfl⟩
 | cons hk hn ho h hs ih1 ih2 =>
  intro j' h' c'
  cases c' with
  | cons _ _ _ g gs =>
   obtain ⟨rfl,rfl⟩:=ih1 g
   obtain ⟨rfl,rfl⟩:=ih2 gs
   exact ⟨rfl,rfl⟩
def RT (ob:S52→Bool) (t:List S52) (h:Nat):Prop:=0 < t.length∧t.length≤1000∧ob (rd_T52 t 0)=true∧Ch ob t (kidsOf t 0) 1 t.length h∧h+1≤16
theorem rd_last {α:Type} (s:List α) (x d:α):(s++[x]).getD s.length d=x:=by simp [List.getD_eq_getElem?_getD]
theorem behind_is (ob:S52→Bool) (t:List S52) (hN:t.length≤1000) (hk:∀ n,n < t.length→(kidsOf t n).length≤100000)
 (hob:∀ n,n < t.length→Ev (fun k=>cr20_one.f k (rd_T52 t (n:Int)).f0 (rd_T52 t (n:Int)).f1 (rd_T52 t (n:Int)).f2 (rd_T52 t (n:Int)).f3 (rd_T52 t (n:Int)).f4) (ob (rd_T52 t (n:Int)))) :
 ∀ (d deep i:Nat),17 - deep≤d→deep≤17→i≤t.length→∃ r:Int,Ev (fun k=>cr20_behind.f k t (i:Int) (deep:Int)) r ∧
  ((r = -1∧¬ ∃ j h,i < t.length∧ob (rd_T52 t (i:Int))=true∧Ch ob t (kidsOf t i) (i+1) j h∧deep+h≤16)∨∃ j h:Nat,r=(j:Int)∧i < t.length∧ob (rd_T52 t (i:Int))=true∧Ch ob t (kidsOf t i) (i+1) j h∧deep+h≤16):=by
 intro d
 induction d with
 | zero =>
  intro deep i hd h17 hi
  have hno:Ev (fun k=>cr20_behind.j0 k t (i:Int) (deep:Int) true) (-1):=by
   refine Ev.step (fun k=>by rw [cr20_behind.j0]) ?_
   exact Ev.ifp rfl (Ev.now _)
  refine ⟨-1,?_,Or.inl ⟨rfl,fun ⟨j,h,_,_,_,hh⟩=>by omega⟩⟩
  refine Ev.step (fun k=>by rw [cr20_behind.f]) ?_
  by_cases g:(i:Int)≥(t.length:Int)
  ·exact Ev.ifp g hno
  ·exact Ev.ifn g (Ev.ifp (by omega) hno)
 | succ d ih =>
  intro deep i hd h17 hi
  have hno:Ev (fun k=>cr20_behind.j0 k t (i:Int) (deep:Int) true) (-1):=by
   refine Ev.step (fun k=>by rw [cr20_behind.j0]) ?_
   exact Ev.ifp rfl (Ev.now _)
  by_cases g:(i:Int)≥(t.length:Int)
  ·refine ⟨-1,?_,Or.inl ⟨rfl,fun ⟨j,h,hh,_⟩=>by omega⟩⟩
   refine Ev.step (fun k=>by rw [cr20_behind.f]) ?_
   exact Ev.ifp g hno
  by_cases g2:(deep:Int) > 16
  ·refine ⟨-1,?_,Or.inl ⟨rfl,fun ⟨j,h,_,_,_,hh⟩=>by omega⟩⟩
   refine Ev.step (fun k=>by rw [cr20_behind.f]) ?_
   exact Ev.ifn g (Ev.ifp g2 hno)
  have hiN:i < t.length:=by omega
  cases hb:ob (rd_T52 t (i:Int)) with
  | false =>
   refine ⟨-1,?_,Or.inl ⟨rfl,fun ⟨j,h,_,hh,_⟩=>by cases hh⟩⟩
   refine Ev.step (fun k=>by rw [cr20_behind.f]) ?_
   refine Ev.ifn g (Ev.ifn g2 (Ev.ifp (by omega) (Ev.ifp (by omega) (Ev.bind (hob i hiN) ?_))))
   rw [hb]
   exact hno
  | true =>
   have loop:∀ (ks:List Int) (p n:Nat),(kidsOf t i).drop p=ks→p≤(kidsOf t i).length→n≤t.length→∃ r:Int,Ev (fun k=>cr20_behind.l0 k t (i:Int) (deep:Int) (n:Int) (p:Int)) r ∧
    ((r = -1∧¬ ∃ j h,Ch ob t ks n j h∧deep+h≤16)∨∃ j h:Nat,r=(j:Int)∧Ch ob t ks n j h∧deep+h≤16):=by
    intro ks
    induction ks with
    | nil =>
     intro p n hp hpl hn
     have hpe:p=(kidsOf t i).length:=by
      have:=congrArg List.length hp
      simp at this
      omega
     refine ⟨(n:Int),?_,Or.inr ⟨n,0,rfl,Ch.nil n,by omega⟩⟩
     refine Ev.step (fun k=>by rw [cr20_behind.l0]) ?_
     refine Ev.ifp (by omega) (Ev.ifp (by omega) (Ev.ifn ?_ (Ev.now _)))
     show ¬ (p:Int) < ((kidsOf t i).length:Int)
     omega
    | cons k0 ks' ihk =>
     intro p n hp hpl hn
     have hpl2:p < (kidsOf t i).length:=by
      have:=congrArg List.length hp
      simp at this
      omega
     have hdrop:=List.drop_eq_getElem_cons hpl2
     rw [hp] at hdrop
     obtain ⟨hk0,hks⟩:=List.cons.inj hdrop
     have hkl:=hk i hiN
     have hrd:rd (rd_T52 t (i:Int)).f4 (p:Int)=k0:=by rw [hk0];exact rd_get p hpl2
     have step:∀ {r},Ev (fun k=>if rd (rd_T52 t (i:Int)).f4 (p:Int)=(n:Int) then ((cr20_behind.f k t (n:Int) (wrap64 ((deep:Int)+1))).bind fun t380=>(if t380 < 0 then (some (-1)) else (cr20_behind.l0 k t (i:Int) (deep:Int) t380 (wrap64 ((p:Int)+1))))) else some (-1)) r→Ev (fun k=>cr20_behind.l0 k t (i:Int) (deep:Int) (n:Int) (p:Int)) r:=by
      intro r h
      refine Ev.step (fun k=>by rw [cr20_behind.l0]) ?_
      refine Ev.ifp (by omega) (Ev.ifp (by omega) (Ev.ifp ?_ (Ev.ifp (by omega) h)))
      show (p:Int) < ((kidsOf t i).length:Int)
      omega
     rw [hrd,w64 (x:=(deep:Int)+1) (by omega) (by omega),w64 (x:=(p:Int)+1) (by omega) (by omega)] at step
     by_cases hkn:k0=(n:Int)
     case neg=>exact ⟨-1,step (Ev.ifn hkn (Ev.now _)),Or.inl ⟨rfl,fun ⟨j,h,c,_⟩=>by cases c;contradiction⟩⟩
     obtain ⟨r1,hr1,hc1⟩:=ih (deep+1) n (by omega) (by omega) hn
     rw [show ((deep+1:Nat):Int)=(deep:Int)+1 by omega] at hr1
     rcases hc1 with ⟨rfl,hnot⟩ | ⟨j1,h1,rfl,hnN,hob1,c1,hd1⟩
     ·refine ⟨-1,step (Ev.ifp hkn (Ev.bind hr1 (Ev.ifp (by decide) (Ev.now _)))),Or.inl ⟨rfl,fun ⟨j,h,c,hh⟩=>hnot ?_⟩⟩
      cases c with
      | cons _ hn' ho' g gs=>exact ⟨_,_,hn',ho',g,by omega⟩
     ·have hle:=c1.le
      obtain ⟨r2,hr2,hc2⟩:=ihk (p+1) j1 hks.symm (by omega) (hle.2 (by omega))
      rw [show ((p+1:Nat):Int)=(p:Int)+1 by omega] at hr2
      refine ⟨r2,step (Ev.ifp hkn (Ev.bind hr1 (Ev.ifn (by omega) hr2))),?_⟩
      rcases hc2 with ⟨rfl,hnot⟩ | ⟨j,h,rfl,c,hh⟩
      ·refine Or.inl ⟨rfl,fun ⟨j,h,c,hh⟩=>hnot ?_⟩
       cases c with
       | cons _ hn' ho' g gs =>
        obtain ⟨rfl,rfl⟩:=c1.det g
        exact ⟨_,_,gs,by omega⟩
      ·exact Or.inr ⟨j,_,rfl,Ch.cons hkn hnN hob1 c1 c,by omega⟩
   obtain ⟨r,hr,hc⟩:=loop _ 0 (i+1) rfl (by omega) (by omega)
   refine ⟨r,?_,?_⟩
   ·refine Ev.step (fun k=>by rw [cr20_behind.f]) ?_
    refine Ev.ifn g (Ev.ifn g2 (Ev.ifp (by omega) (Ev.ifp (by omega) (Ev.bind (hob i hiN) ?_))))
    rw [hb]
    refine Ev.step (fun k=>by rw [cr20_behind.j0]) ?_
    rw [w64 (by omega) (by omega)]
    exact Ev.ifn (by simp) hr
   ·rw [List.drop_zero] at hc
    rcases hc with ⟨rfl,hnot⟩ | ⟨j,h,rfl,c,hh⟩
    ·exact Or.inl ⟨rfl,fun ⟨j,h,_,_,c,hh⟩=>hnot ⟨j,h,c,hh⟩⟩
    ·exact Or.inr ⟨j,h,rfl,hiN,rfl,c,hh⟩
theorem ref_right_is (ob:S52→Bool) (t:List S52) (hk:∀ n,n < t.length→(kidsOf t n).length≤100000)
 (hob:∀ n,n < t.length→Ev (fun k=>cr20_one.f k (rd_T52 t (n:Int)).f0 (rd_T52 t (n:Int)).f1 (rd_T52 t (n:Int)).f2 (rd_T52 t (n:Int)).f3 (rd_T52 t (n:Int)).f4) (ob (rd_T52 t (n:Int)))) :
 ∃ b,Ev (fun k=>cr20_Right.f k t) b∧(b=true↔∃ h,RT ob t h):=by
 by_cases h0:(t.length:Int) > 0
 case neg =>
  refine ⟨false,?_,by simp;intro h hh;have:=hh.1;omega⟩
  refine Ev.congr (fun k=>by rw [cr20_Right.f]) ?_
  exact Ev.ifn h0 (Ev.now _)
 by_cases h1:(t.length:Int)≤1000
 case neg =>
  refine ⟨false,?_,by simp;intro h hh;have:=hh.2.1;omega⟩
  refine Ev.congr (fun k=>by rw [cr20_Right.f]) ?_
  exact Ev.ifp h0 (Ev.ifn h1 (Ev.now _))
 obtain ⟨r,hr,hc⟩:=behind_is ob t (by omega) hk hob 16 1 0 (by omega) (by omega) (by omega)
 refine ⟨r == (t.length:Int),?_,?_⟩
 ·refine Ev.congr (fun k=>by rw [cr20_Right.f]) ?_
  exact Ev.ifp h0 (Ev.ifp h1 (Ev.bind hr (Ev.now _)))
 ·rw [beq_iff_eq]
  rcases hc with ⟨rfl,hnot⟩ | ⟨j,h,rfl,hi,ho,c,hh⟩
  ·exact ⟨fun h=>by omega,fun ⟨h,a1,a2,a3,a4,a5⟩=>absurd ⟨_,h,a1,a3,a4,by omega⟩ hnot⟩
  ·constructor
   ·intro e
    obtain rfl:j=t.length:=by omega
    exact ⟨h,hi,by omega,ho,c,by omega⟩
   ·rintro ⟨h',a1,a2,a3,a4,a5⟩
    rw [(c.det a4).1]
theorem fr_last (s:List S107) (x:S107) (i:Int) (h:i=(s.length:Int)):rd_T107 (s++[x]) i=x:=by
 subst h
 unfold rd_T107
 rw [Int.toNat_natCast]
 exact rd_last _ _ _
def Done (t:List S52) (l:List S107):Prop:=∀ f∈l,∃ p:Nat,p < t.length∧f=⟨(p:Int),((kidsOf t p).length:Int)⟩
theorem pops (t:List S52) (hN:t.length≤1000) (s:List S107) (hs:s.length≤100000) (most i:Int) (r:Int):∀ (n:Nat) (l:List S107),l.length=n→l.length≤100000→Done t l →
 Ev (fun k=>tree_depth.l1 k t s most i t (t.length:Int) i) r→Ev (fun k=>tree_depth.l1 k t (s++l) most i t (t.length:Int) i) r:=by
 intro n
 induction n with
 | zero =>
  intro l hl _ _ h
  obtain rfl:=List.eq_nil_of_length_eq_zero hl
  rw [List.append_nil]
  exact h
 | succ n ih =>
  intro l hl h5 hd h
  obtain ⟨q,x,rfl⟩:∃ q x,l=q++[x]:=⟨l.dropLast,l.getLast (by intro e;subst e;simp at hl),(List.dropLast_concat_getLast _).symm⟩
  simp at hl h5
  have h2:=ih q hl (by omega) (fun f hf=>hd f (by simp [hf])) h
  obtain ⟨p,hp,rfl⟩:=hd x (by simp)
  have hlen:((s++(q++[(⟨(p:Int),((kidsOf t p).length:Int)⟩:S107)])).length:Int)=(s++q).length+1:=by simp;omega
  refine Ev.step (fun k=>by rw [tree_depth.l1]) ?_
  have hsq:(s++q).length≤200000:=by simp;omega
  rw [hlen,w64 (by omega) (by omega),show ((s++q).length:Int)+1 - 1=((s++q).length:Int) by omega,← List.append_assoc,fr_last (s++q) _ _ rfl]
  refine Ev.ifp (by omega) (Ev.ifp (by omega) (Ev.ifp (by omega) (Ev.ifp (by simp) (Ev.ifp (by simp;omega) (Ev.ifp rfl (Ev.ifp (by omega) ?_))))))
  rw [Int.toNat_natCast,List.take_left]
  exact h2
theorem l2_all (t:List S52) (most:Int) (x:List S107) (hx:x.length≤100000) (hd:Done t x) (d:Nat):∀ i:Nat,i≤x.length→x.length - i=d →
 Ev (fun k=>tree_depth.l2 k t x most (x.length:Int) (i:Int)) (if most > 16 then 0 else most):=by
 induction d with
 | zero =>
  intro i hi hdd
  refine Ev.step (fun k=>by rw [tree_depth.l2]) ?_
  refine Ev.ifn (by omega) ?_
  exact Ev.ite (fun _=>Ev.now _) (fun _=>Ev.now _)
 | succ d ih =>
  intro i hi hdd
  have hlt:i < x.length:=by omega
  obtain ⟨p,hp,hf⟩:=hd x[i] (List.getElem_mem hlt)
  have hr:rd_T107 x (i:Int)=x[i]:=by unfold rd_T107;simp [List.getD_eq_getElem?_getD,hlt]
  refine Ev.step (fun k=>by rw [tree_depth.l2]) ?_
  rw [hr,hf,w64 (by omega) (by omega),show (i:Int)+1=((i+1:Nat):Int) by omega]
  exact Ev.ifp (by omega) (Ev.ifp (by omega) (Ev.ifp (by omega) (Ev.ifp (by simp) (Ev.ifp (by simp;omega) (Ev.ifp rfl (ih (i+1) (by omega) (by omega)))))))
theorem l2_not (t:List S52) (most:Int) (x:List S107) (hx:x.length≤100000) (hw:∀ f∈x,0≤f.f0∧f.f0 < (t.length:Int)) (j:Nat) (hj:j < x.length) (hn:x[j].f1≠((rd_T52 t x[j].f0).f4.length:Int)) (d:Nat):∀ i:Nat,i≤j→j - i=d →
 Ev (fun k=>tree_depth.l2 k t x most (x.length:Int) (i:Int)) 0:=by
 induction d with
 | zero =>
  intro i hi hdd
  obtain rfl:i=j:=by omega
  have hr:rd_T107 x (i:Int)=x[i]:=by unfold rd_T107;simp [List.getD_eq_getElem?_getD,hj]
  have hwf:=hw x[i] (List.getElem_mem hj)
  refine Ev.step (fun k=>by rw [tree_depth.l2]) ?_
  rw [hr]
  exact Ev.ifp (by omega) (Ev.ifp (by omega) (Ev.ifp (by omega) (Ev.ifp hwf.1 (Ev.ifp hwf.2 (Ev.ifn hn (Ev.now _))))))
 | succ d ih =>
  intro i hi hdd
  have hlt:i < x.length:=by omega
  have hr:rd_T107 x (i:Int)=x[i]:=by unfold rd_T107;simp [List.getD_eq_getElem?_getD,hlt]
  have hwf:=hw x[i] (List.getElem_mem hlt)
  refine Ev.step (fun k=>by rw [tree_depth.l2]) ?_
  rw [hr,w64 (by omega) (by omega),show (i:Int)+1=((i+1:Nat):Int) by omega]
  refine Ev.ifp (by omega) (Ev.ifp (by omega) (Ev.ifp (by omega) (Ev.ifp hwf.1 (Ev.ifp hwf.2 ?_))))
  by_cases hc:x[i].f1=((rd_T52 t x[i].f0).f4.length:Int)
  ·exact Ev.ifp hc (ih (i+1) (by omega) (by omega))
  ·exact Ev.ifn hc (Ev.now _)
theorem Ev.uniq {α:Type} {g:Nat→Option α} {r s:α} (h:Ev g r) (h':Ev g s):r=s:=by
 obtain ⟨a,ha⟩:=h
 obtain ⟨b,hb⟩:=h'
 exact Option.some.inj ((ha (max a b) (Nat.le_max_left _ _)).symm.trans (hb (max a b) (Nat.le_max_right _ _)))
def ObT (ob:S52→Bool) (t:List S52):Prop:=∀ n,n < t.length→Ev (fun k=>tree_one.f k (rd_T52 t (n:Int)).f0 (rd_T52 t (n:Int)).f1 (rd_T52 t (n:Int)).f2 (rd_T52 t (n:Int)).f3 (rd_T52 t (n:Int)).f4) (ob (rd_T52 t (n:Int)))
theorem dp_step (ob:S52→Bool) (t:List S52) (hob:ObT ob t) (x:List S107) (most:Int) (n:Nat) (hn:n < t.length) (ho:ob (rd_T52 t (n:Int))=true) {r:Int}
 (h:Ev (fun k=>tree_depth.l1 k t x most (n:Int) t (t.length:Int) (n:Int)) r):Ev (fun k=>tree_depth.l0 k t x most t (t.length:Int) (n:Int)) r:=by
 refine Ev.step (fun k=>by rw [tree_depth.l0]) ?_
 refine Ev.ifp (by omega) (Ev.ifp (by omega) (Ev.ifp (by omega) (Ev.bind (hob n hn) ?_)))
 rw [ho]
 exact Ev.ifp rfl h
theorem set_last {α:Type} (s:List α) (x y:α) (i:Int) (h:i=(s.length:Int)):(s++[x]).set i.toNat y=s++[y]:=by
 subst h
 rw [Int.toNat_natCast]
 simp
theorem dp_top (t:List S52) (hN:t.length≤1000) (s:List S107) (hs:s.length≤2000) (p q n:Nat) (hp:p < t.length) (hq:q < (kidsOf t p).length) (hk:(kidsOf t p).length≤100000) (hn0:0 < n) (hn:n < t.length) (most:Int) {r:Int}
 (h:Ev (fun k=>if rd (kidsOf t p) (q:Int)=(n:Int) then tree_depth.l0 k t (s++[⟨(p:Int),((q+1:Nat):Int)⟩]++[⟨(n:Int),0⟩]) (mx most ((s.length+2:Nat):Int)) t (t.length:Int) ((n+1:Nat):Int) else some 0) r) :
 Ev (fun k=>tree_depth.l1 k t (s++[⟨(p:Int),(q:Int)⟩]) most (n:Int) t (t.length:Int) (n:Int)) r:=by
 have hlen:((s++[(⟨(p:Int),(q:Int)⟩:S107)]).length:Int)=(s.length:Int)+1:=by simp
 have hlen2:∀ y:S107,((s++[y]).length:Int)=(s.length:Int)+1:=by intro y;simp
 refine Ev.step (fun k=>by rw [tree_depth.l1]) ?_
 rw [hlen,w64 (by omega) (by omega),show (s.length:Int)+1 - 1=(s.length:Int) by omega,fr_last s _ _ rfl]
 refine Ev.ifp (by omega) (Ev.ifp (by omega) (Ev.ifp (by omega) (Ev.ifp (by simp) (Ev.ifp (by simp;omega) (Ev.ifn ?_ ?_)))))
 ·show ¬ (q:Int)=((kidsOf t p).length:Int)
  omega
 refine Ev.step (fun k=>by rw [tree_depth.j3]) ?_
 rw [hlen,w64 (by omega) (by omega),show (s.length:Int)+1 - 1=(s.length:Int) by omega,fr_last s _ _ rfl,set_last s _ _ _ rfl]
 refine Ev.ifp (by omega) (Ev.ifn (by omega) (Ev.ifp (by omega) (Ev.ifp (by omega) (Ev.ifp (by simp) (Ev.ifp (by simp;omega) (Ev.ifp (by simp) (Ev.ifp ?_ ?_)))))))
 ·show (q:Int) < ((kidsOf t p).length:Int)
  omega
 refine (Ev.congr (fun k=>?_) h)
 show (if rd (kidsOf t p) (q:Int)=(n:Int) then _ else _)=_
 by_cases hv:rd (kidsOf t p) (q:Int)=(n:Int)
 ·rw [if_pos hv,if_pos hv,Option.bind_some,if_pos (by simp;omega),Option.bind_some]
  dsimp only
  rw [w64 (x:=(q:Int)+1) (by omega) (by omega),w64 (x:=(n:Int)+1) (by omega) (by omega)]
  rw [show ((s++[(⟨(p:Int),(q:Int)+1⟩:S107)]++[(⟨(n:Int),0⟩:S107)]).length:Int)=((s.length+2:Nat):Int) by simp]
  rfl
 ·rw [if_neg hv,if_neg hv]
theorem mx_nat (a b:Nat):mx (a:Int) (b:Int)=((max a b:Nat):Int):=by unfold mx;split<;>omega
theorem depth_fwd (ob:S52→Bool) (t:List S52) (hN:t.length≤1000) (hk:∀ n,n < t.length→(kidsOf t n).length≤100000) (hob:ObT ob t) {ks:List Int} {n j h:Nat} (c:Ch ob t ks n j h) :
 ∀ (s:List S107) (p q:Nat) (dn:List S107) (most:Nat),p < t.length→(kidsOf t p).drop q=ks→q≤(kidsOf t p).length→Done t dn→s.length+1+dn.length≤n→n≤t.length→s.length+1≤most →
 ∃ dn',Done t dn'∧s.length+1+dn'.length≤j∧∀ r,Ev (fun k=>tree_depth.l0 k t (s++([⟨(p:Int),((q+ks.length:Nat):Int)⟩]++dn')) ((max most (s.length+1+h):Nat):Int) t (t.length:Int) (j:Int)) r →
  Ev (fun k=>tree_depth.l0 k t (s++([⟨(p:Int),(q:Int)⟩]++dn)) (most:Int) t (t.length:Int) (n:Int)) r:=by
 induction c with
 | nil n =>
  intro s p q dn most hp hks hq hd hl hn hm
  refine ⟨dn,hd,hl,fun r hr=>?_⟩
  rw [show max most (s.length+1+0)=most by omega] at hr
  exact hr
 | @cons k ks n m j h1 h2 hkn hnN ho c1 c2 ih1 ih2 =>
  intro s p q dn most hp hks hq hd hl hn hm
  have hq2:q < (kidsOf t p).length:=by
   have:=congrArg List.length hks
   simp at this
   omega
  have hdrop:=List.drop_eq_getElem_cons hq2
  rw [hks] at hdrop
  obtain ⟨hk0,hks'⟩:=List.cons.inj hdrop
  have hv:rd (kidsOf t p) (q:Int)=(n:Int):=by rw [rd_get q hq2,← hk0,hkn]
  have le1:=c1.le
  obtain ⟨dn1,hd1,hl1,g1⟩:=ih1 (s++[⟨(p:Int),((q+1:Nat):Int)⟩]) n 0 [] (max most (s.length+2)) hnN rfl (by omega) (by intro f hf;cases hf) (by simp;omega) (by omega) (by simp;omega)
  simp only [List.length_append,List.length_cons,List.length_nil] at hl1 g1
  obtain ⟨dn2,hd2,hl2,g2⟩:=ih2 s p (q+1) ([⟨(n:Int),((kidsOf t n).length:Int)⟩]++dn1) (max (max most (s.length+2)) (s.length+(0+1)+1+h1)) hp hks'.symm (by omega)
   (by
    intro f hf
    rcases List.mem_append.1 hf with hf | hf
    ·exact ⟨n,hnN,by simpa using hf⟩
    ·exact hd1 f hf) (by simp;omega) (le1.2 (by omega)) (by omega)
  refine ⟨dn2,hd2,hl2,fun r hr=>?_⟩
  refine dp_step ob t hob _ _ n hnN ho ?_
  rw [← List.append_assoc]
  refine pops t hN _ (by simp;omega) _ _ _ _ dn rfl (by omega) hd ?_
  refine dp_top t hN s (by omega) p q n hp hq2 (hk p hp) (by omega) hnN _ ?_
  refine Ev.ifp hv ?_
  rw [mx_nat]
  have g3:=g1 r
  rw [List.append_nil] at g3
  refine g3 ?_
  rw [List.append_assoc,show 0+(kidsOf t n).length=(kidsOf t n).length by omega]
  refine g2 r ?_
  rw [show q+1+ks.length=q+(k :: ks).length by simp;omega,show max (max (max most (s.length+2)) (s.length+(0+1)+1+h1)) (s.length+1+h2)=max most (s.length+1+max (h1+1) h2) by omega]
  exact hr
def Shut (ob:S52→Bool) (t:List S52):List S107→Nat→Prop
 | [],n=>n=t.length
 | f :: rest,n=>∃ m h,Ch ob t ((kidsOf t f.f0.toNat).drop f.f1.toNat) n m h∧Shut ob t rest m
def FrOk (t:List S52) (x:List S107):Prop:=∀ f∈x,∃ p q:Nat,p < t.length∧q≤(kidsOf t p).length∧f=⟨(p:Int),(q:Int)⟩
theorem shut_done (ob:S52→Bool) (t:List S52) (y:List S107) (n:Nat) (h:Shut ob t y n):∀ l:List S107,Done t l→Shut ob t (l++y) n
 | [],_=>h
 | f :: l,hd=>by
  obtain ⟨p,hp,hf⟩:=hd f (by simp)
  refine ⟨n,0,?_,shut_done ob t y n h l (fun g hg=>hd g (by simp [hg]))⟩
  rw [hf]
  dsimp only
  rw [Int.toNat_natCast,Int.toNat_natCast,List.drop_length]
  exact Ch.nil n
theorem split_done (t:List S52):∀ (m:Nat) (x:List S107),x.length=m→FrOk t x→∃ y dn,x=y++dn∧Done t dn∧(y=[]∨∃ s,∃ p q:Nat,p < t.length∧q < (kidsOf t p).length∧y=s++[⟨(p:Int),(q:Int)⟩]):=by
 intro m
 induction m with
 | zero =>
  intro x hx _
  obtain rfl:=List.eq_nil_of_length_eq_zero hx
  exact ⟨[],[],rfl,(fun f hf=>by cases hf),Or.inl rfl⟩
 | succ m ih =>
  intro x hx hw
  obtain ⟨z,f,rfl⟩:∃ z f,x=z++[f]:=⟨x.dropLast,x.getLast (by intro e;subst e;simp at hx),(List.dropLast_concat_getLast _).symm⟩
  simp at hx
  obtain ⟨p,q,hp,hq,rfl⟩:=hw f (by simp)
  by_cases hqe:q=(kidsOf t p).length
  ·obtain ⟨y,dn,hy,hd,hc⟩:=ih z hx (fun g hg=>hw g (by simp [hg]))
   refine ⟨y,dn++[⟨(p:Int),(q:Int)⟩],by rw [hy,List.append_assoc],?_,hc⟩
   intro g hg
   rcases List.mem_append.1 hg with hg | hg
   ·exact hd g hg
   ·exact ⟨p,hp,by rw [← hqe];simpa using hg⟩
  ·exact ⟨z++[⟨(p:Int),(q:Int)⟩],[],by simp,(fun f hf=>by cases hf),Or.inr ⟨z,p,q,hp,by omega,rfl⟩⟩
theorem depth_neg (ob:S52→Bool) (t:List S52) (hN:t.length≤1000) (hk:∀ n,n < t.length→(kidsOf t n).length≤100000) (hob:ObT ob t) :
 ∀ (d n:Nat),t.length - n=d→0 < n→n≤t.length→∀ (x:List S107) (most:Int),FrOk t x→x.length≤n→∃ r,Ev (fun k=>tree_depth.l0 k t x most t (t.length:Int) (n:Int)) r∧(r=0∨Shut ob t x.reverse n):=by
 intro d
 induction d with
 | zero =>
  intro n hd h0 hn x most hw hx
  obtain rfl:n=t.length:=by omega
  have h1:∀ {r},Ev (fun k=>tree_depth.l2 k t x most (x.length:Int) ((0:Nat):Int)) r→Ev (fun k=>tree_depth.l0 k t x most t (t.length:Int) (t.length:Int)) r:=by
   intro r h
   refine Ev.step (fun k=>by rw [tree_depth.l0]) ?_
   exact Ev.ifn (by omega) h
  by_cases hdn:Done t x
  ·refine ⟨_,h1 (l2_all t most x (by omega) hdn x.length 0 (by omega) (by omega)),Or.inr ?_⟩
   have:=shut_done ob t [] t.length rfl x.reverse (fun f hf=>hdn f (by simpa using hf))
   rwa [List.append_nil] at this
  ·have:∃ f,f∈x∧¬ ∃ p:Nat,p < t.length∧f=⟨(p:Int),((kidsOf t p).length:Int)⟩:=by
    apply Classical.byContradiction
    intro hc
    exact hdn (fun f hf=>Classical.byContradiction (fun h=>hc ⟨f,hf,h⟩))
   obtain ⟨f,hf,hne⟩:=this
   obtain ⟨j,hj,rfl⟩:=List.mem_iff_getElem.1 hf
   refine ⟨0,h1 (l2_not t most x (by omega) ?_ j hj ?_ j 0 (by omega) (by omega)),Or.inl rfl⟩
   ·intro f hf
    obtain ⟨p,q,hp,_,rfl⟩:=hw f hf
    dsimp only
    omega
   ·obtain ⟨p,q,hp,hq,hfe⟩:=hw _ hf
    rw [hfe] at hne ⊢
    intro e
    exact hne ⟨p,hp,by rw [show ((q:Nat):Int)=((kidsOf t p).length:Int) from e]⟩
 | succ d ih =>
  intro n hd h0 hn x most hw hx
  have hnN:n < t.length:=by omega
  cases hb:ob (rd_T52 t (n:Int)) with
  | false =>
   refine ⟨0,?_,Or.inl rfl⟩
   refine Ev.step (fun k=>by rw [tree_depth.l0]) ?_
   refine Ev.ifp (by omega) (Ev.ifp (by omega) (Ev.ifp (by omega) (Ev.bind (hob n hnN) ?_)))
   rw [hb]
   exact Ev.ifn (by simp) (Ev.now _)
  | true =>
   obtain ⟨y,dn,rfl,hdn,hc⟩:=split_done t x.length x rfl hw
   rw [List.length_append] at hx
   rcases hc with rfl | ⟨s,p,q,hp,hq,rfl⟩
   ·refine ⟨0,dp_step ob t hob _ _ n hnN hb (pops t hN _ (by simp) _ _ _ _ dn rfl (by omega) hdn ?_),Or.inl rfl⟩
    refine Ev.step (fun k=>by rw [tree_depth.l1]) ?_
    refine Ev.ifn (by simp) ?_
    refine Ev.step (fun k=>by rw [tree_depth.j3]) ?_
    exact Ev.ifp (by omega) (Ev.ifp (by simp) (Ev.now _))
   ·simp at hx
    by_cases hv:rd (kidsOf t p) (q:Int)=(n:Int)
    ·have hw2:FrOk t (s++[⟨(p:Int),((q+1:Nat):Int)⟩]++[⟨(n:Int),0⟩]):=by
      intro f hf
      simp at hf
      rcases hf with hf | rfl | rfl
      ·exact hw f (by simp [hf])
      ·exact ⟨p,q+1,hp,by omega,by simp⟩
      ·exact ⟨n,0,hnN,by omega,rfl⟩
     obtain ⟨r,hr,hcr⟩:=ih (n+1) (by omega) (by omega) (by omega) _ (mx most ((s.length+2:Nat):Int)) hw2 (by simp;omega)
     refine ⟨r,dp_step ob t hob _ _ n hnN hb (pops t hN _ (by simp;omega) _ _ _ _ dn rfl (by omega) hdn (dp_top t hN s (by omega) p q n hp hq (hk p hp) h0 hnN _ (Ev.ifp hv hr))),?_⟩
     rcases hcr with rfl | hsh
     ·exact Or.inl rfl
     refine Or.inr ?_
     simp only [List.reverse_append,List.reverse_cons,List.reverse_nil,List.nil_append,List.singleton_append,List.cons_append] at hsh ⊢
     obtain ⟨m,h1,c1,m2,h2,c2,hsr⟩:=hsh
     refine shut_done ob t _ n ?_ dn.reverse (fun f hf=>hdn f (by simpa using hf))
     refine ⟨m2,max (h1+1) h2,?_,hsr⟩
     dsimp only at c1 c2 ⊢
     rw [Int.toNat_natCast,Int.toNat_natCast] at c2 ⊢
     rw [Int.toNat_natCast] at c1
     rw [List.drop_eq_getElem_cons hq]
     refine Ch.cons ?_ hnN hb c1 c2
     rw [← rd_get q hq]
     exact hv
    ·exact ⟨0,dp_step ob t hob _ _ n hnN hb (pops t hN _ (by simp;omega) _ _ _ _ dn rfl (by omega) hdn (dp_top t hN s (by omega) p q n hp hq (hk p hp) h0 hnN _ (Ev.ifn hv (Ev.now _)))),Or.inl rfl⟩
theorem tree_depth_is (ob:S52→Bool) (t:List S52) (hk:∀ n,n < t.length→(kidsOf t n).length≤100000) (hob:ObT ob t) :
 ∃ r:Int,Ev (fun k=>tree_depth.f k t) r∧((∃ h:Nat,r=(h:Int)+1∧RT ob t h)∨r=0∧¬ ∃ h,RT ob t h):=by
 have hno:Ev (fun k=>tree_depth.j0 k t true) 0:=by
  refine Ev.step (fun k=>by rw [tree_depth.j0]) ?_
  exact Ev.ifp rfl (Ev.now _)
 by_cases h0:(t.length:Int)=0
 ·refine ⟨0,?_,Or.inr ⟨rfl,fun ⟨h,a,_⟩=>by omega⟩⟩
  refine Ev.congr (fun k=>by rw [tree_depth.f]) ?_
  exact Ev.ifp h0 hno
 by_cases h1:t.length≤1000
 case neg =>
  refine ⟨0,?_,Or.inr ⟨rfl,fun ⟨h,_,a,_⟩=>by omega⟩⟩
  refine Ev.congr (fun k=>by rw [tree_depth.f]) ?_
  refine Ev.ifn h0 ?_
  rw [decide_eq_true (by omega)]
  exact hno
 have hin:∀ {r},Ev (fun k=>tree_depth.l0 k t ([]:List S107) 0 t (t.length:Int) ((0:Nat):Int)) r→Ev (fun k=>tree_depth.f k t) r:=by
  intro r h
  refine Ev.congr (fun k=>by rw [tree_depth.f]) ?_
  refine Ev.ifn h0 ?_
  rw [decide_eq_false (by omega)]
  refine Ev.step (fun k=>by rw [tree_depth.j0]) ?_
  exact Ev.ifn (by simp) h
 have hN:0 < t.length:=by omega
 cases hb:ob (rd_T52 t ((0:Nat):Int)) with
 | false =>
  refine ⟨0,hin ?_,Or.inr ⟨rfl,fun ⟨h,_,_,a,_⟩=>by rw [show (0:Int)=((0:Nat):Int) from rfl,hb] at a;cases a⟩⟩
  refine Ev.step (fun k=>by rw [tree_depth.l0]) ?_
  refine Ev.ifp (by omega) (Ev.ifp (by omega) (Ev.ifp (by omega) (Ev.bind (hob 0 hN) ?_)))
  rw [hb]
  exact Ev.ifn (by simp) (Ev.now _)
 | true =>
  have hone:∀ {r},Ev (fun k=>tree_depth.l0 k t [⟨((0:Nat):Int),((0:Nat):Int)⟩] ((1:Nat):Int) t (t.length:Int) ((1:Nat):Int)) r→Ev (fun k=>tree_depth.f k t) r:=by
   intro r h
   refine hin (dp_step ob t hob _ _ 0 hN hb ?_)
   refine Ev.step (fun k=>by rw [tree_depth.l1]) ?_
   refine Ev.ifn (by simp) ?_
   refine Ev.step (fun k=>by rw [tree_depth.j3]) ?_
   refine Ev.ifn (by omega) (Ev.ifp (by simp) (Ev.bindc rfl ?_))
   rw [w64 (by omega) (by omega)]
   exact h
  have hw:FrOk t [⟨((0:Nat):Int),((0:Nat):Int)⟩]:=by
   intro f hf
   exact ⟨0,0,hN,by omega,by simpa using hf⟩
  by_cases hc:∃ h,Ch ob t (kidsOf t 0) 1 t.length h
  ·obtain ⟨h,c⟩:=hc
   obtain ⟨dn,hdn,hl,g⟩:=depth_fwd ob t h1 hk hob c [] 0 0 [] 1 hN rfl (by omega) (by intro f hf;cases hf) (by simp) (by omega) (by simp)
   have hdd:Done t ([⟨((0:Nat):Int),((0+(kidsOf t 0).length:Nat):Int)⟩]++dn):=by
    intro f hf
    rcases List.mem_append.1 hf with hf | hf
    ·exact ⟨0,hN,by rw [Nat.zero_add] at hf;simpa using hf⟩
    ·exact hdn f hf
   have g2:=l2_all t ((max 1 (([]:List S107).length+1+h):Nat):Int) _ (by simp at hl ⊢;omega) hdd _ 0 (by omega) rfl
   obtain ⟨R,hR⟩:∃ R:Int,R=if ((max 1 (([]:List S107).length+1+h):Nat):Int) > 16 then 0 else ((max 1 (([]:List S107).length+1+h):Nat):Int):=⟨_,rfl⟩
   rw [← hR] at g2
   have g3:=g R (by
    refine Ev.step (fun k=>by rw [tree_depth.l0]) ?_
    exact Ev.ifn (by omega) g2)
   refine ⟨R,hone g3,?_⟩
   rw [hR]
   by_cases h16:h+1≤16
   ·refine Or.inl ⟨h,?_,hN,h1,hb,c,h16⟩
    rw [if_neg (by simp;omega)]
    simp
    omega
   ·refine Or.inr ⟨if_pos (by simp;omega),fun ⟨h',_,_,_,c',hh⟩=>?_⟩
    have:=(c.det c').2
    omega
  ·obtain ⟨r,hr,hcr⟩:=depth_neg ob t h1 hk hob _ 1 rfl (by omega) (by omega) _ ((1:Nat):Int) hw (by simp)
   refine ⟨r,hone hr,Or.inr ⟨?_,fun ⟨h',_,_,_,c',_⟩=>hc ⟨_,c'⟩⟩⟩
   rcases hcr with rfl | ⟨m,h,c,hm⟩
   ·rfl
   ·exact absurd ⟨h,by rw [show m=t.length from hm] at c;exact c⟩ hc
def OneOk (x:S52) (b:Bool):Prop:=x.f3.size≤2000→Ev (fun k=>tree_one.f k x.f0 x.f1 x.f2 x.f3 x.f4) b∧Ev (fun k=>cr20_one.f k x.f0 x.f1 x.f2 x.f3 x.f4) b∧(b=true→(0≤x.f0∧x.f0≤3∧0≤x.f1∧x.f1≤2097151)∧(x.f2=true→x.f3.toList=[])∧(x.f2=false→x.f4=[])∧(x.f0=0→(x.f2=true→x.f1=16∨x.f1=17)∧(x.f2=false→Ev (fun k=>strs_Right.f k x.f1 x.f3) true∧Ev (fun k=>cr18_Right.f k x.f1 x.f3) true)))
theorem one_all:∃ ob:S52→Bool,∀ x,OneOk x (ob x):=by
 have h:∀ x:S52,∃ b,OneOk x b:=by
  intro x
  by_cases h:x.f3.size≤2000
  ·obtain ⟨b,h1,h2,h3⟩:=one_key x h
   exact ⟨b,fun _=>⟨h1,h2,h3⟩⟩
  ·exact ⟨false,fun h'=>absurd h' h⟩
 exact Classical.axiomOfChoice h
def shN (by_:Int) (x:S52):S52:=⟨x.f0,x.f1,x.f2,x.f3,x.f4.map (fun y=>wrap64 (y+by_))⟩
theorem moved_is (by_:Int) (a b:Int) (c:Bool) (d:ByteArray) (l:List Int) (hl:l.length≤100000) :
 Ev (fun k=>tree_moved.f k a b c d l by_) (a,b,c,d,l.map (fun y=>wrap64 (y+by_))):=by
 have loop:∀ (suf pre:List Int),pre.length+suf.length≤100000→Ev (fun k=>tree_moved.l0 k by_ ((pre.length+suf.length:Nat):Int) (pre.length:Int) a b c d (pre++suf)) (a,b,c,d,pre++suf.map (fun y=>wrap64 (y+by_))):=by
  intro suf
  induction suf with
  | nil =>
   intro pre hp
   refine Ev.step (fun k=>by rw [tree_moved.l0]) ?_
   exact Ev.ifn (by simp) (Ev.now _)
  | cons x suf ih =>
   intro pre hp
   simp at hp
   refine Ev.step (fun k=>by rw [tree_moved.l0]) ?_
   have hlt:pre.length < (pre++x :: suf).length:=by simp
   rw [rd_get pre.length hlt,w64 (x:=(pre.length:Int)+1) (by omega) (by omega)]
   refine Ev.ifp (by simp;omega) (Ev.ifp (by omega) (Ev.ifp (by simp;omega) ?_))
   have:=ih (pre++[wrap64 (x+by_)]) (by simp;omega)
   simp only [List.length_append,List.length_cons,List.length_nil,List.append_assoc,List.singleton_append] at this
   rw [show pre.length+(x :: suf).length=pre.length+(0+1)+suf.length by simp;omega,List.map_cons]
   rw [show (pre++x :: suf).set (pre.length:Int).toNat (wrap64 ((pre++x :: suf)[pre.length]+by_))=pre++wrap64 (x+by_) :: suf by rw [Int.toNat_natCast];simp,show (pre.length:Int)+1=((pre.length+(0+1):Nat):Int) by omega]
   exact this
 refine Ev.congr (fun k=>by rw [tree_moved.f]) ?_
 refine Ev.bindc (a:=l) (by rw [slices_Clone_int_int.f,if_pos (by rw [List.length_nil];omega)];rfl) ?_
 have:=loop l [] (by simp;omega)
 simp only [List.length_nil,Nat.zero_add,List.nil_append] at this
 exact this
theorem Ch.last {ob:S52→Bool} {t:List S52} {ks:List Int} {n j h:Nat} (c:Ch ob t ks n j h) (hne:0 < ks.length):∃ l h':Nat,rd ks ((ks.length:Int) - 1)=(l:Int)∧l < t.length∧Ch ob t (kidsOf t l) (l+1) j h'∧h' < h:=by
 induction c with
 | nil n=>simp at hne
 | @cons k ks n m j h1 h2 hkn hnN ho c1 c2 ih1 ih2 =>
  cases ks with
  | nil =>
   cases c2
   exact ⟨n,h1,by simp [← hkn,rd],hnN,c1,by omega⟩
  | cons a ks =>
   obtain ⟨l,h',e,hl,c',hh⟩:=ih2 (by simp)
   refine ⟨l,h',?_,hl,c',by omega⟩
   rw [← e,show (((k :: a :: ks).length:Nat):Int) - 1=((ks.length+1:Nat):Int) by simp,show (((a :: ks).length:Nat):Int) - 1=((ks.length:Nat):Int) by simp,rd_get _ (by simp),rd_get _ (by simp)]
   rfl
theorem tree_end_is (ob:S52→Bool) (t:List S52) (hN:t.length≤1000) (hk:∀ n,n < t.length→(kidsOf t n).length≤100000):∀ (h i j:Nat),i < t.length→Ch ob t (kidsOf t i) (i+1) j h→Ev (fun k=>tree_end.f k t (i:Int)) (j:Int):=by
 intro h
 induction h using Nat.strongRecOn with
 | ind h ih =>
  intro i j hi c
  refine Ev.congr (fun k=>by rw [tree_end.f]) ?_
  refine Ev.step (fun k=>by rw [tree_end.l0]) ?_
  refine Ev.ifp (by omega) (Ev.ifp (by omega) ?_)
  by_cases h0:0 < (kidsOf t i).length
  ·obtain ⟨l,h',e,hl,c',hh⟩:=c.last h0
   have:=hk i hi
   refine Ev.ifp (show ((kidsOf t i).length:Int) > 0 by omega) ?_
   rw [show ((rd_T52 t (i:Int)).f4.length:Int)=((kidsOf t i).length:Int) from rfl,w64 (x:=((kidsOf t i).length:Int) - 1) (by omega) (by omega)]
   refine Ev.ifp (by omega) (Ev.ifp (show ((kidsOf t i).length:Int) - 1 < ((kidsOf t i).length:Int) by omega) ?_)
   rw [show rd (rd_T52 t (i:Int)).f4 (((kidsOf t i).length:Int) - 1)=(l:Int) from e]
   have:=ih h' hh l j hl c'
   refine Ev.congr (fun k=>?_) this
   rw [tree_end.f]
  ·have e:kidsOf t i=[]:=List.eq_nil_of_length_eq_zero (by omega)
   rw [e] at c
   cases c
   refine Ev.ifn (show ¬ ((kidsOf t i).length:Int) > 0 by omega) ?_
   rw [w64 (by omega) (by omega)]
   exact Ev.now _
theorem rdN_get (t:List S52) (n:Nat) (h:n < t.length):rd_T52 t (n:Int)=t[n]:=by unfold rd_T52;simp [List.getD_eq_getElem?_getD,h]
def win (t:List S52) (i m:Nat):List S52:=((t.take m).drop i).map (shN (wrap64 (-(i:Int))))
theorem win_len (t:List S52) (i m:Nat) (hm:m≤t.length):(win t i m).length=m - i:=by unfold win;simp;omega
theorem win_rd (t:List S52) (i m n:Nat) (hm:m≤t.length) (hi:i≤n) (hn:n < m):rd_T52 (win t i m) ((n - i:Nat):Int)=shN (wrap64 (-(i:Int))) (rd_T52 t (n:Int)):=by
 rw [rdN_get _ _ (by rw [win_len t i m hm];omega),rdN_get _ _ (by omega)]
 unfold win
 simp only [List.getElem_map,List.getElem_drop,List.getElem_take]
 congr 2
 omega
theorem Ch.wins {ob:S52→Bool} (hsh:∀ c x,x.f3.size≤2000→ob (shN c x)=ob x) {t:List S52} (hN:t.length≤1000) (hsz:∀ n,n < t.length→(rd_T52 t (n:Int)).f3.size≤2000) {ks:List Int} {n j h:Nat} (c:Ch ob t ks n j h) (i m:Nat):i≤n→j≤m→m≤t.length→Ch ob (win t i m) (ks.map (fun y=>wrap64 (y+wrap64 (-(i:Int))))) (n - i) (j - i) h:=by
 induction c with
 | nil n=>intro h1 h2 h3;exact Ch.nil _
 | @cons k ks n m' j h1 h2 hkn hnN ho c1 c2 ih1 ih2 =>
  intro hi hj hm
  have l1:=c1.le
  have l2:=c2.le
  have i1:=ih1 (by omega) (by omega) hm
  have i2:=ih2 (by omega) hj hm
  rw [List.map_cons]
  have hr:=win_rd t i m n hm hi (by omega)
  refine Ch.cons ?_ (by rw [win_len t i m hm];omega) (by rw [hr,hsh _ _ (hsz n hnN)];exact ho) ?_ i2
  ·rw [hkn,w64 (x:=-(i:Int)) (by omega) (by omega),w64 (by omega) (by omega)]
   omega
  ·rw [show n - i+1=n+1 - i by omega,show kidsOf (win t i m) (n - i)=(kidsOf t n).map (fun y=>wrap64 (y+wrap64 (-(i:Int)))) by unfold kidsOf;rw [hr];rfl]
   exact i1
theorem right_depth (ob:S52→Bool) (t:List S52) (hk:∀ n,n < t.length→(kidsOf t n).length≤100000) (hob:ObT ob t) (h:Nat) (hR:RT ob t h) :
 Ev (fun k=>tree_Right.f k t) true∧Ev (fun k=>tree_Depth.f k t) ((h:Int)+1):=by
 obtain ⟨r,hr,hc⟩:=tree_depth_is ob t hk hob
 have hr':r=(h:Int)+1:=by
  rcases hc with ⟨h',rfl,hR'⟩ | ⟨_,hn⟩
  ·rw [(hR'.2.2.2.1.det hR.2.2.2.1).2]
  ·exact absurd ⟨h,hR⟩ hn
 subst hr'
 constructor
 ·refine Ev.congr (fun k=>by rw [tree_Right.f]) ?_
  refine Ev.bind hr ?_
  rw [decide_eq_true (by omega)]
  exact Ev.now _
 ·refine Ev.congr (fun k=>by rw [tree_Depth.f]) ?_
  exact Ev.bind hr (Ev.now _)
theorem right_no (ob:S52→Bool) (t:List S52) (hk:∀ n,n < t.length→(kidsOf t n).length≤100000) (hob:ObT ob t) (hR:¬ ∃ h,RT ob t h) :
 Ev (fun k=>tree_Right.f k t) false:=by
 obtain ⟨r,hr,hc⟩:=tree_depth_is ob t hk hob
 rcases hc with ⟨h',_,hR'⟩ | ⟨rfl,_⟩
 ·exact absurd ⟨_,hR'⟩ hR
 refine Ev.congr (fun k=>by rw [tree_Right.f]) ?_
 exact Ev.bind hr (Ev.now _)
theorem sub_is (ob:S52→Bool) (t:List S52) (hk:∀ n,n < t.length→(kidsOf t n).length≤100000) (hob:ObT ob t) (H:Nat) (hR:RT ob t H) (i j h:Nat) (hi:i < t.length) (c:Ch ob t (kidsOf t i) (i+1) j h) (hj:j≤t.length) :
 Ev (fun k=>tree_Sub.f k t (i:Int)) (win t i j):=by
 have hN:=hR.2.1
 have hle:=c.le
 refine Ev.congr (fun k=>by rw [tree_Sub.f]) ?_
 refine Ev.ifn (by omega) (Ev.ifn (by omega) (Ev.bind (right_depth ob t hk hob H hR).1 ?_))
 refine Ev.step (fun k=>by rw [tree_Sub.j0]) ?_
 refine Ev.ifn (by simp) (Ev.bind (tree_end_is ob t hN hk h i j hi c) (Ev.ifp (by omega) (Ev.ifp (by omega) (Ev.ifp (by omega) (Ev.bindc rfl ?_)))))
 rw [Int.toNat_natCast,Int.toNat_natCast]
 have hy:∀ x∈(t.take j).drop i,x.f4.length≤100000:=by
  intro x hx
  obtain ⟨n,hn,rfl⟩:=List.mem_iff_getElem.1 (List.mem_of_mem_take (List.mem_of_mem_drop hx))
  have:=hk n hn
  unfold kidsOf at this
  rwa [rdN_get t n hn] at this
 have hyl:((t.take j).drop i).length≤1000:=by simp;omega
 unfold win
 obtain ⟨y,hyd⟩:∃ y,y=(t.take j).drop i:=⟨_,rfl⟩
 rw [← hyd] at hy hyl ⊢
 have loop:∀ (d p:Nat) (acc:List S52),y.length - p=d→p≤y.length→acc.length=p →
  Ev (fun k=>tree_Sub.l0 k (i:Int) acc y (y.length:Int) (p:Int)) (acc++(y.drop p).map (shN (wrap64 (-(i:Int))))):=by
  intro d
  induction d with
  | zero =>
   intro p acc hd hp ha
   refine Ev.step (fun k=>by rw [tree_Sub.l0]) ?_
   rw [List.drop_eq_nil_of_le (by omega),List.map_nil,List.append_nil]
   exact Ev.ifn (by omega) (Ev.now _)
  | succ d ih =>
   intro p acc hd hp ha
   have hlt:p < y.length:=by omega
   refine Ev.step (fun k=>by rw [tree_Sub.l0]) ?_
   rw [rdN_get _ p hlt,w64 (x:=(p:Int)+1) (by omega) (by omega),List.drop_eq_getElem_cons hlt,List.map_cons]
   refine Ev.ifp (by omega) (Ev.ifp (by omega) (Ev.ifp (by omega) (Ev.bind (moved_is _ _ _ _ _ _ (hy _ (List.getElem_mem hlt))) (Ev.ifp (by omega) ?_))))
   have:=ih (p+1) (acc++[shN (wrap64 (-(i:Int))) y[p]]) (by omega) (by omega) (by simp;omega)
   rw [List.append_assoc,List.singleton_append] at this
   exact this
 have:=loop _ 0 [] rfl (by omega) rfl
 rw [List.drop_zero,List.nil_append] at this
 exact this
inductive Pt (ob:S52→Bool) (t:List S52) (H:Nat):List Int→Nat→Nat→List (List S52)→Prop where
 | nil (n:Nat):Pt ob t H [] n n []
 | cons {k:Int} {ks:List Int} {n m j h:Nat} {L:List (List S52)} (hk:k=(n:Int)) (hn:n < t.length) (ho:ob (rd_T52 t (n:Int))=true) (c:Ch ob t (kidsOf t n) (n+1) m h) (hh:h < H) (hm:m≤t.length) (p:Pt ob t H ks m j L):Pt ob t H (k :: ks) n j (win t n m :: L)
theorem Ch.pt {ob:S52→Bool} {t:List S52} {H:Nat} {ks:List Int} {n j h:Nat} (c:Ch ob t ks n j h):h≤H→j≤t.length→∃ L,Pt ob t H ks n j L:=by
 induction c with
 | nil n=>intro _ _;exact ⟨[],Pt.nil n⟩
 | @cons k ks n m j h1 h2 hkn hnN ho c1 c2 ih1 ih2 =>
  intro hH hj
  have l2:=c2.le
  obtain ⟨L,p⟩:=ih2 (by omega) hj
  exact ⟨_,Pt.cons hkn hnN ho c1 (by omega) (by omega) p⟩
theorem Pt.len {ob:S52→Bool} {t:List S52} {H:Nat} {ks:List Int} {n j:Nat} {L:List (List S52)} (p:Pt ob t H ks n j L):L.length=ks.length:=by
 induction p with
 | nil n=>rfl
 | cons _ _ _ _ _ _ _ ih=>simp [ih]
theorem Pt.good {ob:S52→Bool} (hsh:∀ c x,x.f3.size≤2000→ob (shN c x)=ob x) (hall:∀ x:S52,x.f3.size≤2000→Ev (fun k=>tree_one.f k x.f0 x.f1 x.f2 x.f3 x.f4) (ob x)) {t:List S52} (hN:t.length≤1000) (hsz:∀ n,n < t.length→(rd_T52 t (n:Int)).f3.size≤2000) (hk:∀ n,n < t.length→(kidsOf t n).length≤100000) {H:Nat} (h16:H+1≤16) {ks:List Int} {n j:Nat} {L:List (List S52)} (p:Pt ob t H ks n j L) :
 ∀ x∈L,∃ h:Nat,h < H∧Ev (fun k=>tree_Right.f k x) true∧Ev (fun k=>tree_Depth.f k x) ((h:Int)+1):=by
 induction p with
 | nil n=>intro x hx;cases hx
 | @cons k ks n m j h L hkn hnN ho c hh hm p ih =>
  intro x hx
  rcases List.mem_cons.1 hx with rfl | hx
  case inr=>exact ih x hx
  have hle:=c.le
  have hwl:=win_len t n m hm
  have hr:∀ q,q < (win t n m).length→rd_T52 (win t n m) (q:Int)=shN (wrap64 (-(n:Int))) (rd_T52 t ((q+n:Nat):Int)):=by
   intro q hq
   have:=win_rd t n m (q+n) hm (by omega) (by omega)
   rwa [Nat.add_sub_cancel] at this
  refine ⟨h,hh,?_⟩
  refine right_depth ob _ ?_ ?_ h ⟨by omega,by omega,?_,?_,by omega⟩
  ·intro q hq
   unfold kidsOf
   rw [hr q hq]
   have:=hk (q+n) (by omega)
   unfold kidsOf at this
   unfold shN
   simpa using this
  ·intro q hq
   refine hall _ ?_
   rw [hr q hq]
   exact hsz (q+n) (by omega)
  ·have:=hr 0 (by omega)
   rw [show (0:Int)=((0:Nat):Int) from rfl,this,hsh _ _ (hsz _ (by omega)),Nat.zero_add]
   exact ho
  ·have:=c.wins hsh hN hsz n m (by omega) (by omega) hm
   rw [show n+1 - n=1 by omega] at this
   rw [hwl]
   rw [show kidsOf (win t n m) 0=(kidsOf t n).map (fun y=>wrap64 (y+wrap64 (-(n:Int)))) by unfold kidsOf;rw [hr 0 (by omega),Nat.zero_add];rfl]
   exact this
theorem kids_is (ob:S52→Bool) (t:List S52) (hk:∀ n,n < t.length→(kidsOf t n).length≤100000) (hob:ObT ob t) (H:Nat) (hR:RT ob t H) (L:List (List S52)) (j:Nat) (p0:Pt ob t H (kidsOf t 0) 1 j L):Ev (fun k=>tree_Kids.f k t) L:=by
 have loop:∀ {ks:List Int} {n:Nat} {L:List (List S52)},Pt ob t H ks n j L→∀ (q:Nat) (acc:List (List S52)),(kidsOf t 0).drop q=ks→q≤(kidsOf t 0).length→acc.length=q→Ev (fun k=>tree_Kids.l0 k t acc (kidsOf t 0) ((kidsOf t 0).length:Int) (q:Int)) (acc++L):=by
  clear p0
  intro ks n L p
  induction p with
  | nil n =>
   intro q acc hq hql ha
   have:(kidsOf t 0).length≤q:=by
    have:=congrArg List.length hq
    simp at this
    omega
   refine Ev.step (fun k=>by rw [tree_Kids.l0]) ?_
   rw [List.append_nil]
   exact Ev.ifn (by omega) (Ev.now _)
  | @cons k ks n m j h L hkn hnN ho c hh hm p ih =>
   intro q acc hq hql ha
   have hq2:q < (kidsOf t 0).length:=by
    have:=congrArg List.length hq
    simp at this
    omega
   have hdrop:=List.drop_eq_getElem_cons hq2
   rw [hq] at hdrop
   obtain ⟨hk0,hks'⟩:=List.cons.inj hdrop
   have hv:rd (kidsOf t 0) (q:Int)=(n:Int):=by rw [rd_get q hq2,← hk0,hkn]
   have hk1:=hk 0 hR.1
   refine Ev.step (fun k=>by rw [tree_Kids.l0]) ?_
   rw [hv,w64 (x:=(q:Int)+1) (by omega) (by omega)]
   refine Ev.ifp (by omega) (Ev.ifp (by omega) (Ev.ifp (by omega) (Ev.bind (sub_is ob t hk hob H hR n m h hnN c hm) (Ev.ifp (by omega) ?_))))
   have:=ih (q+1) (acc++[win t n m]) hks'.symm (by omega) (by simp;omega)
   rw [List.append_assoc,List.singleton_append] at this
   exact this
 refine Ev.congr (fun k=>by rw [tree_Kids.f]) ?_
 refine Ev.bind (right_depth ob t hk hob H hR).1 (Ev.ifp rfl (Ev.ifp (by have:=hR.1;omega) ?_))
 have:=loop p0 0 [] rfl (by omega) rfl
 rw [List.nil_append] at this
 exact this
theorem of_l1 (off:Int) (x17:List (List S52)) (x18 x19:Int) (y:List S52) (hy:y.length≤1000) (hk:∀ x∈y,x.f4.length≤100000) {r:List S52}:∀ (d p:Nat) (acc:List S52),y.length - p=d→p≤y.length→acc.length+d≤100000 →
 Ev (fun k=>tree_Of.l0 k (acc++(y.drop p).map (shN off)) x17 x18 (wrap64 (x19+1))) r→Ev (fun k=>tree_Of.l1 k acc off x17 x18 x19 y (y.length:Int) (p:Int)) r:=by
 intro d
 induction d with
 | zero =>
  intro p acc hd hp ha h
  refine Ev.step (fun k=>by rw [tree_Of.l1]) ?_
  rw [List.drop_eq_nil_of_le (by omega),List.map_nil,List.append_nil] at h
  exact Ev.ifn (by omega) h
 | succ d ih =>
  intro p acc hd hp ha h
  have hlt:p < y.length:=by omega
  refine Ev.step (fun k=>by rw [tree_Of.l1]) ?_
  rw [rdN_get _ p hlt,w64 (x:=(p:Int)+1) (by omega) (by omega)]
  rw [List.drop_eq_getElem_cons hlt,List.map_cons] at h
  refine Ev.ifp (by omega) (Ev.ifp (by omega) (Ev.ifp (by omega) (Ev.bind (moved_is _ _ _ _ _ _ (hk _ (List.getElem_mem hlt))) (Ev.ifp (by omega) ?_))))
  refine ih (p+1) (acc++[shN off y[p]]) (by omega) (by omega) (by simp;omega) ?_
  rw [List.append_assoc,List.singleton_append]
  exact h
def blN (t:List S52) (n:Nat):List Int:=bytesOf (rd_T52 t (n:Int)).f3
def nodeL (t:List S52) (n:Nat) (cs:List Int):List Int:=idB (rd_T52 t (n:Int)).f0 (rd_T52 t (n:Int)).f1 (rd_T52 t (n:Int)).f2++lenB (cs.length:Int)++cs
inductive En (t:List S52):List Int→Nat→Nat→List Int→Prop where
 | nil (n:Nat):En t [] n n []
 | cons {k:Int} {ks:List Int} {n m j:Nat} {cs rs:List Int} (hk:k=(n:Int)) (hn:n < t.length) (c:En t (kidsOf t n) (n+1) m cs) (hf:(nodeL t n (blN t n++cs)).length≤65535) (r:En t ks m j rs):En t (k :: ks) n j (nodeL t n (blN t n++cs)++rs)
theorem En.det {t:List S52} {ks:List Int} {n j:Nat} {bs:List Int} (c:En t ks n j bs):∀ {j':Nat} {bs':List Int},En t ks n j' bs'→j=j'∧bs=bs':=by
 induction c with
 | nil n=>intro j' bs' c';cases c';exact ⟨rfl,rfl⟩
 | cons hk hn c hf r ih1 ih2 =>
  intro j' bs' c'
  cases c' with
  | cons _ _ g _ gs =>
   obtain ⟨rfl,rfl⟩:=ih1 g
   obtain ⟨rfl,rfl⟩:=ih2 gs
   exact ⟨rfl,rfl⟩
theorem En.pos {ob:S52→Bool} {t:List S52} {ks:List Int} {n j h:Nat} (c:Ch ob t ks n j h):∀ {j':Nat} {bs:List Int},En t ks n j' bs→j'=j:=by
 induction c with
 | nil n=>intro j' bs c';cases c';rfl
 | cons hk hn ho c1 c2 ih1 ih2 =>
  intro j' bs c'
  cases c' with
  | cons _ _ g _ gs =>
   obtain rfl:=ih1 g
   exact ih2 gs
theorem tagD_len (b:Int):0 < (tagD b).length∧(tagD b).length≤3:=by unfold tagD;split;simp;split<;>simp
theorem idB_len2 (a b:Int) (c:Bool):0 < (idB a b c).length∧(idB a b c).length≤4:=by
 have:=tagD_len b
 unfold idB
 split
 ·simp
 ·simp
  omega
theorem lenB_len (n:Int):(lenB n).length≤3:=by unfold lenB;split;simp;split<;>simp
theorem nodeL_len (t:List S52) (n:Nat) (cs:List Int):cs.length < (nodeL t n cs).length∧(nodeL t n cs).length≤cs.length+7:=by
 have h1:=idB_len2 (rd_T52 t (n:Int)).f0 (rd_T52 t (n:Int)).f1 (rd_T52 t (n:Int)).f2
 have h2:=lenB_len (cs.length:Int)
 unfold nodeL
 simp
 omega
def InR (ob:S52→Bool):Prop:=∀ x:S52,x.f3.size≤2000→ob x=true→(0≤x.f0∧x.f0≤3∧0≤x.f1∧x.f1≤2097151)
theorem ref_bytes_is (ob:S52→Bool) (hin:InR ob) (t:List S52) (hN:t.length≤1000) (hsz:∀ n,n < t.length→(rd_T52 t (n:Int)).f3.size≤2000) (hk:∀ n,n < t.length→(kidsOf t n).length≤100000) {ks:List Int} {n j h:Nat} (c:Ch ob t ks n j h) :
 ∀ (i q:Nat) (acc:List Int),i < t.length→ob (rd_T52 t (i:Int))=true→(kidsOf t i).drop q=ks→q≤(kidsOf t i).length→acc.length≤65535 →
 ∃ v ok,Ev (fun k=>cr20_bytes.l0 k t (i:Int) (strOfNums acc) (q:Int)) (v,ok)∧v.size≤140000∧(ok=true→∃ bs,En t ks n j bs∧(nodeL t i (acc++bs)).length≤65535∧v=strOfNums (nodeL t i (acc++bs)))∧((∃ j' bs,En t ks n j' bs∧(nodeL t i (acc++bs)).length≤65535)→ok=true):=by
 induction c with
 | nil n =>
  intro i q acc hi ho hq hql ha
  have hqe:(kidsOf t i).length≤q:=by
   have:=congrArg List.length hq
   simp at this
   omega
  obtain ⟨r1,r2,r3,r4⟩:=hin _ (hsz i hi) ho
  have hh:=ref_henc_is _ _ (rd_T52 t (i:Int)).f2 (acc.length:Int) r1 r2 r3 r4 (by omega)
  rw [if_pos (by omega)] at hh
  have h1:=idB_len2 (rd_T52 t (i:Int)).f0 (rd_T52 t (i:Int)).f1 (rd_T52 t (i:Int)).f2
  have h2:=lenB_len (acc.length:Int)
  have hln:(nodeL t i acc).length=(idB (rd_T52 t (i:Int)).f0 (rd_T52 t (i:Int)).f1 (rd_T52 t (i:Int)).f2++lenB (acc.length:Int)).length+acc.length:=by unfold nodeL;rw [List.length_append]
  have hln2:=nodeL_len t i acc
  refine ⟨strOfNums (nodeL t i acc),decide ((nodeL t i acc).length≤65535),?_,by rw [nums_size];omega,?_,?_⟩
  ·refine Ev.step (fun k=>by rw [cr20_bytes.l0]) ?_
   rw [nums_sizeI,nums_size]
   refine Ev.ifp (by omega) (Ev.ifp (by omega) (Ev.ifn (show ¬ (q:Int) < ((kidsOf t i).length:Int) by omega) (Ev.bind hh (Ev.ifp (by rw [nums_size];simp;omega) (Ev.ifp rfl ((Ev.now _).eq ?_))))))
   rw [str_append,nums_sizeI,w64 (by omega) (by omega)]
   show (strOfNums (nodeL t i acc),_)=_
   rw [hln]
   refine congrArg _ (decide_eq_decide.2 ?_)
   omega
  ·intro hok
   exact ⟨[],En.nil n,by rw [List.append_nil];exact of_decide_eq_true hok,by rw [List.append_nil]⟩
  ·rintro ⟨j',bs,e,hf⟩
   cases e
   rw [List.append_nil] at hf
   exact decide_eq_true hf
 | @cons k ks n m j h1 h2 hkn hnN hob c1 c2 ih1 ih2 =>
  intro i q acc hi ho hq hql ha
  have hq2:q < (kidsOf t i).length:=by
   have:=congrArg List.length hq
   simp at this
   omega
  have hdrop:=List.drop_eq_getElem_cons hq2
  rw [hq] at hdrop
  obtain ⟨hk0,hks'⟩:=List.cons.inj hdrop
  have hv:rd (kidsOf t i) (q:Int)=(n:Int):=by rw [rd_get q hq2,← hk0,hkn]
  have hki:=hk i hi
  have hbl:(blN t n).length≤2000:=by
   have:=hsz n hnN
   rw [← strOfNums_bytesOf (rd_T52 t (n:Int)).f3,nums_size] at this
   exact this
  obtain ⟨v,ok,he,hvs,hA,hB⟩:=ih1 n 0 (blN t n) hnN hob rfl (by omega) (by omega)
  have hef:Ev (fun k=>cr20_bytes.f k t (n:Int)) (v,ok):=by
   refine Ev.step (fun k=>by rw [cr20_bytes.f]) ?_
   refine Ev.ifp (by omega) (Ev.ifp (by omega) ?_)
   unfold blN at he
   rw [strOfNums_bytesOf] at he
   exact he
  have step:∀ {r:ByteArray × Bool},Ev (fun k=>if ok=true then (if ((strOfNums acc++v).size:Int) > 65535 then some ((⟨#[]⟩:ByteArray),false) else cr20_bytes.l0 k t (i:Int) (strOfNums acc++v) ((q+1:Nat):Int)) else some ((⟨#[]⟩:ByteArray),false)) r→Ev (fun k=>cr20_bytes.l0 k t (i:Int) (strOfNums acc) (q:Int)) r:=by
   intro r h
   refine Ev.step (fun k=>by rw [cr20_bytes.l0]) ?_
   rw [show rd (rd_T52 t (i:Int)).f4 (q:Int)=(n:Int) from hv,w64 (x:=(q:Int)+1) (by omega) (by omega)]
   refine Ev.ifp (by omega) (Ev.ifp (by omega) (Ev.ifp (show (q:Int) < ((kidsOf t i).length:Int) by omega) (Ev.ifp (by omega) (Ev.bind hef (Ev.ifp (by rw [nums_size];show acc.length+v.size≤_;omega) h)))))
  cases ok with
  | false =>
   refine ⟨_,_,step (Ev.ifn (by simp) (Ev.now _)),by decide,(fun h=>by cases h),?_⟩
   rintro ⟨j',bs,e,hf⟩
   cases e with
   | cons _ _ g gf gs=>have:=hB ⟨_,_,g,gf⟩;cases this
  | true =>
   obtain ⟨cs,g,gf,rfl⟩:=hA rfl
   rw [str_append,nums_sizeI] at step
   by_cases hbig:(acc++nodeL t n (blN t n++cs)).length≤65535
   ·obtain ⟨v2,ok2,he2,hvs2,hA2,hB2⟩:=ih2 i (q+1) (acc++nodeL t n (blN t n++cs)) hi ho hks'.symm (by omega) hbig
    refine ⟨v2,ok2,step (Ev.ifp rfl (Ev.ifn (by omega) he2)),hvs2,?_,?_⟩
    ·intro hok
     obtain ⟨rs,e,f,w⟩:=hA2 hok
     rw [List.append_assoc] at f w
     exact ⟨_,En.cons hkn hnN g gf e,f,w⟩
    ·rintro ⟨j',bs,e,hf⟩
     cases e with
     | cons _ _ g' gf' gs =>
      obtain ⟨rfl,rfl⟩:=g.det g'
      exact hB2 ⟨_,_,gs,by rw [List.append_assoc];exact hf⟩
   ·refine ⟨_,_,step (Ev.ifp rfl (Ev.ifp (by omega) (Ev.now _))),by decide,(fun h=>by cases h),?_⟩
    rintro ⟨j',bs,e,hf⟩
    cases e with
    | cons _ _ g' gf' gs =>
     obtain ⟨rfl,rfl⟩:=g.det g'
     rw [← List.append_assoc] at hf
     have h3:=Nat.le_trans (Nat.le_of_lt (nodeL_len t i _).1) hf
     rw [List.length_append] at h3
     omega
theorem En.le {t:List S52} {ks:List Int} {n j:Nat} {bs:List Int} (e:En t ks n j bs):n≤j∧(n≤t.length→j≤t.length):=by
 induction e with
 | nil n=>exact ⟨Nat.le_refl _,id⟩
 | cons hk hn c hf r ih1 ih2=>exact ⟨by omega,fun _=>ih2.2 (ih1.2 (by omega))⟩
theorem En.bd {t:List S52} {ks:List Int} {n j:Nat} {bs:List Int} (e:En t ks n j bs):bs.length+65535*n≤65535*j∧bs.length≤65535*ks.length:=by
 induction e with
 | nil n=>simp
 | cons hk hn c hf r ih1 ih2 =>
  have:=c.le
  rw [List.length_append,List.length_cons]
  omega
def Fit1 (t:List S52) (i:Nat):Prop:=∃ m cs,En t (kidsOf t i) (i+1) m cs∧(nodeL t i (blN t i++cs)).length≤65535
theorem Ch.cover {ob:S52→Bool} {t:List S52} {ks:List Int} {n j h:Nat} (c:Ch ob t ks n j h):∀ i,n≤i→i < j→ob (rd_T52 t (i:Int))=true∧∃ m h',Ch ob t (kidsOf t i) (i+1) m h'∧m≤j∧h' < h:=by
 induction c with
 | nil n=>intro i h1 h2;omega
 | @cons k ks n m j h1 h2 hk hn ho c1 c2 ih1 ih2 =>
  intro i hi hj
  have l2:=c2.le
  by_cases e:i=n
  ·subst e
   exact ⟨ho,m,h1,c1,by omega,by omega⟩
  by_cases e2:i < m
  ·obtain ⟨a,m',h',c',hm,hh⟩:=ih1 i (by omega) e2
   exact ⟨a,m',h',c',by omega,by omega⟩
  ·obtain ⟨a,m',h',c',hm,hh⟩:=ih2 i (by omega) hj
   exact ⟨a,m',h',c',by omega,by omega⟩
theorem En.cover {t:List S52} {ks:List Int} {n j:Nat} {bs:List Int} (e:En t ks n j bs):∀ i,n≤i→i < j→Fit1 t i:=by
 induction e with
 | nil n=>intro i h1 h2;omega
 | @cons k ks n m j cs rs hk hn c hf r ih1 ih2 =>
  intro i hi hj
  by_cases e:i=n
  ·subst e
   exact ⟨_,_,c,hf⟩
  by_cases e2:i < m
  ·exact ih1 i (by omega) e2
  ·exact ih2 i (by omega) hj
theorem Ch.en {ob:S52→Bool} {t:List S52} {ks:List Int} {n j h:Nat} (c:Ch ob t ks n j h):(∀ i,n≤i→i < t.length→Fit1 t i)→∃ bs,En t ks n j bs:=by
 induction c with
 | nil n=>intro _;exact ⟨[],En.nil n⟩
 | @cons k ks n m j h1 h2 hk hn ho c1 c2 ih1 ih2 =>
  intro hf
  have l1:=c1.le
  obtain ⟨m',cs,e,hfit⟩:=hf n (Nat.le_refl _) hn
  obtain rfl:=En.pos c1 e
  obtain ⟨rs,er⟩:=ih2 (fun i hi hN=>hf i (by omega) hN)
  exact ⟨_,En.cons hk hn e hfit er⟩
def hdL (t:List S52) (n:Nat) (c:Nat):Nat:=(idB (rd_T52 t (n:Int)).f0 (rd_T52 t (n:Int)).f1 (rd_T52 t (n:Int)).f2++lenB (c:Int)).length
theorem nodeL_hd (t:List S52) (n:Nat) (cs:List Int):(nodeL t n cs).length=hdL t n cs.length+cs.length:=by unfold nodeL hdL;rw [List.length_append]
def Good (t:List S52) (x:List (Nat × Nat)) (d:Nat):Prop:=x.length=t.length∧∀ p,d≤p→p < t.length→∃ m cs,En t (kidsOf t p) (p+1) m cs∧(nodeL t p (blN t p++cs)).length≤65535∧rdOf ((0,0):Nat × Nat) x (p:Int)=(fl (hdL t p (blN t p++cs).length),fl (blN t p++cs).length)
theorem sizes_in (t:List S52) (hN:t.length≤1000) (x:List (Nat × Nat)) {ks:List Int} {n j:Nat} {bs:List Int} (e:En t ks n j bs):∀ (i q s:Nat),Good t x n→(kidsOf t i).length≤100000→(kidsOf t i).drop q=ks→q≤(kidsOf t i).length→s≤65535*q+65535 →
 ∀ r,Ev (fun k=>tree_sizes.l1 k t x (i:Int) ((s+bs.length:Nat):Int) (kidsOf t i) ((kidsOf t i).length:Int) ((kidsOf t i).length:Int)) r→Ev (fun k=>tree_sizes.l1 k t x (i:Int) (s:Int) (kidsOf t i) ((kidsOf t i).length:Int) (q:Int)) r:=by
 induction e with
 | nil n =>
  intro i q s hg hki hq hql hs r h
  have hqe:(kidsOf t i).length=q:=by
   have:=congrArg List.length hq
   simp at this
   omega
  rw [← hqe]
  exact h
 | @cons k ks n m j cs rs hkn hnN c hf er ih1 ih2 =>
  intro i q s hg hki hq hql hs r h
  have hq2:q < (kidsOf t i).length:=by
   have:=congrArg List.length hq
   simp at this
   omega
  have hdrop:=List.drop_eq_getElem_cons hq2
  rw [hq] at hdrop
  obtain ⟨hk0,hks'⟩:=List.cons.inj hdrop
  have hv:rd (kidsOf t i) (q:Int)=(n:Int):=by rw [rd_get q hq2,← hk0,hkn]
  have lc:=c.le
  obtain ⟨m',cs',e',hf',hx⟩:=hg.2 n (Nat.le_refl _) hnN
  obtain ⟨rfl,rfl⟩:=c.det e'
  have hnl:=nodeL_hd t n (blN t n++cs)
  have hxl:=hg.1
  refine Ev.step (fun k=>by rw [tree_sizes.l1]) ?_
  rw [hv,hx]
  dsimp only
  rw [fadd_fl (by omega),fint_fl (by omega),fok_fl (by omega),fiok_fl (by omega),w64 (x:=(q:Int)+1) (by omega) (by omega),w64 (by omega) (by omega)]
  refine Ev.ifp (by omega) (Ev.ifp (by omega) (Ev.ifp (by omega) (Ev.ifp (by omega) (Ev.ifp (by omega) (Ev.ifp rfl (Ev.ifp rfl ?_))))))
  have:=ih2 i (q+1) (s+(hdL t n (blN t n++cs).length+(blN t n++cs).length)) ⟨hg.1,fun p hp=>hg.2 p (by omega)⟩ hki hks'.symm (by omega) (by omega) r (by
   rw [List.length_append,hnl] at h
   rw [Nat.add_assoc]
   exact h)
  exact this
theorem sizes_is (ob:S52→Bool) (hin:InR ob) (t:List S52) (hN:t.length≤1000) (hsz:∀ n,n < t.length→(rd_T52 t (n:Int)).f3.size≤2000) (hk:∀ n,n < t.length→(kidsOf t n).length≤100000)
 (hcov:∀ i,i < t.length→ob (rd_T52 t (i:Int))=true∧∃ m h',Ch ob t (kidsOf t i) (i+1) m h'):∀ (d:Nat) (x:List (Nat × Nat)),d≤t.length→Good t x d →
 ∃ y b,Ev (fun k=>tree_sizes.l0 k t x ((d:Int) - 1)) (y,b)∧((b=true∧Good t y 0)∨(b=false∧∃ i,i < t.length∧¬ Fit1 t i)):=by
 intro d
 induction d with
 | zero =>
  intro x hd hg
  refine ⟨x,true,?_,Or.inl ⟨rfl,hg⟩⟩
  refine Ev.step (fun k=>by rw [tree_sizes.l0]) ?_
  exact Ev.ifn (by omega) (Ev.now _)
 | succ d ih =>
  intro x hd hg
  have hdN:d < t.length:=by omega
  obtain ⟨ho,m,h',c⟩:=hcov d hdN
  obtain ⟨bs,e⟩:=c.en (fun i hi hiN=>by
   obtain ⟨m,cs,e,hf,_⟩:=hg.2 i hi hiN
   exact ⟨m,cs,e,hf⟩)
  obtain ⟨r1,r2,r3,r4⟩:=hin _ (hsz d hdN) ho
  have hbl:(rd_T52 t (d:Int)).f3.size=(blN t d).length:=by
   unfold blN
   conv=>lhs;rw [← strOfNums_bytesOf (rd_T52 t (d:Int)).f3,nums_size]
  have hbd:=e.bd
  have hkd:=hk d hdN
  have hszd:=hsz d hdN
  have hxl:=hg.1
  have hsum:(blN t d).length+bs.length=(blN t d++bs).length:=by rw [List.length_append]
  have go:∀ {r:List (Nat × Nat) × Bool},Ev (fun k=>tree_sizes.l1 k t x (d:Int) (((blN t d++bs).length:Nat):Int) (kidsOf t d) ((kidsOf t d).length:Int) ((kidsOf t d).length:Int)) r→Ev (fun k=>tree_sizes.l0 k t x (((d+1:Nat):Int) - 1)) r:=by
   intro r h
   refine Ev.step (fun k=>by rw [tree_sizes.l0]) ?_
   rw [show ((d+1:Nat):Int) - 1=(d:Int) by omega,hbl]
   refine Ev.ifp (by omega) (Ev.ifp (by omega) (Ev.ifp (by omega) ?_))
   refine sizes_in t hN x e d 0 (blN t d).length hg hkd rfl (by omega) (by omega) r ?_
   rw [hsum]
   exact h
  have hh:=henc_is _ _ (rd_T52 t (d:Int)).f2 ((blN t d++bs).length:Int) r1 r2 r3 r4 (by omega)
  have hsize:Ev (fun k=>head_Size.f k (rd_T52 t (d:Int)).f0 (rd_T52 t (d:Int)).f1 (rd_T52 t (d:Int)).f2 ((blN t d++bs).length:Int)) (if ((blN t d++bs).length:Int)≤65535 then (hdL t d (blN t d++bs).length:Int) else 0):=by
   refine Ev.congr (fun k=>by rw [head_Size.f]) ?_
   refine Ev.bind hh ((Ev.now _).eq ?_)
   split
   ·rw [nums_sizeI]
    rfl
   ·rfl
  have hnl:=nodeL_hd t d (blN t d++bs)
  have hno:¬ (nodeL t d (blN t d++bs)).length≤65535→∃ i,i < t.length∧¬ Fit1 t i:=by
   intro hb
   refine ⟨d,hdN,?_⟩
   rintro ⟨m',cs,e',hf⟩
   obtain ⟨rfl,rfl⟩:=e.det e'
   exact hb hf
  have h1:=idB_len2 (rd_T52 t (d:Int)).f0 (rd_T52 t (d:Int)).f1 (rd_T52 t (d:Int)).f2
  have h2:=lenB_len ((blN t d++bs).length:Int)
  have hhd:0 < hdL t d (blN t d++bs).length∧hdL t d (blN t d++bs).length≤7:=by unfold hdL;rw [List.length_append];omega
  by_cases g:((blN t d++bs).length:Int)≤65535
  case neg =>
   rw [if_neg g] at hsize
   refine ⟨[],false,go ?_,Or.inr ⟨rfl,hno (by omega)⟩⟩
   refine Ev.step (fun k=>by rw [tree_sizes.l1]) ?_
   exact Ev.ifn (by omega) (Ev.ifp (by omega) (Ev.ifp (by omega) (Ev.bind hsize (Ev.ifp rfl (Ev.now _)))))
  rw [if_pos g] at hsize
  by_cases g2:(nodeL t d (blN t d++bs)).length≤65535
  case neg =>
   refine ⟨[],false,go ?_,Or.inr ⟨rfl,hno g2⟩⟩
   refine Ev.step (fun k=>by rw [tree_sizes.l1]) ?_
   refine Ev.ifn (by omega) (Ev.ifp (by omega) (Ev.ifp (by omega) (Ev.bind hsize (Ev.ifn (by omega) ?_))))
   rw [w64 (by omega) (by omega)]
   exact Ev.ifp (by omega) (Ev.now _)
  obtain ⟨y,b,hy,hc⟩:=ih (x.set d (fl (hdL t d (blN t d++bs).length),fl (blN t d++bs).length)) (by omega) (by
   refine ⟨by rw [List.length_set];exact hxl,fun p hp hpN=>?_⟩
   by_cases e0:p=d
   ·subst e0
    refine ⟨m,bs,e,g2,?_⟩
    rw [rdOf_get _ p (by rw [List.length_set];omega),List.getElem_set_self]
   ·obtain ⟨m',cs,e',hf,hx⟩:=hg.2 p (by omega) hpN
    refine ⟨m',cs,e',hf,?_⟩
    rw [← hx,rdOf_get _ p (by rw [List.length_set];omega),rdOf_get _ p (by omega),List.getElem_set_ne (by omega)])
  refine ⟨y,b,go ?_,hc⟩
  refine Ev.step (fun k=>by rw [tree_sizes.l1]) ?_
  refine Ev.ifn (by omega) (Ev.ifp (by omega) (Ev.ifp (by omega) (Ev.bind hsize (Ev.ifn (by omega) ?_))))
  rw [w64 (x:=(hdL t d (blN t d++bs).length:Int)+_) (by omega) (by omega),w64 (x:=(d:Int) - 1) (by omega) (by omega),fl_of (by omega),fl_of (by omega),Int.toNat_natCast,Int.toNat_natCast,Int.toNat_natCast]
  exact Ev.ifn (by omega) (Ev.ifp (by omega) hy)
theorem tagD_ok {b:Int} (b0:0≤b) (b1:b≤2097151):OkB (tagD b):=by
 unfold tagD
 split
 ·exact OkB.one b0 (by omega)
 ·split
  ·exact OkB.cons (by omega) (by omega) (OkB.one (by omega) (by omega))
  ·exact OkB.cons (by omega) (by omega) (OkB.cons (by omega) (by omega) (OkB.one (by omega) (by omega)))
theorem idB_ok {a b:Int} {c:Bool} (a0:0≤a) (a1:a≤3) (b0:0≤b) (b1:b≤2097151):OkB (idB a b c):=by
 have h:0≤(if c then (32:Int) else 0)∧(if c then (32:Int) else 0)≤32:=by split<;>omega
 unfold idB
 split
 ·exact OkB.one (by omega) (by omega)
 ·exact OkB.cons (by omega) (by omega) (tagD_ok b0 b1)
theorem lenB_ok {n:Int} (h0:0≤n) (h1:n≤65535):OkB (lenB n):=by
 unfold lenB
 split
 ·exact OkB.one h0 (by omega)
 ·split
  ·exact OkB.cons (by omega) (by omega) (OkB.one h0 (by omega))
  ·exact OkB.cons (by omega) (by omega) (OkB.cons (by omega) (by omega) (OkB.one (by omega) (by omega)))
theorem enc_loop20 (ob:S52→Bool) (hin:InR ob) (t:List S52) (hN:t.length≤1000) (hsz:∀ n,n < t.length→(rd_T52 t (n:Int)).f3.size≤2000) (hall:∀ i,i < t.length→ob (rd_T52 t (i:Int))=true) (x:List (Nat × Nat)) (hg:Good t x 0) {ks:List Int} {n j:Nat} {bs:List Int} (e:En t ks n j bs) :
 ∀ (acc:List Int),acc.length≤65535*n→n≤t.length→∀ r,Ev (fun k=>tree_Encode.l0 k x (acc++bs) t (t.length:Int) (j:Int)) r→Ev (fun k=>tree_Encode.l0 k x acc t (t.length:Int) (n:Int)) r:=by
 induction e with
 | nil n=>intro acc _ _ r h;rw [List.append_nil] at h;exact h
 | @cons k ks n m j cs rs hkn hnN c hf er ih1 ih2 =>
  intro acc ha hn r h
  obtain ⟨m',cs',e',hf',hx⟩:=hg.2 n (Nat.zero_le _) hnN
  obtain ⟨rfl,rfl⟩:=c.det e'
  obtain ⟨r1,r2,r3,r4⟩:=hin _ (hsz n hnN) (hall n hnN)
  have hnl:=nodeL_hd t n (blN t n++cs)
  have hxl:=hg.1
  have hbd:=c.bd
  have lc:=c.le
  have hh:=henc_is _ _ (rd_T52 t (n:Int)).f2 ((blN t n++cs).length:Int) r1 r2 r3 r4 (by omega)
  rw [if_pos (by omega)] at hh
  have hbl:(rd_T52 t (n:Int)).f3.size=(blN t n).length:=by
   unfold blN
   conv=>lhs;rw [← strOfNums_bytesOf (rd_T52 t (n:Int)).f3,nums_size]
  have hok:=bytesOf_nums (OkB.append (idB_ok (c:=(rd_T52 t (n:Int)).f2) r1 r2 r3 r4) (lenB_ok (n:=((blN t n++cs).length:Int)) (by omega) (by omega)))
  have hls:(blN t n++cs).length=(blN t n).length+cs.length:=List.length_append
  have hdd:(idB (rd_T52 t (n:Int)).f0 (rd_T52 t (n:Int)).f1 (rd_T52 t (n:Int)).f2++lenB ((blN t n++cs).length:Int)).length=hdL t n (blN t n++cs).length:=rfl
  refine Ev.step (fun k=>by rw [tree_Encode.l0]) ?_
  rw [hx]
  dsimp only
  rw [fiok_fl (by omega),fint_fl (by omega),w64 (x:=(n:Int)+1) (by omega) (by omega)]
  refine Ev.ifp (by omega) (Ev.ifp (by omega) (Ev.ifp (by omega) (Ev.ifp (by omega) (Ev.ifp rfl (Ev.bind hh (Ev.ifp (by rw [nums_size,hdd];omega) (Ev.bindc rfl ?_)))))))
  rw [hok]
  refine Ev.ifp (by rw [List.length_append,hdd,hbl];omega) ?_
  refine ih1 (acc++(idB (rd_T52 t (n:Int)).f0 (rd_T52 t (n:Int)).f1 (rd_T52 t (n:Int)).f2++lenB ((blN t n++cs).length:Int))++blN t n) (by rw [List.length_append,List.length_append,hdd];omega) (by omega) r ?_
  refine ih2 _ (by rw [List.length_append,List.length_append,List.length_append,hdd];omega) (lc.2 (by omega)) r ?_
  unfold nodeL at h
  simp only [List.append_assoc] at h ⊢
  exact h
theorem enc_both (ob:S52→Bool) (hin:InR ob) (t:List S52) (hsz:∀ n,n < t.length→(rd_T52 t (n:Int)).f3.size≤2000) (hk:∀ n,n < t.length→(kidsOf t n).length≤100000) (hcov:∀ i,i < t.length→ob (rd_T52 t (i:Int))=true∧∃ m h',Ch ob t (kidsOf t i) (i+1) m h')
 (H:Nat) (hR:RT ob t H) (hr1:Ev (fun k=>tree_Right.f k t) true) (hr2:Ev (fun k=>cr20_Right.f k t) true):∃ e:ByteArray × Int,Ev (fun k=>tree_Encode.f k t) e∧Ev (fun k=>cr20_Encode.f k t) e∧(∀ cs,En t (kidsOf t 0) 1 t.length cs→(nodeL t 0 (blN t 0++cs)).length≤65535→e=(strOfNums (nodeL t 0 (blN t 0++cs)),0))∧(e.2=0→∃ cs,En t (kidsOf t 0) 1 t.length cs∧(nodeL t 0 (blN t 0++cs)).length≤65535∧e=(strOfNums (nodeL t 0 (blN t 0++cs)),0)):=by
 have hN:=hR.2.1
 have h0:=hR.1
 have hbl:(blN t 0).length≤65535:=by
  have:=hsz 0 h0
  rw [← strOfNums_bytesOf (rd_T52 t ((0:Nat):Int)).f3,nums_size] at this
  show (bytesOf (rd_T52 t ((0:Nat):Int)).f3).length≤65535
  omega
 obtain ⟨v,ok,hv,_,hA,hB⟩:=ref_bytes_is ob hin t hN hsz hk hR.2.2.2.1 0 0 (blN t 0) h0 hR.2.2.1 rfl (by omega) hbl
 have hvf:Ev (fun k=>cr20_bytes.f k t 0) (v,ok):=by
  refine Ev.step (fun k=>by rw [cr20_bytes.f]) ?_
  refine Ev.ifp (by omega) (Ev.ifp (by omega) ?_)
  unfold blN at hv
  rw [strOfNums_bytesOf] at hv
  exact hv
 obtain ⟨y,b,hy,hc⟩:=sizes_is ob hin t hN hsz hk hcov t.length (List.replicate t.length ((0,0):Nat × Nat)) (Nat.le_refl _) ⟨by simp,fun p h1 h2=>by omega⟩
 have hs:Ev (fun k=>tree_sizes.f k t) (y,b):=by
  refine Ev.congr (fun k=>by rw [tree_sizes.f]) ?_
  rw [w64 (by omega) (by omega),Int.toNat_natCast]
  exact Ev.ifp (by omega) (Ev.ifp (by omega) hy)
 have root:∀ bs,En t (kidsOf t 0) 1 t.length bs→(nodeL t 0 (blN t 0++bs)).length≤65535→En t [(0:Int)] 0 t.length (nodeL t 0 (blN t 0++bs)++[]):=fun bs e f=>En.cons rfl h0 e f (En.nil _)
 rcases hc with ⟨rfl,hg⟩ | ⟨rfl,i,hi,hnf⟩
 ·obtain ⟨m,cs,e,hf,_⟩:=hg.2 0 (Nat.le_refl _) h0
  obtain rfl:=En.pos hR.2.2.2.1 e
  obtain rfl:=hB ⟨_,cs,e,hf⟩
  obtain ⟨cs',e',_,rfl⟩:=hA rfl
  obtain ⟨_,rfl⟩:=e.det e'
  refine ⟨(strOfNums (nodeL t 0 (blN t 0++cs)),0),?_,?_,fun cs2 e2 _=>(by obtain ⟨_,rfl⟩:=e.det e2;rfl),fun _=>⟨cs,e,hf,rfl⟩⟩
  ·refine Ev.congr (fun k=>by rw [tree_Encode.f]) ?_
   refine Ev.bind hr1 (Ev.ifp rfl (Ev.bind hs (Ev.ifp rfl ?_)))
   refine enc_loop20 ob hin t hN hsz (fun i hi=>(hcov i hi).1) y hg (root cs e hf) [] (by simp) (by omega) _ ?_
   refine Ev.step (fun k=>by rw [tree_Encode.l0]) ?_
   rw [List.nil_append,List.append_nil]
   exact Ev.ifn (by omega) (Ev.now _)
  ·refine Ev.congr (fun k=>by rw [cr20_Encode.f]) ?_
   exact Ev.bind hr2 (Ev.ifp rfl (Ev.bind hvf (Ev.ifp rfl (Ev.now _))))
 ·have hok:ok=false:=by
   cases ok with
   | false=>rfl
   | true =>
    obtain ⟨bs,e,f,_⟩:=hA rfl
    exact absurd ((root bs e f).cover i (Nat.zero_le _) hi) hnf
  subst hok
  refine ⟨(⟨#[]⟩,4),?_,?_,fun cs2 e2 f2=>absurd ((root cs2 e2 f2).cover i (Nat.zero_le _) hi) hnf,fun h=>absurd h (by decide)⟩
  ·refine Ev.congr (fun k=>by rw [tree_Encode.f]) ?_
   exact Ev.bind hr1 (Ev.ifp rfl (Ev.bind hs (Ev.ifn (by simp) (Ev.now _))))
  ·refine Ev.congr (fun k=>by rw [cr20_Encode.f]) ?_
   exact Ev.bind hr2 (Ev.ifp rfl (Ev.bind hvf (Ev.ifn (by simp) (Ev.now _))))
theorem Ch.hle {ob:S52→Bool} {t:List S52} {ks:List Int} {n j h:Nat} (c:Ch ob t ks n j h):h+n≤j:=by
 induction c with
 | nil n=>omega
 | cons hk hn ho c1 c2 ih1 ih2=>omega
def FW (t:List Nd) (n:Nat) (f:Fo):Prop:=(t.drop n).take f.size=f.flat n
theorem fw_cons {t:List Nd} {n:Nat} {a b:Int} {c:Bool} {d:List Int} {ks r:Fo}:FW t n (.cons a b c d ks r)↔∃ h:n < t.length,t[n]=nd a b c (strOfNums d) (ks.roots (n+1))∧FW t (n+1) ks∧FW t (n+1+ks.size) r:=by
 have e:(t.drop n).take (1+ks.size+r.size)=(t.drop n).take 1++((t.drop (n+1)).take ks.size++(t.drop (n+1+ks.size)).take r.size):=by
  rw [Nat.add_assoc,List.take_add,List.drop_drop,List.take_add,List.drop_drop]
 constructor
 ·intro h
  unfold FW at h
  rw [Fo.size,e,Fo.flat] at h
  have hn:n < t.length:=by
   rcases Nat.lt_or_ge n t.length with hn | hn
   ·exact hn
   ·rw [List.drop_eq_nil_of_le hn,List.drop_eq_nil_of_le (by omega),List.drop_eq_nil_of_le (by omega)] at h
    simp at h
  rw [List.drop_eq_getElem_cons hn] at h
  simp only [List.take_succ_cons,List.take_zero,List.singleton_append,List.cons.injEq] at h
  obtain ⟨h1,h2⟩:=h
  have hl:=congrArg List.length h2
  rw [List.length_append,List.length_append,Fo.flat_len,Fo.flat_len] at hl
  have l1:((t.drop (n+1)).take ks.size).length≤ks.size:=by rw [List.length_take];omega
  have l2:((t.drop (n+1+ks.size)).take r.size).length≤r.size:=by rw [List.length_take];omega
  obtain ⟨h3,h4⟩:=List.append_inj h2 (by rw [Fo.flat_len];omega)
  exact ⟨hn,h1,h3,h4⟩
 ·rintro ⟨hn,h1,h2,h3⟩
  unfold FW at h2 h3 ⊢
  rw [Fo.size,e,h2,h3,List.drop_eq_getElem_cons hn,h1]
  rfl
theorem fw_le {t:List Nd} {n:Nat} {f:Fo} (h:FW t n f) (hn:n≤t.length):n+f.size≤t.length:=by
 have hl:=congrArg List.length h
 rw [Fo.flat_len,List.length_take,List.length_drop] at hl
 omega
theorem fw_flat (f:Fo):FW (f.flat 0) 0 f:=by
 unfold FW
 rw [List.drop_zero,← Fo.flat_len f 0,List.take_length]
def Fo.height:Fo→Nat
 | .nil=>0
 | .cons _ _ _ _ ks r=>max (ks.height+1) r.height
theorem Fo.Ok.deep:∀ {f:Fo} {dep:Nat},f.Ok dep→dep≤16→dep+f.height≤16
 | .nil,dep,_,h=>h
 | .cons a b c d ks r,dep,⟨_,_,o2,_,_,_,_,o7,o8⟩,h=>by
  have h1:=o7.deep (by omega)
  have h2:=o8.deep h
  rw [Fo.height]
  omega
theorem kidsOf_at {t:List Nd} {n:Nat} (h:n < t.length):kidsOf t n=t[n].f4:=by unfold kidsOf;rw [rdT_lt t n h]
theorem blN_at {t:List Nd} {n:Nat} (h:n < t.length):blN t n=bytesOf t[n].f3:=by unfold blN;rw [rdT_lt t n h]
theorem nodeL_at {t:List Nd} {n:Nat} (h:n < t.length) (cs:List Int):nodeL t n cs=idB t[n].f0 t[n].f1 t[n].f2++lenB (cs.length:Int)++cs:=by unfold nodeL;rw [rdT_lt t n h]
theorem fw_en (t:List Nd):∀ (f:Fo) (n dep:Nat),FW t n f→f.Ok dep→f.enc.length≤65535→En t (f.roots n) n (n+f.size) f.enc
 | .nil,n,dep,_,_,_=>.nil n
 | .cons a b c d ks r,n,dep,h,ho,hl=>by
  obtain ⟨hn,h1,h2,h3⟩:=fw_cons.1 h
  obtain ⟨_,_,_,_,o5,_,_,o7,o8⟩:=ho
  rw [Fo.enc_cons] at hl
  have hk:(d++ks.enc).length=d.length+ks.enc.length:=List.length_append
  have i1:=fw_en t ks (n+1) _ h2 o7 (by omega)
  have i2:=fw_en t r (n+1+ks.size) _ h3 o8 (by omega)
  have e1:nodeL t n (blN t n++ks.enc)=idB a b c++lenB ((d++ks.enc).length:Int)++(d++ks.enc):=by
   rw [nodeL_at hn,blN_at hn,h1]
   show idB a b c++lenB ((bytesOf (strOfNums d)++ks.enc).length:Int)++(bytesOf (strOfNums d)++ks.enc)=_
   rw [bytesOf_nums o5]
  have:=En.cons (t:=t) (k:=(n:Int)) rfl hn (by rw [kidsOf_at hn,h1];exact i1) (by rw [e1,List.length_append];show Fo.hd a b c d ks+_≤_;omega) i2
  rw [e1] at this
  rw [Fo.size,show n+(1+ks.size+r.size)=n+1+ks.size+r.size by omega]
  exact this
theorem one_true (a b:Int) (c:Bool) (d:ByteArray) (e:List Int) (hb:0≤a∧a≤3∧0≤b∧b≤2097151) (hc:c=true→d.toList=[]) (he:c=false→e=[]) (hm:a=0→(c=true→b=16∨b=17)∧(c=false→Ev (fun k=>strs_Right.f k b d) true)):Ev (fun k=>tree_one.f k a b c d e) true:=by
 refine Ev.congr (fun k=>by rw [tree_one.f]) ?_
 refine Ev.ifn (by rw [mn_lt0];omega) (Ev.ifn (by omega) ?_)
 rw [decide_eq_false (by omega)]
 refine Ev.step (fun k=>by rw [tree_one.j0]) ?_
 refine Ev.ifn (by simp) ?_
 cases c with
 | true =>
  refine Ev.ifp rfl (Ev.ifp (hc rfl) ?_)
  by_cases h0:a=0
  ·refine Ev.ifp h0 ?_
   rcases (hm h0).1 rfl with h | h
   ·exact Ev.ifp h (Ev.now _)
   ·refine Ev.ifn (by omega) ((Ev.now _).eq ?_)
    rw [h];rfl
  ·exact Ev.ifn h0 (Ev.now _)
 | false =>
  refine Ev.ifn (by simp) (Ev.ifp (by rw [he rfl];rfl) ?_)
  by_cases h0:a=0
  ·exact Ev.ifp h0 (Ev.bind ((hm h0).2 rfl) (Ev.now _))
  ·exact Ev.ifn h0 (Ev.now _)
theorem ob_of (ob:Nd→Bool) (hone:∀ x,OneOk x (ob x)) {a b:Int} {c:Bool} {d:List Int} {ks r:Fo} {dep m:Nat} (ho:(Fo.cons a b c d ks r).Ok dep) (hs:d.length≤2000):ob (nd a b c (strOfNums d) (ks.roots m))=true:=by
 obtain ⟨hb,_,_,o4,o5,o6,o7,_⟩:=ho
 have h1:=(hone (nd a b c (strOfNums d) (ks.roots m)) (by show (strOfNums d).size≤2000;rw [nums_size];exact hs)).1
 exact Ev.det h1 (one_true a b c (strOfNums d) (ks.roots m) hb (fun h=>by rw [o6 h,nums_toList_nil]) (fun h=>by rw [o7 h];rfl) (fun h=>⟨(o4 h).1,fun h2=>((o4 h).2 h2).1⟩))
def Fo.Small:Fo→Nat→Prop
 | .nil,_=>True
 | .cons _ _ _ d ks r,m=>d.length≤m∧ks.Small m∧r.Small m
theorem Fo.small_of:∀ (f:Fo) (m:Nat),f.enc.length≤m→f.Small m
 | .nil,_,_=>trivial
 | .cons a b c d ks r,m,h=>by
  rw [Fo.enc_cons] at h
  have hk:(d++ks.enc).length=d.length+ks.enc.length:=List.length_append
  exact ⟨by omega,Fo.small_of ks m (by omega),Fo.small_of r m (by omega)⟩
theorem fw_ch (ob:Nd→Bool) (hone:∀ x,OneOk x (ob x)) (t:List Nd):∀ (f:Fo) (n dep:Nat),FW t n f→f.Ok dep→f.Small 2000→Ch ob t (f.roots n) n (n+f.size) f.height
 | .nil,n,dep,_,_,_=>.nil n
 | .cons a b c d ks r,n,dep,h,ho,hs=>by
  obtain ⟨hn,h1,h2,h3⟩:=fw_cons.1 h
  have hob:=ob_of ob hone (m:=n+1) ho hs.1
  obtain ⟨_,_,_,_,o5,_,_,o7,o8⟩:=ho
  have i1:=fw_ch ob hone t ks (n+1) _ h2 o7 hs.2.1
  have i2:=fw_ch ob hone t r (n+1+ks.size) _ h3 o8 hs.2.2
  have:=Ch.cons (ob:=ob) (t:=t) (k:=(n:Int)) rfl hn (by rw [rdT_lt t n hn,h1];exact hob) (by rw [kidsOf_at hn,h1];exact i1) i2
  rw [Fo.size,show n+(1+ks.size+r.size)=n+1+ks.size+r.size by omega]
  exact this
theorem of_ch (ob:Nd→Bool) (hone:∀ x,OneOk x (ob x)) (t:List Nd) (hsz:∀ n,n < t.length→(rd_T52 t (n:Int)).f3.size≤2000) {ks:List Int} {n j h:Nat} (c:Ch ob t ks n j h):∀ {bs:List Int} {j':Nat},En t ks n j' bs→∀ dep,dep+h≤16→∃ f:Fo,f.roots n=ks∧n+f.size=j∧FW t n f∧f.enc=bs∧f.Ok dep:=by
 induction c with
 | nil n =>
  intro bs j' e dep hd
  cases e
  exact ⟨.nil,rfl,rfl,rfl,rfl,trivial⟩
 | @cons k ks n m j h1 h2 hk hn ho c1 c2 ih1 ih2 =>
  intro bs j' e dep hd
  cases e with
  | @cons _ _ _ m' _ cs rs _ _ e1 hf e2 =>
   obtain rfl:=En.pos c1 e1
   obtain ⟨f,f1,f2,f3,f4,f5⟩:=ih1 e1 (dep+1) (by omega)
   obtain ⟨r,r1,r2,r3,r4,r5⟩:=ih2 e2 dep (by omega)
   obtain ⟨q1,q2,q3,q4⟩:=((hone _ (hsz n hn)).2.2 ho)
   rw [rdT_lt t n hn] at q1 q2 q3 q4
   rw [kidsOf_at hn] at f1
   have e0:nodeL t n (blN t n++cs)=idB t[n].f0 t[n].f1 t[n].f2++lenB ((bytesOf t[n].f3++f.enc).length:Int)++(bytesOf t[n].f3++f.enc):=by rw [nodeL_at hn,blN_at hn,f4]
   have hfl:=hf
   rw [e0,List.length_append] at hfl
   subst f2
   refine ⟨.cons t[n].f0 t[n].f1 t[n].f2 (bytesOf t[n].f3) f r,by rw [Fo.roots,r1,hk],by rw [Fo.size];omega,?_,by rw [Fo.enc,e0,r4],q1,by omega,by omega,?_,bytesOf_ok _,?_,?_,f5,r5⟩
   ·rw [fw_cons]
    exact ⟨hn,by rw [f1,strOfNums_bytesOf];rfl,f3,r3⟩
   ·intro h0
    refine ⟨(q4 h0).1,fun hc=>?_⟩
    unfold Rt
    rw [strOfNums_bytesOf]
    exact (q4 h0).2 hc
   ·intro hc
    have:=q2 hc
    rw [← strOfNums_bytesOf t[n].f3,nums_toList_nil] at this
    exact this
   ·intro hc
    have hr:=f1
    rw [q3 hc] at hr
    cases f with
    | nil=>rfl
    | cons=>cases hr
theorem tree_of_fo (a b:Int) (c:Bool) (d:List Int) (ks:Fo) (ho:(Fo.cons a b c d ks .nil).Ok 0) (hz:(Fo.cons a b c d ks .nil).size≤1000) (hs:(Fo.cons a b c d ks .nil).Small 2000) (hl:(Fo.cons a b c d ks .nil).enc.length≤65535) :
 Ev (fun k=>tree_Right.f k ((Fo.cons a b c d ks .nil).flat 0)) true∧Ev (fun k=>cr20_Right.f k ((Fo.cons a b c d ks .nil).flat 0)) true∧Ev (fun k=>tree_Depth.f k ((Fo.cons a b c d ks .nil).flat 0)) ((ks.height:Int)+1)∧ks.height+1≤16 ∧
 Ev (fun k=>tree_Encode.f k ((Fo.cons a b c d ks .nil).flat 0)) (strOfNums (Fo.cons a b c d ks .nil).enc,0)∧Ev (fun k=>cr20_Encode.f k ((Fo.cons a b c d ks .nil).flat 0)) (strOfNums (Fo.cons a b c d ks .nil).enc,0):=by
 obtain ⟨ob,hone⟩:=one_all
 have hfw:=fw_flat (Fo.cons a b c d ks .nil)
 have hlen:=Fo.flat_len (Fo.cons a b c d ks .nil) 0
 have hkk:=Fo.flat_kids (Fo.cons a b c d ks .nil) 0
 have hdeep:=ho.deep (by omega)
 have hch:=fw_ch ob hone _ _ 0 0 hfw ho hs
 have hen:=fw_en _ _ 0 0 hfw ho hl
 have hob:=ob_of ob hone (m:=1) ho hs.1
 have hsz1:(Fo.cons a b c d ks .nil).size=1+ks.size+0:=rfl
 have hh1:(Fo.cons a b c d ks .nil).height=max (ks.height+1) 0:=rfl
 rw [Nat.zero_add] at hch hen
 have hen0:(Fo.cons a b c d ks .nil).enc=idB a b c++lenB ((d++ks.enc).length:Int)++(d++ks.enc):=by rw [Fo.enc,Fo.enc,List.append_nil]
 obtain ⟨hn,g1,g2,_⟩:=fw_cons.1 hfw
 have hd5:=ho.2.2.2.2.1
 generalize hT:(Fo.cons a b c d ks .nil).flat 0=t at *
 have hsz:∀ n,n < t.length→(rd_T52 t (n:Int)).f3.size≤2000:=by
  have key:∀ (f:Fo) (n:Nat),f.Small 2000→∀ x∈f.flat n,x.f3.size≤2000:=by
   intro f
   induction f with
   | nil=>intro n _ x hx;cases hx
   | cons a b c d ks r ih1 ih2 =>
    intro n hs x hx
    rw [Fo.flat] at hx
    rcases List.mem_cons.1 hx with rfl | hx
    ·show (strOfNums d).size≤2000;rw [nums_size];exact hs.1
    ·rcases List.mem_append.1 hx with hx | hx
     ·exact ih1 _ hs.2.1 x hx
     ·exact ih2 _ hs.2.2 x hx
  intro n hn
  rw [rdT_lt t n hn]
  exact key (Fo.cons a b c d ks .nil) 0 hs _ (by rw [hT];exact List.getElem_mem hn)
 have hk:∀ n,n < t.length→(kidsOf t n).length≤100000:=fun n hn=>by
  rw [kidsOf_at hn]
  have:=hkk _ (List.getElem_mem hn)
  omega
 have hob2:ObT ob t:=fun n hn=>(hone _ (hsz n hn)).1
 have hin:InR ob:=fun x hx ho=>((hone x hx).2.2 ho).1
 have hks:kidsOf t 0=ks.roots 1:=by rw [kidsOf_at hn,g1];rfl
 have hc0:Ch ob t (kidsOf t 0) 1 t.length ks.height:=by
  rw [hks]
  have:=fw_ch ob hone t ks 1 1 g2 ho.2.2.2.2.2.2.2.1 hs.2.1
  rw [hlen,hsz1]
  exact this
 have hR:RT ob t ks.height:=⟨by omega,by omega,by rw [show (0:Int)=((0:Nat):Int) from rfl,rdT_lt t 0 hn,g1];exact hob,hc0,by omega⟩
 have hrd:=right_depth ob t hk hob2 _ hR
 obtain ⟨b2,hb2,hb2t⟩:=ref_right_is ob t hk (fun n hn=>(hone _ (hsz n hn)).2.1)
 have hb2':b2=true:=hb2t.2 ⟨_,hR⟩
 subst hb2'
 obtain ⟨e,he1,he2,he3,_⟩:=enc_both ob hin t hsz hk (fun i hi=>by
  obtain ⟨x,m,h',c',_⟩:=hch.cover i (Nat.zero_le _) (by omega)
  exact ⟨x,m,h',c'⟩) _ hR hrd.1 hb2
 have hkl:(d++ks.enc).length=d.length+ks.enc.length:=List.length_append
 have henk:En t (kidsOf t 0) 1 t.length ks.enc:=by
  rw [hks]
  have hel:=Fo.enc_cons a b c d ks .nil
  have:=fw_en t ks 1 1 g2 ho.2.2.2.2.2.2.2.1 (by omega)
  rw [hlen,hsz1]
  exact this
 have hnl:nodeL t 0 (blN t 0++ks.enc)=(Fo.cons a b c d ks .nil).enc:=by
  rw [nodeL_at hn,blN_at hn,g1,hen0]
  show idB a b c++lenB ((bytesOf (strOfNums d)++ks.enc).length:Int)++(bytesOf (strOfNums d)++ks.enc)=_
  rw [bytesOf_nums hd5]
 have he:=he3 ks.enc henk (by rw [hnl];exact hl)
 rw [hnl] at he
 subst he
 exact ⟨hrd.1,hb2,hrd.2,by omega,he1,he2⟩
theorem Fo.enc_ok:∀ (f:Fo) (dep:Nat),f.Ok dep→OkB f.enc
 | .nil,_,_=>OkB.nil
 | .cons a b c d ks r,dep,⟨⟨a0,a1,b0,b1⟩,o1,_,_,o5,_,_,o7,o8⟩=>by
  rw [Fo.enc]
  exact (((idB_ok a0 a1 b0 b1).append (lenB_ok (by omega) (by omega))).append (o5.append (Fo.enc_ok ks _ o7))).append (Fo.enc_ok r _ o8)
theorem fo_of_tree (ob:Nd→Bool) (hone:∀ x,OneOk x (ob x)) (t:List Nd) (hsz:∀ n,n < t.length→(rd_T52 t (n:Int)).f3.size≤2000) (H:Nat) (hR:RT ob t H) (cs:List Int) (e:En t (kidsOf t 0) 1 t.length cs) (hf:(nodeL t 0 (blN t 0++cs)).length≤65535) :
 ∃ (a b:Int) (c:Bool) (d:List Int) (ks:Fo),t=(Fo.cons a b c d ks .nil).flat 0∧(Fo.cons a b c d ks .nil).size=t.length∧(Fo.cons a b c d ks .nil).enc=nodeL t 0 (blN t 0++cs)∧(Fo.cons a b c d ks .nil).Ok 0:=by
 have h0:=hR.1
 have c:=Ch.cons (ob:=ob) (t:=t) (k:=(0:Int)) (n:=0) rfl h0 hR.2.2.1 hR.2.2.2.1 (Ch.nil _)
 have e':=En.cons (t:=t) (k:=(0:Int)) (n:=0) rfl h0 e hf (En.nil _)
 obtain ⟨f,f1,f2,f3,f4,f5⟩:=of_ch ob hone t hsz c e' 0 (by have:=hR.2.2.2.2;omega)
 rw [List.append_nil] at f4
 have ht:t=f.flat 0:=by
  unfold FW at f3
  rw [List.drop_zero,show f.size=t.length by omega,List.take_length] at f3
  exact f3
 cases f with
 | nil=>cases f1
 | cons a b c d ks r =>
  rw [Fo.roots] at f1
  cases r with
  | nil=>exact ⟨a,b,c,d,ks,ht,by omega,f4,f5⟩
  | cons=>cases f1
def Fo.parts:Fo→List (List Nd)
 | .nil=>[]
 | .cons a b c d ks r=>(Fo.cons a b c d ks .nil).flat 0 :: r.parts
theorem Fo.parts_len:∀ f:Fo,f.parts.length≤f.size
 | .nil=>Nat.le_refl _
 | .cons a b c d ks r=>by rw [Fo.parts,Fo.size,List.length_cons];have:=Fo.parts_len r;omega
theorem Fo.single_flat (a b:Int) (c:Bool) (d:List Int) (ks:Fo) (n:Nat):(Fo.cons a b c d ks .nil).flat n=nd a b c (strOfNums d) (ks.roots (n+1)) :: ks.flat (n+1):=by
 rw [Fo.flat,Fo.flat,List.append_nil]
theorem Fo.roots_shift (n m:Nat) (by_:Int) (h:(n:Int)+by_=(m:Int)):∀ (f:Fo) (j:Nat),n+j+f.size≤1000000→m+j+f.size≤1000000→(f.roots (n+j)).map (fun y=>wrap64 (y+by_))=f.roots (m+j)
 | .nil,_,_,_=>rfl
 | .cons a b c d ks r,j,h1,h2=>by
  rw [Fo.size] at h1 h2
  rw [Fo.roots,Fo.roots,List.map_cons]
  have i:=Fo.roots_shift n m by_ h r (j+1+ks.size) (by omega) (by omega)
  rw [show n+(j+1+ks.size)=n+j+1+ks.size by omega,show m+(j+1+ks.size)=m+j+1+ks.size by omega] at i
  rw [i,w64 (by omega) (by omega)]
  congr 1
  omega
theorem Fo.flat_shift (n m:Nat) (by_:Int) (h:(n:Int)+by_=(m:Int)):∀ (f:Fo) (j:Nat),n+j+f.size≤1000000→m+j+f.size≤1000000→(f.flat (n+j)).map (shN by_)=f.flat (m+j)
 | .nil,_,_,_=>rfl
 | .cons a b c d ks r,j,h1,h2=>by
  rw [Fo.size] at h1 h2
  rw [Fo.flat,Fo.flat,List.map_cons,List.map_append]
  have i0:=Fo.roots_shift n m by_ h ks (j+1) (by omega) (by omega)
  have i1:=Fo.flat_shift n m by_ h ks (j+1) (by omega) (by omega)
  have i2:=Fo.flat_shift n m by_ h r (j+1+ks.size) (by omega) (by omega)
  rw [show n+(j+1)=n+j+1 by omega,show m+(j+1)=m+j+1 by omega] at i0 i1
  rw [show n+(j+1+ks.size)=n+j+1+ks.size by omega,show m+(j+1+ks.size)=m+j+1+ks.size by omega] at i2
  rw [i1,i2]
  congr 1
  show (⟨a,b,c,strOfNums d,((ks.roots (n+j+1)).map fun y=>wrap64 (y+by_))⟩:Nd)=⟨a,b,c,strOfNums d,ks.roots (m+j+1)⟩
  rw [i0]
theorem parts_at {LL:List (List Nd)} {q:Nat} {a b:Int} {c:Bool} {d:List Int} {ks r:Fo} (h:LL.drop q=(Fo.cons a b c d ks r).parts):∃ hq:q < LL.length,LL[q]=(Fo.cons a b c d ks .nil).flat 0∧LL.drop (q+1)=r.parts:=by
 have hq:q < LL.length:=by
  rcases Nat.lt_or_ge q LL.length with g | g
  ·exact g
  ·rw [List.drop_eq_nil_of_le g,Fo.parts] at h;cases h
 rw [List.drop_eq_getElem_cons hq,Fo.parts] at h
 obtain ⟨h1,h2⟩:=List.cons.inj h
 exact ⟨hq,h1,h2⟩
theorem of_fo (a b:Int) (LL:List (List Nd)) (hLL:LL.length≤1000):∀ (g:Fo) (q:Nat) (kd:List Int) (body:List Nd),LL.drop q=g.parts→q≤LL.length→kd.length+g.size≤1000→body.length+1+g.size≤1000 →
 Ev (fun k=>tree_Of.l0 k (nd a b true ⟨#[]⟩ kd :: body) LL (LL.length:Int) (q:Int)) (nd a b true ⟨#[]⟩ (kd++g.roots (body.length+1)) :: (body++g.flat (body.length+1))):=by
 intro g
 induction g with
 | nil =>
  intro q kd body hq hql _ _
  have:LL.length≤q:=by
   have:=congrArg List.length hq
   simp [Fo.parts] at this
   omega
  refine Ev.step (fun k=>by rw [tree_Of.l0]) ?_
  rw [Fo.roots,Fo.flat,List.append_nil,List.append_nil]
  exact Ev.ifn (by omega) (Ev.now _)
 | cons a' b' c' d' ks r _ ih =>
  intro q kd body hq hql hkd hb
  obtain ⟨hlt,e1,e2⟩:=parts_at hq
  rw [Fo.size] at hkd hb
  have hl1:(LL[q]).length=1+ks.size:=by rw [e1,Fo.flat_len];rfl
  have hkk:=Fo.flat_kids (Fo.cons a' b' c' d' ks .nil) 0
  have hv:rd_L52 LL (q:Int)=LL[q]:=by unfold rd_L52;simp [List.getD_eq_getElem?_getD,hlt]
  have hx7:((nd a b true ⟨#[]⟩ kd :: body).length:Int)=((body.length+1:Nat):Int):=by simp
  have hr0:rd_T52 (nd a b true ⟨#[]⟩ kd :: body) 0=nd a b true ⟨#[]⟩ kd:=rfl
  refine Ev.step (fun k=>by rw [tree_Of.l0]) ?_
  rw [hv,hx7,hr0]
  refine Ev.ifp (by omega) (Ev.ifp (by omega) (Ev.ifp (by omega) (Ev.ifp (by omega) (Ev.ifp (by omega) (Ev.ifp (by show kd.length < _;omega) ?_)))))
  refine Ev.step (fun k=>by rw [tree_Of.j1]) ?_
  refine of_l1 ((body.length+1:Nat):Int) LL _ _ (LL[q]) (by omega) (fun x hx=>by have:=hkk x (e1 ▸ hx);rw [Fo.size] at this;simp only [Fo.size] at this;omega) _ 0 _ rfl (by omega) (by simp;omega) ?_
  have es:=Fo.flat_shift 0 (body.length+1) ((body.length+1:Nat):Int) (by omega) (Fo.cons a' b' c' d' ks .nil) 0 (by simp only [Fo.size];omega) (by simp only [Fo.size];omega)
  rw [List.drop_zero,e1,es,Nat.add_zero,w64 (x:=(q:Int)+1) (by omega) (by omega)]
  have hbl:(body++(Fo.cons a' b' c' d' ks .nil).flat (body.length+1)).length=body.length+1+ks.size:=by rw [List.length_append,Fo.flat_len];simp only [Fo.size];omega
  have:=ih (q+1) (kd++[((body.length+1:Nat):Int)]) (body++(Fo.cons a' b' c' d' ks .nil).flat (body.length+1)) e2 (by omega) (by simp;omega) (by rw [hbl];omega)
  rw [hbl] at this
  refine this.eq ?_
  simp only [Fo.roots,Fo.flat,List.append_nil,List.append_assoc,List.cons_append,List.nil_append,List.singleton_append,show body.length+1+ks.size+1=body.length+1+1+ks.size by omega]
theorem tree_Of_fo (a b:Int) (g:Fo) (h:g.size≤999):Ev (fun k=>tree_Of.f k a b g.parts) ((Fo.cons a b true [] g .nil).flat 0):=by
 have hp:=g.parts_len
 refine Ev.congr (fun k=>by rw [tree_Of.f]) ?_
 have:=of_fo a b g.parts (by omega) g 0 [] [] (by rw [List.drop_zero]) (by omega) (by simp;omega) (by simp;omega)
 refine this.eq ?_
 rw [Fo.single_flat]
 rfl
def Fo.app:Fo→Fo→Fo
 | .nil,g=>g
 | .cons a b c d ks r,g=>.cons a b c d ks (r.app g)
structure Tr (ob:Nd→Bool) (t:List Nd) (H:Nat):Prop where
 one:∀ x,OneOk x (ob x)
 sz:∀ n,n < t.length→(rd_T52 t (n:Int)).f3.size≤2000
 kd:∀ n,n < t.length→(kidsOf t n).length≤100000
 rt:RT ob t H
theorem Tr.obT {ob:Nd→Bool} {t:List Nd} {H:Nat} (h:Tr ob t H):ObT ob t:=fun n hn=>(h.one _ (h.sz n hn)).1
theorem fo_tr (a b:Int) (c:Bool) (d:List Int) (ks:Fo) (ho:(Fo.cons a b c d ks .nil).Ok 0) (hz:(Fo.cons a b c d ks .nil).size≤1000) (hs:(Fo.cons a b c d ks .nil).Small 2000):∃ ob,Tr ob ((Fo.cons a b c d ks .nil).flat 0) ks.height:=by
 obtain ⟨ob,hone⟩:=one_all
 have hfw:=fw_flat (Fo.cons a b c d ks .nil)
 have hlen:=Fo.flat_len (Fo.cons a b c d ks .nil) 0
 have hkk:=Fo.flat_kids (Fo.cons a b c d ks .nil) 0
 have hdeep:=ho.deep (by omega)
 have hob:=ob_of ob hone (m:=1) ho hs.1
 have hsz1:(Fo.cons a b c d ks .nil).size=1+ks.size+0:=rfl
 have hh1:(Fo.cons a b c d ks .nil).height=max (ks.height+1) 0:=rfl
 obtain ⟨hn,g1,g2,_⟩:=fw_cons.1 hfw
 generalize hT:(Fo.cons a b c d ks .nil).flat 0=t at *
 have hsz:∀ n,n < t.length→(rd_T52 t (n:Int)).f3.size≤2000:=by
  have key:∀ (f:Fo) (n:Nat),f.Small 2000→∀ x∈f.flat n,x.f3.size≤2000:=by
   intro f
   induction f with
   | nil=>intro n _ x hx;cases hx
   | cons a b c d ks r ih1 ih2 =>
    intro n hs x hx
    rw [Fo.flat] at hx
    rcases List.mem_cons.1 hx with rfl | hx
    ·show (strOfNums d).size≤2000;rw [nums_size];exact hs.1
    ·rcases List.mem_append.1 hx with hx | hx
     ·exact ih1 _ hs.2.1 x hx
     ·exact ih2 _ hs.2.2 x hx
  intro n hn
  rw [rdT_lt t n hn]
  exact key (Fo.cons a b c d ks .nil) 0 hs _ (by rw [hT];exact List.getElem_mem hn)
 refine ⟨ob,hone,hsz,fun n hn=>?_,by omega,by omega,by rw [show (0:Int)=((0:Nat):Int) from rfl,rdT_lt t 0 hn,g1];exact hob,?_,by omega⟩
 ·rw [kidsOf_at hn]
  have:=hkk _ (List.getElem_mem hn)
  omega
 ·have hks:kidsOf t 0=ks.roots 1:=by rw [kidsOf_at hn,g1];rfl
  rw [hks]
  have:=fw_ch ob hone t ks 1 1 g2 ho.2.2.2.2.2.2.2.1 hs.2.1
  rw [hlen,hsz1]
  exact this
theorem fw_single {t:List Nd} {n:Nat} {a b:Int} {c:Bool} {d:List Int} {ks r:Fo} (h:FW t n (.cons a b c d ks r)):FW t n (.cons a b c d ks .nil):=by
 obtain ⟨h1,h2,h3,_⟩:=fw_cons.1 h
 exact fw_cons.2 ⟨h1,h2,h3,by unfold FW;rw [Fo.size,Fo.flat,List.take_zero]⟩
theorem win_fo {t:List Nd} {n:Nat} {a b:Int} {c:Bool} {d:List Int} {ks:Fo} (h:FW t n (.cons a b c d ks .nil)) (hl:n+(1+ks.size)≤1000):win t n (n+1+ks.size)=(Fo.cons a b c d ks .nil).flat 0:=by
 unfold win
 rw [List.drop_take,show n+1+ks.size - n=(Fo.cons a b c d ks .nil).size by simp only [Fo.size];omega,h,w64 (by omega) (by omega)]
 exact Fo.flat_shift n 0 (-(n:Int)) (by omega) _ 0 (by simp only [Fo.size];omega) (by simp only [Fo.size];omega)
theorem pt_fo {ob:Nd→Bool} (hone:∀ x,OneOk x (ob x)) {t:List Nd} {H:Nat} (ht:t.length≤1000):∀ (f:Fo) (n dep:Nat),FW t n f→f.Ok dep→f.Small 2000→f.height≤H→n≤t.length→Pt ob t H (f.roots n) n (n+f.size) f.parts
 | .nil,n,_,_,_,_,_,_=>.nil n
 | .cons a b c d ks r,n,dep,h,ho,hs,hh,hn=>by
  have hle:=fw_le h hn
  obtain ⟨h1,h2,h3,h4⟩:=fw_cons.1 h
  rw [Fo.height] at hh
  rw [Fo.size] at hle
  have i:=pt_fo (H:=H) hone ht r (n+1+ks.size) dep h4 ho.2.2.2.2.2.2.2.2 hs.2.2 (by omega) (by omega)
  rw [Fo.roots,Fo.parts,Fo.size,← win_fo (fw_single h) (by omega),show n+(1+ks.size+r.size)=n+1+ks.size+r.size by omega]
  refine Pt.cons (m:=n+1+ks.size) (h:=ks.height) rfl h1 ?_ ?_ (Nat.lt_of_lt_of_le (Nat.lt_succ_self _) (Nat.le_trans (Nat.le_max_left _ _) hh)) (by omega) i
  ·rw [rdT_lt t n h1,h2]
   exact ob_of ob hone ho hs.1
  ·rw [kidsOf_at h1,h2]
   exact fw_ch ob hone t ks (n+1) _ h3 ho.2.2.2.2.2.2.2.1 hs.2.1
theorem tree_Kids_fo (a b:Int) (c:Bool) (d:List Int) (ks:Fo) (ho:(Fo.cons a b c d ks .nil).Ok 0) (hz:(Fo.cons a b c d ks .nil).size≤1000) (hs:(Fo.cons a b c d ks .nil).Small 2000):Ev (fun k=>tree_Kids.f k ((Fo.cons a b c d ks .nil).flat 0)) ks.parts:=by
 obtain ⟨ob,T⟩:=fo_tr a b c d ks ho hz hs
 have hfw:=fw_flat (Fo.cons a b c d ks .nil)
 have hlen:=Fo.flat_len (Fo.cons a b c d ks .nil) 0
 obtain ⟨hn,g1,g2,_⟩:=fw_cons.1 hfw
 generalize (Fo.cons a b c d ks .nil).flat 0=t at *
 have p:=pt_fo (H:=ks.height) T.one (by omega) ks 1 1 g2 ho.2.2.2.2.2.2.2.1 hs.2.1 (Nat.le_refl _) (by omega)
 refine kids_is ob t T.kd T.obT ks.height T.rt ks.parts (1+ks.size) ?_
 rw [kidsOf_at hn,g1]
 exact p
theorem Fo.small_flat:∀ (f:Fo) (n:Nat),f.Small 2000→∀ x∈f.flat n,x.f3.size≤2000
 | .nil,_,_,x,hx=>by cases hx
 | .cons a b c d ks r,n,hs,x,hx=>by
  rw [Fo.flat] at hx
  rcases List.mem_cons.1 hx with rfl | hx
  ·show (strOfNums d).size≤2000;rw [nums_size];exact hs.1
  ·rcases List.mem_append.1 hx with hx | hx
   ·exact Fo.small_flat ks _ hs.2.1 x hx
   ·exact Fo.small_flat r _ hs.2.2 x hx
inductive TE (t:List Nd):Prop
 | no (h1:Ev (fun k=>tree_Encode.f k t) (⟨#[]⟩,1)) (h2:Ev (fun k=>cr20_Right.f k t) false)
 | yes (e:ByteArray × Int) (h1:Ev (fun k=>tree_Encode.f k t) e) (h2:Ev (fun k=>cr20_Right.f k t) true) (h3:Ev (fun k=>cr20_Encode.f k t) e)
  (h4:e.2=0→∃ (a b:Int) (c:Bool) (d:List Int) (ks:Fo),t=(Fo.cons a b c d ks .nil).flat 0∧(Fo.cons a b c d ks .nil).Ok 0∧(Fo.cons a b c d ks .nil).enc.length≤65535∧e.1=strOfNums (Fo.cons a b c d ks .nil).enc)
theorem tree_enc_any (t:List Nd) (hsz:∀ x∈t,x.f3.size≤2000) (hkk:∀ x∈t,x.f4.length≤100000):TE t:=by
 obtain ⟨ob,hone⟩:=one_all
 have hsz:∀ n,n < t.length→(rd_T52 t (n:Int)).f3.size≤2000:=fun n hn=>by rw [rdT_lt t n hn];exact hsz _ (List.getElem_mem hn)
 have hk:∀ n,n < t.length→(kidsOf t n).length≤100000:=fun n hn=>by rw [kidsOf_at hn];exact hkk _ (List.getElem_mem hn)
 have hob:ObT ob t:=fun n hn=>(hone _ (hsz n hn)).1
 have hin:InR ob:=fun x hx ho=>((hone x hx).2.2 ho).1
 obtain ⟨b2,hb2,hb2t⟩:=ref_right_is ob t hk (fun n hn=>(hone _ (hsz n hn)).2.1)
 by_cases hR:∃ h,RT ob t h
 case neg =>
  have hr1:=right_no ob t hk hob hR
  obtain rfl:b2=false:=by
   cases b2 with
   | false=>rfl
   | true=>exact absurd (hb2t.1 rfl) hR
  refine .no ?_ hb2
  refine Ev.congr (fun k=>by rw [tree_Encode.f]) ?_
  exact Ev.bind hr1 (Ev.ifn (by simp) (Ev.now _))
 obtain rfl:b2=true:=hb2t.2 hR
 obtain ⟨H,hR⟩:=hR
 have hrd:=right_depth ob t hk hob H hR
 obtain ⟨e,he1,he2,he3,he4⟩:=enc_both ob hin t hsz hk (fun i hi=>by
  by_cases e:i=0
  ·subst e
   exact ⟨hR.2.2.1,_,_,hR.2.2.2.1⟩
  ·obtain ⟨a,m,h',c,hm,hh⟩:=hR.2.2.2.1.cover i (by omega) hi
   exact ⟨a,m,h',c⟩) H hR hrd.1 hb2
 refine .yes e he1 hb2 he2 fun h=>?_
 obtain ⟨cs,hen,hle,hee⟩:=he4 h
 obtain ⟨a,b,c,d,ks,g1,g2,g3,g4⟩:=fo_of_tree ob hone t hsz H hR cs hen hle
 exact ⟨a,b,c,d,ks,g1,g4,by rw [g3];exact hle,by rw [g3,hee]⟩
def Fo.By:Fo→Prop
 | .nil=>True
 | .cons _ _ _ d ks r=>OkB d∧ks.By∧r.By
theorem Fo.Ok.by:∀ {f:Fo} {dep:Nat},f.Ok dep→f.By
 | .nil,_,_=>trivial
 | .cons _ _ _ _ _ _,_,h=>⟨h.2.2.2.2.1,Fo.Ok.by h.2.2.2.2.2.2.2.1,Fo.Ok.by h.2.2.2.2.2.2.2.2⟩
theorem nums_inj {l m:List Int} (hl:OkB l) (hm:OkB m) (h:strOfNums l=strOfNums m):l=m:=by
 rw [← bytesOf_nums hl,← bytesOf_nums hm,h]
theorem Fo.flat_inj:∀ {f g:Fo} {n:Nat},f.By→g.By→f.flat n=g.flat n→f.roots n=g.roots n→f=g
 | .nil,.nil,_,_,_,_,_=>rfl
 | .nil,.cons ..,_,_,_,h,_=>by rw [Fo.flat,Fo.flat] at h;cases h
 | .cons ..,.nil,_,_,_,h,_=>by rw [Fo.flat,Fo.flat] at h;cases h
 | .cons a b c d ks r,.cons a' b' c' d' ks' r',n,hf,hg,h,hr=>by
  rw [Fo.flat,Fo.flat] at h
  obtain ⟨h1,h2⟩:=List.cons.inj h
  have e1:a=a':=congrArg (·.f0) h1
  have e2:b=b':=congrArg (·.f1) h1
  have e3:c=c':=congrArg (·.f2) h1
  have e4:strOfNums d=strOfNums d':=congrArg (·.f3) h1
  have e5:ks.roots (n+1)=ks'.roots (n+1):=congrArg (·.f4) h1
  have e4:=nums_inj hf.1 hg.1 e4
  rw [Fo.roots,Fo.roots] at hr
  have hr:=(List.cons.inj hr).2
  have hsz:ks.size=ks'.size:=by
   cases r with
   | nil =>
    cases r' with
    | nil =>
     have:=congrArg List.length h2
     rw [List.length_append,List.length_append,Fo.flat_len,Fo.flat_len,Fo.flat_len,Fo.flat_len] at this
     simpa [Fo.size] using this
    | cons=>rw [Fo.roots,Fo.roots] at hr;cases hr
   | cons =>
    cases r' with
    | nil=>rw [Fo.roots,Fo.roots] at hr;cases hr
    | cons =>
     rw [Fo.roots,Fo.roots] at hr
     have:=(List.cons.inj hr).1
     omega
  obtain ⟨h3,h4⟩:=List.append_inj h2 (by rw [Fo.flat_len,Fo.flat_len,hsz])
  rw [hsz] at h4 hr
  rw [Fo.flat_inj hf.2.1 hg.2.1 h3 e5,Fo.flat_inj hf.2.2 hg.2.2 h4 hr,e1,e2,e3,e4]
inductive Gs:List (List Int)→Fo→Prop
 | nil:Gs [] .nil
 | cons {z:List Int} {Z:List (List Int)} {a b:Int} {c:Bool} {d:List Int} {ks g:Fo} (he:z=(Fo.cons a b c d ks .nil).enc) (ho:(Fo.cons a b c d ks .nil).Ok 0)
  (p1:Ev (fun k=>tlv_Decode.f k (strOfNums z)) ((Fo.cons a b c d ks .nil).flat 0,0,0)) (p2:Ev (fun k=>cr19_Decode.f k (strOfNums z)) ((Fo.cons a b c d ks .nil).flat 0,0,0)) (h:Gs Z g):Gs (z :: Z) (.cons a b c d ks g)
inductive Gb:List (List Int)→Prop
 | here {z:List Int} {Z:List (List Int)} {code q:Int} (hc:code≠0) (p1:Ev (fun k=>tlv_Decode.f k (strOfNums z)) ([],code,q)) (p2:Ev (fun k=>cr19_Decode.f k (strOfNums z)) ([],code,q)):Gb (z :: Z)
 | there {z:List Int} {Z:List (List Int)} {t:List Nd} (p1:Ev (fun k=>tlv_Decode.f k (strOfNums z)) (t,0,0)) (p2:Ev (fun k=>cr19_Decode.f k (strOfNums z)) (t,0,0)) (h:Gb Z):Gb (z :: Z)
theorem Gs.enc {Z:List (List Int)} {g:Fo} (h:Gs Z g):g.enc=Z.flatten:=by
 induction h with
 | nil=>rfl
 | cons he ho p1 p2 h ih=>rw [List.flatten_cons,← ih,he,Fo.enc,Fo.enc,Fo.enc,List.append_nil]
theorem Gs.ok {Z:List (List Int)} {g:Fo} (h:Gs Z g):g.Ok 0:=by
 induction h with
 | nil=>trivial
 | cons he ho p1 p2 h ih=>exact ⟨ho.1,ho.2.1,ho.2.2.1,ho.2.2.2.1,ho.2.2.2.2.1,ho.2.2.2.2.2.1,ho.2.2.2.2.2.2.1,ho.2.2.2.2.2.2.2.1,ih⟩
theorem gs_or:∀ Z:List (List Int),(∀ z∈Z,OkB z∧z.length≤65535)→(∃ g,Gs Z g)∨Gb Z
 | [],_=>.inl ⟨.nil,.nil⟩
 | z :: Z,h=>by
  obtain ⟨h1,h2⟩:=h z (List.mem_cons_self ..)
  cases dec_is z h1 h2 with
  | bad code q hc hq p1 p2 _ _=>exact .inr (.here hc p1 p2)
  | ok a b c d ks he ho hz p1 p2 _ _ =>
   rcases gs_or Z (fun y hy=>h y (List.mem_cons_of_mem _ hy)) with ⟨g,hg⟩ | hb
   ·exact .inl ⟨_,.cons he ho p1 p2 hg⟩
   ·exact .inr (.there p1 p2 hb)
theorem Fo.size_enc:∀ f:Fo,2*f.size≤f.enc.length
 | .nil=>Nat.zero_le _
 | .cons a b c d ks r=>by
  rw [Fo.enc_cons,Fo.size]
  have h1:=Fo.size_enc ks
  have h2:=Fo.size_enc r
  have h3:=Fo.hd_pos a b c d ks
  rw [List.length_append]
  omega
theorem gs_encs:∀ f:Fo,f.Ok 0→OkB f.enc→f.enc.length≤2000→Gs f.encs f
 | .nil,_,_,_=>.nil
 | .cons a b c d ks r,ho,hb,hs=>by
  have e2:(Fo.cons a b c d ks r).enc=(Fo.cons a b c d ks .nil).enc++r.enc:=by rw [Fo.enc,Fo.enc,Fo.enc,List.append_nil]
  rw [e2] at hb hs
  rw [List.length_append] at hs
  have o1:(Fo.cons a b c d ks .nil).Ok 0:=⟨ho.1,ho.2.1,ho.2.2.1,ho.2.2.2.1,ho.2.2.2.2.1,ho.2.2.2.2.2.1,ho.2.2.2.2.2.2.1,ho.2.2.2.2.2.2.2.1,trivial⟩
  have hz:=Fo.size_enc (Fo.cons a b c d ks .nil)
  obtain ⟨p1,p2⟩:=dec_enc _ (fun x hx=>hb x (List.mem_append_left _ hx)) (by omega) a b c d ks rfl o1 (by omega)
  exact .cons rfl o1 p1 p2 (gs_encs r ho.2.2.2.2.2.2.2.2 (fun x hx=>hb x (List.mem_append_right _ hx)) (by omega))
theorem rdOf_nums (Z:List (List Int)) (q:Nat) {z:List Int} {W:List (List Int)} (h:Z.drop q=z :: W):q < Z.length∧rdOf ByteArray.empty (Z.map strOfNums) (q:Int)=strOfNums z∧Z.drop (q+1)=W:=by
 have hq:q < Z.length:=by
  rcases Nat.lt_or_ge q Z.length with g | g
  ·exact g
  ·rw [List.drop_eq_nil_of_le g] at h;cases h
 rw [List.drop_eq_getElem_cons hq] at h
 obtain ⟨h1,h2⟩:=List.cons.inj h
 refine ⟨hq,?_,h2⟩
 unfold rdOf
 simp [List.getD_eq_getElem?_getD,hq,h1]
theorem drop_nil {α:Type} {Z:List α} {q:Nat} (h:Z.drop q=[]):Z.length≤q:=by
 have:=congrArg List.length h
 simp at this
 omega
theorem el_good {Y:List (List Int)} (hY:Y.length≤65535) {Z:List (List Int)} {g:Fo} (h:Gs Z g):∀ (q:Nat) (X:List (List Nd)),Y.drop q=Z→X.length≤q→Ev (fun k=>pkcs8_elements.l0 k (Y.map strOfNums) X (Y.length:Int) (q:Int)) (X++g.parts,true):=by
 induction h with
 | nil =>
  intro q X hq hX
  have:=drop_nil hq
  refine Ev.step (fun k=>by rw [pkcs8_elements.l0]) ?_
  rw [Fo.parts,List.append_nil]
  exact Ev.ifn (by omega) (Ev.now _)
 | @cons z Z a b c d ks g he ho p1 p2 h ih =>
  intro q X hq hX
  obtain ⟨h1,h2,h3⟩:=rdOf_nums Y q hq
  refine Ev.step (fun k=>by rw [pkcs8_elements.l0,h2]) ?_
  refine Ev.ifp (by omega) (Ev.ifp (by omega) (Ev.ifp (by rw [List.length_map];omega) (Ev.bind p1 (Ev.ifp rfl (Ev.ifp (by omega) ?_)))))
  rw [w64 (x:=(q:Int)+1) (by omega) (by omega),Fo.parts]
  have:=ih (q+1) (X++[(Fo.cons a b c d ks .nil).flat 0]) h3 (by rw [List.length_append,List.length_singleton];omega)
  rw [List.append_assoc,List.singleton_append] at this
  exact this
theorem el_bad {Y:List (List Int)} (hY:Y.length≤65535) {Z:List (List Int)} (h:Gb Z):∀ (q:Nat) (X:List (List Nd)),Y.drop q=Z→X.length≤q→Ev (fun k=>pkcs8_elements.l0 k (Y.map strOfNums) X (Y.length:Int) (q:Int)) ([],false):=by
 induction h with
 | here hc p1 p2 =>
  intro q X hq hX
  obtain ⟨h1,h2,h3⟩:=rdOf_nums Y q hq
  refine Ev.step (fun k=>by rw [pkcs8_elements.l0,h2]) ?_
  exact Ev.ifp (by omega) (Ev.ifp (by omega) (Ev.ifp (by rw [List.length_map];omega) (Ev.bind p1 (Ev.ifn hc (Ev.now _)))))
 | there p1 p2 h ih =>
  intro q X hq hX
  obtain ⟨h1,h2,h3⟩:=rdOf_nums Y q hq
  refine Ev.step (fun k=>by rw [pkcs8_elements.l0,h2]) ?_
  refine Ev.ifp (by omega) (Ev.ifp (by omega) (Ev.ifp (by rw [List.length_map];omega) (Ev.bind p1 (Ev.ifp rfl (Ev.ifp (by omega) ?_)))))
  rw [w64 (x:=(q:Int)+1) (by omega) (by omega)]
  exact ih (q+1) _ h3 (by rw [List.length_append,List.length_singleton];omega)
inductive Elm (l:List Int):Prop
 | bad (Y:List ByteArray) (c q:Int) (p1:Ev (fun k=>tlv_Pieces.f k (strOfNums l)) (Y,c,q)) (p2:Ev (fun k=>cr19_Pieces.f k (strOfNums l)) (Y,c,q)) (hb:c≠0∨∃ Z:List (List Int),c=0∧Y=Z.map strOfNums∧Z.length≤65535∧Gb Z) (e:Ev (fun k=>pkcs8_elements.f k (strOfNums l)) ([],false))
 | ok (g:Fo) (Z:List (List Int)) (q:Int) (p1:Ev (fun k=>tlv_Pieces.f k (strOfNums l)) (Z.map strOfNums,0,q)) (p2:Ev (fun k=>cr19_Pieces.f k (strOfNums l)) (Z.map strOfNums,0,q)) (hZ:Z.length≤65535) (hg:Gs Z g) (he:g.enc=l) (e:Ev (fun k=>pkcs8_elements.f k (strOfNums l)) (g.parts,true))
theorem elements_is (l:List Int) (hl:OkB l) (hs:l.length≤65535):Elm l:=by
 obtain ⟨Y,c,q,hY,h1,h2,h3⟩:=pieces_is l hl hs
 by_cases hc:c=0
 ·subst hc
  obtain ⟨Z,rfl,hZ⟩:=h3 rfl
  rw [List.length_map] at hY
  have run:∀ {R},Ev (fun k=>pkcs8_elements.l0 k (Z.map strOfNums) [] (Z.length:Int) ((0:Nat):Int)) R→Ev (fun k=>pkcs8_elements.f k (strOfNums l)) R:=fun h=>by
   refine Ev.congr (fun k=>by rw [pkcs8_elements.f]) ?_
   refine Ev.bind h1 (Ev.ifp rfl ?_)
   show Ev (fun k=>pkcs8_elements.l0 k (Z.map strOfNums) [] ((Z.map strOfNums).length:Int) 0) _
   rw [List.length_map]
   exact h
  have hzz:∀ z∈Z,OkB z∧z.length≤65535:=fun z hz=>by
   have h5:∀ x∈z,x∈l:=fun x hx=>by rw [← hZ];exact List.mem_flatten.2 ⟨z,hz,hx⟩
   refine ⟨fun x hx=>hl x (h5 x hx),?_⟩
   have:z.length≤Z.flatten.length:=(List.sublist_flatten_of_mem hz).length_le
   rw [hZ] at this
   omega
  rcases gs_or Z hzz with ⟨g,hg⟩ | hb
  ·exact .ok g Z q h1 h2 (by omega) hg (by rw [hg.enc,hZ]) (run (el_good (by omega) hg 0 [] (List.drop_zero) (Nat.zero_le _)))
  ·exact .bad _ _ q h1 h2 (.inr ⟨Z,rfl,rfl,by omega,hb⟩) (run (el_bad (by omega) hb 0 [] (List.drop_zero) (Nat.zero_le _)))
 ·refine .bad Y c q h1 h2 (.inl hc) ?_
  refine Ev.congr (fun k=>by rw [pkcs8_elements.f]) ?_
  exact Ev.bind h1 (Ev.ifn hc (Ev.now _))
theorem elements_fo (g:Fo) (ho:g.Ok 0) (hb:OkB g.enc) (hs:g.enc.length≤2000):Ev (fun k=>pkcs8_elements.f k (strOfNums g.enc)) (g.parts,true):=by
 have hz:=g.size_enc
 have h1:=pieces_fo g ho hb (by omega) (by omega)
 refine Ev.congr (fun k=>by rw [pkcs8_elements.f]) ?_
 refine Ev.bind h1 (Ev.ifp rfl ?_)
 have hl:=g.encs_len
 have:=el_good (Y:=g.encs) (by omega) (gs_encs g ho hb hs) 0 [] List.drop_zero (Nat.zero_le _)
 rw [List.nil_append] at this
 show Ev (fun k=>pkcs8_elements.l0 k (g.encs.map strOfNums) [] ((g.encs.map strOfNums).length:Int) 0) _
 rw [List.length_map]
 exact this
def pFo (param:List Int):Fo:=if param=[] then .cons 0 5 false [] .nil .nil else .cons 0 6 false (digs (numsOf param)) .nil .nil
def aFo:Fo→Fo
 | .nil=>.nil
 | .cons a b c d ks r=>.cons 2 0 true [] (.cons a b c d ks r) .nil
theorem aFo_ne {g:Fo} (h:g≠.nil):aFo g=.cons 2 0 true [] g .nil:=by
 cases g with
 | nil=>exact absurd rfl h
 | cons=>rfl
def kFo (arcs param key:List Int) (g:Fo):Fo:=.cons 0 2 false [0] .nil (.cons 0 16 true [] (.cons 0 6 false (digs (numsOf arcs)) .nil (pFo param)) (.cons 0 4 false key .nil (aFo g)))
def mFo (arcs param key:List Int) (g:Fo):Fo:=.cons 0 16 true [] (kFo arcs param key g) .nil
theorem pFo_size (p:List Int):(pFo p).size=1:=by unfold pFo;split<;>rfl
theorem aFo_size (g:Fo):(aFo g).size≤1+g.size:=by
 cases g with
 | nil=>simp [aFo,Fo.size]
 | cons=>simp [aFo,Fo.size]
theorem kFo_size (arcs param key:List Int) (g:Fo):(kFo arcs param key g).size≤6+g.size:=by
 have h1:=pFo_size param
 have h2:=aFo_size g
 unfold kFo
 simp only [Fo.size]
 omega
theorem Fo.parts_nil {g:Fo}:g.parts.length > 0↔g≠.nil:=by
 cases g<;>simp [Fo.parts]
theorem named_enc (l:List Int) (hl:l.length≤1000):Ev (fun k=>pkcs8_named.j0 k l false) (if rightA l=true then ((Fo.cons 0 6 false (digs (numsOf l)) .nil .nil).flat 0,true) else ((Fo.cons 0 6 false [] .nil .nil).flat 0,false)):=by
 refine Ev.step (fun k=>by rw [pkcs8_named.j0]) ?_
 refine Ev.ifn (by simp) (Ev.bind (oid_encode_is l hl) ?_)
 by_cases h:rightA l=true
 ·rw [if_pos h,if_pos h]
  exact Ev.now _
 ·rw [if_neg h,if_neg h]
  exact Ev.now _
theorem named_is (l:List Int) (hl:l.length≤1000):Ev (fun k=>pkcs8_named.f k l false) (if rightA l=true then ((Fo.cons 0 6 false (digs (numsOf l)) .nil .nil).flat 0,true) else ((Fo.cons 0 6 false [] .nil .nil).flat 0,false)):=by
 refine Ev.congr (fun k=>by rw [pkcs8_named.f]) ?_
 exact Ev.ifn (by simp) (named_enc l hl)
theorem named_null (l:List Int) (hl:l.length≤1000):Ev (fun k=>pkcs8_named.f k l true) (if l=[]∨rightA l=true then ((pFo l).flat 0,true) else ((Fo.cons 0 6 false [] .nil .nil).flat 0,false)):=by
 refine Ev.congr (fun k=>by rw [pkcs8_named.f]) ?_
 refine Ev.ifp rfl ?_
 by_cases h0:l=[]
 ·subst h0
  rw [if_pos (.inl rfl)]
  refine Ev.step (fun k=>by rw [pkcs8_named.j0]) ?_
  exact Ev.ifp rfl (Ev.now _)
 ·have hz:((l.length:Int) == 0)=false:=by
   have:l.length≠0:=fun e=>h0 (List.eq_nil_of_length_eq_zero e)
   rw [beq_eq_false_iff_ne]
   omega
  rw [hz]
  refine (named_enc l hl).eq ?_
  by_cases h:rightA l=true
  ·rw [if_pos h,if_pos (.inr h),pFo,if_neg h0]
  ·rw [if_neg h,if_neg (by simp [h0,h])]
theorem whole_zero:Ev (fun k=>whole_Encode.f k 0) ⟨#[0]⟩:=(whole_Encode_eq 0 (by decide) (by decide)).eq (by kernel_rfl)
theorem enc_no1 {x4 x6:List Nd} {x8:List (List Nd)} {s:ByteArray}:Ev (fun k=>pkcs8_Encode.j0 k x4 x6 x8 true s) (⟨#[]⟩,1):=by
 refine Ev.step (fun k=>by rw [pkcs8_Encode.j0]) ?_
 exact Ev.ifp rfl (Ev.now _)
theorem enc_yes (arcs param key:List Int) (g:Fo) (hz:g.size≤993) {R:ByteArray × Int} (h:Ev (fun k=>tree_Encode.f k ((mFo arcs param key g).flat 0)) R) :
 Ev (fun k=>pkcs8_Encode.j0 k ((Fo.cons 0 6 false (digs (numsOf arcs)) .nil .nil).flat 0) ((pFo param).flat 0) g.parts false (strOfNums key)) R:=by
 refine Ev.step (fun k=>by rw [pkcs8_Encode.j0]) ?_
 refine Ev.ifn (by simp) (Ev.bind whole_zero (Ev.bindc rfl ?_))
 have hp:=pFo_size param
 have e1:[(Fo.cons 0 6 false (digs (numsOf arcs)) .nil .nil).flat 0,(pFo param).flat 0]=(Fo.cons 0 6 false (digs (numsOf arcs)) .nil (pFo param)).parts:=by
  unfold pFo
  split<;>rfl
 have o1:=tree_Of_fo 0 16 (Fo.cons 0 6 false (digs (numsOf arcs)) .nil (pFo param)) (by simp only [Fo.size];omega)
 rw [← e1] at o1
 refine Ev.bind o1 (Ev.bindc rfl ?_)
 have hk:=kFo_size arcs param key g
 have o2:=tree_Of_fo 0 16 (kFo arcs param key g) (by omega)
 by_cases hg:g=.nil
 ·subst hg
  refine Ev.ifn (by simp [Fo.parts]) ?_
  have e2:(kFo arcs param key .nil).parts=[(Fo.cons 0 2 false [0] .nil .nil).flat 0,(Fo.cons 0 16 true [] (.cons 0 6 false (digs (numsOf arcs)) .nil (pFo param)) .nil).flat 0,(Fo.cons 0 4 false key .nil .nil).flat 0]:=rfl
  rw [e2] at o2
  exact Ev.bind o2 (Ev.bind h (Ev.now _))
 ·refine Ev.ifp (by have:=Fo.parts_nil.2 hg;omega) (Ev.bind (tree_Of_fo 2 0 g (by omega)) (Ev.ifp (by simp only [List.length_cons,List.length_nil];omega) ?_))
  have e2:(kFo arcs param key g).parts=[(Fo.cons 0 2 false [0] .nil .nil).flat 0,(Fo.cons 0 16 true [] (.cons 0 6 false (digs (numsOf arcs)) .nil (pFo param)) .nil).flat 0,(Fo.cons 0 4 false key .nil .nil).flat 0]++[(Fo.cons 2 0 true [] g .nil).flat 0]:=by
   unfold kFo
   rw [aFo_ne hg]
   rfl
  rw [e2] at o2
  exact Ev.bind o2 (Ev.bind h (Ev.now _))
def Gd (arcs param:List Int):Prop:=rightA arcs=true∧(param=[]∨rightA param=true)
theorem encode_yes {arcs param key:List Int} {s:ByteArray} {g:Fo} (ha:arcs.length≤1000) (hp:param.length≤1000) (hg:Gd arcs param) (he:Ev (fun k=>pkcs8_elements.f k s) (g.parts,true)) (hz:g.size≤993) {R:ByteArray × Int}
 (h:Ev (fun k=>tree_Encode.f k ((mFo arcs param key g).flat 0)) R):Ev (fun k=>pkcs8_Encode.f k arcs param (strOfNums key) s) R:=by
 refine Ev.congr (fun k=>by rw [pkcs8_Encode.f]) ?_
 have n1:=named_is arcs ha
 have n2:=named_null param hp
 rw [if_pos hg.1] at n1
 rw [if_pos hg.2] at n2
 exact Ev.bind n1 (Ev.bind n2 (Ev.bind he (Ev.ifp rfl (Ev.ifp rfl (enc_yes arcs param key g hz h)))))
theorem encode_no {arcs param:List Int} {key s:ByteArray} {X:List (List Nd)} {b:Bool} (ha:arcs.length≤1000) (hp:param.length≤1000) (he:Ev (fun k=>pkcs8_elements.f k s) (X,b)) (hn:¬ (Gd arcs param∧b=true)):Ev (fun k=>pkcs8_Encode.f k arcs param key s) (⟨#[]⟩,1):=by
 refine Ev.congr (fun k=>by rw [pkcs8_Encode.f]) ?_
 have n1:=named_is arcs ha
 have n2:=named_null param hp
 by_cases h1:rightA arcs=true
 ·rw [if_pos h1] at n1
  by_cases h2:param=[]∨rightA param=true
  ·rw [if_pos h2] at n2
   obtain rfl:b=false:=by
    cases b with
    | false=>rfl
    | true=>exact absurd ⟨⟨h1,h2⟩,rfl⟩ hn
   exact Ev.bind n1 (Ev.bind n2 (Ev.bind he (Ev.ifp rfl (Ev.ifp rfl enc_no1))))
  ·rw [if_neg h2] at n2
   exact Ev.bind n1 (Ev.bind n2 (Ev.bind he (Ev.ifp rfl (Ev.ifn (by simp) enc_no1))))
 ·rw [if_neg h1] at n1
  exact Ev.bind n1 (Ev.bind n2 (Ev.bind he (Ev.ifn (by simp) enc_no1)))
theorem mFo_by {arcs param key:List Int} {g:Fo} (hk:OkB key) (hg:g.Ok 0):(mFo arcs param key g).By:=by
 have h1:(pFo param).By:=by
  unfold pFo
  split
  ·exact ⟨OkB.nil,trivial,trivial⟩
  ·exact ⟨digs_ok _,trivial,trivial⟩
 have h2:(aFo g).By:=by
  cases g with
  | nil=>trivial
  | cons=>exact ⟨OkB.nil,hg.by,trivial⟩
 exact ⟨OkB.nil,⟨OkB.cons (by decide) (by decide) OkB.nil,trivial,OkB.nil,⟨digs_ok _,trivial,h1⟩,hk,trivial,h2⟩,trivial⟩
theorem digs_len {arcs:List Int} (h:rightA arcs=true):(digs (numsOf arcs)).length≤200:=by
 obtain ⟨a,b,r,rfl,h18,ha0,ha2,hb0,hb1,hb2,hall⟩:=right_parts h
 have hbd:∀ x∈numsOf (a :: b :: r),0≤x∧x < 4294967296:=by
  intro x hx
  unfold numsOf at hx
  rcases List.mem_cons.1 hx with rfl | hx
  ·omega
  ·have:=hall x hx;omega
 have hl:=digs_short _ hbd
 have hl2:(numsOf (a :: b :: r)).length=r.length+1:=by simp [numsOf]
 omega
theorem mFo_small {arcs param key:List Int} {g:Fo} (hG:Gd arcs param) (hk:key.length≤2000) (hg:g.enc.length≤2000):(mFo arcs param key g).Small 2000:=by
 have h0:=digs_len hG.1
 have h1:(pFo param).Small 2000:=by
  unfold pFo
  split
  ·exact ⟨by simp,trivial,trivial⟩
  ·rename_i hp
   have:=digs_len (hG.2.resolve_left hp)
   exact ⟨by omega,trivial,trivial⟩
 have h2:(aFo g).Small 2000:=by
  cases g with
  | nil=>trivial
  | cons=>exact ⟨by simp,Fo.small_of _ _ hg,trivial⟩
 exact ⟨by simp,⟨by simp,trivial,by simp,⟨by omega,trivial,h1⟩,hk,trivial,h2⟩,trivial⟩
theorem mFo_te {arcs param key:List Int} {g:Fo} (hG:Gd arcs param) (hk:key.length≤2000) (hg:g.enc.length≤1000):TE ((mFo arcs param key g).flat 0):=by
 have hz:=g.size_enc
 have hm:(mFo arcs param key g).size≤7+g.size:=by
  have:=kFo_size arcs param key g
  unfold mFo
  simp only [Fo.size]
  omega
 exact tree_enc_any _ (Fo.small_flat _ _ (mFo_small hG hk (by omega))) fun x hx=>by have:=Fo.flat_kids _ _ x hx;omega
theorem mFo_ok {arcs param key:List Int} {g:Fo} (hk:OkB key) (hg:g.Ok 0) {e:ByteArray × Int} (h:∃ (a b:Int) (c:Bool) (d:List Int) (ks:Fo),(mFo arcs param key g).flat 0=(Fo.cons a b c d ks .nil).flat 0∧(Fo.cons a b c d ks .nil).Ok 0∧(Fo.cons a b c d ks .nil).enc.length≤65535∧e.1=strOfNums (Fo.cons a b c d ks .nil).enc) :
 (mFo arcs param key g).Ok 0∧(mFo arcs param key g).enc.length≤65535∧e.1=strOfNums (mFo arcs param key g).enc:=by
 obtain ⟨a,b,c,d,ks,h1,h2,h3,h4⟩:=h
 have:mFo arcs param key g=Fo.cons a b c d ks .nil:=Fo.flat_inj (mFo_by hk hg) h2.by h1 (by unfold mFo;rw [Fo.roots,Fo.roots,Fo.roots,Fo.roots])
 rw [this]
 exact ⟨h2,h3,h4⟩
def Wr (arcs param key attrs:List Int) (e:ByteArray × Int):Prop:=e.2=0→∃ g:Fo,Gd arcs param∧g.Ok 0∧g.enc=attrs∧(mFo arcs param key g).Ok 0∧(mFo arcs param key g).enc.length≤65535∧e.1=strOfNums (mFo arcs param key g).enc
theorem enc26p (arcs param key attrs:List Int) (ha:arcs.length≤1000) (hp:param.length≤1000) (hk:OkB key) (hkl:key.length≤1000) (hs:OkB attrs) (hsl:attrs.length≤1000) :
 ∃ e,Ev (fun k=>pkcs8_Encode.f k arcs param (strOfNums key) (strOfNums attrs)) e∧Wr arcs param key attrs e:=by
 cases elements_is attrs hs (by omega) with
 | bad Y c q p1 p2 hb e=>exact ⟨_,encode_no ha hp e (by simp),fun h=>by cases h⟩
 | ok g Z q p1 p2 hZ hg he e =>
  by_cases hG:Gd arcs param
  case neg=>exact ⟨_,encode_no ha hp e (by simp [hG]),fun h=>by cases h⟩
  have hz:=g.size_enc
  rw [he] at hz
  cases mFo_te hG (key:=key) (g:=g) (by omega) (by rw [he];omega) with
  | no h1 h2=>exact ⟨_,encode_yes ha hp hG e (by omega) h1,fun h=>by cases h⟩
  | yes e' h1 h2 h3 h4 =>
   refine ⟨e',encode_yes ha hp hG e (by omega) h1,fun h=>?_⟩
   obtain ⟨g1,g2,g3⟩:=mFo_ok hk hg.ok (h4 h)
   exact ⟨g,hG,hg.ok,he,g1,g2,g3⟩
theorem Fo.Ok.less:∀ {f:Fo} {dep dep':Nat},f.Ok dep→dep'≤dep→f.Ok dep'
 | .nil,_,_,_,_=>trivial
 | .cons a b c d ks r,dep,dep',h,hd=>⟨h.1,h.2.1,by have:=h.2.2.1;omega,h.2.2.2.1,h.2.2.2.2.1,h.2.2.2.2.2.1,h.2.2.2.2.2.2.1,Fo.Ok.less h.2.2.2.2.2.2.2.1 (by omega),Fo.Ok.less h.2.2.2.2.2.2.2.2 hd⟩
theorem Fo.Ok.one {a b:Int} {c:Bool} {d:List Int} {ks r:Fo} {dep:Nat} (h:(Fo.cons a b c d ks r).Ok dep):(Fo.cons a b c d ks .nil).Ok 0:=Fo.Ok.less (dep:=dep) ⟨h.1,h.2.1,h.2.2.1,h.2.2.2.1,h.2.2.2.2.1,h.2.2.2.2.2.1,h.2.2.2.2.2.2.1,h.2.2.2.2.2.2.2.1,trivial⟩ (Nat.zero_le _)
theorem Fo.Ok.rest {a b:Int} {c:Bool} {d:List Int} {ks r:Fo} {dep:Nat} (h:(Fo.cons a b c d ks r).Ok dep):r.Ok dep:=h.2.2.2.2.2.2.2.2
theorem Fo.Ok.kids {a b:Int} {c:Bool} {d:List Int} {ks r:Fo} {dep:Nat} (h:(Fo.cons a b c d ks r).Ok dep):ks.Ok (dep+1):=h.2.2.2.2.2.2.2.1
theorem Fo.enc_le1 (a b:Int) (c:Bool) (d:List Int) (ks r:Fo):(Fo.cons a b c d ks .nil).enc.length≤(Fo.cons a b c d ks r).enc.length∧r.enc.length≤(Fo.cons a b c d ks r).enc.length∧ks.enc.length≤(Fo.cons a b c d ks r).enc.length∧d.length≤(Fo.cons a b c d ks r).enc.length:=by
 rw [Fo.enc_cons,Fo.enc_cons,List.length_append]
 simp only [Fo.enc,List.length_nil]
 omega
theorem toList_inj {x y:ByteArray} (h:x.toList=y.toList):x=y:=by
 rw [ByteArray.toList_eq,ByteArray.toList_eq] at h
 exact ByteArray.ext (Array.toList_inj.1 h)
theorem idx_end {l:List Int} {y:Int} {i:Nat} (h:l.length=i):Ev (fun k=>slices_Index_int_int.l0 k l y (l.length:Int) (i:Int)) (-1):=by
 refine Ev.step (fun k=>by rw [slices_Index_int_int.l0]) ?_
 exact Ev.ifn (by omega) (Ev.now _)
theorem idx_at {l:List Int} {y:Int} {i:Nat} (h:i < l.length) (hl:l.length≤100) (hy:y=rd l (i:Int)):Ev (fun k=>slices_Index_int_int.l0 k l y (l.length:Int) (i:Int)) (i:Int):=by
 refine Ev.step (fun k=>by rw [slices_Index_int_int.l0]) ?_
 exact Ev.ifp (by omega) (Ev.ifp (by omega) (Ev.ifp (by omega) (Ev.ifp hy (Ev.now _))))
theorem idx_not {l:List Int} {y r:Int} {i:Nat} (h:i < l.length) (hl:l.length≤100) (hy:¬ y=rd l (i:Int)) (k:Ev (fun k=>slices_Index_int_int.l0 k l y (l.length:Int) ((i+1:Nat):Int)) r):Ev (fun k=>slices_Index_int_int.l0 k l y (l.length:Int) (i:Int)) r:=by
 refine Ev.step (fun k=>by rw [slices_Index_int_int.l0]) ?_
 rw [w64 (x:=(i:Int)+1) (by omega) (by omega)]
 exact Ev.ifp (by omega) (Ev.ifp (by omega) (Ev.ifp (by omega) (Ev.ifn hy k)))
theorem cont_of {l:List Int} {y r:Int} {b:Bool} (h:Ev (fun k=>slices_Index_int_int.l0 k l y (l.length:Int) ((0:Nat):Int)) r) (hb:decide (r≥0)=b):Ev (fun k=>slices_Contains_int_int.f k l y) b:=by
 refine Ev.congr (fun k=>by rw [slices_Contains_int_int.f,slices_Index_int_int.f]) ?_
 exact Ev.bind h ((Ev.now _).eq hb)
theorem idx_one (x y:Int):Ev (fun k=>slices_Contains_int_int.f k [x] y) (decide (y=x)):=by
 by_cases h:y=x
 ·exact cont_of (idx_at (Nat.zero_lt_one) (by simp) h) (by simp [h])
 ·exact cont_of (idx_not (Nat.zero_lt_one) (by simp) h (idx_end rfl)) (by simp [h])
theorem idx_two (x z y:Int):Ev (fun k=>slices_Contains_int_int.f k [x,z] y) (decide (y=x∨y=z)):=by
 by_cases h:y=x
 ·exact cont_of (idx_at (by simp) (by simp) h) (by simp [h])
 by_cases h2:y=z
 ·exact cont_of (idx_not (by simp) (by simp) h (idx_at (by simp) (by simp) h2)) (by simp [h2])
 ·exact cont_of (idx_not (by simp) (by simp) h (idx_not (by simp) (by simp) h2 (idx_end rfl))) (by simp [h,h2])
theorem is_one (a b:Int) (c:Bool) (d:List Int) (ks:Fo) (x:Int):Ev (fun k=>pkcs8_is.f k ((Fo.cons a b c d ks .nil).flat 0) [x]) (decide (a=0∧b=x)):=by
 refine Ev.congr (fun k=>by rw [pkcs8_is.f]) ?_
 refine Ev.ifp (by rw [Fo.flat_len,Fo.size];omega) ?_
 rw [Fo.single_flat]
 by_cases h:a=0
 ·refine Ev.ifp h (Ev.bind (idx_one x b) ((Ev.now _).eq (by simp [h])))
 ·exact Ev.ifn h ((Ev.now _).eq (by simp [h]))
theorem is_two (a b:Int) (c:Bool) (d:List Int) (ks:Fo) (x z:Int):Ev (fun k=>pkcs8_is.f k ((Fo.cons a b c d ks .nil).flat 0) [x,z]) (decide (a=0∧(b=x∨b=z))):=by
 refine Ev.congr (fun k=>by rw [pkcs8_is.f]) ?_
 refine Ev.ifp (by rw [Fo.flat_len,Fo.size];omega) ?_
 rw [Fo.single_flat]
 by_cases h:a=0
 ·refine Ev.ifp h (Ev.bind (idx_two x z b) ((Ev.now _).eq (by simp [h])))
 ·exact Ev.ifn h ((Ev.now _).eq (by simp [h]))
theorem rt6 {d:List Int} (hd:OkB d) (hl:d.length≤65535) (h:Rt 6 d):∃ arcs,goodA d arcs∧decA d=(arcs,true):=by
 have h1:Ev (fun k=>strs_Right.f k 6 (strOfNums d)) (decA d).2:=by
  refine Ev.congr (fun k=>by rw [strs_Right.f]) ?_
  exact Ev.ifn (by decide) (Ev.ifn (by decide) (Ev.ifn (by decide) (Ev.ifn (by decide) (Ev.ifn (by decide) (Ev.ifp rfl (Ev.bind (oid_decode_is d hd (by omega)) (Ev.now _)))))))
 have h2:(decA d).2=true:=Ev.uniq h1 h.1
 have h3:decA d=((decA d).1,true):=by rw [← h2]
 exact ⟨_,decA_sound hd h3,h3⟩
theorem rt5 {d:List Int} (hd:OkB d) (h:Rt 5 d):d=[]:=by
 have h1:Ev (fun k=>strs_Right.f k 5 (strOfNums d)) ((strOfNums d).toList == ([]:List UInt8)):=by
  refine Ev.congr (fun k=>by rw [strs_Right.f]) ?_
  exact Ev.ifn (by decide) (Ev.ifn (by decide) (Ev.ifn (by decide) (Ev.ifn (by decide) (Ev.ifp rfl (Ev.now _)))))
 have h2:=Ev.uniq h1 h.1
 have h3:(strOfNums d).toList=[]:=eq_of_beq h2
 have h4:=nums_size d
 have h5:(strOfNums d).size=0:=by
  have:(strOfNums d).toList.length=(strOfNums d).size:=by rw [ByteArray.toList_eq];simp
  rw [← this,h3]
  rfl
 exact List.eq_nil_of_length_eq_zero (by omega)
theorem prim {a b:Int} {c:Bool} {d:List Int} {ks r:Fo} {dep:Nat} (h:(Fo.cons a b c d ks r).Ok dep) (ha:a=0) (h16:b≠16) (h17:b≠17):c=false∧ks=.nil∧Rt b d:=by
 obtain ⟨_,_,_,hm,_,_,hk,_⟩:=h
 have:=hm ha
 cases c with
 | true=>rcases this.1 rfl with h | h<;>contradiction
 | false=>exact ⟨rfl,hk rfl,this.2 rfl⟩
theorem made_of {a b:Int} {c:Bool} {d:List Int} {ks r:Fo} {dep:Nat} (h:(Fo.cons a b c d ks r).Ok dep) (hk:ks≠.nil):c=true∧d=[]:=by
 obtain ⟨_,_,_,_,_,hd,hk',_⟩:=h
 cases c with
 | true=>exact ⟨rfl,hd rfl⟩
 | false=>exact absurd (hk' rfl) hk
def Alg (a b:Int) (ks:Fo) (arcs param:List Int):Prop:=a=0∧b=16∧ks=.cons 0 6 false (digs (numsOf arcs)) .nil (pFo param)∧Gd arcs param
theorem alg_no {L:List (List Nd)} {x y:List Int} {u v:ByteArray}:Ev (fun k=>pkcs8_algorithm.j0 k L true x y u v) (false,x,y,u,v):=by
 refine Ev.step (fun k=>by rw [pkcs8_algorithm.j0]) ?_
 exact Ev.ifp rfl (Ev.now _)
theorem alg_is (a b:Int) (c:Bool) (d:List Int) (ks:Fo) (ho:(Fo.cons a b c d ks .nil).Ok 0) (hs:(Fo.cons a b c d ks .nil).enc.length≤2000) (u v:ByteArray) :
 (∃ arcs param,Alg a b ks arcs param∧Ev (fun k=>pkcs8_algorithm.f k ((Fo.cons a b c d ks .nil).flat 0) [] [] u v) (true,arcs,param,u,v)) ∨
 ((¬ ∃ arcs param,Alg a b ks arcs param)∧∃ x y,Ev (fun k=>pkcs8_algorithm.f k ((Fo.cons a b c d ks .nil).flat 0) [] [] u v) (false,x,y,u,v)):=by
 have hz:=Fo.size_enc (Fo.cons a b c d ks .nil)
 have kids:=tree_Kids_fo a b c d ks ho (by omega) (Fo.small_of _ _ (by omega))
 have h16:=is_one a b c d ks 16
 have run:∀ {R},Ev (fun k=>if decide (a=0∧b=16)=true then (if (ks.parts.length:Int)=2 then (if 0 < (ks.parts.length:Int) then ((pkcs8_is.f k (rd_L52 ks.parts 0) ([6]:List Int)).bind fun t678=>(pkcs8_algorithm.j0 k ks.parts (!t678) [] [] u v)) else (none)) else (pkcs8_algorithm.j0 k ks.parts true [] [] u v)) else (pkcs8_algorithm.j0 k ks.parts true [] [] u v)) R→Ev (fun k=>pkcs8_algorithm.f k ((Fo.cons a b c d ks .nil).flat 0) [] [] u v) R:=fun h=>by
  refine Ev.congr (fun k=>by rw [pkcs8_algorithm.f]) ?_
  exact Ev.bind kids (Ev.bind h16 h)
 by_cases hab:a=0∧b=16
 case neg=>exact .inr ⟨fun ⟨_,_,h1,h2,_⟩=>hab ⟨h1,h2⟩,_,_,run (Ev.ifn (by simpa using hab) alg_no)⟩
 have hab':decide (a=0∧b=16)=true:=decide_eq_true hab
 have two:∀ {R},(¬ (ks.parts.length:Int)=2)→(∀ arcs param,¬ Alg a b ks arcs param)∧(Ev (fun k=>pkcs8_algorithm.j0 k ks.parts true [] [] u v) R→Ev (fun k=>pkcs8_algorithm.f k ((Fo.cons a b c d ks .nil).flat 0) [] [] u v) R):=fun h=>by
  refine ⟨fun arcs param ⟨_,_,h3,_⟩=>h ?_,fun hj=>run (Ev.ifp hab' (Ev.ifn h hj))⟩
  rw [h3]
  unfold pFo
  split<;>rfl
 have bad:(¬ (ks.parts.length:Int)=2)→(∃ arcs param,Alg a b ks arcs param∧Ev (fun k=>pkcs8_algorithm.f k ((Fo.cons a b c d ks .nil).flat 0) [] [] u v) (true,arcs,param,u,v)) ∨
  ((¬ ∃ arcs param,Alg a b ks arcs param)∧∃ x y,Ev (fun k=>pkcs8_algorithm.f k ((Fo.cons a b c d ks .nil).flat 0) [] [] u v) (false,x,y,u,v)):=fun h=>.inr ⟨fun ⟨x,y,hA⟩=>(two (R:=(false,[],[],u,v)) h).1 x y hA,_,_,(two h).2 alg_no⟩
 have hle:=Fo.enc_le1 a b c d ks .nil
 rcases ks with _ | ⟨a0,b0,c0,d0,k0,_ | ⟨a1,b1,c1,d1,k1,_ | ⟨a2,b2,c2,d2,k2,r⟩⟩⟩
 ·exact bad (by simp [Fo.parts])
 ·exact bad (by simp [Fo.parts])
 ·clear bad two
  have o0:=ho.kids
  have o1:=o0.rest
  have l0:=Fo.enc_le1 a0 b0 c0 d0 k0 (.cons a1 b1 c1 d1 k1 .nil)
  have l1:=Fo.enc_le1 a1 b1 c1 d1 k1 .nil
  have i0:=is_one a0 b0 c0 d0 k0 6
  by_cases h0:a0=0∧b0=6
  case neg =>
   refine .inr ⟨fun ⟨arcs,param,_,_,h3,_⟩=>h0 (by injection h3 with e1 e2;exact ⟨e1,e2⟩),[],[],run (Ev.ifp hab' (Ev.ifp rfl (Ev.ifp (by simp [Fo.parts]) (Ev.bind i0 ?_))))⟩
   rw [decide_eq_false h0]
   exact alg_no
  obtain ⟨rfl,rfl⟩:=h0
  obtain ⟨rfl,rfl,r0⟩:=prim o0 rfl (by decide) (by decide)
  obtain ⟨arcs,g0,e0⟩:=rt6 o0.2.2.2.2.1 (by omega) r0
  have D0:Ev (fun k=>oid_Decode.f k ((rd_T52 (rd_L52 (Fo.cons 0 6 false d0 .nil (.cons a1 b1 c1 d1 k1 .nil)).parts 0) 0).f3)) (decA d0):=oid_decode_is d0 o0.2.2.2.2.1 (by omega)
  rw [e0] at D0
  have go:∀ {R},Ev (fun k=>(pkcs8_is.f k ((Fo.cons a1 b1 c1 d1 k1 .nil).flat 0) ([6]:List Int)).bind fun t686=>(if t686=true then (if 0 < (((Fo.cons a1 b1 c1 d1 k1 .nil).flat 0).length:Int) then ((oid_Decode.f k ((rd_T52 ((Fo.cons a1 b1 c1 d1 k1 .nil).flat 0) 0).f3)).bind fun t690=>((pkcs8_is.f k ((Fo.cons a1 b1 c1 d1 k1 .nil).flat 0) ([6,5]:List Int)).bind fun t692=>(some (t692,arcs,t690.1,u,v)))) else (none)) else ((pkcs8_is.f k ((Fo.cons a1 b1 c1 d1 k1 .nil).flat 0) ([6,5]:List Int)).bind fun t694=>(some (t694,arcs,([]:List Int),u,v))))) R →
   Ev (fun k=>pkcs8_algorithm.f k ((Fo.cons a b c d (.cons 0 6 false d0 .nil (.cons a1 b1 c1 d1 k1 .nil)) .nil).flat 0) [] [] u v) R:=fun h=>by
   refine run (Ev.ifp hab' (Ev.ifp rfl (Ev.ifp (by simp [Fo.parts]) (Ev.bind i0 ?_))))
   refine Ev.step (fun k=>by rw [pkcs8_algorithm.j0]) ?_
   refine Ev.ifn (by simp) (Ev.ifp (by simp [Fo.parts]) (Ev.ifp (by simp [Fo.parts,Fo.flat,rd_L52]) (Ev.bind D0 (Ev.ifp (by simp [Fo.parts]) ?_))))
   exact h
  have i1:=is_one a1 b1 c1 d1 k1 6
  have i2:=is_two a1 b1 c1 d1 k1 6 5
  by_cases h1:a1=0∧b1=6
  ·obtain ⟨rfl,rfl⟩:=h1
   obtain ⟨rfl,rfl,r1⟩:=prim o1 rfl (by decide) (by decide)
   obtain ⟨param,g1,e1⟩:=rt6 o1.2.2.2.2.1 (by omega) r1
   have D1:Ev (fun k=>oid_Decode.f k ((rd_T52 ((Fo.cons 0 6 false d1 .nil .nil).flat 0) 0).f3)) (decA d1):=oid_decode_is d1 o1.2.2.2.2.1 (by omega)
   rw [e1] at D1
   have hp:param≠[]:=fun e=>by
    subst e
    exact absurd g1.1 (by decide)
   refine .inl ⟨arcs,param,⟨hab.1,hab.2,?_,g0.1,.inr g1.1⟩,go (Ev.bind i1 (Ev.ifp rfl (Ev.ifp (by simp [Fo.flat]) (Ev.bind D1 (Ev.bind i2 (Ev.now _))))))⟩
   rw [pFo,if_neg hp,← g0.2,← g1.2]
  by_cases h2:a1=0∧b1=5
  ·obtain ⟨rfl,rfl⟩:=h2
   obtain ⟨rfl,rfl,r1⟩:=prim o1 rfl (by decide) (by decide)
   obtain rfl:=rt5 o1.2.2.2.2.1 r1
   refine .inl ⟨arcs,[],⟨hab.1,hab.2,?_,g0.1,.inl rfl⟩,go (Ev.bind i1 (Ev.ifn (by decide) (Ev.bind i2 (Ev.now _))))⟩
   rw [pFo,if_pos rfl,← g0.2]
  ·refine .inr ⟨fun ⟨arcs',param',_,_,h3,_⟩=>?_,arcs,[],go (Ev.bind i1 (Ev.ifn (by simpa using h1) (Ev.bind i2 ((Ev.now _).eq ?_))))⟩
   ·unfold pFo at h3
    split at h3
    ·injection h3 with _ _ _ _ _ h3
     injection h3 with e1 e2
     exact h2 ⟨e1,e2⟩
    ·injection h3 with _ _ _ _ _ h3
     injection h3 with e1 e2
     exact h1 ⟨e1,e2⟩
   ·rw [decide_eq_false]
    rintro ⟨e0,e | e⟩
    ·exact h1 ⟨e0,e⟩
    ·exact h2 ⟨e0,e⟩
 ·exact bad (by simp [Fo.parts];omega)
theorem Fo.roots_len0 (g:Fo) (n:Nat):((g.roots n).length:Int)=0↔g=.nil:=by
 cases g with
 | nil=>simp [Fo.roots]
 | cons=>simp [Fo.roots];omega
theorem att_loop (LL:List (List Nd)) (hLL:LL.length≤1000) (x y:List Int) (u:ByteArray):∀ (g:Fo) (q:Nat) (v:List Int),LL.drop q=g.parts→g.Ok 0→g.enc.length≤2000→v.length+g.enc.length≤200000→q≤LL.length →
 Ev (fun k=>pkcs8_attributes.l0 k LL (LL.length:Int) (q:Int) x y u (strOfNums v)) (true,x,y,u,strOfNums (v++g.enc)):=by
 intro g
 induction g with
 | nil =>
  intro q v hq ho hg hv hql
  have:LL.length≤q:=drop_nil hq
  refine Ev.step (fun k=>by rw [pkcs8_attributes.l0]) ?_
  rw [Fo.enc,List.append_nil]
  exact Ev.ifn (by omega) (Ev.now _)
 | cons a b c d ks r _ ih =>
  intro q v hq ho hg hv hql
  obtain ⟨hlt,e1,e2⟩:=parts_at hq
  have hl:=Fo.enc_le1 a b c d ks r
  have hz:=Fo.size_enc (Fo.cons a b c d ks .nil)
  have ee:(Fo.cons a b c d ks r).enc=(Fo.cons a b c d ks .nil).enc++r.enc:=by rw [Fo.enc,Fo.enc,Fo.enc,List.append_nil]
  have hel:=congrArg List.length ee
  rw [List.length_append] at hel
  obtain ⟨_,_,_,_,T,_⟩:=tree_of_fo a b c d ks ho.one (by omega) (Fo.small_of _ _ (by omega)) (by omega)
  have hv':rd_L52 LL (q:Int)=(Fo.cons a b c d ks .nil).flat 0:=by rw [← e1];unfold rd_L52;simp [List.getD_eq_getElem?_getD,hlt]
  refine Ev.step (fun k=>by rw [pkcs8_attributes.l0,hv']) ?_
  refine Ev.ifp (by omega) (Ev.ifp (by omega) (Ev.ifp (by omega) (Ev.bind T (Ev.ifp (by rw [nums_size,nums_size];omega) ?_))))
  rw [w64 (x:=(q:Int)+1) (by omega) (by omega),str_append]
  have:=ih (q+1) (v++(Fo.cons a b c d ks .nil).enc) e2 ho.rest (by omega) (by rw [List.length_append];omega) (by omega)
  rw [List.append_assoc,← ee] at this
  exact this
theorem att_is (a b:Int) (c:Bool) (d:List Int) (ks:Fo) (ho:(Fo.cons a b c d ks .nil).Ok 0) (hs:(Fo.cons a b c d ks .nil).enc.length≤2000) (x y:List Int) (u:ByteArray) :
 ((a=2∧b=0∧ks≠.nil)∧Ev (fun k=>pkcs8_attributes.f k ((Fo.cons a b c d ks .nil).flat 0) x y u ⟨#[]⟩) (true,x,y,u,strOfNums ks.enc)) ∨
 (¬ (a=2∧b=0∧ks≠.nil)∧Ev (fun k=>pkcs8_attributes.f k ((Fo.cons a b c d ks .nil).flat 0) x y u ⟨#[]⟩) (false,x,y,u,⟨#[]⟩)):=by
 have hz:=Fo.size_enc (Fo.cons a b c d ks .nil)
 have hle:=Fo.enc_le1 a b c d ks .nil
 have kids:=tree_Kids_fo a b c d ks ho (by omega) (Fo.small_of _ _ (by omega))
 have no:∀ {t:List Nd},Ev (fun k=>pkcs8_attributes.j0 k t true x y u ⟨#[]⟩) (false,x,y,u,⟨#[]⟩):=by
  intro t
  refine Ev.step (fun k=>by rw [pkcs8_attributes.j0]) ?_
  exact Ev.ifp rfl (Ev.now _)
 have run:∀ {R},Ev (fun k=>if a=2 then (if b=0 then (pkcs8_attributes.j0 k ((Fo.cons a b c d ks .nil).flat 0) (((ks.roots 1).length:Int) == 0) x y u ⟨#[]⟩) else (pkcs8_attributes.j0 k ((Fo.cons a b c d ks .nil).flat 0) true x y u ⟨#[]⟩)) else (pkcs8_attributes.j0 k ((Fo.cons a b c d ks .nil).flat 0) true x y u ⟨#[]⟩)) R→Ev (fun k=>pkcs8_attributes.f k ((Fo.cons a b c d ks .nil).flat 0) x y u ⟨#[]⟩) R:=fun h=>by
  refine Ev.congr (fun k=>by rw [pkcs8_attributes.f]) ?_
  refine Ev.ifp (by rw [Fo.flat_len,Fo.size];omega) ?_
  rw [Fo.single_flat] at h ⊢
  exact h
 by_cases ha:a=2
 case neg=>exact .inr ⟨fun h=>ha h.1,run (Ev.ifn ha no)⟩
 by_cases hb:b=0
 case neg=>exact .inr ⟨fun h=>hb h.2.1,run (Ev.ifp ha (Ev.ifn hb no))⟩
 by_cases hk:ks=.nil
 ·refine .inr ⟨fun h=>h.2.2 hk,run (Ev.ifp ha (Ev.ifp hb ?_))⟩
  rw [show (((ks.roots 1).length:Int) == 0)=true from beq_iff_eq.2 ((Fo.roots_len0 ks 1).2 hk)]
  exact no
 ·refine .inl ⟨⟨ha,hb,hk⟩,run (Ev.ifp ha (Ev.ifp hb ?_))⟩
  rw [show (((ks.roots 1).length:Int) == 0)=false from beq_eq_false_iff_ne.2 (fun e=>hk ((Fo.roots_len0 ks 1).1 e))]
  refine Ev.step (fun k=>by rw [pkcs8_attributes.j0]) ?_
  refine Ev.ifn (by simp) (Ev.bind kids ?_)
  have hp:=ks.parts_len
  have hz2:ks.size≤(Fo.cons a b c d ks .nil).size:=by simp only [Fo.size];omega
  have:=att_loop ks.parts (by omega) x y u ks 0 [] List.drop_zero (ho.kids.less (Nat.zero_le _)) (by omega) (by simp;omega) (Nat.zero_le _)
  rw [List.nil_append] at this
  exact this
def N5:List Int × List Int × ByteArray × ByteArray × Int:=([],[],⟨#[]⟩,⟨#[]⟩,5)
theorem dec_j1 {L:List (List Nd)} {x y:List Int} {u v:ByteArray}:Ev (fun k=>pkcs8_Decode.j1 k L true x y u v) N5:=by
 refine Ev.step (fun k=>by rw [pkcs8_Decode.j1]) ?_
 exact Ev.ifp rfl (Ev.now _)
theorem dec_j0 {L:List (List Nd)} {u v:ByteArray}:Ev (fun k=>pkcs8_Decode.j0 k L true u v) N5:=by
 refine Ev.step (fun k=>by rw [pkcs8_Decode.j0]) ?_
 exact Ev.ifp rfl (Ev.now _)
def Shp (T:Fo):Prop:=∃ arcs param key g,Gd arcs param∧T=mFo arcs param key g
def DS (T:Fo) (s:ByteArray):Prop:=(∃ arcs param key g,Gd arcs param∧T=mFo arcs param key g∧Ev (fun k=>pkcs8_Decode.f k s) (arcs,param,strOfNums key,strOfNums g.enc,0))∨(¬ Shp T∧Ev (fun k=>pkcs8_Decode.f k s) N5)
theorem dec_tail (a0 b0:Int) (c0:Bool) (d0:List Int) (k0:Fo) (a1 b1:Int) (c1:Bool) (d1:List Int) (k1:Fo) (a2 b2:Int) (c2:Bool) (d2:List Int) (k2 r:Fo)
 (ho:(Fo.cons a0 b0 c0 d0 k0 (.cons a1 b1 c1 d1 k1 (.cons a2 b2 c2 d2 k2 r))).Ok 1) (hs:(Fo.cons a0 b0 c0 d0 k0 (.cons a1 b1 c1 d1 k1 (.cons a2 b2 c2 d2 k2 r))).enc.length≤2000) (hr:r=.nil∨∃ a b c d ks,r=.cons a b c d ks .nil) :
 (∃ arcs param key g,Gd arcs param∧Fo.cons a0 b0 c0 d0 k0 (.cons a1 b1 c1 d1 k1 (.cons a2 b2 c2 d2 k2 r))=kFo arcs param key g ∧
  Ev (fun k=>pkcs8_Decode.j0 k (Fo.cons a0 b0 c0 d0 k0 (.cons a1 b1 c1 d1 k1 (.cons a2 b2 c2 d2 k2 r))).parts false ⟨#[]⟩ ⟨#[]⟩) (arcs,param,strOfNums key,strOfNums g.enc,0)) ∨
 ((¬ ∃ arcs param key g,Gd arcs param∧Fo.cons a0 b0 c0 d0 k0 (.cons a1 b1 c1 d1 k1 (.cons a2 b2 c2 d2 k2 r))=kFo arcs param key g) ∧
  Ev (fun k=>pkcs8_Decode.j0 k (Fo.cons a0 b0 c0 d0 k0 (.cons a1 b1 c1 d1 k1 (.cons a2 b2 c2 d2 k2 r))).parts false ⟨#[]⟩ ⟨#[]⟩) N5):=by
 have o1:=ho.rest
 have o2:=o1.rest
 have o3:=o2.rest
 have l0:=Fo.enc_le1 a0 b0 c0 d0 k0 (.cons a1 b1 c1 d1 k1 (.cons a2 b2 c2 d2 k2 r))
 have l1:=Fo.enc_le1 a1 b1 c1 d1 k1 (.cons a2 b2 c2 d2 k2 r)
 have l2:=Fo.enc_le1 a2 b2 c2 d2 k2 r
 have i0:=is_one a0 b0 c0 d0 k0 2
 have i2:=is_one a2 b2 c2 d2 k2 4
 have AL:=alg_is a1 b1 c1 d1 k1 o1.one (by omega) ⟨#[]⟩ ⟨#[]⟩
 have hL:(Fo.cons a0 b0 c0 d0 k0 (.cons a1 b1 c1 d1 k1 (.cons a2 b2 c2 d2 k2 r))).parts=(Fo.cons a0 b0 c0 d0 k0 .nil).flat 0 :: (Fo.cons a1 b1 c1 d1 k1 .nil).flat 0 :: (Fo.cons a2 b2 c2 d2 k2 .nil).flat 0 :: r.parts:=rfl
 have hlen:((Fo.cons a0 b0 c0 d0 k0 (.cons a1 b1 c1 d1 k1 (.cons a2 b2 c2 d2 k2 r))).parts.length:Int)=3+(r.parts.length:Int):=by rw [hL];simp only [List.length_cons];omega
 have hr0:rd_L52 (Fo.cons a0 b0 c0 d0 k0 (.cons a1 b1 c1 d1 k1 (.cons a2 b2 c2 d2 k2 r))).parts 0=(Fo.cons a0 b0 c0 d0 k0 .nil).flat 0:=rfl
 have hr1:rd_L52 (Fo.cons a0 b0 c0 d0 k0 (.cons a1 b1 c1 d1 k1 (.cons a2 b2 c2 d2 k2 r))).parts 1=(Fo.cons a1 b1 c1 d1 k1 .nil).flat 0:=rfl
 have hr2:rd_L52 (Fo.cons a0 b0 c0 d0 k0 (.cons a1 b1 c1 d1 k1 (.cons a2 b2 c2 d2 k2 r))).parts 2=(Fo.cons a2 b2 c2 d2 k2 .nil).flat 0:=rfl
 have hr3:rd_L52 (Fo.cons a0 b0 c0 d0 k0 (.cons a1 b1 c1 d1 k1 (.cons a2 b2 c2 d2 k2 r))).parts 3=rd_L52 r.parts 0:=rfl
 have hf0:(rd_T52 ((Fo.cons a0 b0 c0 d0 k0 .nil).flat 0) 0).f3=strOfNums d0:=rfl
 have hf2:(rd_T52 ((Fo.cons a2 b2 c2 d2 k2 .nil).flat 0) 0).f3=strOfNums d2:=rfl
 generalize hLg:(Fo.cons a0 b0 c0 d0 k0 (.cons a1 b1 c1 d1 k1 (.cons a2 b2 c2 d2 k2 r))).parts=L at *
 have hle0:(0:Int) < (((Fo.cons a0 b0 c0 d0 k0 .nil).flat 0).length:Int):=by rw [Fo.flat_len,Fo.size];omega
 have hle2:(0:Int) < (((Fo.cons a2 b2 c2 d2 k2 .nil).flat 0).length:Int):=by rw [Fo.flat_len,Fo.size];omega
 by_cases h0:a0=0∧b0=2
 case neg =>
  refine .inr ⟨fun ⟨arcs,param,key,g,_,h3⟩=>h0 (by unfold kFo at h3;injection h3 with e1 e2;exact ⟨e1,e2⟩),?_⟩
  refine Ev.step (fun k=>by rw [pkcs8_Decode.j0,hr0]) ?_
  refine Ev.ifn (by simp) (Ev.ifp (by omega) (Ev.bind i0 (Ev.ifn (by simpa using h0) ?_)))
  rw [decide_eq_false h0]
  exact dec_j1
 obtain ⟨rfl,rfl⟩:=h0
 obtain ⟨rfl,rfl,_⟩:=prim ho rfl (by decide) (by decide)
 by_cases hd:d0=[0]
 case neg =>
  refine .inr ⟨fun ⟨arcs,param,key,g,_,h3⟩=>hd (by unfold kFo at h3;injection h3),?_⟩
  have hne:¬ (strOfNums d0).toList=((⟨#[0]⟩:ByteArray)).toList:=fun e=>hd (by
   have h1:=nums_inj (l:=d0) (m:=[0]) ho.2.2.2.2.1 (OkB.cons (by decide) (by decide) OkB.nil) (toList_inj e)
   exact h1)
  refine Ev.step (fun k=>by rw [pkcs8_Decode.j0,hr0]) ?_
  refine Ev.ifn (by simp) (Ev.ifp (by omega) (Ev.bind i0 (Ev.ifp rfl (Ev.ifp hle0 (Ev.bind whole_zero (Ev.ifn hne ?_))))))
  rw [hf0,show ((strOfNums d0).toList != ((⟨#[0]⟩:ByteArray)).toList)=true from bne_iff_ne.2 hne]
  exact dec_j1
 subst hd
 have run:∀ {ok:Bool} {x y:List Int} {u v:ByteArray} {R},Ev (fun k=>pkcs8_algorithm.f k ((Fo.cons a1 b1 c1 d1 k1 .nil).flat 0) [] [] ⟨#[]⟩ ⟨#[]⟩) (ok,x,y,u,v) →
  Ev (fun k=>if ok=true then (if 2 < (L.length:Int) then ((pkcs8_is.f k (rd_L52 L 2) ([4]:List Int)).bind fun t731=>(pkcs8_Decode.j1 k L (!t731) x y u v)) else (none)) else (pkcs8_Decode.j1 k L (!ok) x y u v)) R →
  Ev (fun k=>pkcs8_Decode.j0 k L false ⟨#[]⟩ ⟨#[]⟩) R:=fun h1 h=>by
  refine Ev.step (fun k=>by rw [pkcs8_Decode.j0,hr0]) ?_
  refine Ev.ifn (by simp) (Ev.ifp (by omega) (Ev.bind i0 (Ev.ifp rfl (Ev.ifp hle0 (Ev.bind whole_zero (Ev.ifp rfl (Ev.ifp (by omega) ?_)))))))
  rw [hr1]
  exact Ev.bind h1 h
 rcases AL with ⟨arcs,param,⟨rfl,rfl,rfl,hG⟩,hA⟩ | ⟨hA,x,y,hx⟩
 rotate_left
 ·refine .inr ⟨fun ⟨arcs,param,key,g,hG,h3⟩=>hA ⟨arcs,param,?_⟩,run hx (Ev.ifn (by simp) dec_j1)⟩
  unfold kFo at h3
  injection h3 with _ _ _ _ _ h3
  injection h3 with e1 e2 e3 e4 e5
  exact ⟨e1,e2,e5,hG⟩
 obtain ⟨rfl,rfl⟩:=made_of o1 (by simp)
 by_cases h2:a2=0∧b2=4
 case neg =>
  refine .inr ⟨fun ⟨arcs,param,key,g,_,h3⟩=>h2 (by unfold kFo at h3;injection h3 with _ _ _ _ _ h3;injection h3 with _ _ _ _ _ h3;injection h3 with e1 e2;exact ⟨e1,e2⟩),run hA (Ev.ifp rfl (Ev.ifp (by omega) ?_))⟩
  rw [hr2]
  refine Ev.bind i2 ?_
  rw [decide_eq_false h2]
  exact dec_j1
 obtain ⟨rfl,rfl⟩:=h2
 obtain ⟨rfl,rfl,_⟩:=prim o2 rfl (by decide) (by decide)
 have run2:∀ {R},Ev (fun k=>pkcs8_Decode.j1 k L false arcs param ⟨#[]⟩ ⟨#[]⟩) R→Ev (fun k=>pkcs8_Decode.j0 k L false ⟨#[]⟩ ⟨#[]⟩) R:=fun h=>by
  refine run hA (Ev.ifp rfl (Ev.ifp (by omega) ?_))
  rw [hr2]
  exact Ev.bind i2 h
 rcases hr with rfl | ⟨a3,b3,c3,d3,k3,rfl⟩
 ·refine .inl ⟨arcs,param,d2,.nil,hG,rfl,run2 ?_⟩
  refine Ev.step (fun k=>by rw [pkcs8_Decode.j1,hr2]) ?_
  exact Ev.ifn (by simp) (Ev.ifn (by rw [hlen];simp [Fo.parts]) (Ev.ifp (by omega) (Ev.ifp hle2 (Ev.now _))))
 have l3:=Fo.enc_le1 a3 b3 c3 d3 k3 .nil
 have h4:(L.length:Int)=4:=by rw [hlen];rfl
 have hr3':rd_L52 L 3=(Fo.cons a3 b3 c3 d3 k3 .nil).flat 0:=hr3
 rcases att_is a3 b3 c3 d3 k3 o3.one (by omega) arcs param ⟨#[]⟩ with ⟨⟨rfl,rfl,hk⟩,hT⟩ | ⟨hn,hT⟩
 ·obtain ⟨rfl,rfl⟩:=made_of o3 hk
  refine .inl ⟨arcs,param,d2,k3,hG,by unfold kFo;rw [aFo_ne hk],run2 ?_⟩
  refine Ev.step (fun k=>by rw [pkcs8_Decode.j1,hr3',hr2]) ?_
  exact Ev.ifn (by simp) (Ev.ifp h4 (Ev.ifp (by omega) (Ev.bind hT (Ev.ifp rfl (Ev.ifp (by omega) (Ev.ifp hle2 (Ev.now _)))))))
 ·refine .inr ⟨fun ⟨arcs',param',key,g,_,h3⟩=>hn ?_,run2 ?_⟩
  ·unfold kFo at h3
   injection h3 with _ _ _ _ _ h3
   injection h3 with _ _ _ _ _ h3
   injection h3 with _ _ _ _ _ h3
   cases g with
   | nil=>cases h3
   | cons =>
    injection h3 with e1 e2 e3 e4 e5
    exact ⟨e1,e2,by rw [e5];simp⟩
  ·refine Ev.step (fun k=>by rw [pkcs8_Decode.j1,hr3']) ?_
   exact Ev.ifn (by simp) (Ev.ifp h4 (Ev.ifp (by omega) (Ev.bind hT (Ev.ifn (by simp) (Ev.now _)))))
theorem dec_shape (a b:Int) (c:Bool) (d:List Int) (ks:Fo) (l:List Int) (hl:OkB l) (he:l=(Fo.cons a b c d ks .nil).enc) (ho:(Fo.cons a b c d ks .nil).Ok 0) (hs:l.length≤2000):DS (Fo.cons a b c d ks .nil) (strOfNums l):=by
 rw [he] at hs
 have hz:=Fo.size_enc (Fo.cons a b c d ks .nil)
 have hle:=Fo.enc_le1 a b c d ks .nil
 obtain ⟨p1,_⟩:=dec_enc l hl (by rw [he];omega) a b c d ks he ho (by omega)
 have kids:=tree_Kids_fo a b c d ks ho (by omega) (Fo.small_of _ _ (by omega))
 have h16:=is_one a b c d ks 16
 have run:∀ {R},Ev (fun k=>if decide (a=0∧b=16)=true then (if (ks.parts.length:Int) < 3 then (pkcs8_Decode.j0 k ks.parts (decide ((ks.parts.length:Int) < 3)) ⟨#[]⟩ ⟨#[]⟩) else (pkcs8_Decode.j0 k ks.parts (decide ((ks.parts.length:Int) > 4)) ⟨#[]⟩ ⟨#[]⟩)) else (pkcs8_Decode.j0 k ks.parts (!(decide (a=0∧b=16))) ⟨#[]⟩ ⟨#[]⟩)) R→Ev (fun k=>pkcs8_Decode.f k (strOfNums l)) R:=fun h=>by
  refine Ev.congr (fun k=>by rw [pkcs8_Decode.f]) ?_
  exact Ev.bind p1 (Ev.ifp rfl (Ev.bind kids (Ev.bind h16 h)))
 by_cases hab:a=0∧b=16
 case neg =>
  refine .inr ⟨fun ⟨_,_,_,_,_,h3⟩=>hab (by unfold mFo at h3;injection h3 with e1 e2;exact ⟨e1,e2⟩),run (Ev.ifn (by simpa using hab) ?_)⟩
  rw [decide_eq_false hab]
  exact dec_j0
 have hab':decide (a=0∧b=16)=true:=decide_eq_true hab
 have lens:∀ {arcs param key g},ks=kFo arcs param key g→ks.parts.length=3∨ks.parts.length=4:=fun {arcs param key g} e=>by
  rw [e]
  unfold kFo
  cases g with
  | nil=>exact .inl rfl
  | cons=>exact .inr rfl
 by_cases h3:(ks.parts.length:Int) < 3
 ·refine .inr ⟨fun ⟨_,_,_,_,_,e⟩=>?_,run (Ev.ifp hab' (Ev.ifp h3 ?_))⟩
  ·unfold mFo at e
   injection e with _ _ _ _ e
   rcases lens e with h | h<;>omega
  ·rw [decide_eq_true h3]
   exact dec_j0
 by_cases h4:(ks.parts.length:Int) > 4
 ·refine .inr ⟨fun ⟨_,_,_,_,_,e⟩=>?_,run (Ev.ifp hab' (Ev.ifn h3 ?_))⟩
  ·unfold mFo at e
   injection e with _ _ _ _ e
   rcases lens e with h | h<;>omega
  ·rw [decide_eq_true h4]
   exact dec_j0
 have run2:∀ {R},Ev (fun k=>pkcs8_Decode.j0 k ks.parts false ⟨#[]⟩ ⟨#[]⟩) R→Ev (fun k=>pkcs8_Decode.f k (strOfNums l)) R:=fun h=>by
  refine run (Ev.ifp hab' (Ev.ifn h3 ?_))
  rw [decide_eq_false h4]
  exact h
 obtain ⟨rfl,rfl⟩:=hab
 have fin:ks.parts.length=3∨ks.parts.length=4→DS (Fo.cons 0 16 c d ks .nil) (strOfNums l):=fun hp=>by
  have hks:ks≠.nil:=fun e=>by subst e;simp [Fo.parts] at hp
  obtain ⟨rfl,rfl⟩:=made_of ho hks
  have ok:=ho.kids
  rcases ks with _ | ⟨a0,b0,c0,d0,k0,_ | ⟨a1,b1,c1,d1,k1,_ | ⟨a2,b2,c2,d2,k2,r⟩⟩⟩
  ·exact absurd rfl hks
  ·simp [Fo.parts] at hp
  ·simp [Fo.parts] at hp
  have hr:r=.nil∨∃ a b c d ks,r=.cons a b c d ks .nil:=by
   rcases r with _ | ⟨a,b,c,d,k,_ | ⟨⟩⟩
   ·exact .inl rfl
   ·exact .inr ⟨_,_,_,_,_,rfl⟩
   ·simp only [Fo.parts,List.length_cons] at hp
    omega
  rcases dec_tail a0 b0 c0 d0 k0 a1 b1 c1 d1 k1 a2 b2 c2 d2 k2 r ok (by omega) hr with ⟨arcs,param,key,g,hG,e,h⟩ | ⟨hn,h⟩
  ·exact .inl ⟨arcs,param,key,g,hG,by unfold mFo;rw [e],run2 h⟩
  ·refine .inr ⟨fun ⟨arcs,param,key,g,hG,e⟩=>hn ⟨arcs,param,key,g,hG,?_⟩,run2 h⟩
   unfold mFo at e
   injection e
 exact fin (by omega)
theorem digs_inj {a b:List Int} (ha:rightA a=true) (hb:rightA b=true) (h:digs (numsOf a)=digs (numsOf b)):a=b:=by
 have h1:=decA_complete (l:=digs (numsOf a)) (arcs:=a) ⟨ha,rfl⟩
 have h2:=decA_complete (l:=digs (numsOf a)) (arcs:=b) ⟨hb,h⟩
 rw [h1] at h2
 injection h2
theorem mFo_inj {arcs param key arcs' param' key':List Int} {g g':Fo} (h:Gd arcs param) (h':Gd arcs' param') (e:mFo arcs param key g=mFo arcs' param' key' g'):arcs=arcs'∧param=param'∧key=key'∧g=g':=by
 unfold mFo kFo at e
 injection e with _ _ _ _ e
 injection e with _ _ _ _ _ e
 injection e with _ _ _ _ e1 e
 injection e with _ _ _ ek _ eg
 injection e1 with _ _ _ ea _ ep
 refine ⟨digs_inj h.1 h'.1 ea,?_,ek,?_⟩
 ·unfold pFo at ep
  by_cases p1:param=[]
  ·by_cases p2:param'=[]
   ·rw [p1,p2]
   ·rw [if_pos p1,if_neg p2] at ep;injection ep with _ h;cases h
  ·by_cases p2:param'=[]
   ·rw [if_neg p1,if_pos p2] at ep;injection ep with _ h;cases h
   ·rw [if_neg p1,if_neg p2] at ep
    injection ep with _ _ _ ep
    exact digs_inj (h.2.resolve_left p1) (h'.2.resolve_left p2) ep
 ·cases g with
  | nil =>
   cases g' with
   | nil=>rfl
   | cons=>cases eg
  | cons =>
   cases g' with
   | nil=>cases eg
   | cons=>injection eg
theorem mFo_g {arcs param key:List Int} {g:Fo} (h:(mFo arcs param key g).Ok 0):g.Ok 0∧OkB key:=by
 have h1:=(Fo.Ok.kids h).rest.rest
 refine ⟨?_,h1.2.2.2.2.1⟩
 have h2:=h1.rest
 cases g with
 | nil=>trivial
 | cons=>exact (Fo.Ok.kids h2).less (Nat.zero_le _)
theorem mFo_lens (arcs param key:List Int) (g:Fo):g.enc.length≤(mFo arcs param key g).enc.length∧key.length≤(mFo arcs param key g).enc.length:=by
 unfold mFo kFo
 have h1:g.enc.length≤(aFo g).enc.length:=by
  cases g with
  | nil=>exact Nat.le_refl _
  | cons a b c d ks r=>exact (Fo.enc_le1 2 0 true [] (.cons a b c d ks r) .nil).2.2.1
 rw [Fo.enc_cons,List.length_append,Fo.enc_cons,Fo.enc_cons,Fo.enc_cons]
 simp only [List.length_append]
 omega
theorem right_len {arcs:List Int} (h:rightA arcs=true):arcs.length≤20:=by
 obtain ⟨a,b,r,rfl,h18,_⟩:=right_parts h
 simp only [List.length_cons]
 omega
theorem Gd.lens {arcs param:List Int} (h:Gd arcs param):arcs.length≤20∧param.length≤20:=by
 refine ⟨right_len h.1,?_⟩
 rcases h.2 with rfl | h
 ·simp
 ·exact right_len h
theorem again26 {arcs param key:List Int} {g:Fo} (hG:Gd arcs param) (ho:(mFo arcs param key g).Ok 0) (hs:(mFo arcs param key g).enc.length≤2000):Ev (fun k=>pkcs8_Encode.f k arcs param (strOfNums key) (strOfNums g.enc)) (strOfNums (mFo arcs param key g).enc,0):=by
 obtain ⟨hg,hk⟩:=mFo_g ho
 have hl:=mFo_lens arcs param key g
 have hz:=g.size_enc
 have hzz:=(mFo arcs param key g).size_enc
 have hb:=g.enc_ok 0 hg
 obtain ⟨_,_,_,_,T,_⟩:=tree_of_fo 0 16 true [] (kFo arcs param key g) ho (by unfold mFo at hzz hs;omega) (Fo.small_of _ _ hs) (by unfold mFo at hs;omega)
 have hsz:g.size≤993:=by
  cases g with
  | nil=>simp [Fo.size]
  | cons=>unfold mFo kFo at hzz;simp only [Fo.size,aFo,pFo_size] at hzz ⊢;unfold mFo kFo at hs;simp only [aFo] at hs;omega
 exact encode_yes (by have:=hG.lens;omega) (by have:=hG.lens;omega) hG (elements_fo g hg hb (by omega)) hsz T
theorem mFo_len {arcs param key:List Int} {g:Fo} (hG:Gd arcs param):(mFo arcs param key g).enc.length≤500+key.length+g.enc.length:=by
 have hd:∀ a b c d ks,Fo.hd a b c d ks≤7:=fun a b c d ks=>by
  unfold Fo.hd
  rw [List.length_append]
  have:=(idB_len2 a b c).2
  have:=lenB_len ((d++ks.enc).length:Int)
  omega
 have h0:=digs_len hG.1
 have h1:(pFo param).enc.length≤207:=by
  unfold pFo
  split
  ·rw [Fo.enc_cons];have:=hd 0 5 false [] .nil;simp only [Fo.enc,List.length_append,List.length_nil];omega
  ·rename_i hp
   have:=digs_len (hG.2.resolve_left hp)
   rw [Fo.enc_cons];have:=hd 0 6 false (digs (numsOf param)) .nil;simp only [Fo.enc,List.length_append,List.length_nil];omega
 have h2:(aFo g).enc.length≤7+g.enc.length:=by
  cases g with
  | nil=>simp [aFo,Fo.enc]
  | cons a b c d ks r =>
   have:=hd 2 0 true [] (.cons a b c d ks r)
   rw [aFo,Fo.enc_cons 2 0]
   rw [List.length_append,List.length_nil,show Fo.nil.enc.length=0 from rfl]
   omega
 unfold mFo kFo
 rw [Fo.enc_cons,List.length_append,Fo.enc_cons,Fo.enc_cons,Fo.enc_cons,List.length_append,List.length_append,Fo.enc_cons 0 6]
 have e1:=hd 0 16 true [] (Fo.cons 0 2 false [0] .nil (.cons 0 16 true [] (.cons 0 6 false (digs (numsOf arcs)) .nil (pFo param)) (.cons 0 4 false key .nil (aFo g))))
 have e2:=hd 0 2 false [0] .nil
 have e3:=hd 0 16 true [] (Fo.cons 0 6 false (digs (numsOf arcs)) .nil (pFo param))
 have e4:=hd 0 6 false (digs (numsOf arcs)) .nil
 have e5:=hd 0 4 false key .nil
 simp only [Fo.enc,List.length_append,List.length_nil,List.length_cons]
 omega
theorem back26 {arcs param key attrs:List Int} {e:ByteArray × Int} (h:Wr arcs param key attrs e) (he:e.2=0) (hk:key.length≤600) (hs:attrs.length≤600):Ev (fun k=>pkcs8_Decode.f k e.1) (arcs,param,strOfNums key,strOfNums attrs,0):=by
 obtain ⟨g,hG,hg,rfl,ho,hle,he1⟩:=h he
 rw [he1]
 have hl:=mFo_len (key:=key) (g:=g) hG
 rcases dec_shape 0 16 true [] (kFo arcs param key g) (mFo arcs param key g).enc (Fo.enc_ok _ 0 ho) rfl ho (by omega) with ⟨arcs',param',key',g',hG',e',hd⟩ | ⟨hn,_⟩
 ·obtain ⟨rfl,rfl,rfl,rfl⟩:=mFo_inj hG hG' e'
  exact hd
 ·exact absurd ⟨arcs,param,key,g,hG,rfl⟩ hn
theorem same26 (x y:List Int) (u v:ByteArray) (hx:x.length≤1000) (hy:y.length≤1000):Ev (fun k=>clavigerlaw26_same.f k x y u v x y u v) true:=by
 refine Ev.congr (fun k=>by rw [clavigerlaw26_same.f]) ?_
 refine Ev.bind (ints_is x x hx) (Ev.ifp (by simp) (Ev.bind (ints_is y y hy) (Ev.ifp (by simp) (Ev.ifp rfl ((Ev.now _).eq ?_)))))
 simp
theorem aw26:Ev (fun k=>clavigerlaw26_awake.f k) true:=Ev.from_ 60 (fun n=>by kernel_rfl)
theorem Pkcs8Back (l0 l1:List Int) (a2 a3 a1:ByteArray) (_:ok24 ⟨l0,l1,a2,a3⟩) (_:a1.size≤140737488351232):∃ k,clavigerlaw26_Pkcs8Back.f k l0 l1 a2 a3 a1=some true:=by
 obtain ⟨key,hk,rfl⟩:=str_nums a2
 obtain ⟨attrs,hs,rfl⟩:=str_nums a3
 obtain ⟨l,hl,rfl⟩:=str_nums a1
 refine Ev.rounds (r:=true) ?_
 refine Ev.congr (fun k=>by rw [clavigerlaw26_Pkcs8Back.f,nums_sizeI,nums_sizeI,nums_sizeI]) ?_
 have hnone:Ev (fun k=>clavigerlaw26_Pkcs8Back.j0 k (strOfNums l) true l0 l1 (strOfNums key) (strOfNums attrs)) true:=by
  refine Ev.step (fun k=>by rw [clavigerlaw26_Pkcs8Back.j0]) ?_
  exact Ev.ifp rfl (Ev.bind aw26 (Ev.now _))
 by_cases c0:(l0.length:Int) > 60
 ·exact Ev.ifp c0 hnone
 by_cases c1:(l1.length:Int) > 60
 ·exact Ev.ifn c0 (Ev.ifp c1 hnone)
 by_cases c2:(key.length:Int) > 500
 ·exact Ev.ifn c0 (Ev.ifn c1 (Ev.ifp c2 hnone))
 by_cases c3:(attrs.length:Int) > 500
 ·exact Ev.ifn c0 (Ev.ifn c1 (Ev.ifn c2 (Ev.ifp c3 hnone)))
 refine Ev.ifn c0 (Ev.ifn c1 (Ev.ifn c2 (Ev.ifn c3 ?_)))
 by_cases c4:(l.length:Int) > 1000
 ·rw [decide_eq_true c4];exact hnone
 rw [decide_eq_false c4]
 have read:Ev (fun k=>clavigerlaw26_Pkcs8Back.j1 k (strOfNums l)) true:=by
  refine Ev.step (fun k=>by rw [clavigerlaw26_Pkcs8Back.j1]) ?_
  have none:∀ {r:List Int × List Int × ByteArray × ByteArray × Int},Ev (fun k=>pkcs8_Decode.f k (strOfNums l)) r→r.2.2.2.2≠0→r.1=[]→r.2.1=[]→r.2.2.1=⟨#[]⟩→r.2.2.2.1=⟨#[]⟩ →
   Ev (fun k=>(pkcs8_Decode.f k (strOfNums l)).bind fun t779=>(if t779.2.2.2.2=0 then ((pkcs8_Encode.f k t779.1 t779.2.1 t779.2.2.1 t779.2.2.2.1).bind fun t782=>(if t782.1.toList=(strOfNums l).toList then (if t782.2=0 then ((clavigerlaw26_awake.f k).bind fun t786=>(some t786)) else (some false)) else (some false))) else ((clavigerlaw26_same.f k t779.1 t779.2.1 t779.2.2.1 t779.2.2.2.1 ([]:List Int) ([]:List Int) (⟨#[]⟩:ByteArray) (⟨#[]⟩:ByteArray)).bind fun t788=>(if t788=true then ((clavigerlaw26_awake.f k).bind fun t791=>(some t791)) else (some false))))) true:=fun hr hc e1 e2 e3 e4=>by
   refine Ev.bind hr (Ev.ifn hc ?_)
   rw [e1,e2,e3,e4]
   exact Ev.bind (same26 [] [] ⟨#[]⟩ ⟨#[]⟩ (by decide) (by decide)) (Ev.ifp rfl (Ev.bind aw26 (Ev.now _)))
  cases dec_is l hl (by omega) with
  | bad code q hc hq p1 _ _ _ =>
   refine none (r:=([],[],⟨#[]⟩,⟨#[]⟩,code)) ?_ hc rfl rfl rfl rfl
   refine Ev.congr (fun k=>by rw [pkcs8_Decode.f]) ?_
   exact Ev.bind p1 (Ev.ifn hc (Ev.now _))
  | ok a b c d ks he ho hz p1 _ _ _ =>
   rcases dec_shape a b c d ks l hl he ho (by omega) with ⟨arcs,param,key,g,hG,e,hd⟩ | ⟨_,hd⟩
   ·rw [e] at he ho
    refine Ev.bind hd (Ev.ifp rfl (Ev.bind (again26 hG ho (by rw [← he];omega)) (Ev.ifp (by rw [he]) (Ev.ifp rfl (Ev.bind aw26 (Ev.now _))))))
   ·exact none hd (by decide) rfl rfl rfl rfl
 refine Ev.step (fun k=>by rw [clavigerlaw26_Pkcs8Back.j0]) ?_
 obtain ⟨e,he,hw⟩:=enc26p l0 l1 key attrs (by omega) (by omega) hk (by omega) hs (by omega)
 refine Ev.ifn (by simp) (Ev.bind he ?_)
 by_cases h0:e.2=0
 case neg=>exact Ev.ifn h0 read
 exact Ev.ifp h0 (Ev.bind (back26 hw h0 (by omega) (by omega)) (Ev.ifp rfl (Ev.bind (same26 l0 l1 _ _ (by omega) (by omega)) (Ev.ifp rfl read))))
end Go.Proofs.YtfcdabhalahieaaDoor.Pure
