import Derived.Test.YtfcdabhalahieaaDoorRPkcs8Back2
import Derived.Test.YtfcdabhalahieaaDoorProg
import Derived.Test.YtfcdabhalahieaaDoorShelf
import Derived.Test.YtfcdabhalahieaaDoorRows
import Derived.Deep.Cut
import Derived.RangeFuncNested
import Derived.RangeFuncBound
import Derived.RangeFuncCalls
import Derived.RangeFuncLeaves
import Derived.RangeFuncBox
import Derived.Shelf.Abstract
import Derived.Shelf.RegionOpen
import Derived.WalkKit
import Derived.OwnWalkIn
import Derived.TacticsInMore
import Derived.LoopNIn
import Derived.LoopIn
import Derived.Maps.AppendAt
import Derived.Shelf.SlicesE.Reverse
import Derived.Shelf.Unicode.ValidAny
import Derived.Lib.LaidU8T
import Derived.MakeChecks
import Derived.Laws.BytesArg
set_option linter.unusedSectionVars false
set_option linter.unusedSimpArgs false
set_option linter.unusedVariables false
set_option linter.unusedVariables false
namespace Go.Rf.T
open Go Go.Rf Go.Proofs Go.RowKit Go.Proofs.YtfcdabhalahieaaDoor
def laidL:=Rows.pkcs8BackRow.laid
instance:Tabs:=⟨fun p w=>∃ W,laidMetH Tryd.prog laidL W∧∀ b,b < W.heap.size→p b∧w.heap[b]? = W.heap[b]?,fun k h=>let ⟨W,h1,h2⟩:=h;⟨W,h1,fun b hb=>⟨k.pub b (h2 b hb).1,(k.same b (h2 b hb).1).trans (h2 b hb).2⟩⟩⟩
theorem hm:Tryd.prog.follows .mixedOrders=true:=by kernel_rfl
structure S24 where
 f0:List Int
 f1:List Int
 f2:ByteArray
 f3:ByteArray
 deriving Inhabited,DecidableEq
def v24 (o:Nat) (s:S24):V:=.agg [.row (lvo o 3) 1 (List.map I s.f0),.row (lvo o 3) 1 (List.map I s.f1),S s.f2,S s.f3]
theorem v24.shr (o:Nat) (s:S24):(v24 o s).shr=v24 0 s:=aggS (shrC (shrM (lvo o 3) 1 I I s.f0 (fun _=>rfl)) (shrC (shrM (lvo o 3) 1 I I s.f1 (fun _=>rfl)) (shrC (rfl:V.shr (S s.f2)=S s.f2) (shrC (rfl:V.shr (S s.f3)=S s.f3) (rfl:shrL []=[])))))
def ok24 (s:S24):Prop:=(s.f0.length≤maxLen∧∀ a∈s.f0,(Lit.int .i64 a).wf=true)∧(s.f1.length≤maxLen∧∀ a∈s.f1,(Lit.int .i64 a).wf=true)∧s.f2.size≤maxLen∧s.f3.size≤maxLen
structure S52 where
 f0:Int
 f1:Int
 f2:Bool
 f3:ByteArray
 f4:List Int
 deriving Inhabited,DecidableEq
def z52:S52:=⟨0,0,false,(⟨#[]⟩:ByteArray),[]⟩
def v52 (o:Nat) (s:S52):V:=.agg [I s.f0,I s.f1,B s.f2,S s.f3,.row (lvo o 3) 1 (List.map I s.f4)]
theorem v52.shr (o:Nat) (s:S52):(v52 o s).shr=v52 0 s:=aggS (shrC (rfl:V.shr (I s.f0)=I s.f0) (shrC (rfl:V.shr (I s.f1)=I s.f1) (shrC (rfl:V.shr (B s.f2)=B s.f2) (shrC (rfl:V.shr (S s.f3)=S s.f3) (shrC (shrM (lvo o 3) 1 I I s.f4 (fun _=>rfl)) (rfl:shrL []=[]))))))
def rd_T52 (l:List S52) (i:Int):S52:=l.getD i.toNat z52
structure S107 where
 f0:Int
 f1:Int
 deriving Inhabited,DecidableEq
def z107:S107:=⟨0,0⟩
def v107 (s:S107):V:=.agg [I s.f0,I s.f1]
def rd_T107 (l:List S107) (i:Int):S107:=l.getD i.toNat z107
def vL52 (o:Nat) (l:List S52):V:=.row (lvo o 52) 5 (List.map (v52 (o - 1)) l)
theorem vL52.shr (o:Nat) (l:List S52):(vL52 o l).shr=vL52 0 l:=shrM (lvo o 52) 5 (v52 (o - 1)) (v52 0) l (v52.shr _)
def rd_L52 (l:List (List S52)) (i:Int):List S52:=l.getD i.toNat []
def tree_Leaf.f (a0:Int) (a1:Int) (a2:ByteArray):Option (List S52):=some ([(⟨a0,a1,false,a2,([]:List Int)⟩:S52)]:List S52)
theorem tree_Leaf.con {a0:Int} {a1:Int} {a2:ByteArray} {r:(List S52)} (H:tree_Leaf.f a0 a1 a2=some r):Con Tryd.prog 10 [I a0,I a1,S a2] (.row (some 52) 5 (List.map (v52 0) r)):=by
 refine Cg Tryd.func10 rfl fun C hN hL=>?_
 unfold tree_Leaf.f at H
 refine Sw<|Rg hN<|Sw<|Rj hN [] (.cons (fitR (o:=some 52) (sz:=5) (n:=[.agg [I a0,I a1,B false,S a2,.row none 1 (List.map I ([]:List Int))]]) (.cons (.agg (.cons (.refl _) (.cons (.refl _) (.cons (.refl _) (.cons (.refl _) (.cons (.nilS 3 1 _) .nil)))))) .nil)) .nil) [] [(11,.row (some 52) 5 (List.map (v52 0) ([(⟨a0,a1,false,a2,([]:List Int)⟩:S52)]:List S52)))] ?_
 cases H
 exact Rt dR
def oid_most.f (l0:List Int) (a1:Int):Option (Int):=if a1=0 then (some 2) else (if a1 > 1 then (some 2147483647) else (if 0 < (l0.length:Int) then (if (rd l0 0) < 2 then (some 39) else (some 2147483567)) else (none)))
theorem oid_most.con {l0:List Int} {a1:Int} {r:(Int)} (H:oid_most.f l0 a1=some r):Con Tryd.prog 49 [.row none 1 (List.map I l0),I a1] (I r):=by
 refine Cg Tryd.func49 rfl fun C hN hL=>?_
 unfold oid_most.f at H
 refine Sw<|Rg hN<|Sw<|Bl<|Sw<|Rg hN ?_
 rcases ifC H with ⟨c1,H⟩ | ⟨c1,H⟩
 ·refine Ct (bq c1)<|Sw<|Rg hN ?_
  cases H
  exact Rt dR
 refine Cf (bn c1)<|Sw<|Rg hN ?_
 rcases ifC H with ⟨c2,H⟩ | ⟨c2,H⟩
 ·refine Ct (dt c2)<|Sw<|Rg hN ?_
  cases H
  exact Rt dR
 refine Cf (df c2)<|Sw ?_
 obtain ⟨c3,H⟩:=ifS H
 refine Rh hN [I (rd l0 0)] (.cons (show (0:Int)≤0 by decide) (.cons (atM I (0:Int) (show (0:Int)≤0 by decide) c3) .nil)) ?_
 rcases ifC H with ⟨c4,H⟩ | ⟨c4,H⟩
 ·refine Ct (dt c4)<|Sw<|Rg hN ?_
  cases H
  exact Rt dR
 refine Cf (df c4)<|Sk<|Sw<|Rg hN ?_
 cases H
 exact Rt dR
def oid_Right.l0:Nat→List Int→List Int→Int→Int→Option (Bool)
 | 0,_,_,_,_=>none
 | k+1,x0,x13,x14,x15=>if x15 < x14 then (if 0≤x15 then (if x15 < (x13.length:Int) then (if (rd x13 x15) < 0 then (some false) else ((oid_most.f x0 x15).bind fun t11=>(if (rd x13 x15) > t11 then (some false) else (oid_Right.l0 k x0 x13 x14 (wrap64 (x15+1)))))) else (none)) else (none)) else (some true)
def oid_Right.j0:Nat→List Int→Bool→Option (Bool)
 | 0,_,_=>none
 | k+1,x0,x12=>if x12=true then (some false) else (oid_Right.l0 k x0 x0 (x0.length:Int) 0)
def oid_Right.f (k:Nat) (l0:List Int):Option (Bool):=if (l0.length:Int) < 2 then (oid_Right.j0 k l0 true) else (oid_Right.j0 k l0 (decide ((l0.length:Int) > 20)))
theorem oid_Right.con {k:Nat} {l0:List Int} {r:(Bool)} (H:oid_Right.f k l0=some r):Con Tryd.prog 32 [.row none 1 (List.map I l0)] (B r):=by
 refine Cg Tryd.func32 rfl fun C hN hL=>?_
 unfold oid_Right.f at H
 refine Sw<|Rg hN<|Sw<|Sw<|Good.cut (fun st=>∃ n':Nat,n'≤k∧∃ (x0:List Int) (x12:Bool),Wk C st ⟨[(0,.w (.row none 1 (List.map I x0))),(12,.w (B x12))],[]⟩∧oid_Right.j0 n' x0 x12=some r) ?_ ?_
 ·rcases ifC H with ⟨c5,H⟩ | ⟨c5,H⟩
  ·exact Rh hN [I (l0.length:Int),B true] (.cons (lenM I l0) (.cons (dt c5) .nil))<|⟨k,by omega,l0,true,Wo [(0,0),(12,0)],H⟩
  exact Rh hN [I (l0.length:Int),B false,I (l0.length:Int)] (.cons (lenM I l0) (.cons (df c5) (.cons (lenM I l0) .nil)))<|⟨k,by omega,l0,decide ((l0.length:Int) > 20),Wo [(0,0),(12,0)],H⟩
 clear H
 rintro st ⟨n',hn',x0,x12,W,H⟩
 rcases n' with _ | k
 ·cases H
 refine W.good ?_
 rw [oid_Right.j0] at H
 rcases ifC H with ⟨c6,H⟩ | ⟨c6,H⟩
 ·refine Ct c6<|Sw<|Rg hN ?_
  cases H
  exact Rt dR
 refine Cf (bf c6)<|Sk<|Sw<|Sw<|Rh hN [I (x0.length:Int)] (.cons (lenM I x0) .nil)<|Bl<|Good.loopN (fun k' st=>∃ (x0:List Int) (x13:List Int) (x14:Int) (x15:Int),k'≤k∧Wk C st ⟨[(0,.w (.row none 1 (List.map I x0))),(13,.w (.row none 1 (List.map I x13))),(14,.w (I x14)),(15,.w (I x15))],[]⟩∧oid_Right.l0 k' x0 x13 x14 x15=some r) k ⟨x0,x0,(x0.length:Int),0,Nat.le_refl _,Wo [(0,0),(13,0),(14,0),(15,0)],H⟩ fun k=>⟨fun st h=>(by obtain ⟨_,_,_,_,_,_,H⟩:=h;cases H),?_⟩
 clear H
 rintro st ⟨x0,x13,x14,x15,hk,W,H⟩
 refine W.good ?_
 rw [oid_Right.l0] at H
 refine Sw<|Rg hN<|Sw ?_
 rcases (ifC H).symm with ⟨c7,H⟩ | ⟨c7,H⟩
 ·refine Cf (df c7)<|Ex<|Sw<|Rg hN ?_
  cases H
  exact Rt dR
 refine Ct (dt c7)<|Sk<|Sw<|Bl<|Sw ?_
 obtain ⟨c8,H⟩:=ifS H
 obtain ⟨c9,H⟩:=ifS H
 refine Rh hN [I (rd x13 x15)] (.cons c8 (.cons (atM I (0:Int) c8 c9) .nil))<|Sw ?_
 rcases ifC H with ⟨c10,H⟩ | ⟨c10,H⟩
 ·refine Rh hN [B true] (.cons (dt c10) .nil)<|Good.cond true (by kernel_rfl)<|Sw<|Rg hN ?_
  cases H
  exact Rt dR
 obtain ⟨t11,h12,H⟩:=bindS H
 refine Rh hN [B false,I t11] (.cons (df c10) (.cons (oid_most.con h12).c .nil)) ?_
 rcases (ifC H).symm with ⟨c13,H⟩ | ⟨c13,H⟩
 ·exact Cf (df c13)<|Sk<|Rg hN<|⟨k,by omega,x0,x13,x14,wrap64 (x15+1),by omega,Wo [(0,0),(13,0),(14,0),(15,0)],H⟩
 refine Ct (dt c13)<|Sw<|Rg hN ?_
 cases H
 exact Rt dR
def encD:Nat→Int→Int→Option (List Int)
 | 0,_,_=>none
 | k+1,n,m=>if n / 128=0 then some [Go.bits .or .u8 ((Go.bits .and .i64 n 127) % 256) m] else (encD k (n / 128) 128).bind fun r=>some (Go.bits .or .u8 ((Go.bits .and .i64 n 127) % 256) m :: r)
def encA (k:Nat):List Int→Option (List Int)
 | []=>some []
 | x :: xs=>(encD k x 0).bind fun d=>if d.length≤10 then (encA k xs).bind fun r=>some (d++r) else none
def encNums (l0:List Int):List Int:=[wrap64 ((wrap64 (40*(rd l0 0)))+(rd l0 1))]++l0.drop 2
def oid_Encode.f (k:Nat) (l0:List Int):Option (ByteArray × Bool):=(oid_Right.f k l0).bind fun t108=>if t108=true then (if 2≤l0.length∧l0.length≤1000 then (encA k (encNums l0).reverse).bind fun bs=>some (strOfNums bs.reverse,true) else none) else some ((⟨#[]⟩:ByteArray),false)
section
open Go.Shelf
attribute [local go_sem] Oper.semAt_some
set_option linter.unusedSimpArgs false
theorem bw64 {x:Int} (h0 : -9223372036854775808≤x) (h1:x≤9223372036854775807):wrap64 x=x:=by unfold wrap64;omega
def bwK (n₀ Bs:Nat) (sv:Value) (W W':World):Prop:=Below n₀ W W'∧(Boxed W Bs 22 sv→Boxed W' Bs 22 sv)
def bw_upto {α:Type} (f:Nat→α) (k:Nat):List α:=(List.range k).map f
theorem bw_upto_succ {α:Type} (f:Nat→α) (k:Nat):bw_upto f (k+1)=bw_upto f k++[f k]:=by simp [bw_upto,List.range_succ]
theorem bw_upto_length {α:Type} (f:Nat→α) (k:Nat):(bw_upto f k).length=k:=by simp [bw_upto]
set_option maxRecDepth 100000 in
set_option maxHeartbeats 2000000 in
theorem backward1_in {α:Type} (encs:α→Array Value) (al:Nat→α) (F:Fence) (n:Nat) (h8:F.fn 50) (hro:F.round=none) (hn:1≤n) (l Bs n₀ b off len cap:Nat) (zs:List Int) (hreach:len*8≤140737488351232) (hb:b < n₀) (J Jx:List α→World→Prop)
 (henc:∀ j,j < len→encs (al j) = #[.int .i64 ((len:Int) - 1 - (j:Int)),.int .i64 (zs[len - 1 - j]?.getD 0)])
 (hY:∀ pre x W,J pre W→pre.length < len→YieldAt F (n - 1) Tryd.prog l (encs x) W fun e W' =>
  (e=.returned (.bool true)∧J (pre++[x]) W'∧bwK n₀ Bs (.slice (some ⟨b,off,none⟩) len cap) W W')∨(e=.returned (.bool false)∧Jx (pre++[x]) W'))
 (W:World) (hBs:Boxed W Bs 22 (.slice (some ⟨b,off,none⟩) len cap)) (hc:∀ j,j < len→W.cell? ⟨b,off+j,none⟩=some (.int .i64 (zs[j]?.getD 0))) (h0:J [] W) :
 CallsIn F n Tryd.prog 50 #[.func (.yield l) #[] #[],.pointer (some ⟨Bs,0,none⟩)] W fun e W'=>(∃ v,e=.returned v) ∧
  ((∃ ys,ys=bw_upto al len∧J ys W')∨(∃ pre,(∃ k,k≤len∧pre=bw_upto al k)∧Jx pre W')):=by
 refine callsIn_of_wp Tryd.func50 rfl h8 ?_ hro
 simp only [Tryd.ntmps50,List.size_toArray,List.length_cons,List.length_nil,Nat.reduceAdd,Nat.reduceSub,Array.replicate_succ,Array.replicate_zero,List.push_toArray,List.append_toArray,List.nil_append,List.cons_append]
 have hw0:wrap64 ((len:Int) - 1)=(len:Int) - 1:=bw64 (by omega) (by omega)
 have hB0:=hBs.cell
 gi_wp2
 gi_loopw [3] (fun i wr=>∃ k:Nat,k≤len∧i=.int .i64 ((len:Int) - 1 - (k:Int))∧J (bw_upto al k) wr∧Below n₀ W wr∧Boxed wr Bs 22 (.slice (some ⟨b,off,none⟩) len cap))
  (fun i _=>(RowKit.intOf i+1).toNat)
 case atStart=>exact ⟨0,Nat.zero_le _,by simp [hw0],h0,Below.refl _ _,hBs⟩
 case round =>
  obtain ⟨k,hk,rfl,hJs,hnx,hbb⟩:=hrel
  have hbx:=hbb.cell
  by_cases hlt:k < len
  ·have hcx':wr.cell? ⟨b,off+(len - 1 - k),none⟩=some (.int .i64 (zs[len - 1 - k]?.getD 0)):=(hnx.cell (p:=⟨b,off+(len - 1 - k),none⟩) hb).trans (hc _ (by omega))
   obtain ⟨fn,tmps,assign,body,hy,hR⟩:=hY _ (al k) wr hJs (by rw [bw_upto_length];exact hlt)
   rw [henc k hlt] at hy
   have hge:(0:Int)≤(len:Int) - 1 - (k:Int):=by omega
   have hl:(len:Int) - 1 - (k:Int) < (len:Int):=by omega
   have ht:((len:Int) - 1 - (k:Int)).toNat=len - 1 - k:=by omega
   have hw1:wrap64 ((len:Int) - 1 - (k:Int) - 1)=(len:Int) - 1 - ((k+1:Nat):Int):=by rw [bw64 (by omega) (by omega)];omega
   gi_wp2
   refine hR.mono ?_
   rintro e W3 (⟨rfl,hJ3,hk3⟩ | ⟨rfl,hJx3⟩)
   ·gi_wp2
    go_roundw
    case rel=>exact ⟨k+1,by omega,congrArg (Value.int .i64) (by omega),by rw [bw_upto_succ];exact hJ3,hnx.trans hk3.1,hk3.2 hbb⟩
    case measure=>simp [RowKit.intOf];omega
   ·gi_wp2
    refine bodyPost_ret (results_none rfl _ _ _) rfl ?_
    exact ⟨⟨_,rfl⟩,.inr ⟨_,⟨k+1,by omega,(bw_upto_succ _ _).symm⟩,hJx3⟩⟩
  ·obtain rfl:k=len:=by omega
   have hge:¬ (0:Int)≤(k:Int) - 1 - (k:Int):=by omega
   gi_wp2
   go_end0
   first | exact ⟨⟨_,rfl⟩,.inl ⟨_,rfl,hJs⟩⟩ | exact ⟨⟨_,rfl⟩,.inl hJs⟩
theorem bwK_t {n₀ Bs:Nat} {sv:Value} {A B C:World} (h:bwK n₀ Bs sv A B) (k:bwK n₀ Bs sv B C):bwK n₀ Bs sv A C:=⟨h.1.trans k.1,fun x=>k.2 (h.2 x)⟩
theorem bwK_b {n₀ Bs:Nat} {sv:Value} {w:World} (hn:n₀≤w.heap.size) (W:World) (l:Nat) (o o':Obj) (hl:w.heap.size≤l) (h:W.heap[l]? = some o) (h1:o.isCells=false) (h2:o.isWalk=false):bwK n₀ Bs sv W (W.putObj l o') :=
 ⟨belowK_b hn W l o o' hl h h1 h2,fun x=>x.kept (grownBy_putObj' W l o') (fun e=>by
  cases e
  rw [show W.heap[Bs]? = _ from x] at h
  cases h
  cases h1)⟩
theorem backward_stops {α:Type} (encs:α→Array Value) (al:Nat→α) (F:Fence) (n:Nat) (h8:F.fn 50) (hro:F.round=none) (hn:1≤n) (Bs n₀ b off len cap:Nat) (zs:List Int) (hreach:len*8≤140737488351232) (hb:b < n₀)
 (henc:∀ j,j < len→encs (al j) = #[.int .i64 ((len:Int) - 1 - (j:Int)),.int .i64 (zs[len - 1 - j]?.getD 0)]) (w:World) (hn₀:n₀≤w.heap.size)
 (hBs:Boxed w Bs 22 (.slice (some ⟨b,off,none⟩) len cap)) (hc:∀ j,j < len→w.cell? ⟨b,off+j,none⟩=some (.int .i64 (zs[j]?.getD 0))) :
 SeqStopsK F n Tryd.prog 50 #[.pointer (some ⟨Bs,0,none⟩)] encs (bwK n₀ Bs (.slice (some ⟨b,off,none⟩) len cap)) (fun ys=>ys=bw_upto al len) (fun _=>True) len w:=fun l J Jx W hW _ _ hY h0=>by
 refine (backward1_in encs al F n h8 hro hn l Bs n₀ b off len cap zs hreach hb J Jx henc hY W ((hW.block Bs hBs.lt).trans hBs) (fun j hj=>((hW.mono hn₀).cell (p:=⟨b,off+j,none⟩) hb).trans (hc j hj)) h0).mono ?_
 rintro e W' ⟨he,⟨ys,rfl,hj⟩ | ⟨pre,_,hj⟩⟩
 ·exact ⟨he,.inl ⟨_,rfl,hj⟩⟩
 ·exact ⟨he,.inr ⟨_,trivial,hj⟩⟩
theorem backward_calls (a:Option Addr) (len cap:Nat) (w:World) :
 Calls Tryd.prog 33 #[.slice a len cap] w fun e w'=>e=.returned (.func (.func 50) #[] #[.pointer (some ⟨w.heap.size,0,none⟩)])∧w'=w.alloc (.cells #[.slice a len cap] 22):=by
 go_enter Tryd.func33,Tryd.ntmps33
 go_wp2
 go_ret
 exact ⟨rfl,rfl⟩
theorem encA_mem {k:Nat}:∀ {xs bs:List Int},encA k xs=some bs→∀ x∈xs,∃ d,encD k x 0=some d∧d.length≤10
 | [],_,_,x,hx=>by cases hx
 | y :: ys,bs,h,x,hx=>by
  rw [encA] at h
  obtain ⟨d,h1,h⟩:=Option.bind_eq_some_iff.1 h
  by_cases h2:d.length≤10
  ·rw [if_pos h2] at h
   obtain ⟨r,h3,h⟩:=Option.bind_eq_some_iff.1 h
   rcases List.mem_cons.1 hx with rfl | hx
   ·exact ⟨d,h1,h2⟩
   ·exact encA_mem h3 x hx
  ·rw [if_neg h2] at h;cases h
def encF (k:Nat) (xs:List Int):List Int:=xs.flatMap fun x=>(encD k x 0).getD []
abbrev EncX (k:Nat):={ p:Int × Int // ∃ d,encD k p.2 0=some d∧d.length≤10 }
theorem encF_len {k:Nat} (pre:List (EncX k)):(encF k (pre.map fun x=>x.1.2)).length≤10*pre.length:=by
 induction pre with
 | nil=>simp [encF]
 | cons x xs ih =>
  obtain ⟨⟨i,n⟩,d,hd,h10⟩:=x
  have e:encF k (List.map (fun x:EncX k=>x.1.2) (⟨(i,n),d,hd,h10⟩ :: xs))=d++encF k (xs.map fun x=>x.1.2):=by
   simp [encF,hd]
  rw [e,List.length_append,List.length_cons]
  omega
theorem encF_snoc {k:Nat} (pre:List (EncX k)) (x:EncX k) {d:List Int} (hd:encD k x.1.2 0=some d):encF k ((pre++[x]).map fun x=>x.1.2)=encF k (pre.map fun x=>x.1.2)++d:=by
 simp [encF,hd]
theorem encD_pos:∀ {k:Nat} {n m:Int} {d:List Int},encD k n m=some d→0≤n
 | 0,_,_,_,h=>by cases h
 | k+1,n,m,d,h=>by
  rw [encD] at h
  by_cases hs:n / 128=0
  ·omega
  ·rw [if_neg hs] at h
   obtain ⟨r,hr,_⟩:=Option.bind_eq_some_iff.1 h
   have:=encD_pos hr
   omega
theorem encA_eq {k:Nat}:∀ {xs bs:List Int},encA k xs=some bs→bs=encF k xs
 | [],_,h=>by cases h;rfl
 | y :: ys,bs,h=>by
  rw [encA] at h
  obtain ⟨d,h1,h⟩:=Option.bind_eq_some_iff.1 h
  by_cases h2:d.length≤10
  ·rw [if_pos h2] at h
   obtain ⟨r,h3,h⟩:=Option.bind_eq_some_iff.1 h
   cases h
   rw [encA_eq h3]
   simp [encF,h1]
  ·rw [if_neg h2] at h;cases h
theorem encInfo:(Tryd.prog.info? 5).map (fun i=>(i.zero,i.size,i.bytes))=some (some (.int .u8 0),1,1):=by kernel_rfl
theorem encA_ne {k:Nat}:∀ {xs bs:List Int},encA k xs=some bs→0 < xs.length→0 < bs.length
 | [],_,_,h=>by simp at h
 | y :: ys,bs,h,_=>by
  rw [encA] at h
  obtain ⟨d,h1,h⟩:=Option.bind_eq_some_iff.1 h
  by_cases h2:d.length≤10
  ·rw [if_pos h2] at h
   obtain ⟨r,h3,h⟩:=Option.bind_eq_some_iff.1 h
   cases h
   have:0 < d.length:=by
    cases k with
    | zero=>cases h1
    | succ k =>
     rw [encD] at h1
     split at h1
     ·cases h1;simp
     ·obtain ⟨r,_,h1⟩:=Option.bind_eq_some_iff.1 h1
      cases h1;simp
   rw [List.length_append]
   omega
  ·rw [if_neg h2] at h;cases h
theorem oid_Encode.ansR {C:Ctx} {w w':World} {s:ByteArray} {b:Bool} (h:Calm C.W w) (k:Below w.heap.size w w'):Ans C (.tup [S s,B b]) (.returned (.tuple #[.string s,.bool b])) w' :=
 ⟨_,[],fun _=>False,rfl,⟨k.os.trans h.os,k.tape.trans h.tape,k.output.trans h.output,Nat.le_trans h.size k.size,fun b hb=>(k.block b (Nat.lt_of_lt_of_le hb h.size)).trans (h.same b hb)⟩,fun _ h=>h.elim,List.nodup_nil,fun _ h=>(by cases h),.tup (vs:=[.string s,.bool b]) (.cons (A:=[]) (.lit _) (.cons (A:=[]) (.lit _) .nil))⟩
def oid_Encode.ren:Go.Shelf.Ren:=⟨fun | 35=>34 | n=>n,fun | 22=>69 | 23=>5 | 3=>3 | 4=>4 | 0=>0 | n=>n,fun | n=>n⟩
theorem oid_Encode.lays:SlLaysE.n35 Tryd.prog oid_Encode.ren:={
  mixed:=by kernel_rfl
  f35:=⟨Tryd.f34.name,by decide,Tryd.func34.trans (congrArg some (by kernel_rfl))⟩
  t0:=Tryd.underlying0
  a0:=Tryd.isAgg0
  z0:=Tryd.sizeOf0
  v0:=Tryd.zeroValue0
  t3:=Tryd.underlying3
  a3:=Tryd.isAgg3
  z3:=Tryd.sizeOf3
  v3:=Tryd.zeroValue3
  t4:=Tryd.underlying4
  a4:=Tryd.isAgg4
  z4:=Tryd.sizeOf4
  v4:=Tryd.zeroValue4
  t22:=Tryd.underlying69
  a22:=Tryd.isAgg69
  z22:=Tryd.sizeOf69
  v22:=Tryd.zeroValue69
  a23:=Tryd.isAgg5
  z23:=Tryd.sizeOf5 }
theorem oid_Encode.reverse_calls (g1 cap1:Nat) (bs:List Int) (w:World) (hc:∀ j,j < bs.length→w.cell? ⟨g1,j,none⟩=some (.int .u8 (bs[j]?.getD 0))∧w.frozen? ⟨g1,j,none⟩=false) (hl:bs.length≤9223372036854775807) :
 Calls Tryd.prog 34 #[.slice (some ⟨g1,0,none⟩) bs.length cap1] w fun e w'=>e=.returned (.tuple #[])∧(∀ j,j < bs.length→w'.cell? ⟨g1,j,none⟩=some (.int .u8 (bs.reverse[j]?.getD 0)))∧w'.os=w.os∧w'.tape=w.tape∧w'.output=w.output∧w'.heap.size=w.heap.size∧∀ b,b≠g1→w'.heap[b]? = w.heap[b]?:=by
 have hH:Go.Sort.Holds (Value.int .u8) w g1 0 bs.toArray:=fun j hj=>by
  rw [List.size_toArray] at hj
  have:=hc j hj
  rw [Nat.zero_add]
  refine ⟨this.1.trans ?_,this.2⟩
  simp [List.getElem?_eq_getElem hj,getElem!_pos,hj]
 refine (AnyE.slices_Reverse oid_Encode.lays (Value.int .u8) (fun x=>by simp [Value.oneCell']) g1 0 cap1 bs w hH hl).mono ?_
 rintro e w' ⟨rfl,n,rfl⟩
 have hH2:Go.Sort.Holds (Value.int .u8) (Go.Sort.ahead w n) g1 0 bs.toArray:=fun j hj=>hH j hj
 refine ⟨rfl,fun j hj=>?_,rfl,rfl,rfl,?_,fun b hb=>?_⟩
 ·have h1:=(Go.Sort.holds_putRow (Value.int .u8) (Go.Sort.ahead w n) g1 0 bs.toArray bs.reverse.toArray hH2 (by simp) j (by simpa using hj)).1
  rw [Nat.zero_add] at h1
  rw [h1]
  simp [List.getElem?_eq_getElem,getElem!_pos,hj]
 ·simp [Go.Sort.putRow,Go.Sort.mapBlock,Go.Sort.ahead]
 ·simp [Go.Sort.putRow,Go.Sort.mapBlock,Go.Sort.ahead,Array.getElem?_modify,Ne.symm hb]
set_option maxHeartbeats 8000000 in
set_option maxRecDepth 100000 in
theorem oid_Encode.con {k:Nat} {l0:List Int} {r:ByteArray × Bool} (H:oid_Encode.f k l0=some r):Con Tryd.prog 20 [.row none 1 (List.map I l0)] (.tup [S r.1,B r.2]):=by
 refine con_of_man Tryd.func20 rfl (by kernel_rfl) (by kernel_rfl) fun C hN hL hF=>?_
 unfold oid_Encode.f at H
 refine Man.seq<|Rg hN<|Man.seq<|Sw ?_
 obtain ⟨t19,h20,H⟩:=bindS H
 refine Rh hN [B t19] (.cons (oid_Right.con h20).c .nil) ?_
 rcases (ifC H).symm with ⟨c21,H⟩ | ⟨c21,H⟩
 ·refine Ct (notT (bf c21))<|Sw<|Rg hN ?_
  cases H
  exact Good.ret (Man.fin hF (fin.doneR (by kernel_rfl)))
 refine Cf (notF c21)<|Sk<|Man.seq ?_
 obtain ⟨cL,H⟩:=ifS H
 obtain ⟨bs,hbs,H⟩:=bindS H
 have c22:0 < (l0.length:Int):=by omega
 have c23:1 < (l0.length:Int):=by omega
 have c24:2≤(l0.length:Int):=by omega
 have c25:([wrap64 ((wrap64 (40*(rd l0 0)))+(rd l0 1))]:List Int).length+(l0.drop 2).length < 17592186044416:=by rw [List.length_drop];simp only [List.length_cons,List.length_nil];omega
 refine Good.regTB (n:=2) hm hN hL (.q 0 [[8,7,3,2,1]] (.q 1 [[8,7,3,2]] (.q 2 [[8,7,3]] (.q 3 [[8,7]] (.q 4 [[8,7,6,5]] (.q 5 [[8,7,6]] (.q 6 [[8,7]] (.q 7 [[8]] (.q 9 [[10]] (.b 8 [.row none 1 (List.map I (l0.drop 2)),.kb false,.row (some 3) 1 (List.map I (([wrap64 ((wrap64 (40*(rd l0 0)))+(rd l0 1))]:List Int)++(l0.drop 2)))] [] (.e 10 (.e 11 (.e 12 .z))) [.row none 1 (List.map I (l0.drop 2)),.kb false,.row (some 3) 1 (List.map I (([wrap64 ((wrap64 (40*(rd l0 0)))+(rd l0 1))]:List Int)++(l0.drop 2)))] [] (.e 10 (.e 8 (.e 11 (.e 12 .z)))))))))))))) [(0,none)] (by kernel_rfl) .nil [I (rd l0 0),I (rd l0 1)] [I (rd l0 0),I (rd l0 1)] (.cons (.cons (show (0:Int)≤0 by decide) (.cons (atM I (0:Int) (show (0:Int)≤0 by decide) c22) (.cons (show (0:Int)≤1 by decide) (.cons (atM I (0:Int) (show (0:Int)≤1 by decide) c23) (.cons (show (0:Int)≤2 by decide) (.cons (leM I c24) (.cons (cutMlo I (l:=l0) (n:=2)) (.cons (fitM I ([wrap64 ((wrap64 (40*(rd l0 0)))+(rd l0 1))]:List Int) (l0.drop 2) (.refl _)) (.cons (limM2 I I c25) .nil))))))))) (.cons (show (0:Int)≤0 by decide) (.cons (atM I (0:Int) (show (0:Int)≤0 by decide) c22) (.cons (show (0:Int)≤1 by decide) (.cons (atM I (0:Int) (show (0:Int)≤1 by decide) c23) .nil)))) (.cons (.cons (show (0:Int)≤0 by decide) (.cons (atM I (0:Int) (show (0:Int)≤0 by decide) c22) (.cons (show (0:Int)≤1 by decide) (.cons (atM I (0:Int) (show (0:Int)≤1 by decide) c23) (.cons (show (0:Int)≤2 by decide) (.cons (leM I c24) (.cons (cutMlo I (l:=l0) (n:=2)) (.cons (fitM I ([wrap64 ((wrap64 (40*(rd l0 0)))+(rd l0 1))]:List Int) (l0.drop 2) (.refl _)) (.cons (limM2 I I c25) .nil))))))))) (.cons (show (0:Int)≤0 by decide) (.cons (atM I (0:Int) (show (0:Int)≤0 by decide) c22) (.cons (show (0:Int)≤1 by decide) (.cons (atM I (0:Int) (show (0:Int)≤1 by decide) c23) .nil)))) .nil)) [] [] (by kernel_rfl) (by kernel_rfl) [[],[]] [(4,0)] [(4,.w (.row (some 3) 1 (List.map I (([wrap64 ((wrap64 (40*(rd l0 0)))+(rd l0 1))]:List Int)++(l0.drop 2)))))] [] (by kernel_rfl) (by kernel_rfl) ?_
 obtain ⟨y115,hy⟩:∃ y:List Int,y=([wrap64 ((wrap64 (40*(rd l0 0)))+(rd l0 1))]:List Int)++(l0.drop 2):=⟨_,rfl⟩
 have hy0:y115.length=l0.length - 1:=by rw [hy,List.length_append,List.length_drop];simp only [List.length_cons,List.length_nil];omega
 have A3:Asd (encA k y115.reverse=some bs):=⟨by rw [hy];exact hbs⟩
 rw [← hy]
 cases H
 clear H hbs hy c22 c23 c24 c25 h20 c21
 intro g0 a w13 S
 have HY0:=Asd.mk hy0
 have HL:=Asd.mk cL
 clear hy0 cL
 have e4:=RepD.inv (S.env 4 (.w (.row (some 3) 1 (List.map I y115))) rfl).2.1
 have hrow0:=Rep.own_lits (enc:=Value.int .i64) e4
 rcases hrow0.2 with ⟨_,h0⟩ | ⟨g,cap,cur0,hv4,hg0,hb0,hr0⟩
 ·have:=HY0.out;have:=HL.out;omega
 have HG1:=Asd.mk (show y115.length≤cap from hr0.1)
 have HG2:=Asd.mk (show g < w13.heap.size from (Array.getElem?_eq_some_iff.1 hb0).1)
 have hcell0:Asd (∀ j,j < y115.length→w13.cell? ⟨g,j,none⟩=some (.int .i64 (y115[j]?.getD 0))):=⟨fun j hj=>by
  have h1:=(hv4 ▸ hrow0).cells (g:=g) rfl j (.int .i64 (y115[j]?.getD 0)) (by simp [List.getElem?_eq_getElem hj])
  have ha:(⟨g,0,none⟩:Addr).add j=⟨g,j,none⟩:=by unfold Addr.add;split<;>simp_all
  rwa [ha] at h1⟩
 have HR:Asd (Calm C.W w13):=⟨⟨S.os,S.tape,S.output,S.size,fun b hb=>S.frame b hb (hF b)⟩⟩
 have htm:a.tmps=((List.range 44).map fun i=>a.tmps.getD i undef).toArray:=tm_lits (S.tmps.trans hN)
 have hdf:=S.defers
 obtain ⟨tms,dfs⟩:=a
 replace hdf:dfs=[]:=hdf
 subst hdf
 obtain ⟨f,hf⟩:∃ f:Nat→Value,f=fun i=>tms.getD i undef:=⟨_,rfl⟩
 have hf4:f 4=.slice (some ⟨g,0,none⟩) y115.length cap:=by rw [hf];exact hv4
 replace htm:tms=((List.range 44).map f).toArray:=by rw [hf];exact htm
 rw [htm]
 clear S e4 hrow0 hb0 hr0 hg0 hN hL htm hf hv4 tms
 show Code.wp _ _ _ ⟨#[f 0,f 1,f 2,f 3,f 4,f 5,f 6,f 7,f 8,f 9,f 10,f 11,f 12,f 13,f 14,f 15,f 16,f 17,f 18,f 19,f 20,f 21,f 22,f 23,f 24,f 25,f 26,f 27,f 28,f 29,f 30,f 31,f 32,f 33,f 34,f 35,f 36,f 37,f 38,f 39,f 40,f 41,f 42,f 43],[]⟩ _
 dsimp only
 rw [hf4]
 go_upto_region 5 with fail
 iterate 6 (try (first | go_values | go_skip | go_guarded | go_step | go_upon))
 refine (backward_calls _ _ _ _).mono ?_
 rintro e w' ⟨rfl,rfl⟩
 dsimp only
 iterate 4 (try (first | go_values | go_skip | go_guarded | go_step | go_upon | go_back))
 rw [World.size_alloc]
 refine wp_block<|(wpIn_wide (n:=3)).1 ?_
 have bO:=Boxed.new w13 69 (.slice none 0 0)
 have bS:=Boxed.new (w13.alloc (.cells #[.slice none 0 0] 69)) 22 (.slice (some ⟨g,0,none⟩) y115.length cap)
 rw [World.size_alloc] at bS
 have hB0:Below w13.heap.size w13 ((w13.alloc (.cells #[.slice none 0 0] 69)).alloc (.cells #[.slice (some ⟨g,0,none⟩) y115.length cap] 22)):=((Below.refl _ w13).alloc (Nat.le_refl _) _).alloc (by simp) _
 have hcell:∀ j,j < y115.length→((w13.alloc (.cells #[.slice none 0 0] 69)).alloc (.cells #[.slice (some ⟨g,0,none⟩) y115.length cap] 22)).cell? ⟨g,0+j,none⟩=some (.int .i64 (y115[j]?.getD 0)):=fun j hj=>by
  have h1:=hcell0.out j hj
  have h2:=(Below.cell ((((Below.refl w13.heap.size w13).alloc (Nat.le_refl _) (.cells #[.slice none 0 0] 69))).alloc (by simp) (.cells #[.slice (some ⟨g,0,none⟩) y115.length cap] 22)) (World.block_lt_of_cell? _ _ h1)).trans h1
  rw [Nat.zero_add]
  exact h2
 have hmem:∀ x∈y115.reverse,∃ d,encD k x 0=some d∧d.length≤10:=encA_mem A3.out
 have hal:∀ j,∃ d,encD k (y115[y115.length - 1 - j]?.getD 0) 0=some d∧d.length≤10:=fun j=>by
  have hj:y115.length - 1 - j < y115.length:=by have:=HY0.out;have:=HL.out;omega
  refine hmem _ ?_
  rw [List.getElem?_eq_getElem hj,Option.getD_some]
  exact List.mem_reverse.2 (List.getElem_mem hj)
 refine wpIn_rangeFunc_ownG (α:=EncX k) (encs:=fun x=>#[.int .i64 x.1.1,.int .i64 x.1.2]) rfl (by omega) (gf:=50) (lb:=#[.pointer (some ⟨w13.heap.size+1,0,none⟩)]) rfl trivial (enters_of Tryd.func50 (by kernel_rfl) rfl)
  (backward_stops (fun x:EncX k=>#[.int .i64 x.1.1,.int .i64 x.1.2]) (fun j=>⟨((y115.length:Int) - 1 - (j:Int),y115[y115.length - 1 - j]?.getD 0),hal j⟩) Fence.wide (3 - 1) trivial rfl (by omega) (w13.heap.size+1) w13.heap.size g 0 y115.length cap y115 (by have:=HY0.out;have:=HL.out;omega) (by have:=HG2.out;omega) (fun j _=>rfl) _ (by simp;omega) bS hcell)
  bwK_t (bwK_b (by simp;omega)) (Below.refl _ _) (fun _=>rfl)
  (fun pre W=>(∃ v,Boxed W w13.heap.size 69 v∧W.ownsRow w13.heap.size 5 1 v (encF k (pre.map fun x=>x.1.2)).length ((encF k (pre.map fun x=>x.1.2)).map (Value.int .u8))∧True)∧Below w13.heap.size w13 W)
  (fun _ _ _=>False)
  (OwnFrom.and (Own.from (holdsRow_own w13.heap.size w13.heap.size 69 5 1 (fun pre:List (EncX k)=>(encF k (pre.map fun x=>x.1.2)).length) (fun pre=>(encF k (pre.map fun x=>x.1.2)).map (Value.int .u8)) (fun _ _=>True)) _) (ownFrom_below (Nat.le_refl _) (by simp;omega)))
  (fun _ _ _ _ _ hs _ _=>hs)
  ⟨⟨_,bO.alloc _,World.ownsRow_nil _ _ _ _,trivial⟩,hB0⟩
   (fun x=>{ tmps:=#[f 0,f 1,f 2,f 3,.slice (some ⟨g,0,none⟩) y115.length cap,.pointer (some ⟨w13.heap.size,0,none⟩),f 6,.int .i64 x.1.2,f 8,f 9,f 10,f 11,f 12,f 13,f 14,f 15,f 16,f 17,f 18,f 19,f 20,f 21,f 22,f 23,.slice (some ⟨g,0,none⟩) y115.length cap,.func (.func 50) #[] #[.pointer (some ⟨w13.heap.size+1,0,none⟩)],.int .i64 x.1.1,.int .i64 x.1.2,f 28,f 29,f 30,f 31,f 32,f 33,f 34,f 35,f 36,f 37,f 38,f 39,f 40,f 41,f 42,f 43],defers:=[] }) ?assign ?body ?done ?stop
 case assign =>
  intro l x W K hK
  gi_wp2
  exact hK
 case stop =>
  rintro D c pre W _ _ h _
  exact h.elim
 case body =>
  rintro l pre ⟨⟨xi,xn⟩,d,hd,hd10⟩ W ⟨⟨v,hv,hrow,_⟩,hB⟩ hlt
  dsimp only
  gi_wp2
  gi_loopw [7,8] (fun vn vm wr=>∃ (kq:Nat) (n' m':Int) (cur rest:List Int),vn=.int .i64 n'∧vm=.int .u8 m'∧encD kq n' m'=some rest∧cur++rest=encF k (pre.map fun x=>x.1.2)++d ∧
   (∃ v,Boxed wr w13.heap.size 69 v∧wr.ownsRow w13.heap.size 5 1 v cur.length (cur.map (Value.int .u8)))∧bwK w13.heap.size (w13.heap.size+1) (.slice (some ⟨g,0,none⟩) y115.length cap) W wr∧KeepsFrom w13.heap.size W wr)
   (fun vn _ _=>(RowKit.intOf vn).toNat)
  case atStart=>exact ⟨k,xn,0,_,d,rfl,rfl,hd,rfl,⟨v,hv,hrow⟩,⟨Below.refl _ _,fun h=>h⟩,KeepsFrom.refl _ _⟩
  case round =>
   obtain ⟨kq,n',m',cur,rest,rfl,rfl,hq,hcr,⟨v2,hv2,hrow2⟩,hbk,hkf⟩:=hrel
   have hc:=hv2.cell
   have hcl:cur.length≤10010:=by
    have h1:=congrArg List.length hcr
    have h2:=encF_len pre
    have h3:=HY0.out
    have h4:=HL.out
    simp only [List.length_append] at h1
    omega
   have hsz:w13.heap.size≤wr.heap.size:=Nat.le_trans hB.size hbk.1.size
   have hml:cur.length+1≤maxLen:=by unfold maxLen;omega
   obtain ⟨i0,hi,hz0,hz1,hz2⟩:=info_parts encInfo
   cases kq with
   | zero=>cases hq
   | succ kq =>
    rw [encD] at hq
    by_cases hs:n' / 128=0
    ·rw [if_pos hs] at hq
     have hs0:(n' / 128 == 0)=true:=by simp [hs]
     gi_wp2_with (gi_at_builtin;refine wpListIn_append_own _ rfl _ _ 69 rfl w13.heap.size 5 i0 (.int .u8 0) 1 1 Tryd.underlying69 hi hz0 hz1 hz2 rfl (by decide) _ _ _ rfl (hrow2.alloc _) ⟨wr.heap.size,0,none⟩ 1 1 [.int .u8 (Go.bits .or .u8 ((Go.bits .and .i64 n' 127) % 256) m')] rfl rfl (cell_one_new _ _ _) (by simp [Value.oneCell']) hml (by omega) (by simp;omega) ?_;intro v' w1 hown' hgrow _;obtain ⟨g',cap',rfl⟩:=ownsRow_succ hown';obtain ⟨hv3,hv4,hr4,hk4,hb4⟩:=hv2.appended (by decide) hrow2 hsz (Nat.le_refl _) hown' hgrow;have hc1:=hv3.cell;have hf1:=hv3.frozen;have hS1:=fun hS:Boxed wr (w13.heap.size+1) 22 (.slice (some ⟨g,0,none⟩) y115.length cap)=>((hS.alloc _).kept hgrow (hS.not_row (by decide) hrow2)).kept (grownBy_setCell' w1 w13.heap.size (.slice (some ⟨g',0,none⟩) (cur.length+1) cap')) (by simp))
     obtain rfl:=Option.some.inj hq
     have e:=encF_snoc pre ⟨(xi,xn),d,hd,hd10⟩ hd
     rw [← hcr] at e
     refine ⟨⟨Nat.le_trans hkf.size (hk4.from w13.heap.size).size,fun k o hk=>(hkf.trans (hk4.from _)).same k o (by simp at hk;omega)⟩,⟨hbk.1.trans hb4,fun h=>hS1 (hbk.2 h)⟩,⟨_,hv4,?_,trivial⟩,hB.trans (hbk.1.trans hb4)⟩
     rw [e]
     simpa using hr4
    ·rw [if_neg hs] at hq
     have hs0:(n' / 128 == 0)=false:=by simp [hs]
     obtain ⟨r,hr,hq⟩:=Option.bind_eq_some_iff.1 hq
     obtain rfl:=Option.some.inj hq
     have hpos:=encD_pos hr
     gi_wp2_with (gi_at_builtin;refine wpListIn_append_own _ rfl _ _ 69 rfl w13.heap.size 5 i0 (.int .u8 0) 1 1 Tryd.underlying69 hi hz0 hz1 hz2 rfl (by decide) _ _ _ rfl (hrow2.alloc _) ⟨wr.heap.size,0,none⟩ 1 1 [.int .u8 (Go.bits .or .u8 ((Go.bits .and .i64 n' 127) % 256) m')] rfl rfl (cell_one_new _ _ _) (by simp [Value.oneCell']) hml (by omega) (by simp;omega) ?_;intro v' w1 hown' hgrow _;obtain ⟨g',cap',rfl⟩:=ownsRow_succ hown';obtain ⟨hv3,hv4,hr4,hk4,hb4⟩:=hv2.appended (by decide) hrow2 hsz (Nat.le_refl _) hown' hgrow;have hc1:=hv3.cell;have hf1:=hv3.frozen;have hS1:=fun hS:Boxed wr (w13.heap.size+1) 22 (.slice (some ⟨g,0,none⟩) y115.length cap)=>((hS.alloc _).kept hgrow (hS.not_row (by decide) hrow2)).kept (grownBy_setCell' w1 w13.heap.size (.slice (some ⟨g',0,none⟩) (cur.length+1) cap')) (by simp))
     refine ⟨⟨kq,n' / 128,128,cur++[Go.bits .or .u8 ((Go.bits .and .i64 n' 127) % 256) m'],r,rfl,rfl,hr,?_,⟨_,hv4,?_⟩,⟨hbk.1.trans hb4,fun h=>hS1 (hbk.2 h)⟩,hkf.trans (hk4.from _)⟩,?_⟩
     ·rw [← hcr];simp
     ·simpa using hr4
     ·simp only [RowKit.intOf];omega
 case done =>
  rintro D ys W hD rfl ⟨⟨v,hv,hrow,_⟩,hB2⟩ hK
  have e:encF k ((bw_upto (fun j=>(⟨((y115.length:Int) - 1 - (j:Int),y115[y115.length - 1 - j]?.getD 0),hal j⟩:EncX k)) y115.length).map fun x=>x.1.2)=bs:=by
   have h1:=encA_eq A3.out
   rw [h1]
   congr 1
   refine List.ext_getElem (by simp [bw_upto]) (fun i h2 h3=>?_)
   rw [List.length_reverse] at h3
   simp only [bw_upto,List.getElem_map,List.getElem_range,List.getElem_reverse]
   rw [List.getElem?_eq_getElem (by omega),Option.getD_some]
  rw [e] at hrow
  clear e
  have hbl:0 < bs.length:=encA_ne A3.out (by rw [List.length_reverse];have:=HY0.out;have:=HL.out;omega)
  rcases hrow.2 with ⟨_,h0⟩ | ⟨g1,cap1,cur1,rfl,hg1,hb1,hr1⟩
  ·omega
  have hnB:g1≠w13.heap.size:=fun e=>hv.not_row (by decide) hrow (by simp [Value.ownBlock,e])
  have hnD:g1≠D:=fun e=>by
   subst e
   rw [hb1] at hK
   cases hK
  have hcell1:∀ j,j < bs.length→W.cell? ⟨g1,j,none⟩=some (.int .u8 (bs[j]?.getD 0))∧W.frozen? ⟨g1,j,none⟩=false:=fun j hj=>by
   have h1:=hrow.cells (g:=g1) rfl j (.int .u8 (bs[j]?.getD 0)) (by simp [List.getElem?_eq_getElem hj])
   have ha:(⟨g1,0,none⟩:Addr).add j=⟨g1,j,none⟩:=by unfold Addr.add;split<;>simp_all
   rw [ha] at h1
   exact ⟨h1,by simp [World.frozen?,hb1]⟩
  have hlen:bs.length≤9223372036854775807:=Nat.le_trans hr1.1 (Nat.le_trans hr1.2.1 (by decide))
  have HK:=Asd.mk hK
  have HV:=Asd.mk hv
  have HROW:=Asd.mk hcell1
  have HB2:=Asd.mk hB2
  have HNB:=Asd.mk hnB
  have HND:=Asd.mk hnD
  have HD:=Asd.mk hD
  have HG1:=Asd.mk hg1
  have hc:=HV.out.cell
  clear hv hrow hB2 hK hnB hnD hcell1 hD hmem hal hcell bO bS hB0 hr1 hb1 hg1
  go_wp2_with (go_at_call 34;refine (oid_Encode.reverse_calls g1 cap1 bs W HROW.out hlen).mono ?_;rintro e w2 ⟨rfl,ho,o1,o2,o3,o4,o5⟩;have hc2:=(Boxed.cell ((o5 _ (Ne.symm HNB.out)).trans HV.out:Boxed w2 w13.heap.size 69 (.slice (some ⟨g1,0,none⟩) bs.length cap1)));have hcv:=run_convert_bytes_arg (P:=Tryd.prog) w2 69 5 Tryd.underlying69 Tryd.underlying5 g1 0 bs.length cap1 bs.reverse (by simp) (fun i hi=>by rw [Nat.zero_add];exact (ho i (by simpa using hi)).trans (by rw [List.getD_eq_getElem?_getD])) 9 Tryd.underlying9;have HK2:=Asd.mk ((o5 D (Ne.symm HND.out)).trans HK.out);have HB3:Asd (Below w13.heap.size w13 w2):=⟨HB2.out.trans ⟨o1,o2,o3,by omega,fun i hi=>o5 i (by have:=HG1.out;omega)⟩⟩;clear ho)
  refine ⟨by simp,.inl ⟨_,_,rfl,run_takeDeferred HK2.out,?_⟩⟩
  refine ⟨_,results_tmp2 rfl _ _ _,oid_Encode.ansR HR.out (HB3.out.trans (belowK_b (w:=w13) (Nat.le_refl _) w2 D _ _ (by have:=HD.out;simp at this;omega) HK2.out rfl rfl))⟩
end
def pkcs8_named.j0:Nat→List Int→Bool→Option (List S52 × Bool)
 | 0,_,_=>none
 | k+1,x0,x13=>if x13=true then ((tree_Leaf.f 0 5 (⟨#[]⟩:ByteArray)).bind fun t16=>(some (t16,true))) else ((oid_Encode.f k x0).bind fun t18=>((tree_Leaf.f 0 6 t18.1).bind fun t20=>(some (t20,t18.2))))
def pkcs8_named.f (k:Nat) (l0:List Int) (a1:Bool):Option (List S52 × Bool):=if a1=true then (pkcs8_named.j0 k l0 ((l0.length:Int) == 0)) else (pkcs8_named.j0 k l0 false)
theorem pkcs8_named.con {k:Nat} {l0:List Int} {a1:Bool} {r:(List S52 × Bool)} (H:pkcs8_named.f k l0 a1=some r):Con Tryd.prog 8 [.row none 1 (List.map I l0),B a1] (.tup [.row (some 52) 5 (List.map (v52 0) r.1),B r.2]):=by
 refine Cg Tryd.func8 rfl fun C hN hL=>?_
 unfold pkcs8_named.f at H
 refine Sw<|Rg hN<|Sw<|Sw<|Good.cut (fun st=>∃ n':Nat,n'≤k∧∃ (x0:List Int) (x13:Bool),Wk C st ⟨[(0,.w (.row none 1 (List.map I x0))),(13,.w (B x13))],[]⟩∧pkcs8_named.j0 n' x0 x13=some r) ?_ ?_
 ·rcases ifC H with ⟨c14,H⟩ | ⟨c14,H⟩
  ·exact Rh hN [B true,I (l0.length:Int)] (.cons c14 (.cons (lenM I l0) .nil))<|⟨k,by omega,l0,((l0.length:Int) == 0),Wo [(0,0),(13,0)],H⟩
  exact Rh hN [B false] (.cons (bf c14) .nil)<|⟨k,by omega,l0,false,Wo [(0,0),(13,0)],H⟩
 clear H
 rintro st ⟨n',hn',x0,x13,W,H⟩
 rcases n' with _ | k
 ·cases H
 refine W.good ?_
 rw [pkcs8_named.j0] at H
 rcases ifC H with ⟨c15,H⟩ | ⟨c15,H⟩
 ·refine Ct c15<|Sw ?_
  obtain ⟨t16,h17,H⟩:=bindS H
  refine Rh hN [.row (some 52) 5 (List.map (v52 0) t16)] (.cons (tree_Leaf.con h17).c .nil) ?_
  cases H
  exact Rt dR
 refine Cf (bf c15)<|Sk<|Sw ?_
 obtain ⟨t18,h19,H⟩:=bindS H
 refine Rh hN [.tup [S t18.1,B t18.2]] (.cons (oid_Encode.con h19).c .nil)<|Sw ?_
 obtain ⟨t20,h21,H⟩:=bindS H
 refine Rh hN [.row (some 52) 5 (List.map (v52 0) t20)] (.cons (tree_Leaf.con h21).c .nil) ?_
 cases H
 exact Rt dR
def head_Decode.l0:Nat→ByteArray→Int→Int→Int→Int→Int→Int→Int→Bool→Int→Option (Int × Int × Bool × Int × Int × Int)
 | 0,_,_,_,_,_,_,_,_,_,_=>none
 | k+1,x0,x6,x7,x8,x107,x108,x2000,x2001,x2002,x2003=>if x108 < x107 then (if 0≤x6 then (if x6 < (x0.size:Int) then (head_Decode.l0 k x0 (wrap64 (x6+1)) x7 x8 x107 (wrap64 (x108+1)) x2000 x2001 x2002 (Go.bits .or .i64 (wrap64 (x2003*256)) (wrap64 (bt x0 x6)))) else (none)) else (none)) else (if 0≤(wrap64 ((wrap64 (8*x7)) - 8)) then (if x2003≥(shl .i64 1 (wrap64 ((wrap64 (8*x7)) - 8))) then (if x2003≥128 then (some (x2000,x2001,x2002,x2003,x6,0)) else (some (0,0,false,0,0,x8))) else (some (0,0,false,0,0,x8))) else (none))
def head_Decode.g0_0:Nat→Int→Option (Int × Int × Bool × Int × Int × Int)
 | 0,_=>none
 | k+1,x8=>some (0,0,false,0,0,x8)
def head_Decode.j1:Nat→ByteArray→Int→Int→Bool→Int→Int→Bool→Int→Option (Int × Int × Bool × Int × Int × Int)
 | 0,_,_,_,_,_,_,_,_=>none
 | k+1,x0,x6,x8,x77,x2000,x2001,x2002,x2003=>if x77=true then (head_Decode.g0_0 k x8) else (if 0≤x6 then (if x6 < (x0.size:Int) then (if (bt x0 x6) > 130 then (head_Decode.g0_0 k 4) else (if (bt x0 x6) < 128 then (some (x2000,x2001,x2002,wrap64 (bt x0 x6),wrap64 (x6+1),0)) else (if (wrap64 ((wrap64 (x6+1))+(wrap64 (Go.bits .and .u8 (bt x0 x6) 127)))) > (x0.size:Int) then (head_Decode.g0_0 k x8) else (head_Decode.l0 k x0 (wrap64 (x6+1)) (wrap64 (Go.bits .and .u8 (bt x0 x6) 127)) x8 (wrap64 (Go.bits .and .u8 (bt x0 x6) 127)) 0 x2000 x2001 x2002 x2003)))) else (none)) else (none))
def head_Decode.j5:Nat→ByteArray→Int→Int→Bool→Int→Int→Bool→Int→Option (Int × Int × Bool × Int × Int × Int)
 | 0,_,_,_,_,_,_,_,_=>none
 | k+1,x0,x6,x8,x77,x2000,x2001,x2002,x2003=>if x77=true then (head_Decode.g0_0 k x8) else (if 0≤x6 then (if x6 < (x0.size:Int) then (if (bt x0 x6) > 130 then (head_Decode.g0_0 k 4) else (if (bt x0 x6) < 128 then (some (x2000,x2001,x2002,wrap64 (bt x0 x6),wrap64 (x6+1),0)) else (if (wrap64 ((wrap64 (x6+1))+(wrap64 (Go.bits .and .u8 (bt x0 x6) 127)))) > (x0.size:Int) then (head_Decode.g0_0 k x8) else (head_Decode.l0 k x0 (wrap64 (x6+1)) (wrap64 (Go.bits .and .u8 (bt x0 x6) 127)) x8 (wrap64 (Go.bits .and .u8 (bt x0 x6) 127)) 0 x2000 x2001 x2002 x2003)))) else (none)) else (none))
def head_Decode.g0_1:Nat→ByteArray→Int→Int→Int→Int→Bool→Int→Option (Int × Int × Bool × Int × Int × Int)
 | 0,_,_,_,_,_,_,_=>none
 | k+1,x0,x6,x8,x2000,x2001,x2002,x2003=>if x6≥(x0.size:Int) then (head_Decode.j5 k x0 x6 x8 true x2000 x2001 x2002 x2003) else (if 0≤x6 then (if x6 < (x0.size:Int) then (head_Decode.j5 k x0 x6 x8 ((bt x0 x6) == 128) x2000 x2001 x2002 x2003) else (none)) else (none))
def head_Decode.j8:Nat→ByteArray→Int→Int→Bool→Int→Int→Bool→Int→Option (Int × Int × Bool × Int × Int × Int)
 | 0,_,_,_,_,_,_,_,_=>none
 | k+1,x0,x6,x8,x77,x2000,x2001,x2002,x2003=>if x77=true then (head_Decode.g0_0 k x8) else (if 0≤x6 then (if x6 < (x0.size:Int) then (if (bt x0 x6) > 130 then (head_Decode.g0_0 k 4) else (if (bt x0 x6) < 128 then (some (x2000,x2001,x2002,wrap64 (bt x0 x6),wrap64 (x6+1),0)) else (if (wrap64 ((wrap64 (x6+1))+(wrap64 (Go.bits .and .u8 (bt x0 x6) 127)))) > (x0.size:Int) then (head_Decode.g0_0 k x8) else (head_Decode.l0 k x0 (wrap64 (x6+1)) (wrap64 (Go.bits .and .u8 (bt x0 x6) 127)) x8 (wrap64 (Go.bits .and .u8 (bt x0 x6) 127)) 0 x2000 x2001 x2002 x2003)))) else (none)) else (none))
mutual
def head_Decode.g0_2:Nat→ByteArray→Int→Int→Int→Int→Int→Bool→Int→Option (Int × Int × Bool × Int × Int × Int)
 | 0,_,_,_,_,_,_,_,_=>none
 | k+1,x0,x6,x7,x8,x2000,x2001,x2002,x2003=>if x6≥(x0.size:Int) then (head_Decode.j7 k x0 x6 x7 x8 true x2000 x2001 x2002 x2003) else (if x7=3 then (head_Decode.j7 k x0 x6 x7 x8 true x2000 x2001 x2002 x2003) else (if x7=0 then (if 0≤x6 then (if x6 < (x0.size:Int) then (head_Decode.j7 k x0 x6 x7 x8 ((bt x0 x6) == 128) x2000 x2001 x2002 x2003) else (none)) else (none)) else (head_Decode.j7 k x0 x6 x7 x8 false x2000 x2001 x2002 x2003)))
def head_Decode.j7:Nat→ByteArray→Int→Int→Int→Bool→Int→Int→Bool→Int→Option (Int × Int × Bool × Int × Int × Int)
 | 0,_,_,_,_,_,_,_,_,_=>none
 | k+1,x0,x6,x7,x8,x45,x2000,x2001,x2002,x2003=>if x45=true then (head_Decode.g0_0 k x8) else (if 0≤x6 then (if x6 < (x0.size:Int) then (if 0≤(wrap64 ((wrap64 (x6+1)) - 1)) then (if (wrap64 ((wrap64 (x6+1)) - 1)) < (x0.size:Int) then (if (bt x0 (wrap64 ((wrap64 (x6+1)) - 1)))≥128 then (head_Decode.g0_2 k x0 (wrap64 (x6+1)) (wrap64 (x7+1)) x8 x2000 (Go.bits .or .i64 (wrap64 (x2001*128)) (wrap64 (Go.bits .and .u8 (bt x0 x6) 127))) x2002 x2003) else (if (Go.bits .or .i64 (wrap64 (x2001*128)) (wrap64 (Go.bits .and .u8 (bt x0 x6) 127))) < 31 then (head_Decode.g0_0 k x8) else (if (wrap64 (x6+1))≥(x0.size:Int) then (head_Decode.j8 k x0 (wrap64 (x6+1)) x8 true x2000 (Go.bits .or .i64 (wrap64 (x2001*128)) (wrap64 (Go.bits .and .u8 (bt x0 x6) 127))) x2002 x2003) else (if 0≤(wrap64 (x6+1)) then (if (wrap64 (x6+1)) < (x0.size:Int) then (head_Decode.j8 k x0 (wrap64 (x6+1)) x8 ((bt x0 (wrap64 (x6+1))) == 128) x2000 (Go.bits .or .i64 (wrap64 (x2001*128)) (wrap64 (Go.bits .and .u8 (bt x0 x6) 127))) x2002 x2003) else (none)) else (none))))) else (none)) else (none)) else (none)) else (none))
end
def head_Decode.j0:Nat→ByteArray→Int→Int→Int→Bool→Int→Int→Bool→Int→Option (Int × Int × Bool × Int × Int × Int)
 | 0,_,_,_,_,_,_,_,_,_=>none
 | k+1,x0,x6,x7,x8,x45,x2000,x2001,x2002,x2003=>if x45=true then (head_Decode.g0_0 k x8) else (if 0≤x6 then (if x6 < (x0.size:Int) then (if 0≤(wrap64 ((wrap64 (x6+1)) - 1)) then (if (wrap64 ((wrap64 (x6+1)) - 1)) < (x0.size:Int) then (if (bt x0 (wrap64 ((wrap64 (x6+1)) - 1)))≥128 then (head_Decode.g0_2 k x0 (wrap64 (x6+1)) (wrap64 (x7+1)) x8 x2000 (Go.bits .or .i64 (wrap64 (x2001*128)) (wrap64 (Go.bits .and .u8 (bt x0 x6) 127))) x2002 x2003) else (if (Go.bits .or .i64 (wrap64 (x2001*128)) (wrap64 (Go.bits .and .u8 (bt x0 x6) 127))) < 31 then (head_Decode.g0_0 k x8) else (if (wrap64 (x6+1))≥(x0.size:Int) then (head_Decode.j1 k x0 (wrap64 (x6+1)) x8 true x2000 (Go.bits .or .i64 (wrap64 (x2001*128)) (wrap64 (Go.bits .and .u8 (bt x0 x6) 127))) x2002 x2003) else (if 0≤(wrap64 (x6+1)) then (if (wrap64 (x6+1)) < (x0.size:Int) then (head_Decode.j1 k x0 (wrap64 (x6+1)) x8 ((bt x0 (wrap64 (x6+1))) == 128) x2000 (Go.bits .or .i64 (wrap64 (x2001*128)) (wrap64 (Go.bits .and .u8 (bt x0 x6) 127))) x2002 x2003) else (none)) else (none))))) else (none)) else (none)) else (none)) else (none))
def head_Decode.f (k:Nat) (a0:ByteArray):Option (Int × Int × Bool × Int × Int × Int):=if a0.toList=([]:List UInt8) then (head_Decode.g0_0 k 5) else (if 0 < (a0.size:Int) then (if (wrap64 (Go.bits .and .u8 (bt a0 0) 31)) < 31 then (head_Decode.g0_1 k a0 1 5 (wrap64 ((bt a0 0) / 64)) (wrap64 (Go.bits .and .u8 (bt a0 0) 31)) ((Go.bits .and .u8 (bt a0 0) 32) != 0) 0) else (if 1≥(a0.size:Int) then (head_Decode.j0 k a0 1 0 5 true (wrap64 ((bt a0 0) / 64)) 0 ((Go.bits .and .u8 (bt a0 0) 32) != 0) 0) else (if 1 < (a0.size:Int) then (head_Decode.j0 k a0 1 0 5 ((bt a0 1) == 128) (wrap64 ((bt a0 0) / 64)) 0 ((Go.bits .and .u8 (bt a0 0) 32) != 0) 0) else (none)))) else (none))
theorem head_Decode.con {k:Nat} {a0:ByteArray} {r:(Int × Int × Bool × Int × Int × Int)} (H:head_Decode.f k a0=some r):Con Tryd.prog 35 [S a0] (.tup [.agg [I r.1,I r.2.1,B r.2.2.1,I r.2.2.2.1],I r.2.2.2.2.1,I r.2.2.2.2.2]):=by
 refine Cg Tryd.func35 rfl fun C hN hL=>?_
 unfold head_Decode.f at H
 refine Sw<|Rg hN<|Good.scope [(0,_,fun n st=>∃ (x8:Int) (x1000:Int) (x1001:Int) (x1002:Bool) (x1003:Int) (x2000:Int) (x2001:Int) (x2002:Bool) (x2003:Int),n≤k∧Wk C st ⟨[(2,.d (.ptr 0 0)),(8,.w (I x8))],[.cells [.v (I x1000),.v (I x1001),.v (B x1002),.v (I x1003)],.cells [.v (I x2000),.v (I x2001),.v (B x2002),.v (I x2003)]]⟩∧head_Decode.g0_0 n x8=some r),(1,_,fun n st=>∃ (x0:ByteArray) (x6:Int) (x8:Int) (x1000:Int) (x1001:Int) (x1002:Bool) (x1003:Int) (x2000:Int) (x2001:Int) (x2002:Bool) (x2003:Int),n≤k∧Wk C st ⟨[(0,.w (S x0)),(2,.d (.ptr 0 0)),(5,.d (.ptr 1 0)),(6,.w (I x6)),(8,.w (I x8))],[.cells [.v (I x1000),.v (I x1001),.v (B x1002),.v (I x1003)],.cells [.v (I x2000),.v (I x2001),.v (B x2002),.v (I x2003)]]⟩∧head_Decode.g0_1 n x0 x6 x8 x2000 x2001 x2002 x2003=some r),(2,_,fun n st=>∃ (x0:ByteArray) (x6:Int) (x7:Int) (x8:Int) (x1000:Int) (x1001:Int) (x1002:Bool) (x1003:Int) (x2000:Int) (x2001:Int) (x2002:Bool) (x2003:Int),n≤k∧Wk C st ⟨[(0,.w (S x0)),(2,.d (.ptr 0 0)),(5,.d (.ptr 1 0)),(6,.w (I x6)),(7,.w (I x7)),(8,.w (I x8))],[.cells [.v (I x1000),.v (I x1001),.v (B x1002),.v (I x1003)],.cells [.v (I x2000),.v (I x2001),.v (B x2002),.v (I x2003)]]⟩∧head_Decode.g0_2 n x0 x6 x7 x8 x2000 x2001 x2002 x2003=some r)] (.cons rfl (.cons rfl (.cons rfl .nil))) ?_ (.cons ?_ (.cons ?_ (.cons ?_ .nil)))
 ·refine Sw<|Rg hN<|Sw<|Rg hN<|Sw<|Sw<|Ri hN [] (.cons (strV (rfl:a0.toList=a0.toList) (litL ([]:List UInt8))) .nil) [(10,.bool (a0.toList == ([]:List UInt8)))] ?_
  rcases ifC H with ⟨c22,H⟩ | ⟨c22,H⟩
  ·exact Ct (bq c22)<|Good.goto<|⟨k,(by first | trivial | omega),5,0,0,false,0,0,0,false,0,by omega,Wo [(2,0),(8,0)],H⟩
  refine Cf (bn c22)<|Sk<|Sw ?_
  obtain ⟨c23,H⟩:=ifS H
  refine Rd hm hN (.q 0 [[]] (.q 1 [[]] (.q 2 [[]] (.q 3 [[]] (.q 4 [[]] (.q 5 [[]] (.q 6 [[]] (.q 7 [[]] (.q 8 [[]] (.q 9 [[]] (.q 10 [[]] (.q 11 [[]] (.q 12 [[]] (.e 13 .z)))))))))))))) [(0,none),(5,some (.pt [I 0,I 0,B false,I 0]))] (.cons (ptS (shrC (rfl:(V.shr (I 0))=I 0) (shrC (rfl:(V.shr (I 0))=I 0) (shrC (rfl:(V.shr (B false))=B false) (shrC (rfl:(V.shr (I 0))=I 0) (rfl:shrL []=[])))))) .nil) [] [] (.cons (show (0:Int)≤0 by decide) (.cons c23 (.cons (show (0:Int)≤6 by decide) (.cons (show (0:Int)≤0 by decide) (.cons c23 (.cons (show (0:Int)≤0 by decide) (.cons c23 .nil))))))) (.cons (show (0:Int)≤0 by decide) (.cons c23 (.cons (show (0:Int)≤6 by decide) (.cons (show (0:Int)≤0 by decide) (.cons c23 (.cons (show (0:Int)≤0 by decide) (.cons c23 .nil))))))) [] []<|Sw<|Rg hN<|Sw<|Sw<|Rg hN ?_
  rcases ifC H with ⟨c24,H⟩ | ⟨c24,H⟩
  ·exact Ct (dt c24)<|Good.goto<|⟨k,(by first | trivial | omega),a0,1,5,0,0,false,0,wrap64 ((bt a0 0) / 64),wrap64 (Go.bits .and .u8 (bt a0 0) 31),((Go.bits .and .u8 (bt a0 0) 32) != 0),0,by omega,Wo [(0,0),(2,0),(5,0),(6,0),(8,0)],H⟩
  refine Cf (df c24)<|Sk<|Sw<|Rg hN<|Sw<|Good.label<|Sw<|Sw<|Good.cut (fun st=>∃ n':Nat,n'≤k∧∃ (x0:ByteArray) (x6:Int) (x7:Int) (x8:Int) (x45:Bool) (x1000:Int) (x1001:Int) (x1002:Bool) (x1003:Int) (x2000:Int) (x2001:Int) (x2002:Bool) (x2003:Int),Wk C st ⟨[(0,.w (S x0)),(2,.d (.ptr 0 0)),(5,.d (.ptr 1 0)),(6,.w (I x6)),(7,.w (I x7)),(8,.w (I x8)),(45,.w (B x45))],[.cells [.v (I x1000),.v (I x1001),.v (B x1002),.v (I x1003)],.cells [.v (I x2000),.v (I x2001),.v (B x2002),.v (I x2003)]]⟩∧head_Decode.j0 n' x0 x6 x7 x8 x45 x2000 x2001 x2002 x2003=some r) ?_ ?_
  ·rcases ifC H with ⟨c25,H⟩ | ⟨c25,H⟩
   ·exact Rh hN [B true,B true] (.cons (dt c25) (.cons (rfl:true=true) .nil))<|⟨k,by omega,a0,1,0,5,true,0,0,false,0,wrap64 ((bt a0 0) / 64),0,((Go.bits .and .u8 (bt a0 0) 32) != 0),0,Wo [(0,0),(2,0),(5,0),(6,0),(7,0),(8,0),(45,0)],H⟩
   obtain ⟨c26,H⟩:=ifS H
   exact Rh hN [B false,B false,B true] (.cons (df c25) (.cons (bn (show ¬ ((0:Int)=3) by decide)) (.cons (bq (show (0:Int)=0 by decide)) (.cons (show (0:Int)≤1 by decide) (.cons c26 .nil)))))<|⟨k,by omega,a0,1,0,5,((bt a0 1) == 128),0,0,false,0,wrap64 ((bt a0 0) / 64),0,((Go.bits .and .u8 (bt a0 0) 32) != 0),0,Wo [(0,0),(2,0),(5,0),(6,0),(7,0),(8,0),(45,0)],H⟩
  clear H
  rintro st ⟨n',hn',x0,x6,x7,x8,x45,x1000,x1001,x1002,x1003,x2000,x2001,x2002,x2003,W,H⟩
  rcases n' with _ | k
  ·cases H
  refine W.good ?_
  rw [head_Decode.j0] at H
  rcases ifC H with ⟨c27,H⟩ | ⟨c27,H⟩
  ·exact Ct c27<|Good.goto<|⟨k,(by first | trivial | omega),x8,x1000,x1001,x1002,x1003,x2000,x2001,x2002,x2003,by omega,Wo [(2,0),(8,0)],H⟩
  refine Cf (bf c27)<|Sk<|Sw ?_
  obtain ⟨c28,H⟩:=ifS H
  obtain ⟨c29,H⟩:=ifS H
  refine Rd hm hN (.q 0 [[]] (.q 1 [[]] (.q 2 [[]] (.q 3 [[]] (.q 4 [[]] (.q 5 [[]] (.q 6 [[]] (.q 7 [[]] (.q 8 [[]] (.q 9 [[]] (.e 10 .z))))))))))) [(0,none),(5,some (.pt [I x2000,I x2001,B x2002,I x2003])),(6,none)] (.cons (ptS (shrC (rfl:(V.shr (I x2000))=I x2000) (shrC (rfl:(V.shr (I x2001))=I x2001) (shrC (rfl:(V.shr (B x2002))=B x2002) (shrC (rfl:(V.shr (I x2003))=I x2003) (rfl:shrL []=[])))))) .nil) [] [] (.cons (show (0:Int)≤7 by decide) (.cons c28 (.cons c29 .nil))) (.cons (show (0:Int)≤7 by decide) (.cons c28 (.cons c29 .nil))) [] []<|Sw<|Rg hN<|Sw<|Rg hN<|Sw<|Sw ?_
  obtain ⟨c30,H⟩:=ifS H
  obtain ⟨c31,H⟩:=ifS H
  refine Rh hN [] (.cons c30 (.cons c31 .nil)) ?_
  rcases ifC H with ⟨c32,H⟩ | ⟨c32,H⟩
  ·exact Ct (dt c32)<|Good.goto<|⟨k,(by first | trivial | omega),x0,wrap64 (x6+1),wrap64 (x7+1),x8,x1000,x1001,x1002,x1003,x2000,Go.bits .or .i64 (wrap64 (x2001*128)) (wrap64 (Go.bits .and .u8 (bt x0 x6) 127)),x2002,x2003,by omega,Wo [(0,0),(2,0),(5,0),(6,0),(7,0),(8,0)],H⟩
  refine Cf (df c32)<|Sk<|Sw<|Sw<|Rg hN ?_
  rcases ifC H with ⟨c33,H⟩ | ⟨c33,H⟩
  ·exact Ct (dt c33)<|Good.goto<|⟨k,(by first | trivial | omega),x8,x1000,x1001,x1002,x1003,x2000,Go.bits .or .i64 (wrap64 (x2001*128)) (wrap64 (Go.bits .and .u8 (bt x0 x6) 127)),x2002,x2003,by omega,Wo [(2,0),(8,0)],H⟩
  refine Cf (df c33)<|Sk<|Sw<|Good.label<|Sw<|Sw<|Good.cut (fun st=>∃ n':Nat,n'≤k∧∃ (x0:ByteArray) (x6:Int) (x8:Int) (x77:Bool) (x1000:Int) (x1001:Int) (x1002:Bool) (x1003:Int) (x2000:Int) (x2001:Int) (x2002:Bool) (x2003:Int),Wk C st ⟨[(0,.w (S x0)),(2,.d (.ptr 0 0)),(5,.d (.ptr 1 0)),(6,.w (I x6)),(8,.w (I x8)),(77,.w (B x77))],[.cells [.v (I x1000),.v (I x1001),.v (B x1002),.v (I x1003)],.cells [.v (I x2000),.v (I x2001),.v (B x2002),.v (I x2003)]]⟩∧head_Decode.j1 n' x0 x6 x8 x77 x2000 x2001 x2002 x2003=some r) ?_ ?_
  ·rcases ifC H with ⟨c34,H⟩ | ⟨c34,H⟩
   ·exact Rh hN [B true] (.cons (dt c34) .nil)<|⟨k,by omega,x0,wrap64 (x6+1),x8,true,x1000,x1001,x1002,x1003,x2000,Go.bits .or .i64 (wrap64 (x2001*128)) (wrap64 (Go.bits .and .u8 (bt x0 x6) 127)),x2002,x2003,Wo [(0,0),(2,0),(5,0),(6,0),(8,0),(77,0)],H⟩
   obtain ⟨c35,H⟩:=ifS H
   obtain ⟨c36,H⟩:=ifS H
   exact Rh hN [B false] (.cons (df c34) (.cons c35 (.cons c36 .nil)))<|⟨k,by omega,x0,wrap64 (x6+1),x8,((bt x0 (wrap64 (x6+1))) == 128),x1000,x1001,x1002,x1003,x2000,Go.bits .or .i64 (wrap64 (x2001*128)) (wrap64 (Go.bits .and .u8 (bt x0 x6) 127)),x2002,x2003,Wo [(0,0),(2,0),(5,0),(6,0),(8,0),(77,0)],H⟩
  clear H
  rintro st ⟨n',hn',x0,x6,x8,x77,x1000,x1001,x1002,x1003,x2000,x2001,x2002,x2003,W,H⟩
  rcases n' with _ | k
  ·cases H
  refine W.good ?_
  rw [head_Decode.j1] at H
  rcases ifC H with ⟨c37,H⟩ | ⟨c37,H⟩
  ·exact Ct c37<|Good.goto<|⟨k,(by first | trivial | omega),x8,x1000,x1001,x1002,x1003,x2000,x2001,x2002,x2003,by omega,Wo [(2,0),(8,0)],H⟩
  refine Cf (bf c37)<|Sk<|Sw<|Sw ?_
  obtain ⟨c38,H⟩:=ifS H
  obtain ⟨c39,H⟩:=ifS H
  refine Rh hN [] (.cons c38 (.cons c39 .nil)) ?_
  rcases ifC H with ⟨c40,H⟩ | ⟨c40,H⟩
  ·exact Ct (dt c40)<|Sw<|Rg hN<|Good.goto<|⟨k,(by first | trivial | omega),4,x1000,x1001,x1002,x1003,x2000,x2001,x2002,x2003,by omega,Wo [(2,0),(8,0)],H⟩
  refine Cf (df c40)<|Sk<|Sw<|Sw<|Rh hN [] (.cons c38 (.cons c39 .nil)) ?_
  rcases ifC H with ⟨c41,H⟩ | ⟨c41,H⟩
  ·refine Ct (dt c41)<|Sw<|Rh hN [] (.cons c38 (.cons c39 .nil))<|Sw<|Rg hN ?_
   cases H
   exact Rt dR
  refine Cf (df c41)<|Sk<|Sw<|Rh hN [] (.cons c38 (.cons c39 .nil))<|Sw<|Rg hN<|Sw<|Sw<|Rg hN ?_
  rcases ifC H with ⟨c42,H⟩ | ⟨c42,H⟩
  ·exact Ct (dt c42)<|Good.goto<|⟨k,(by first | trivial | omega),x8,x1000,x1001,x1002,x1003,x2000,x2001,x2002,x2003,by omega,Wo [(2,0),(8,0)],H⟩
  refine Cf (df c42)<|Sk<|Sw<|Sw<|Rg hN<|Bl<|Good.loopN (fun k' st=>∃ (x0:ByteArray) (x6:Int) (x7:Int) (x8:Int) (x107:Int) (x108:Int) (x1000:Int) (x1001:Int) (x1002:Bool) (x1003:Int) (x2000:Int) (x2001:Int) (x2002:Bool) (x2003:Int),k'≤k∧Wk C st ⟨[(0,.w (S x0)),(2,.d (.ptr 0 0)),(5,.d (.ptr 1 0)),(6,.w (I x6)),(7,.w (I x7)),(8,.w (I x8)),(107,.w (I x107)),(108,.w (I x108))],[.cells [.v (I x1000),.v (I x1001),.v (B x1002),.v (I x1003)],.cells [.v (I x2000),.v (I x2001),.v (B x2002),.v (I x2003)]]⟩∧head_Decode.l0 k' x0 x6 x7 x8 x107 x108 x2000 x2001 x2002 x2003=some r) k ⟨x0,wrap64 (x6+1),wrap64 (Go.bits .and .u8 (bt x0 x6) 127),x8,wrap64 (Go.bits .and .u8 (bt x0 x6) 127),0,x1000,x1001,x1002,x1003,x2000,x2001,x2002,x2003,Nat.le_refl _,Wo [(0,0),(2,0),(5,0),(6,0),(7,0),(8,0),(107,0),(108,0)],H⟩ fun k=>⟨fun st h=>(by obtain ⟨_,_,_,_,_,_,_,_,_,_,_,_,_,_,_,_,H⟩:=h;cases H),?_⟩
  clear H
  rintro st ⟨x0,x6,x7,x8,x107,x108,x1000,x1001,x1002,x1003,x2000,x2001,x2002,x2003,hk,W,H⟩
  refine W.good ?_
  rw [head_Decode.l0] at H
  refine Sw<|Rg hN<|Sw ?_
  rcases ifC H with ⟨c43,H⟩ | ⟨c43,H⟩
  ·refine Ct (dt c43)<|Sk<|Sw<|Bl<|Sw ?_
   obtain ⟨c44,H⟩:=ifS H
   obtain ⟨c45,H⟩:=ifS H
   exact Rd hm hN (.q 0 [[]] (.q 1 [[]] (.q 2 [[]] (.q 3 [[]] (.q 4 [[]] (.q 5 [[]] (.q 6 [[]] (.q 7 [[]] (.q 8 [[]] (.e 9 .z)))))))))) [(0,none),(5,some (.pt [I x2000,I x2001,B x2002,I x2003])),(6,none)] (.cons (ptS (shrC (rfl:(V.shr (I x2000))=I x2000) (shrC (rfl:(V.shr (I x2001))=I x2001) (shrC (rfl:(V.shr (B x2002))=B x2002) (shrC (rfl:(V.shr (I x2003))=I x2003) (rfl:shrL []=[])))))) .nil) [] [] (.cons (show (0:Int)≤8 by decide) (.cons c44 (.cons c45 .nil))) (.cons (show (0:Int)≤8 by decide) (.cons c44 (.cons c45 .nil))) [] []<|Rg hN<|Rg hN<|⟨k,by omega,x0,wrap64 (x6+1),x7,x8,x107,wrap64 (x108+1),x1000,x1001,x1002,x1003,x2000,x2001,x2002,Go.bits .or .i64 (wrap64 (x2003*256)) (wrap64 (bt x0 x6)),by omega,Wo [(0,0),(2,0),(5,0),(6,0),(7,0),(8,0),(107,0),(108,0)],H⟩
  refine Cf (df c43)<|Ex<|Sw<|Sw ?_
  obtain ⟨c46,H⟩:=ifS H
  rcases (ifC H).symm with ⟨c47,H⟩ | ⟨c47,H⟩
  ·refine Rd hm hN (.qs 8 0 (.k 129 (.is 3 8 (.q 11 [] .z)))) [(5,some (.pt [I x2000,I x2001,B x2002,I x2003])),(7,none)] (.cons (ptS (shrC (rfl:(V.shr (I x2000))=I x2000) (shrC (rfl:(V.shr (I x2001))=I x2001) (shrC (rfl:(V.shr (B x2002))=B x2002) (shrC (rfl:(V.shr (I x2003))=I x2003) (rfl:shrL []=[])))))) .nil) [B false] [] (.cons c46 (.cons (df c47) .nil)) (.cons c46 (.cons (df c47) .nil)) [] []<|Good.cond false (by kernel_rfl)<|Sk<|Sw<|Good.label<|Sw<|Rg hN ?_
   cases H
   exact Rt dR
  refine Rd hm hN (.qs 8 0 (.k 129 (.qs 3 8 (.q 11 [] .z)))) [(5,some (.pt [I x2000,I x2001,B x2002,I x2003])),(7,none)] (.cons (ptS (shrC (rfl:(V.shr (I x2000))=I x2000) (shrC (rfl:(V.shr (I x2001))=I x2001) (shrC (rfl:(V.shr (B x2002))=B x2002) (shrC (rfl:(V.shr (I x2003))=I x2003) (rfl:shrL []=[])))))) .nil) [B true] [] (.cons c46 (.cons (dt c47) .nil)) (.cons c46 (.cons (dt c47) .nil)) [] [] ?_
  rcases ifC H with ⟨c48,H⟩ | ⟨c48,H⟩
  ·refine Ct (dt c48)<|Sw<|Rg hN ?_
   cases H
   exact Rt dR
  refine Cf (df c48)<|Sk<|Sw<|Good.label<|Sw<|Rg hN ?_
  cases H
  exact Rt dR
 ·clear H
  rintro n st ⟨x8,x1000,x1001,x1002,x1003,x2000,x2001,x2002,x2003,hn,W,H⟩
  rcases n with _ | k
  ·cases H
  refine W.good ?_
  rw [head_Decode.g0_0] at H
  refine Sw<|Sk<|Sw<|Rg hN ?_
  cases H
  exact Rt dR
 ·clear H
  rintro n st ⟨x0,x6,x8,x1000,x1001,x1002,x1003,x2000,x2001,x2002,x2003,hn,W,H⟩
  rcases n with _ | k
  ·cases H
  refine W.good ?_
  rw [head_Decode.g0_1] at H
  refine Sw<|Sk<|Sw<|Sw<|Good.cut (fun st=>∃ n':Nat,n'≤k∧∃ (x0:ByteArray) (x6:Int) (x8:Int) (x77:Bool) (x1000:Int) (x1001:Int) (x1002:Bool) (x1003:Int) (x2000:Int) (x2001:Int) (x2002:Bool) (x2003:Int),Wk C st ⟨[(0,.w (S x0)),(2,.d (.ptr 0 0)),(5,.d (.ptr 1 0)),(6,.w (I x6)),(8,.w (I x8)),(77,.w (B x77))],[.cells [.v (I x1000),.v (I x1001),.v (B x1002),.v (I x1003)],.cells [.v (I x2000),.v (I x2001),.v (B x2002),.v (I x2003)]]⟩∧head_Decode.j5 n' x0 x6 x8 x77 x2000 x2001 x2002 x2003=some r) ?_ ?_
  ·rcases ifC H with ⟨c49,H⟩ | ⟨c49,H⟩
   ·exact Rh hN [B true] (.cons (dt c49) .nil)<|⟨k,by omega,x0,x6,x8,true,x1000,x1001,x1002,x1003,x2000,x2001,x2002,x2003,Wo [(0,0),(2,0),(5,0),(6,0),(8,0),(77,0)],H⟩
   obtain ⟨c50,H⟩:=ifS H
   obtain ⟨c51,H⟩:=ifS H
   exact Rh hN [B false] (.cons (df c49) (.cons c50 (.cons c51 .nil)))<|⟨k,by omega,x0,x6,x8,((bt x0 x6) == 128),x1000,x1001,x1002,x1003,x2000,x2001,x2002,x2003,Wo [(0,0),(2,0),(5,0),(6,0),(8,0),(77,0)],H⟩
  clear H
  rintro st ⟨n',hn',x0,x6,x8,x77,x1000,x1001,x1002,x1003,x2000,x2001,x2002,x2003,W,H⟩
  rcases n' with _ | k
  ·cases H
  refine W.good ?_
  rw [head_Decode.j5] at H
  rcases ifC H with ⟨c52,H⟩ | ⟨c52,H⟩
  ·exact Ct c52<|Good.goto<|⟨k,(by first | trivial | omega),x8,x1000,x1001,x1002,x1003,x2000,x2001,x2002,x2003,by omega,Wo [(2,0),(8,0)],H⟩
  refine Cf (bf c52)<|Sk<|Sw<|Sw ?_
  obtain ⟨c53,H⟩:=ifS H
  obtain ⟨c54,H⟩:=ifS H
  refine Rh hN [] (.cons c53 (.cons c54 .nil)) ?_
  rcases ifC H with ⟨c55,H⟩ | ⟨c55,H⟩
  ·exact Ct (dt c55)<|Sw<|Rg hN<|Good.goto<|⟨k,(by first | trivial | omega),4,x1000,x1001,x1002,x1003,x2000,x2001,x2002,x2003,by omega,Wo [(2,0),(8,0)],H⟩
  refine Cf (df c55)<|Sk<|Sw<|Sw<|Rh hN [] (.cons c53 (.cons c54 .nil)) ?_
  rcases ifC H with ⟨c56,H⟩ | ⟨c56,H⟩
  ·refine Ct (dt c56)<|Sw<|Rh hN [] (.cons c53 (.cons c54 .nil))<|Sw<|Rg hN ?_
   cases H
   exact Rt dR
  refine Cf (df c56)<|Sk<|Sw<|Rh hN [] (.cons c53 (.cons c54 .nil))<|Sw<|Rg hN<|Sw<|Sw<|Rg hN ?_
  rcases ifC H with ⟨c57,H⟩ | ⟨c57,H⟩
  ·exact Ct (dt c57)<|Good.goto<|⟨k,(by first | trivial | omega),x8,x1000,x1001,x1002,x1003,x2000,x2001,x2002,x2003,by omega,Wo [(2,0),(8,0)],H⟩
  refine Cf (df c57)<|Sk<|Sw<|Sw<|Rg hN<|Bl<|Good.loopN (fun k' st=>∃ (x0:ByteArray) (x6:Int) (x7:Int) (x8:Int) (x107:Int) (x108:Int) (x1000:Int) (x1001:Int) (x1002:Bool) (x1003:Int) (x2000:Int) (x2001:Int) (x2002:Bool) (x2003:Int),k'≤k∧Wk C st ⟨[(0,.w (S x0)),(2,.d (.ptr 0 0)),(5,.d (.ptr 1 0)),(6,.w (I x6)),(7,.w (I x7)),(8,.w (I x8)),(107,.w (I x107)),(108,.w (I x108))],[.cells [.v (I x1000),.v (I x1001),.v (B x1002),.v (I x1003)],.cells [.v (I x2000),.v (I x2001),.v (B x2002),.v (I x2003)]]⟩∧head_Decode.l0 k' x0 x6 x7 x8 x107 x108 x2000 x2001 x2002 x2003=some r) k ⟨x0,wrap64 (x6+1),wrap64 (Go.bits .and .u8 (bt x0 x6) 127),x8,wrap64 (Go.bits .and .u8 (bt x0 x6) 127),0,x1000,x1001,x1002,x1003,x2000,x2001,x2002,x2003,Nat.le_refl _,Wo [(0,0),(2,0),(5,0),(6,0),(7,0),(8,0),(107,0),(108,0)],H⟩ fun k=>⟨fun st h=>(by obtain ⟨_,_,_,_,_,_,_,_,_,_,_,_,_,_,_,_,H⟩:=h;cases H),?_⟩
  clear H
  rintro st ⟨x0,x6,x7,x8,x107,x108,x1000,x1001,x1002,x1003,x2000,x2001,x2002,x2003,hk,W,H⟩
  refine W.good ?_
  rw [head_Decode.l0] at H
  refine Sw<|Rg hN<|Sw ?_
  rcases ifC H with ⟨c43,H⟩ | ⟨c43,H⟩
  ·refine Ct (dt c43)<|Sk<|Sw<|Bl<|Sw ?_
   obtain ⟨c44,H⟩:=ifS H
   obtain ⟨c45,H⟩:=ifS H
   exact Rd hm hN (.q 0 [[]] (.q 1 [[]] (.q 2 [[]] (.q 3 [[]] (.q 4 [[]] (.q 5 [[]] (.q 6 [[]] (.q 7 [[]] (.q 8 [[]] (.e 9 .z)))))))))) [(0,none),(5,some (.pt [I x2000,I x2001,B x2002,I x2003])),(6,none)] (.cons (ptS (shrC (rfl:(V.shr (I x2000))=I x2000) (shrC (rfl:(V.shr (I x2001))=I x2001) (shrC (rfl:(V.shr (B x2002))=B x2002) (shrC (rfl:(V.shr (I x2003))=I x2003) (rfl:shrL []=[])))))) .nil) [] [] (.cons (show (0:Int)≤8 by decide) (.cons c44 (.cons c45 .nil))) (.cons (show (0:Int)≤8 by decide) (.cons c44 (.cons c45 .nil))) [] []<|Rg hN<|Rg hN<|⟨k,by omega,x0,wrap64 (x6+1),x7,x8,x107,wrap64 (x108+1),x1000,x1001,x1002,x1003,x2000,x2001,x2002,Go.bits .or .i64 (wrap64 (x2003*256)) (wrap64 (bt x0 x6)),by omega,Wo [(0,0),(2,0),(5,0),(6,0),(7,0),(8,0),(107,0),(108,0)],H⟩
  refine Cf (df c43)<|Ex<|Sw<|Sw ?_
  obtain ⟨c46,H⟩:=ifS H
  rcases (ifC H).symm with ⟨c47,H⟩ | ⟨c47,H⟩
  ·refine Rd hm hN (.qs 8 0 (.k 129 (.is 3 8 (.q 11 [] .z)))) [(5,some (.pt [I x2000,I x2001,B x2002,I x2003])),(7,none)] (.cons (ptS (shrC (rfl:(V.shr (I x2000))=I x2000) (shrC (rfl:(V.shr (I x2001))=I x2001) (shrC (rfl:(V.shr (B x2002))=B x2002) (shrC (rfl:(V.shr (I x2003))=I x2003) (rfl:shrL []=[])))))) .nil) [B false] [] (.cons c46 (.cons (df c47) .nil)) (.cons c46 (.cons (df c47) .nil)) [] []<|Good.cond false (by kernel_rfl)<|Sk<|Sw<|Good.label<|Sw<|Rg hN ?_
   cases H
   exact Rt dR
  refine Rd hm hN (.qs 8 0 (.k 129 (.qs 3 8 (.q 11 [] .z)))) [(5,some (.pt [I x2000,I x2001,B x2002,I x2003])),(7,none)] (.cons (ptS (shrC (rfl:(V.shr (I x2000))=I x2000) (shrC (rfl:(V.shr (I x2001))=I x2001) (shrC (rfl:(V.shr (B x2002))=B x2002) (shrC (rfl:(V.shr (I x2003))=I x2003) (rfl:shrL []=[])))))) .nil) [B true] [] (.cons c46 (.cons (dt c47) .nil)) (.cons c46 (.cons (dt c47) .nil)) [] [] ?_
  rcases ifC H with ⟨c48,H⟩ | ⟨c48,H⟩
  ·refine Ct (dt c48)<|Sw<|Rg hN ?_
   cases H
   exact Rt dR
  refine Cf (df c48)<|Sk<|Sw<|Good.label<|Sw<|Rg hN ?_
  cases H
  exact Rt dR
 ·clear H
  rintro n st ⟨x0,x6,x7,x8,x1000,x1001,x1002,x1003,x2000,x2001,x2002,x2003,hn,W,H⟩
  rcases n with _ | k
  ·cases H
  refine W.good ?_
  rw [head_Decode.g0_2] at H
  refine Sw<|Sk<|Sw<|Sw<|Good.cut (fun st=>∃ n':Nat,n'≤k∧∃ (x0:ByteArray) (x6:Int) (x7:Int) (x8:Int) (x45:Bool) (x1000:Int) (x1001:Int) (x1002:Bool) (x1003:Int) (x2000:Int) (x2001:Int) (x2002:Bool) (x2003:Int),Wk C st ⟨[(0,.w (S x0)),(2,.d (.ptr 0 0)),(5,.d (.ptr 1 0)),(6,.w (I x6)),(7,.w (I x7)),(8,.w (I x8)),(45,.w (B x45))],[.cells [.v (I x1000),.v (I x1001),.v (B x1002),.v (I x1003)],.cells [.v (I x2000),.v (I x2001),.v (B x2002),.v (I x2003)]]⟩∧head_Decode.j7 n' x0 x6 x7 x8 x45 x2000 x2001 x2002 x2003=some r) ?_ ?_
  ·rcases ifC H with ⟨c58,H⟩ | ⟨c58,H⟩
   ·exact Rh hN [B true,B true] (.cons (dt c58) (.cons (rfl:true=true) .nil))<|⟨k,by omega,x0,x6,x7,x8,true,x1000,x1001,x1002,x1003,x2000,x2001,x2002,x2003,Wo [(0,0),(2,0),(5,0),(6,0),(7,0),(8,0),(45,0)],H⟩
   rcases ifC H with ⟨c59,H⟩ | ⟨c59,H⟩
   ·exact Rh hN [B false,B true] (.cons (df c58) (.cons (bq c59) .nil))<|⟨k,by omega,x0,x6,x7,x8,true,x1000,x1001,x1002,x1003,x2000,x2001,x2002,x2003,Wo [(0,0),(2,0),(5,0),(6,0),(7,0),(8,0),(45,0)],H⟩
   rcases (ifC H).symm with ⟨c60,H⟩ | ⟨c60,H⟩
   ·exact Rh hN [B false,B false,B false] (.cons (df c58) (.cons (bn c59) (.cons (bn c60) .nil)))<|⟨k,by omega,x0,x6,x7,x8,false,x1000,x1001,x1002,x1003,x2000,x2001,x2002,x2003,Wo [(0,0),(2,0),(5,0),(6,0),(7,0),(8,0),(45,0)],H⟩
   obtain ⟨c61,H⟩:=ifS H
   obtain ⟨c62,H⟩:=ifS H
   exact Rh hN [B false,B false,B true] (.cons (df c58) (.cons (bn c59) (.cons (bq c60) (.cons c61 (.cons c62 .nil)))))<|⟨k,by omega,x0,x6,x7,x8,((bt x0 x6) == 128),x1000,x1001,x1002,x1003,x2000,x2001,x2002,x2003,Wo [(0,0),(2,0),(5,0),(6,0),(7,0),(8,0),(45,0)],H⟩
  clear H
  rintro st ⟨n',hn',x0,x6,x7,x8,x45,x1000,x1001,x1002,x1003,x2000,x2001,x2002,x2003,W,H⟩
  rcases n' with _ | k
  ·cases H
  refine W.good ?_
  rw [head_Decode.j7] at H
  rcases ifC H with ⟨c63,H⟩ | ⟨c63,H⟩
  ·exact Ct c63<|Good.goto<|⟨k,(by first | trivial | omega),x8,x1000,x1001,x1002,x1003,x2000,x2001,x2002,x2003,by omega,Wo [(2,0),(8,0)],H⟩
  refine Cf (bf c63)<|Sk<|Sw ?_
  obtain ⟨c64,H⟩:=ifS H
  obtain ⟨c65,H⟩:=ifS H
  refine Rd hm hN (.q 0 [[]] (.q 1 [[]] (.q 2 [[]] (.q 3 [[]] (.q 4 [[]] (.q 5 [[]] (.q 6 [[]] (.q 7 [[]] (.q 8 [[]] (.q 9 [[]] (.e 10 .z))))))))))) [(0,none),(5,some (.pt [I x2000,I x2001,B x2002,I x2003])),(6,none)] (.cons (ptS (shrC (rfl:(V.shr (I x2000))=I x2000) (shrC (rfl:(V.shr (I x2001))=I x2001) (shrC (rfl:(V.shr (B x2002))=B x2002) (shrC (rfl:(V.shr (I x2003))=I x2003) (rfl:shrL []=[])))))) .nil) [] [] (.cons (show (0:Int)≤7 by decide) (.cons c64 (.cons c65 .nil))) (.cons (show (0:Int)≤7 by decide) (.cons c64 (.cons c65 .nil))) [] []<|Sw<|Rg hN<|Sw<|Rg hN<|Sw<|Sw ?_
  obtain ⟨c66,H⟩:=ifS H
  obtain ⟨c67,H⟩:=ifS H
  refine Rh hN [] (.cons c66 (.cons c67 .nil)) ?_
  rcases ifC H with ⟨c68,H⟩ | ⟨c68,H⟩
  ·exact Ct (dt c68)<|Good.goto<|⟨k,(by first | trivial | omega),x0,wrap64 (x6+1),wrap64 (x7+1),x8,x1000,x1001,x1002,x1003,x2000,Go.bits .or .i64 (wrap64 (x2001*128)) (wrap64 (Go.bits .and .u8 (bt x0 x6) 127)),x2002,x2003,by omega,Wo [(0,0),(2,0),(5,0),(6,0),(7,0),(8,0)],H⟩
  refine Cf (df c68)<|Sk<|Sw<|Sw<|Rg hN ?_
  rcases ifC H with ⟨c69,H⟩ | ⟨c69,H⟩
  ·exact Ct (dt c69)<|Good.goto<|⟨k,(by first | trivial | omega),x8,x1000,x1001,x1002,x1003,x2000,Go.bits .or .i64 (wrap64 (x2001*128)) (wrap64 (Go.bits .and .u8 (bt x0 x6) 127)),x2002,x2003,by omega,Wo [(2,0),(8,0)],H⟩
  refine Cf (df c69)<|Sk<|Sw<|Good.label<|Sw<|Sw<|Good.cut (fun st=>∃ n':Nat,n'≤k∧∃ (x0:ByteArray) (x6:Int) (x8:Int) (x77:Bool) (x1000:Int) (x1001:Int) (x1002:Bool) (x1003:Int) (x2000:Int) (x2001:Int) (x2002:Bool) (x2003:Int),Wk C st ⟨[(0,.w (S x0)),(2,.d (.ptr 0 0)),(5,.d (.ptr 1 0)),(6,.w (I x6)),(8,.w (I x8)),(77,.w (B x77))],[.cells [.v (I x1000),.v (I x1001),.v (B x1002),.v (I x1003)],.cells [.v (I x2000),.v (I x2001),.v (B x2002),.v (I x2003)]]⟩∧head_Decode.j8 n' x0 x6 x8 x77 x2000 x2001 x2002 x2003=some r) ?_ ?_
  ·rcases ifC H with ⟨c70,H⟩ | ⟨c70,H⟩
   ·exact Rh hN [B true] (.cons (dt c70) .nil)<|⟨k,by omega,x0,wrap64 (x6+1),x8,true,x1000,x1001,x1002,x1003,x2000,Go.bits .or .i64 (wrap64 (x2001*128)) (wrap64 (Go.bits .and .u8 (bt x0 x6) 127)),x2002,x2003,Wo [(0,0),(2,0),(5,0),(6,0),(8,0),(77,0)],H⟩
   obtain ⟨c71,H⟩:=ifS H
   obtain ⟨c72,H⟩:=ifS H
   exact Rh hN [B false] (.cons (df c70) (.cons c71 (.cons c72 .nil)))<|⟨k,by omega,x0,wrap64 (x6+1),x8,((bt x0 (wrap64 (x6+1))) == 128),x1000,x1001,x1002,x1003,x2000,Go.bits .or .i64 (wrap64 (x2001*128)) (wrap64 (Go.bits .and .u8 (bt x0 x6) 127)),x2002,x2003,Wo [(0,0),(2,0),(5,0),(6,0),(8,0),(77,0)],H⟩
  clear H
  rintro st ⟨n',hn',x0,x6,x8,x77,x1000,x1001,x1002,x1003,x2000,x2001,x2002,x2003,W,H⟩
  rcases n' with _ | k
  ·cases H
  refine W.good ?_
  rw [head_Decode.j8] at H
  rcases ifC H with ⟨c73,H⟩ | ⟨c73,H⟩
  ·exact Ct c73<|Good.goto<|⟨k,(by first | trivial | omega),x8,x1000,x1001,x1002,x1003,x2000,x2001,x2002,x2003,by omega,Wo [(2,0),(8,0)],H⟩
  refine Cf (bf c73)<|Sk<|Sw<|Sw ?_
  obtain ⟨c74,H⟩:=ifS H
  obtain ⟨c75,H⟩:=ifS H
  refine Rh hN [] (.cons c74 (.cons c75 .nil)) ?_
  rcases ifC H with ⟨c76,H⟩ | ⟨c76,H⟩
  ·exact Ct (dt c76)<|Sw<|Rg hN<|Good.goto<|⟨k,(by first | trivial | omega),4,x1000,x1001,x1002,x1003,x2000,x2001,x2002,x2003,by omega,Wo [(2,0),(8,0)],H⟩
  refine Cf (df c76)<|Sk<|Sw<|Sw<|Rh hN [] (.cons c74 (.cons c75 .nil)) ?_
  rcases ifC H with ⟨c77,H⟩ | ⟨c77,H⟩
  ·refine Ct (dt c77)<|Sw<|Rh hN [] (.cons c74 (.cons c75 .nil))<|Sw<|Rg hN ?_
   cases H
   exact Rt dR
  refine Cf (df c77)<|Sk<|Sw<|Rh hN [] (.cons c74 (.cons c75 .nil))<|Sw<|Rg hN<|Sw<|Sw<|Rg hN ?_
  rcases ifC H with ⟨c78,H⟩ | ⟨c78,H⟩
  ·exact Ct (dt c78)<|Good.goto<|⟨k,(by first | trivial | omega),x8,x1000,x1001,x1002,x1003,x2000,x2001,x2002,x2003,by omega,Wo [(2,0),(8,0)],H⟩
  refine Cf (df c78)<|Sk<|Sw<|Sw<|Rg hN<|Bl<|Good.loopN (fun k' st=>∃ (x0:ByteArray) (x6:Int) (x7:Int) (x8:Int) (x107:Int) (x108:Int) (x1000:Int) (x1001:Int) (x1002:Bool) (x1003:Int) (x2000:Int) (x2001:Int) (x2002:Bool) (x2003:Int),k'≤k∧Wk C st ⟨[(0,.w (S x0)),(2,.d (.ptr 0 0)),(5,.d (.ptr 1 0)),(6,.w (I x6)),(7,.w (I x7)),(8,.w (I x8)),(107,.w (I x107)),(108,.w (I x108))],[.cells [.v (I x1000),.v (I x1001),.v (B x1002),.v (I x1003)],.cells [.v (I x2000),.v (I x2001),.v (B x2002),.v (I x2003)]]⟩∧head_Decode.l0 k' x0 x6 x7 x8 x107 x108 x2000 x2001 x2002 x2003=some r) k ⟨x0,wrap64 (x6+1),wrap64 (Go.bits .and .u8 (bt x0 x6) 127),x8,wrap64 (Go.bits .and .u8 (bt x0 x6) 127),0,x1000,x1001,x1002,x1003,x2000,x2001,x2002,x2003,Nat.le_refl _,Wo [(0,0),(2,0),(5,0),(6,0),(7,0),(8,0),(107,0),(108,0)],H⟩ fun k=>⟨fun st h=>(by obtain ⟨_,_,_,_,_,_,_,_,_,_,_,_,_,_,_,_,H⟩:=h;cases H),?_⟩
  clear H
  rintro st ⟨x0,x6,x7,x8,x107,x108,x1000,x1001,x1002,x1003,x2000,x2001,x2002,x2003,hk,W,H⟩
  refine W.good ?_
  rw [head_Decode.l0] at H
  refine Sw<|Rg hN<|Sw ?_
  rcases ifC H with ⟨c43,H⟩ | ⟨c43,H⟩
  ·refine Ct (dt c43)<|Sk<|Sw<|Bl<|Sw ?_
   obtain ⟨c44,H⟩:=ifS H
   obtain ⟨c45,H⟩:=ifS H
   exact Rd hm hN (.q 0 [[]] (.q 1 [[]] (.q 2 [[]] (.q 3 [[]] (.q 4 [[]] (.q 5 [[]] (.q 6 [[]] (.q 7 [[]] (.q 8 [[]] (.e 9 .z)))))))))) [(0,none),(5,some (.pt [I x2000,I x2001,B x2002,I x2003])),(6,none)] (.cons (ptS (shrC (rfl:(V.shr (I x2000))=I x2000) (shrC (rfl:(V.shr (I x2001))=I x2001) (shrC (rfl:(V.shr (B x2002))=B x2002) (shrC (rfl:(V.shr (I x2003))=I x2003) (rfl:shrL []=[])))))) .nil) [] [] (.cons (show (0:Int)≤8 by decide) (.cons c44 (.cons c45 .nil))) (.cons (show (0:Int)≤8 by decide) (.cons c44 (.cons c45 .nil))) [] []<|Rg hN<|Rg hN<|⟨k,by omega,x0,wrap64 (x6+1),x7,x8,x107,wrap64 (x108+1),x1000,x1001,x1002,x1003,x2000,x2001,x2002,Go.bits .or .i64 (wrap64 (x2003*256)) (wrap64 (bt x0 x6)),by omega,Wo [(0,0),(2,0),(5,0),(6,0),(7,0),(8,0),(107,0),(108,0)],H⟩
  refine Cf (df c43)<|Ex<|Sw<|Sw ?_
  obtain ⟨c46,H⟩:=ifS H
  rcases (ifC H).symm with ⟨c47,H⟩ | ⟨c47,H⟩
  ·refine Rd hm hN (.qs 8 0 (.k 129 (.is 3 8 (.q 11 [] .z)))) [(5,some (.pt [I x2000,I x2001,B x2002,I x2003])),(7,none)] (.cons (ptS (shrC (rfl:(V.shr (I x2000))=I x2000) (shrC (rfl:(V.shr (I x2001))=I x2001) (shrC (rfl:(V.shr (B x2002))=B x2002) (shrC (rfl:(V.shr (I x2003))=I x2003) (rfl:shrL []=[])))))) .nil) [B false] [] (.cons c46 (.cons (df c47) .nil)) (.cons c46 (.cons (df c47) .nil)) [] []<|Good.cond false (by kernel_rfl)<|Sk<|Sw<|Good.label<|Sw<|Rg hN ?_
   cases H
   exact Rt dR
  refine Rd hm hN (.qs 8 0 (.k 129 (.qs 3 8 (.q 11 [] .z)))) [(5,some (.pt [I x2000,I x2001,B x2002,I x2003])),(7,none)] (.cons (ptS (shrC (rfl:(V.shr (I x2000))=I x2000) (shrC (rfl:(V.shr (I x2001))=I x2001) (shrC (rfl:(V.shr (B x2002))=B x2002) (shrC (rfl:(V.shr (I x2003))=I x2003) (rfl:shrL []=[])))))) .nil) [B true] [] (.cons c46 (.cons (dt c47) .nil)) (.cons c46 (.cons (dt c47) .nil)) [] [] ?_
  rcases ifC H with ⟨c48,H⟩ | ⟨c48,H⟩
  ·refine Ct (dt c48)<|Sw<|Rg hN ?_
   cases H
   exact Rt dR
  refine Cf (df c48)<|Sk<|Sw<|Good.label<|Sw<|Rg hN ?_
  cases H
  exact Rt dR
def octets_Cut.f (a0:ByteArray) (a1:Int) (a2:Int):Option (ByteArray):=if a1 < 0 then (some (⟨#[]⟩:ByteArray)) else (if a1≥(a0.size:Int) then (some (⟨#[]⟩:ByteArray)) else (if a2 < 1 then (some (⟨#[]⟩:ByteArray)) else (if 0≤a1 then (if a1≤(wrap64 (a1+(mn a2 (wrap64 ((a0.size:Int) - a1))))) then (if (wrap64 (a1+(mn a2 (wrap64 ((a0.size:Int) - a1)))))≤(a0.size:Int) then (some (a0.extract (a1:Int).toNat ((wrap64 (a1+(mn a2 (wrap64 ((a0.size:Int) - a1))))):Int).toNat)) else (none)) else (none)) else (none))))
theorem octets_Cut.con {a0:ByteArray} {a1:Int} {a2:Int} {r:(ByteArray)} (H:octets_Cut.f a0 a1 a2=some r):Con Tryd.prog 36 [S a0,I a1,I a2] (S r):=by
 refine Cg Tryd.func36 rfl fun C hN hL=>?_
 unfold octets_Cut.f at H
 refine Sw<|Rg hN<|Sw<|Sw ?_
 rcases ifC H with ⟨c79,H⟩ | ⟨c79,H⟩
 ·refine Rh hN [B true,B true] (.cons (dt c79) (.cons (rfl:true=true) .nil))<|Good.cond true (by kernel_rfl)<|Sw<|Rg hN ?_
  cases H
  exact Rt dR
 rcases ifC H with ⟨c80,H⟩ | ⟨c80,H⟩
 ·refine Rh hN [B false,B true] (.cons (df c79) (.cons (dt c80) .nil))<|Good.cond true (by kernel_rfl)<|Sw<|Rg hN ?_
  cases H
  exact Rt dR
 refine Rh hN [B false,B false] (.cons (df c79) (.cons (df c80) .nil)) ?_
 rcases ifC H with ⟨c81,H⟩ | ⟨c81,H⟩
 ·refine Ct (dt c81)<|Sw<|Rg hN ?_
  cases H
  exact Rt dR
 refine Cf (df c81)<|Sk<|Sw ?_
 obtain ⟨c82,H⟩:=ifS H
 obtain ⟨c83,H⟩:=ifS H
 obtain ⟨c84,H⟩:=ifS H
 refine Rh hN [] (.cons c82 (.cons c83 (.cons c84 .nil))) ?_
 cases H
 exact Rt dR
def span_whole.f (a0:Nat):Option (Bool):=if (fge a0 0)=true then (if (fle a0 4679241112349573120)=true then (if fiok a0=true then (some (feq a0 (floatOfInt .f64 (fint a0)))) else (none)) else (some false)) else (some false)
theorem span_whole.con {a0:Nat} {r:(Bool)} (H:span_whole.f a0=some r):Con Tryd.prog 64 [Fl a0] (B r):=by
 refine Cg Tryd.func64 rfl fun C hN hL=>?_
 unfold span_whole.f at H
 refine Sw<|Rg hN<|Sw ?_
 rcases (ifC H).symm with ⟨c85,H⟩ | ⟨c85,H⟩
 ·refine Rh hN [B false,B false] (.cons (bf c85) (.cons (rfl:false=false) .nil)) ?_
  cases H
  exact Rt dR
 rcases (ifC H).symm with ⟨c86,H⟩ | ⟨c86,H⟩
 ·refine Rh hN [B true,B false] (.cons c85 (.cons (bf c86) .nil)) ?_
  cases H
  exact Rt dR
 obtain ⟨c87,H⟩:=ifS H
 refine Rh hN [B true,B true] (.cons c85 (.cons c86 (.cons c87 .nil))) ?_
 cases H
 exact Rt dR
def span_May.f (a0:(Nat × Nat)):Option (Bool):=(span_whole.f a0.1).bind fun t88=>(if t88=true then ((span_whole.f a0.2).bind fun t91=>(if t91=true then (some (fle a0.1 a0.2)) else (some false))) else (some false))
theorem span_May.con {a0:(Nat × Nat)} {r:(Bool)} (H:span_May.f a0=some r):Con Tryd.prog 59 [Cx a0] (B r):=by
 refine Cg Tryd.func59 rfl fun C hN hL=>?_
 unfold span_May.f at H
 refine Sw<|Rg hN<|Sw ?_
 obtain ⟨t88,h89,H⟩:=bindS H
 rcases (ifC H).symm with ⟨c90,H⟩ | ⟨c90,H⟩
 ·refine Rh hN [B t88,B false,B false] (.cons (span_whole.con h89).c (.cons (bf c90) (.cons (rfl:false=false) .nil))) ?_
  cases H
  exact Rt dR
 obtain ⟨t91,h92,H⟩:=bindS H
 rcases ifC H with ⟨c93,H⟩ | ⟨c93,H⟩
 ·refine Rh hN [B t88,B true,B t91,B true] (.cons (span_whole.con h89).c (.cons c90 (.cons (span_whole.con h92).c (.cons c93 .nil)))) ?_
  cases H
  exact Rt dR
 refine Rh hN [B t88,B true,B t91,B false] (.cons (span_whole.con h89).c (.cons c90 (.cons (span_whole.con h92).c (.cons (bf c93) .nil)))) ?_
 cases H
 exact Rt dR
def span_sure.f (a0:(Nat × Nat)):Option ((Nat × Nat)):=(span_May.f a0).bind fun t94=>(if t94=true then (if fok a0.1 0=true then (if fok a0.2 0=true then (some (fadd a0.1 0,fadd a0.2 0)) else (none)) else (none)) else (some (0,0)))
theorem span_sure.con {a0:(Nat × Nat)} {r:((Nat × Nat))} (H:span_sure.f a0=some r):Con Tryd.prog 54 [Cx a0] (Cx r):=by
 refine Cg Tryd.func54 rfl fun C hN hL=>?_
 unfold span_sure.f at H
 refine Sw<|Rg hN<|Sw<|Sw ?_
 obtain ⟨t94,h95,H⟩:=bindS H
 refine Rh hN [B t94] (.cons (span_May.con h95).c .nil) ?_
 rcases (ifC H).symm with ⟨c96,H⟩ | ⟨c96,H⟩
 ·refine Cf (bf c96)<|Sk<|Sw<|Rg hN ?_
  cases H
  exact Rt dR
 refine Ct c96<|Sw ?_
 obtain ⟨c97,H⟩:=ifS H
 obtain ⟨c98,H⟩:=ifS H
 refine Rh hN [] (.cons c97 (.cons c98 .nil)) ?_
 cases H
 exact Rt dR
def span_To.f (a0:(Nat × Nat)):Option (Int):=(span_sure.f a0).bind fun t99=>(if fiok t99.2=true then (some (fint t99.2)) else (none))
theorem span_To.con {a0:(Nat × Nat)} {r:(Int)} (H:span_To.f a0=some r):Con Tryd.prog 52 [Cx a0] (I r):=by
 refine Cg Tryd.func52 rfl fun C hN hL=>?_
 unfold span_To.f at H
 refine Sw<|Rg hN<|Sw ?_
 obtain ⟨t99,h100,H⟩:=bindS H
 obtain ⟨c101,H⟩:=ifS H
 refine Rh hN [Cx t99] (.cons (span_sure.con h100).c (.cons c101 .nil)) ?_
 cases H
 exact Rt dR
def tlv_reader_end.f (a0_0:ByteArray) (l0_1:List S52) (l0_2:List (Nat × Nat)) (l0_3:List Int):Option (Int):=if (l0_3.length:Int)=0 then (some (a0_0.size:Int)) else (if 0≤(wrap64 ((l0_3.length:Int) - 1)) then (if (wrap64 ((l0_3.length:Int) - 1)) < (l0_3.length:Int) then (if 0≤(rd l0_3 (wrap64 ((l0_3.length:Int) - 1))) then (if (rd l0_3 (wrap64 ((l0_3.length:Int) - 1))) < (l0_2.length:Int) then ((span_To.f (rdOf ((0,0):Nat × Nat) l0_2 (rd l0_3 (wrap64 ((l0_3.length:Int) - 1))))).bind fun t107=>(some t107)) else (none)) else (none)) else (none)) else (none))
theorem tlv_reader_end.con {a0_0:ByteArray} {l0_1:List S52} {l0_2:List (Nat × Nat)} {l0_3:List Int} {r:(Int)} (H:tlv_reader_end.f a0_0 l0_1 l0_2 l0_3=some r):ConX Tryd.prog 41 [.ptr 0 0] [[S a0_0,.row (some 52) 5 (List.map (v52 1) l0_1),.row (some 72) 1 (List.map Cx l0_2),.row (some 3) 1 (List.map I l0_3)]] (.v (I r)) [[S a0_0,.row (some 52) 5 (List.map (v52 1) l0_1),.row (some 72) 1 (List.map Cx l0_2),.row (some 3) 1 (List.map I l0_3)]]:=by
 refine conX_of_good Tryd.func41 rfl (by kernel_rfl) (by kernel_rfl) fun C hN hL=>?_
 unfold tlv_reader_end.f at H
 refine Sw<|Rg hN<|Sw<|Sw<|Rh hN [I (l0_3.length:Int)] (.cons (lenM I l0_3) .nil) ?_
 rcases ifC H with ⟨c102,H⟩ | ⟨c102,H⟩
 ·refine Ct (bq c102)<|Sw<|Rg hN ?_
  cases H
  exact Good.ret (finX_fitR (.refl _) (FitLL.refl _) (by kernel_rfl) rfl)
 refine Cf (bn c102)<|Sk<|Sw ?_
 obtain ⟨c103,H⟩:=ifS H
 obtain ⟨c104,H⟩:=ifS H
 obtain ⟨c105,H⟩:=ifS H
 obtain ⟨c106,H⟩:=ifS H
 obtain ⟨t107,h108,H⟩:=bindS H
 refine Rd hm hN (.qs 18 0 (.e 18 (.q 19 [] .z))) [(0,some (.pt [S a0_0,.row none 5 (List.map (v52 0) l0_1),.row none 1 (List.map Cx l0_2),.row none 1 (List.map I l0_3)]))] (.cons (ptS (shrC (rfl:(V.shr (S a0_0))=S a0_0) (shrC (shrM (some 52) 5 (v52 1) (v52 0) l0_1 (v52.shr _)) (shrC (shrM (some 72) 1 Cx Cx l0_2 (fun _=>rfl)) (shrC (shrM (some 3) 1 I I l0_3 (fun _=>rfl)) (rfl:shrL []=[])))))) .nil) [I (l0_3.length:Int),I (rd l0_3 (wrap64 ((l0_3.length:Int) - 1))),Cx (rdOf ((0,0):Nat × Nat) l0_2 (rd l0_3 (wrap64 ((l0_3.length:Int) - 1)))),I t107] [I (l0_3.length:Int),I (rd l0_3 (wrap64 ((l0_3.length:Int) - 1))),Cx (rdOf ((0,0):Nat × Nat) l0_2 (rd l0_3 (wrap64 ((l0_3.length:Int) - 1))))] (.cons (lenM I l0_3) (.cons c103 (.cons (ltM I c104) (.cons (atM I (0:Int) c103 c104) (.cons c105 (.cons (ltM Cx c106) (.cons (atM Cx ((0,0):Nat × Nat) c105 c106) (.cons (span_To.con h108).c .nil)))))))) (.cons (lenM I l0_3) (.cons c103 (.cons (atM I (0:Int) c103 c104) (.cons c105 (.cons (atM Cx ((0,0):Nat × Nat) c105 c106) .nil))))) [] [] ?_
 cases H
 exact Good.ret (finX_fitR (.refl _) (FitLL.refl _) (by kernel_rfl) rfl)
def whole_Right.f (a0:ByteArray):Option (Bool):=if a0.toList=([]:List UInt8) then (some false) else (if (a0.size:Int)=1 then (some true) else (if 0 < (a0.size:Int) then (if 1 < (a0.size:Int) then (if (Go.bits .or .i64 (wrap64 ((wrap64 (bt a0 0))*2)) (wrap64 ((bt a0 1) / 128)))=0 then (some false) else (some ((Go.bits .or .i64 (wrap64 ((wrap64 (bt a0 0))*2)) (wrap64 ((bt a0 1) / 128))) != 511))) else (none)) else (none)))
theorem whole_Right.con {a0:ByteArray} {r:(Bool)} (H:whole_Right.f a0=some r):Con Tryd.prog 23 [S a0] (B r):=by
 refine Cg Tryd.func23 rfl fun C hN hL=>?_
 unfold whole_Right.f at H
 refine Sw<|Rg hN<|Sw<|Bl<|Sw<|Ri hN [] (.cons (strV (rfl:a0.toList=a0.toList) (litL ([]:List UInt8))) .nil) [(6,.bool (a0.toList == ([]:List UInt8)))] ?_
 rcases ifC H with ⟨c109,H⟩ | ⟨c109,H⟩
 ·refine Ct (bq c109)<|Sw<|Rg hN ?_
  cases H
  exact Rt dR
 refine Cf (bn c109)<|Sw<|Rg hN ?_
 rcases ifC H with ⟨c110,H⟩ | ⟨c110,H⟩
 ·refine Ct (bq c110)<|Sw<|Rg hN ?_
  cases H
  exact Rt dR
 refine Cf (bn c110)<|Sk<|Sw ?_
 obtain ⟨c111,H⟩:=ifS H
 obtain ⟨c112,H⟩:=ifS H
 refine Rd hm hN (.qs 9 0 (.q 9 [] .z)) [(0,none)] .nil [] [] (.cons (show (0:Int)≤0 by decide) (.cons c111 (.cons (show (0:Int)≤1 by decide) (.cons (show (0:Int)≤1 by decide) (.cons c112 (.cons (show (0:Int)≤7 by decide) .nil)))))) (.cons (show (0:Int)≤0 by decide) (.cons c111 (.cons (show (0:Int)≤1 by decide) (.cons (show (0:Int)≤1 by decide) (.cons c112 (.cons (show (0:Int)≤7 by decide) .nil)))))) [] []<|Sw ?_
 rcases ifC H with ⟨c113,H⟩ | ⟨c113,H⟩
 ·refine Rh hN [B false] (.cons (bneF c113) .nil) ?_
  cases H
  exact Rt dR
 refine Rh hN [B true] (.cons (nq c113) .nil) ?_
 cases H
 exact Rt dR
mutual
def oid_numbers.l0:Nat→ByteArray→List Int→Int→Bool→Int→Int→Option (List Int × Bool)
 | 0,_,_,_,_,_,_=>none
 | k+1,x0,x4,x5,x6,x9,x10=>if x10 < x9 then (if x6=true then (oid_numbers.j1 k x0 x4 x5 x10 x9 x10 (decide (x5 > 2147483647))) else (if 0≤x10 then (if x10 < (x0.size:Int) then (if (bt x0 x10)=128 then (oid_numbers.j1 k x0 x4 x5 x10 x9 x10 true) else (oid_numbers.j1 k x0 x4 x5 x10 x9 x10 (decide (x5 > 2147483647)))) else (none)) else (none))) else (if x6=true then (some (x4,false)) else (if (x4.length:Int) > 0 then (some (x4,decide ((x4.length:Int) < 20))) else (some (x4,false))))
def oid_numbers.j1:Nat→ByteArray→List Int→Int→Int→Int→Int→Bool→Option (List Int × Bool)
 | 0,_,_,_,_,_,_,_=>none
 | k+1,x0,x4,x5,x7,x9,x10,x24=>if x24=true then (some (([]:List Int),false)) else (if 0≤x7 then (if x7 < (x0.size:Int) then (if (bt x0 x7)≥128 then (oid_numbers.l0 k x0 x4 (Go.bits .or .i64 (wrap64 (x5*128)) (wrap64 (Go.bits .and .u8 (bt x0 x7) 127))) (decide ((bt x0 x7)≥128)) x9 (wrap64 (x10+1))) else (if x4.length < 17592186044416 then (oid_numbers.l0 k x0 (x4++[Go.bits .or .i64 (wrap64 (x5*128)) (wrap64 (Go.bits .and .u8 (bt x0 x7) 127))]) 0 (decide ((bt x0 x7)≥128)) x9 (wrap64 (x10+1))) else (none))) else (none)) else (none))
end
def oid_numbers.f (k:Nat) (a0:ByteArray):Option (List Int × Bool):=oid_numbers.l0 k a0 ([]:List Int) 0 false (a0.size:Int) 0
theorem oid_numbers.con {k:Nat} {a0:ByteArray} {r:(List Int × Bool)} (H:oid_numbers.f k a0=some r):Con Tryd.prog 48 [S a0] (.tup [.row (some 3) 1 (List.map I r.1),B r.2]):=by
 refine Cg Tryd.func48 rfl fun C hN hL=>?_
 unfold oid_numbers.f at H
 refine Sw<|Rg hN<|Sw<|Rg hN<|Sw<|Rg hN<|Sw<|Sw<|Rg hN<|Bl<|Good.loopN (fun k' st=>∃ (x0:ByteArray) (x4:List Int) (x5:Int) (x6:Bool) (x9:Int) (x10:Int),k'≤k∧Wk C st ⟨[(0,.w (S x0)),(4,.w (.row (some 3) 1 (List.map I x4))),(5,.w (I x5)),(6,.w (B x6)),(9,.w (I x9)),(10,.w (I x10))],[]⟩∧oid_numbers.l0 k' x0 x4 x5 x6 x9 x10=some r) k ⟨a0,([]:List Int),0,false,(a0.size:Int),0,Nat.le_refl _,Wo [(0,0),(4,1),(5,0),(6,0),(9,0),(10,0)],H⟩ fun k=>⟨fun st h=>(by obtain ⟨_,_,_,_,_,_,_,_,H⟩:=h;cases H),?_⟩
 clear H
 rintro st ⟨x0,x4,x5,x6,x9,x10,hk,W,H⟩
 refine W.good ?_
 rw [oid_numbers.l0] at H
 refine Sw<|Rg hN<|Sw ?_
 rcases (ifC H).symm with ⟨c126,H⟩ | ⟨c126,H⟩
 ·refine Cf (df c126)<|Ex<|Sw ?_
  rcases ifC H with ⟨c127,H⟩ | ⟨c127,H⟩
  ·refine Rh hN [B false,B false] (.cons (notF c127) (.cons (rfl:false=false) .nil)) ?_
   cases H
   exact Rt dR
  rcases ifC H with ⟨c128,H⟩ | ⟨c128,H⟩
  ·refine Rh hN [B true,I (x4.length:Int),B true,I (x4.length:Int)] (.cons (notT (bf c127)) (.cons (lenM I x4) (.cons (dt c128) (.cons (lenM I x4) .nil)))) ?_
   cases H
   exact Rt dR
  refine Rh hN [B true,I (x4.length:Int),B false] (.cons (notT (bf c127)) (.cons (lenM I x4) (.cons (df c128) .nil))) ?_
  cases H
  exact Rt dR
 refine Ct (dt c126)<|Sk<|Sw<|Bl<|Sw<|Rg hN<|Sw<|Sw<|Good.cut (fun st=>∃ n':Nat,n'≤k∧∃ (x0:ByteArray) (x4:List Int) (x5:Int) (x7:Int) (x9:Int) (x10:Int) (x24:Bool),Wk C st ⟨[(0,.w (S x0)),(4,.w (.row (some 3) 1 (List.map I x4))),(5,.w (I x5)),(7,.w (I x7)),(9,.w (I x9)),(10,.w (I x10)),(24,.w (B x24))],[]⟩∧oid_numbers.j1 n' x0 x4 x5 x7 x9 x10 x24=some r) ?_ ?_
 ·rcases ifC H with ⟨c129,H⟩ | ⟨c129,H⟩
  ·exact Rh hN [B false,B false] (.cons (notF c129) (.cons (rfl:false=false) .nil))<|⟨k,by omega,x0,x4,x5,x10,x9,x10,decide (x5 > 2147483647),Wo [(0,0),(4,0),(5,0),(7,0),(9,0),(10,0),(24,0)],H⟩
  obtain ⟨c130,H⟩:=ifS H
  obtain ⟨c131,H⟩:=ifS H
  rcases ifC H with ⟨c132,H⟩ | ⟨c132,H⟩
  ·exact Rh hN [B true,B true] (.cons (notT (bf c129)) (.cons c130 (.cons c131 (.cons (bq c132) .nil))))<|⟨k,by omega,x0,x4,x5,x10,x9,x10,true,Wo [(0,0),(4,0),(5,0),(7,0),(9,0),(10,0),(24,0)],H⟩
  exact Rh hN [B true,B false] (.cons (notT (bf c129)) (.cons c130 (.cons c131 (.cons (bn c132) .nil))))<|⟨k,by omega,x0,x4,x5,x10,x9,x10,decide (x5 > 2147483647),Wo [(0,0),(4,0),(5,0),(7,0),(9,0),(10,0),(24,0)],H⟩
 clear H
 rintro st ⟨n',hn',x0,x4,x5,x7,x9,x10,x24,W,H⟩
 rcases n' with _ | k
 ·cases H
 refine W.good ?_
 rw [oid_numbers.j1] at H
 rcases ifC H with ⟨c133,H⟩ | ⟨c133,H⟩
 ·refine Ct c133<|Sw<|Rg hN ?_
  cases H
  exact Good.ret (fin_fit (u:=.tup [.nil 3 1,B false]) (.tup (.cons (.nilO 3 1) (.cons (.refl _) .nil))) (by kernel_rfl))
 refine Cf (bf c133)<|Sk<|Sw ?_
 obtain ⟨c134,H⟩:=ifS H
 obtain ⟨c135,H⟩:=ifS H
 refine Rh hN [] (.cons (show (0:Int)≤7 by decide) (.cons c134 (.cons c135 .nil)))<|Sw<|Rh hN [] (.cons c134 (.cons c135 .nil))<|Sw<|Rg hN ?_
 rcases ifC H with ⟨c136,H⟩ | ⟨c136,H⟩
 ·exact Cf (notF (dt c136))<|Sk<|Rg hN<|⟨k,by omega,x0,x4,Go.bits .or .i64 (wrap64 (x5*128)) (wrap64 (Go.bits .and .u8 (bt x0 x7) 127)),decide ((bt x0 x7)≥128),x9,wrap64 (x10+1),by omega,Wo [(0,0),(4,0),(5,0),(6,0),(9,0),(10,0)],H⟩
 refine Ct (notT (df c136))<|Sw ?_
 obtain ⟨c137,H⟩:=ifS H
 exact Rh hN [.kb true,.row (some 3) 1 (List.map I (x4++[Go.bits .or .i64 (wrap64 (x5*128)) (wrap64 (Go.bits .and .u8 (bt x0 x7) 127))]))] (.cons (fitM I x4 [Go.bits .or .i64 (wrap64 (x5*128)) (wrap64 (Go.bits .and .u8 (bt x0 x7) 127))] (.refl _)) (.cons (limM1 I c137) .nil))<|Rg hN<|Rg hN<|⟨k,by omega,x0,(x4++[Go.bits .or .i64 (wrap64 (x5*128)) (wrap64 (Go.bits .and .u8 (bt x0 x7) 127))]),0,decide ((bt x0 x7)≥128),x9,wrap64 (x10+1),by omega,Wo [(0,0),(4,0),(5,0),(6,0),(9,0),(10,0)],H⟩
def oid_Decode.f (k:Nat) (a0:ByteArray):Option (List Int × Bool):=(oid_numbers.f k a0).bind fun t139=>(if t139.2=true then (if 0 < (t139.1.length:Int) then (if 1≤(t139.1.length:Int) then (if ([mn 2 (wrap64 (Int.tdiv (rd t139.1 0) 40)),wrap64 ((rd t139.1 0) - (wrap64 (40*(mn 2 (wrap64 (Int.tdiv (rd t139.1 0) 40))))))]:List Int).length+(t139.1.drop 1).length < 17592186044416 then ((some (([mn 2 (wrap64 (Int.tdiv (rd t139.1 0) 40)),wrap64 ((rd t139.1 0) - (wrap64 (40*(mn 2 (wrap64 (Int.tdiv (rd t139.1 0) 40))))))]:List Int)++(t139.1.drop 1):List Int)).bind fun y145=>((oid_Right.f k y145).bind fun t146=>(if t146=true then (some (y145,true)) else (some (([]:List Int),false))))) else (none)) else (none)) else (none)) else (some (([]:List Int),false)))
theorem oid_Decode.con {k:Nat} {a0:ByteArray} {r:(List Int × Bool)} (H:oid_Decode.f k a0=some r):Con Tryd.prog 31 [S a0] (.tup [.row none 1 (List.map I r.1),B r.2]):=by
 refine Cg Tryd.func31 rfl fun C hN hL=>?_
 unfold oid_Decode.f at H
 refine Sw<|Rg hN<|Sw ?_
 obtain ⟨t139,h140,H⟩:=bindS H
 refine Rh hN [.tup [.row (some 3) 1 (List.map I t139.1),B t139.2]] (.cons (oid_numbers.con h140).c .nil)<|Sw<|Sw<|Rg hN ?_
 rcases (ifC H).symm with ⟨c141,H⟩ | ⟨c141,H⟩
 ·refine Ct (notT (bf c141))<|Sw<|Rg hN ?_
  cases H
  exact Good.ret (fin_fit (u:=.tup [.nil 3 1,B false]) (.tup (.cons (.nilS 3 1 _) (.cons (.refl _) .nil))) (by kernel_rfl))
 refine Cf (notF c141)<|Sk<|Sw ?_
 obtain ⟨c142,H⟩:=ifS H
 refine Rh hN [I (rd t139.1 0)] (.cons (show (0:Int)≤0 by decide) (.cons (ltM I c142) (.cons (atM I (0:Int) (show (0:Int)≤0 by decide) c142) (.cons (show (40:Int)≠0 by decide) .nil))))<|Sw ?_
 obtain ⟨c143,H⟩:=ifS H
 obtain ⟨c144,H⟩:=ifS H
 replace H:=bindI H
 refine Good.regTB (n:=2) hm hN hL (.q 0 [[7]] (.q 1 [[7,6,3,2]] (.q 2 [[7,6,3]] (.q 3 [[7,6]] (.q 4 [[7,6,5]] (.q 5 [[7,6]] (.q 6 [[7]] (.q 8 [[9]] (.b 7 [.row none 1 (List.map I (t139.1.drop 1)),.row none 1 (List.map I t139.1),.kb false,.row (some 3) 1 (List.map I (([mn 2 (wrap64 (Int.tdiv (rd t139.1 0) 40)),wrap64 ((rd t139.1 0) - (wrap64 (40*(mn 2 (wrap64 (Int.tdiv (rd t139.1 0) 40))))))]:List Int)++(t139.1.drop 1)))] [] (.e 9 (.e 10 (.e 11 .z))) [.row none 1 (List.map I (t139.1.drop 1)),.row none 1 (List.map I t139.1),.kb false,.row (some 3) 1 (List.map I (([mn 2 (wrap64 (Int.tdiv (rd t139.1 0) 40)),wrap64 ((rd t139.1 0) - (wrap64 (40*(mn 2 (wrap64 (Int.tdiv (rd t139.1 0) 40))))))]:List Int)++(t139.1.drop 1)))] [] (.e 9 (.e 7 (.e 10 (.e 11 .z))))))))))))) [(4,some (.row none 1 (List.map I t139.1))),(6,none)] (by kernel_rfl) (.cons (shrM (some 3) 1 I I t139.1 (fun _=>rfl)) .nil) [I (rd t139.1 0)] [I (rd t139.1 0)] (.cons (.cons (show (0:Int)≤0 by decide) (.cons (ltM I c142) (.cons (atM I (0:Int) (show (0:Int)≤0 by decide) c142) (.cons (shrM (some 3) 1 I I t139.1 (fun _=>rfl)) (.cons (show (0:Int)≤1 by decide) (.cons (leM I c143) (.cons (cutMlo I (l:=t139.1) (n:=1)) (.cons (fitM I ([mn 2 (wrap64 (Int.tdiv (rd t139.1 0) 40)),wrap64 ((rd t139.1 0) - (wrap64 (40*(mn 2 (wrap64 (Int.tdiv (rd t139.1 0) 40))))))]:List Int) (t139.1.drop 1) (.refl _)) (.cons (limM2 I I c144) .nil))))))))) (.cons (show (0:Int)≤0 by decide) (.cons (atM I (0:Int) (show (0:Int)≤0 by decide) c142) .nil)) (.cons (.cons (show (0:Int)≤0 by decide) (.cons (ltM I c142) (.cons (atM I (0:Int) (show (0:Int)≤0 by decide) c142) (.cons (shrM (some 3) 1 I I t139.1 (fun _=>rfl)) (.cons (show (0:Int)≤1 by decide) (.cons (leM I c143) (.cons (cutMlo I (l:=t139.1) (n:=1)) (.cons (fitM I ([mn 2 (wrap64 (Int.tdiv (rd t139.1 0) 40)),wrap64 ((rd t139.1 0) - (wrap64 (40*(mn 2 (wrap64 (Int.tdiv (rd t139.1 0) 40))))))]:List Int) (t139.1.drop 1) (.refl _)) (.cons (limM2 I I c144) .nil))))))))) (.cons (show (0:Int)≤0 by decide) (.cons (atM I (0:Int) (show (0:Int)≤0 by decide) c142) .nil)) .nil)) [] [] (by kernel_rfl) (by kernel_rfl) [[],[]] [(7,0)] [(7,.w (.row (some 3) 1 (List.map I (([mn 2 (wrap64 (Int.tdiv (rd t139.1 0) 40)),wrap64 ((rd t139.1 0) - (wrap64 (40*(mn 2 (wrap64 (Int.tdiv (rd t139.1 0) 40))))))]:List Int)++(t139.1.drop 1)))))] [] (by kernel_rfl) (by kernel_rfl)<|Sw<|Sw ?_
 obtain ⟨t146,h147,H⟩:=bindS H
 refine Rh hN [.row none 1 (List.map I (([mn 2 (wrap64 (Int.tdiv (rd t139.1 0) 40)),wrap64 ((rd t139.1 0) - (wrap64 (40*(mn 2 (wrap64 (Int.tdiv (rd t139.1 0) 40))))))]:List Int)++(t139.1.drop 1))),B t146] (.cons (shrM (some 3) 1 I I (([mn 2 (wrap64 (Int.tdiv (rd t139.1 0) 40)),wrap64 ((rd t139.1 0) - (wrap64 (40*(mn 2 (wrap64 (Int.tdiv (rd t139.1 0) 40))))))]:List Int)++(t139.1.drop 1)) (fun _=>rfl)) (.cons (oid_Right.con h147).c .nil)) ?_
 rcases (ifC H).symm with ⟨c148,H⟩ | ⟨c148,H⟩
 ·refine Ct (notT (bf c148))<|Sw<|Rg hN ?_
  cases H
  exact Good.ret (fin_fit (u:=.tup [.nil 3 1,B false]) (.tup (.cons (.nilS 3 1 _) (.cons (.refl _) .nil))) (by kernel_rfl))
 refine Cf (notF c148)<|Sk<|Sw<|Rg hN ?_
 cases H
 exact Rt dR
def strs_Unbool.f (a0:ByteArray):Option (Bool × Bool):=if a0.toList=([255]:List UInt8) then (some ((a0.toList == ([255]:List UInt8)),true)) else (some ((a0.toList == ([255]:List UInt8)),(a0.toList == ([0]:List UInt8))))
theorem strs_Unbool.con {a0:ByteArray} {r:(Bool × Bool)} (H:strs_Unbool.f a0=some r):Con Tryd.prog 55 [S a0] (.tup [B r.1,B r.2]):=by
 refine Cg Tryd.func55 rfl fun C hN hL=>?_
 unfold strs_Unbool.f at H
 refine Sw<|Rg hN<|Sw ?_
 rcases ifC H with ⟨c149,H⟩ | ⟨c149,H⟩
 ·refine Ri hN [B true] (.cons (strV (rfl:a0.toList=a0.toList) (litL ([255]:List UInt8))) (.cons (strV (rfl:a0.toList=a0.toList) (litL ([255]:List UInt8))) (.cons (bq c149) .nil))) [(5,.bool (a0.toList == ([255]:List UInt8))),(7,.bool (a0.toList == ([255]:List UInt8)))] ?_
  cases H
  exact Rt dR
 refine Ri hN [B false] (.cons (strV (rfl:a0.toList=a0.toList) (litL ([255]:List UInt8))) (.cons (strV (rfl:a0.toList=a0.toList) (litL ([255]:List UInt8))) (.cons (bn c149) (.cons (strV (rfl:a0.toList=a0.toList) (litL ([0]:List UInt8))) .nil)))) [(5,.bool (a0.toList == ([255]:List UInt8))),(7,.bool (a0.toList == ([255]:List UInt8))),(10,.bool (a0.toList == ([0]:List UInt8)))] ?_
 cases H
 exact Rt dR
def strs_Unbits.j0:Nat→ByteArray→Bool→Option (ByteArray × Int × Bool)
 | 0,_,_=>none
 | k+1,x0,x21=>if x21=true then (some ((⟨#[]⟩:ByteArray),0,false)) else (if 0≤(wrap64 ((x0.size:Int) - 1)) then (if (wrap64 ((x0.size:Int) - 1)) < (x0.size:Int) then (if 0 < (x0.size:Int) then (if 0≤(bt x0 0) then (if (Go.bits .and .u8 (bt x0 (wrap64 ((x0.size:Int) - 1))) (((shl .u8 1 (bt x0 0)) - 1) % 256))=0 then (if 1≤(x0.size:Int) then (some (x0.extract 1 x0.size,wrap64 (bt x0 0),true)) else (none)) else (if (x0.size:Int) > 1 then (some ((⟨#[]⟩:ByteArray),0,false)) else (if 1≤(x0.size:Int) then (some (x0.extract 1 x0.size,wrap64 (bt x0 0),true)) else (none)))) else (none)) else (none)) else (none)) else (none))
def strs_Unbits.f (k:Nat) (a0:ByteArray):Option (ByteArray × Int × Bool):=if a0.toList=([]:List UInt8) then (strs_Unbits.j0 k a0 true) else (if 0 < (a0.size:Int) then (if (bt a0 0) > 7 then (strs_Unbits.j0 k a0 true) else (if (bt a0 0) > 0 then (strs_Unbits.j0 k a0 ((a0.size:Int) == 1)) else (strs_Unbits.j0 k a0 false))) else (none))
theorem strs_Unbits.con {k:Nat} {a0:ByteArray} {r:(ByteArray × Int × Bool)} (H:strs_Unbits.f k a0=some r):Con Tryd.prog 56 [S a0] (.tup [S r.1,I r.2.1,B r.2.2]):=by
 refine Cg Tryd.func56 rfl fun C hN hL=>?_
 unfold strs_Unbits.f at H
 refine Sw<|Rg hN<|Sw<|Sw<|Good.cut (fun st=>∃ n':Nat,n'≤k∧∃ (x0:ByteArray) (x21:Bool),Wk C st ⟨[(0,.w (S x0)),(21,.w (B x21))],[]⟩∧strs_Unbits.j0 n' x0 x21=some r) ?_ ?_
 ·rcases ifC H with ⟨c150,H⟩ | ⟨c150,H⟩
  ·exact Ri hN [B true,B true] (.cons (strV (rfl:a0.toList=a0.toList) (litL ([]:List UInt8))) (.cons (bq c150) (.cons (rfl:true=true) .nil))) [(6,.bool (a0.toList == ([]:List UInt8)))]<|⟨k,by omega,a0,true,Wo [(0,0),(21,0)],H⟩
  obtain ⟨c151,H⟩:=ifS H
  rcases ifC H with ⟨c152,H⟩ | ⟨c152,H⟩
  ·exact Ri hN [B false,B true] (.cons (strV (rfl:a0.toList=a0.toList) (litL ([]:List UInt8))) (.cons (bn c150) (.cons (show (0:Int)≤0 by decide) (.cons c151 (.cons (dt c152) .nil))))) [(6,.bool (a0.toList == ([]:List UInt8)))]<|⟨k,by omega,a0,true,Wo [(0,0),(21,0)],H⟩
  rcases ifC H with ⟨c153,H⟩ | ⟨c153,H⟩
  ·exact Ri hN [B false,B false,B true] (.cons (strV (rfl:a0.toList=a0.toList) (litL ([]:List UInt8))) (.cons (bn c150) (.cons (show (0:Int)≤0 by decide) (.cons c151 (.cons (df c152) (.cons (show (0:Int)≤0 by decide) (.cons c151 (.cons (dt c153) .nil)))))))) [(6,.bool (a0.toList == ([]:List UInt8)))]<|⟨k,by omega,a0,((a0.size:Int) == 1),Wo [(0,0),(21,0)],H⟩
  exact Ri hN [B false,B false,B false] (.cons (strV (rfl:a0.toList=a0.toList) (litL ([]:List UInt8))) (.cons (bn c150) (.cons (show (0:Int)≤0 by decide) (.cons c151 (.cons (df c152) (.cons (show (0:Int)≤0 by decide) (.cons c151 (.cons (df c153) .nil)))))))) [(6,.bool (a0.toList == ([]:List UInt8)))]<|⟨k,by omega,a0,false,Wo [(0,0),(21,0)],H⟩
 clear H
 rintro st ⟨n',hn',x0,x21,W,H⟩
 rcases n' with _ | k
 ·cases H
 refine W.good ?_
 rw [strs_Unbits.j0] at H
 rcases ifC H with ⟨c154,H⟩ | ⟨c154,H⟩
 ·refine Ct c154<|Sw<|Rg hN ?_
  cases H
  exact Rt dR
 refine Cf (bf c154)<|Sk<|Sw<|Sw ?_
 obtain ⟨c155,H⟩:=ifS H
 obtain ⟨c156,H⟩:=ifS H
 obtain ⟨c157,H⟩:=ifS H
 obtain ⟨c158,H⟩:=ifS H
 rcases ifC H with ⟨c159,H⟩ | ⟨c159,H⟩
 ·refine Rd hm hN (.qs 12 0 (.k 33 (.is 3 12 (.q 15 [] .z)))) [(0,none)] .nil [B false] [] (.cons c155 (.cons c156 (.cons (show (0:Int)≤0 by decide) (.cons c157 (.cons c158 (.cons (bneF c159) .nil)))))) (.cons c155 (.cons c156 (.cons (show (0:Int)≤0 by decide) (.cons c157 (.cons c158 (.cons (bneF c159) .nil)))))) [] []<|Good.cond false (by kernel_rfl)<|Sk<|Sw ?_
  obtain ⟨c160,H⟩:=ifS H
  refine Rd hm hN (.qs 7 0 (.q 7 [] .z)) [(0,none)] .nil [] [] (.cons (show (0:Int)≤1 by decide) (.cons c160 (.cons (show (0:Int)≤0 by decide) (.cons c157 .nil)))) (.cons (show (0:Int)≤1 by decide) (.cons c160 (.cons (show (0:Int)≤0 by decide) (.cons c157 .nil)))) [] [] ?_
  cases H
  exact Rt dR
 refine Rd hm hN (.qs 12 0 (.k 33 (.qs 3 12 (.q 15 [] .z)))) [(0,none)] .nil [B true] [] (.cons c155 (.cons c156 (.cons (show (0:Int)≤0 by decide) (.cons c157 (.cons c158 (.cons (nq c159) .nil)))))) (.cons c155 (.cons c156 (.cons (show (0:Int)≤0 by decide) (.cons c157 (.cons c158 (.cons (nq c159) .nil)))))) [] [] ?_
 rcases ifC H with ⟨c161,H⟩ | ⟨c161,H⟩
 ·refine Ct (dt c161)<|Sw<|Rg hN ?_
  cases H
  exact Rt dR
 refine Cf (df c161)<|Sk<|Sw ?_
 obtain ⟨c162,H⟩:=ifS H
 refine Rd hm hN (.qs 7 0 (.q 7 [] .z)) [(0,none)] .nil [] [] (.cons (show (0:Int)≤1 by decide) (.cons c162 (.cons (show (0:Int)≤0 by decide) (.cons c157 .nil)))) (.cons (show (0:Int)≤1 by decide) (.cons c162 (.cons (show (0:Int)≤0 by decide) (.cons c157 .nil)))) [] [] ?_
 cases H
 exact Rt dR
def utf8_ValidString.f (a0:ByteArray):Option Bool:=if a0.size≤9223372036854775807 then some (Lib.validD a0.data.toList) else none
theorem utf8_ValidString.tab {p:Pub} {w:World} (h:Tabs.t p w):Lib.Utf8Tabs 0 1 w:=by
 obtain ⟨W,hW,hB⟩:=h
 rw [MakeChecks.laidMetH_plain _ _ _ (by kernel_rfl)] at hW
 have hm1:("unicode/utf8.first",Lib.firstData)∈laidL:=by
  have e:Lib.firstData=Rows.laid_unicode_utf8_first:=by kernel_rfl
  rw [e];unfold laidL
  repeat (first | exact List.mem_cons_self | apply List.mem_cons_of_mem)
 have hm2:("unicode/utf8.acceptRanges",Lib.acceptData)∈laidL:=by
  have e:Lib.acceptData=Rows.laid_unicode_utf8_acceptRanges:=by kernel_rfl
  rw [e];unfold laidL
  repeat (first | exact List.mem_cons_self | apply List.mem_cons_of_mem)
 have h1:Lib.Utf8Tabs 0 1 W:=utf8Tabs_of_readsT (U8Types.of196 Tryd.laysValid) ⟨by kernel_rfl,by kernel_rfl,by kernel_rfl,by kernel_rfl,by kernel_rfl,by kernel_rfl,by kernel_rfl⟩ (Lib.laidMet.reads hW hm1) (Lib.laidMet.reads hW hm2)
 have mv:∀ q v,W.cell? q=some v→w.cell? q=some v:=fun q v hp=>by
  have hlt:=World.block_lt_of_cell? W _ hp
  unfold World.cell? at hp ⊢
  rw [(hB _ hlt).2]
  exact hp
 exact ⟨fun c hc=>mv _ _ (h1.1 c hc),fun i hi=>⟨mv _ _ (h1.2 i hi).1,mv _ _ (h1.2 i hi).2⟩⟩
theorem utf8_ValidString.con {a0:ByteArray} {r:Bool} (H:utf8_ValidString.f a0=some r):Con Tryd.prog 60 [S a0] (B r):=by
 unfold utf8_ValidString.f at H
 obtain ⟨c,H⟩:=ifS H
 cases H
 exact con_lits Tryd.func60 rfl (by kernel_rfl) rfl fun p w ht=>(Any.utf8_ValidString Tryd.laysValid a0 w c (utf8_ValidString.tab ht)).mono (by rintro e w' ⟨rfl,hw⟩;exact ⟨rfl,by first | (subst hw;exact Below.refl _ _) | exact hw⟩)
def strs_Utf.f (a0:ByteArray):Option (Bool):=(utf8_ValidString.f a0).bind fun t163=>(some t163)
theorem strs_Utf.con {a0:ByteArray} {r:(Bool)} (H:strs_Utf.f a0=some r):Con Tryd.prog 57 [S a0] (B r):=by
 refine Cg Tryd.func57 rfl fun C hN hL=>?_
 unfold strs_Utf.f at H
 refine Sw<|Rg hN<|Sw ?_
 obtain ⟨t163,h164,H⟩:=bindS H
 refine Rh hN [B t163] (.cons (utf8_ValidString.con h164).c .nil) ?_
 cases H
 exact Rt dR
def strings_IndexByte.f (a0:ByteArray) (a1:Int):Option Int:=some (Lib.indexByte a0.data.toList a1.toNat.toUInt8)
theorem strings_IndexByte.con {a0:ByteArray} {a1:Int} {r:Int} (H:strings_IndexByte.f a0 a1=some r):Con Tryd.prog 68 [S a0,K .u8 a1] (I r):=by
 cases H
 exact con_lits Tryd.func68 rfl (by kernel_rfl) rfl fun p w ht=>(Tryd.strings_IndexByte a0 a1 w).mono (by rintro e w' ⟨rfl,hw⟩;exact ⟨rfl,by first | (subst hw;exact Below.refl _ _) | exact hw⟩)
def utf8_ValidRune.j0:Nat→Int→Bool→Option (Bool)
 | 0,_,_=>none
 | k+1,x0,x3=>if x3=true then (some true) else (if 57343 < x0 then (if x0≤1114111 then (some true) else (some false)) else (some false))
def utf8_ValidRune.f (k:Nat) (a0:Int):Option (Bool):=if 0≤a0 then (utf8_ValidRune.j0 k a0 (decide (a0 < 55296))) else (utf8_ValidRune.j0 k a0 false)
theorem utf8_ValidRune.con {k:Nat} {a0:Int} {r:(Bool)} (H:utf8_ValidRune.f k a0=some r):Con Tryd.prog 69 [K .i32 a0] (B r):=by
 refine Cg Tryd.func69 rfl fun C hN hL=>?_
 unfold utf8_ValidRune.f at H
 refine Sw<|Rg hN<|Sw<|Bl<|Sw<|Good.cut (fun st=>∃ n':Nat,n'≤k∧∃ (x0:Int) (x3:Bool),Wk C st ⟨[(0,.w (K .i32 x0)),(3,.w (B x3))],[]⟩∧utf8_ValidRune.j0 n' x0 x3=some r) ?_ ?_
 ·rcases ifC H with ⟨c165,H⟩ | ⟨c165,H⟩
  ·exact Rh hN [B true] (.cons (dt c165) .nil)<|⟨k,by omega,a0,decide (a0 < 55296),Wo [(0,0),(3,0)],H⟩
  exact Rh hN [B false] (.cons (df c165) .nil)<|⟨k,by omega,a0,false,Wo [(0,0),(3,0)],H⟩
 clear H
 rintro st ⟨n',hn',x0,x3,W,H⟩
 rcases n' with _ | k
 ·cases H
 refine W.good ?_
 rw [utf8_ValidRune.j0] at H
 rcases ifC H with ⟨c166,H⟩ | ⟨c166,H⟩
 ·refine Ct c166<|Sw<|Rg hN ?_
  cases H
  exact Rt dR
 refine Cf (bf c166)<|Sw ?_
 rcases (ifC H).symm with ⟨c167,H⟩ | ⟨c167,H⟩
 ·refine Rh hN [B false] (.cons (df c167) .nil)<|Good.cond false (by kernel_rfl)<|Sk<|Sw<|Rg hN ?_
  cases H
  exact Rt dR
 refine Rh hN [B true] (.cons (dt c167) .nil) ?_
 rcases ifC H with ⟨c168,H⟩ | ⟨c168,H⟩
 ·refine Ct (dt c168)<|Sw<|Rg hN ?_
  cases H
  exact Rt dR
 refine Cf (df c168)<|Sk<|Sw<|Rg hN ?_
 cases H
 exact Rt dR
def bytealg_Cutover.f (a0:Int):Option (Int):=some (wrap64 (Int.tdiv (wrap64 (a0+16)) 8))
theorem bytealg_Cutover.con {a0:Int} {r:(Int)} (H:bytealg_Cutover.f a0=some r):Con Tryd.prog 70 [I a0] (I r):=by
 refine Cg Tryd.func70 rfl fun C hN hL=>?_
 unfold bytealg_Cutover.f at H
 refine Sw<|Rg hN<|Sw<|Rh hN [] (.cons (show (8:Int)≠0 by decide) .nil) ?_
 cases H
 exact Rt dR
def strings_IndexRune.l0:Nat→ByteArray→Nat→Option (Int)
 | 0,_,_=>none
 | k+1,x1000,x1001=>if x1001 < x1000.size then (if ((Utf8.decode x1000 x1001).1:Int)=65533 then (some ((x1001:Nat):Int)) else (strings_IndexRune.l0 k x1000 (x1001+(Utf8.decode x1000 x1001).2))) else (some (-1))
def strings_IndexRune.g0_1:Nat→ByteArray→Int→Int→Option (Int)
 | 0,_,_,_=>none
 | k+1,x0,x8,x9=>if 0≤(wrap64 (x9 - x8)) then (if (wrap64 (x9 - x8))≤(x0.size:Int) then (none) else (none)) else (none)
mutual
def strings_IndexRune.l1:Nat→ByteArray→ByteArray→Int→Int→Int→Option (Int)
 | 0,_,_,_,_,_=>none
 | k+1,x0,x7,x8,x9,x10=>if x9 < (x0.size:Int) then (if 0≤x9 then (if 0≤x8 then (if x8 < (x7.size:Int) then (if (bt x0 x9)=(bt x7 x8) then (strings_IndexRune.j3 k x0 x7 x8 x9 x10) else (if 0≤(wrap64 (x9+1)) then (if (wrap64 (x9+1))≤(x0.size:Int) then ((strings_IndexByte.f (x0.extract ((wrap64 (x9+1)):Int).toNat x0.size) (bt x7 x8)).bind fun t186=>(if t186 < 0 then (some (-1)) else (strings_IndexRune.j3 k x0 x7 x8 (wrap64 (x9+(wrap64 (t186+1)))) x10))) else (none)) else (none))) else (none)) else (none)) else (none)) else (some (-1))
def strings_IndexRune.j3:Nat→ByteArray→ByteArray→Int→Int→Int→Option (Int)
 | 0,_,_,_,_,_=>none
 | k+1,x0,x7,x8,x9,x10=>strings_IndexRune.l2 k x0 x7 x8 x9 x10 1
def strings_IndexRune.l2:Nat→ByteArray→ByteArray→Int→Int→Int→Int→Option (Int)
 | 0,_,_,_,_,_,_=>none
 | k+1,x0,x7,x8,x9,x10,x12=>if x12 < (x7.size:Int) then (if 0≤(wrap64 (x9 - x12)) then (if (wrap64 (x9 - x12)) < (x0.size:Int) then (if 0≤(wrap64 (x8 - x12)) then (if (wrap64 (x8 - x12)) < (x7.size:Int) then (if (bt x0 (wrap64 (x9 - x12)))=(bt x7 (wrap64 (x8 - x12))) then (strings_IndexRune.l2 k x0 x7 x8 x9 x10 (wrap64 (x12+1))) else (strings_IndexRune.g1_0 k x0 x7 x8 x9 x10)) else (none)) else (none)) else (none)) else (none)) else (some (wrap64 (x9 - x8)))
def strings_IndexRune.g1_0:Nat→ByteArray→ByteArray→Int→Int→Int→Option (Int)
 | 0,_,_,_,_,_=>none
 | k+1,x0,x7,x8,x9,x10=>(bytealg_Cutover.f (wrap64 (x9+1))).bind fun t195=>(if (wrap64 (x10+1)) > t195 then (if (wrap64 (x9+1)) < (x0.size:Int) then (strings_IndexRune.g0_1 k x0 x8 (wrap64 (x9+1))) else (strings_IndexRune.l1 k x0 x7 x8 (wrap64 (x9+1)) (wrap64 (x10+1)))) else (strings_IndexRune.l1 k x0 x7 x8 (wrap64 (x9+1)) (wrap64 (x10+1))))
end
def strings_IndexRune.j0:Nat→ByteArray→Int→Bool→Option (Int)
 | 0,_,_,_=>none
 | k+1,x0,x1,x160=>if x160=true then ((strings_IndexByte.f x0 ((x1) % 256)).bind fun t171=>(some t171)) else (if x1=65533 then (strings_IndexRune.l0 k x0 0) else ((utf8_ValidRune.f k x1).bind fun t176=>(if t176=true then (strings_IndexRune.l1 k x0 (Utf8.encode x1) (wrap64 (((Utf8.encode x1).size:Int) - 1)) (wrap64 (((Utf8.encode x1).size:Int) - 1)) 0) else (some (-1)))))
def strings_IndexRune.f (k:Nat) (a0:ByteArray) (a1:Int):Option (Int):=if 0≤a1 then (strings_IndexRune.j0 k a0 a1 (decide (a1 < 128))) else (strings_IndexRune.j0 k a0 a1 false)
theorem strings_IndexRune.con {k:Nat} {a0:ByteArray} {a1:Int} {r:(Int)} (H:strings_IndexRune.f k a0 a1=some r):Con Tryd.prog 66 [S a0,K .i32 a1] (I r):=by
 refine Cg Tryd.func66 rfl fun C hN hL=>?_
 unfold strings_IndexRune.f at H
 refine Sw<|Rg hN<|Bl<|Sw<|Good.cut (fun st=>∃ n':Nat,n'≤k∧∃ (x0:ByteArray) (x1:Int) (x160:Bool),Wk C st ⟨[(0,.w (S x0)),(1,.w (K .i32 x1)),(160,.w (B x160))],[]⟩∧strings_IndexRune.j0 n' x0 x1 x160=some r) ?_ ?_
 ·rcases ifC H with ⟨c169,H⟩ | ⟨c169,H⟩
  ·exact Rh hN [B true] (.cons (dt c169) .nil)<|⟨k,by omega,a0,a1,decide (a1 < 128),Wo [(0,0),(1,0),(160,0)],H⟩
  exact Rh hN [B false] (.cons (df c169) .nil)<|⟨k,by omega,a0,a1,false,Wo [(0,0),(1,0),(160,0)],H⟩
 clear H
 rintro st ⟨n',hn',x0,x1,x160,W,H⟩
 rcases n' with _ | k
 ·cases H
 refine W.good ?_
 rw [strings_IndexRune.j0] at H
 rcases ifC H with ⟨c170,H⟩ | ⟨c170,H⟩
 ·refine Ct c170<|Sw ?_
  obtain ⟨t171,h172,H⟩:=bindS H
  refine Rh hN [I t171] (.cons (strings_IndexByte.con h172).c .nil) ?_
  cases H
  exact Rt dR
 refine Cf (bf c170)<|Sw<|Rg hN ?_
 rcases ifC H with ⟨c173,H⟩ | ⟨c173,H⟩
 ·refine Ct (bq c173)<|Sw<|Sw<|Rg hN<|Bl<|Good.loopN (fun k' st=>∃ (x1000:ByteArray) (x1001:Nat),k'≤k∧Wk C st ⟨[(175,.d (.ptr 0 0))],[.iter x1000 x1001]⟩∧strings_IndexRune.l0 k' x1000 x1001=some r) k ⟨x0,0,Nat.le_refl _,Wo [(175,0)],H⟩ fun k=>⟨fun st h=>(by obtain ⟨_,_,_,_,H⟩:=h;cases H),?_⟩
  clear H
  rintro st ⟨x1000,x1001,hk,W,H⟩
  refine W.good ?_
  rw [strings_IndexRune.l0] at H
  refine Sw ?_
  rcases (ifC H).symm with ⟨c174,H⟩ | ⟨c174,H⟩
  ·refine Rh hN [.kb false] (.cons c174 .nil)<|Sw<|Good.cond false (by kernel_rfl)<|Ex<|Sw<|Rg hN ?_
   cases H
   exact Rt dR
  refine Rh hN [.kb true] (.cons c174 .nil)<|Sw<|Good.cond true (by kernel_rfl)<|Sk<|Bl<|Sw<|Rg hN<|Sw<|Rg hN ?_
  rcases (ifC H).symm with ⟨c175,H⟩ | ⟨c175,H⟩
  ·exact Cf (bn c175)<|Sk<|⟨k,by omega,x1000,x1001+(Utf8.decode x1000 x1001).2,by omega,Wo [(175,0)],H⟩
  refine Ct (bq c175)<|Sw<|Rg hN ?_
  cases H
  exact Rt dR
 refine Cf (bn c173)<|Sw ?_
 obtain ⟨t176,h177,H⟩:=bindS H
 refine Rh hN [B t176] (.cons (utf8_ValidRune.con h177).c .nil) ?_
 rcases (ifC H).symm with ⟨c178,H⟩ | ⟨c178,H⟩
 ·refine Ct (notT (bf c178))<|Sw<|Rg hN ?_
  cases H
  exact Rt dR
 refine Cf (notF c178)<|Good.scope [(1,_,fun n st=>∃ (x0:ByteArray) (x1:Int) (x7:ByteArray) (x8:Int) (x9:Int),n≤k∧Wk C st ⟨[(0,.w (S x0)),(1,.w (K .i32 x1)),(7,.w (S x7)),(8,.w (I x8)),(9,.w (I x9))],[]⟩∧strings_IndexRune.g0_1 n x0 x8 x9=some r)] (.cons rfl .nil) ?_ (.cons ?_ .nil)
 ·refine Sw<|Rg hN<|Sw<|Rg hN<|Sw<|Rg hN<|Sw<|Rg hN<|Sw<|Bl<|Good.loopN (fun k' st=>∃ (x0:ByteArray) (x1:Int) (x7:ByteArray) (x8:Int) (x9:Int) (x10:Int),k'≤k∧Wk C st ⟨[(0,.w (S x0)),(1,.w (K .i32 x1)),(7,.w (S x7)),(8,.w (I x8)),(9,.w (I x9)),(10,.w (I x10))],[]⟩∧strings_IndexRune.l1 k' x0 x7 x8 x9 x10=some r) k ⟨x0,x1,Utf8.encode x1,wrap64 (((Utf8.encode x1).size:Int) - 1),wrap64 (((Utf8.encode x1).size:Int) - 1),0,Nat.le_refl _,Wo [(0,0),(1,0),(7,0),(8,0),(9,0),(10,0)],H⟩ fun k=>⟨fun st h=>(by obtain ⟨_,_,_,_,_,_,_,_,H⟩:=h;cases H),?_⟩
  clear H
  rintro st ⟨x0,x1,x7,x8,x9,x10,hk,W,H⟩
  refine W.good ?_
  rw [strings_IndexRune.l1] at H
  refine Sw<|Sw<|Rg hN ?_
  rcases (ifC H).symm with ⟨c179,H⟩ | ⟨c179,H⟩
  ·refine Cf (df c179)<|Ex<|Sw<|Sw<|Rg hN ?_
   cases H
   exact Rt dR
  refine Ct (dt c179)<|Sk<|Bl<|Good.scope [(0,_,fun n st=>∃ (x0:ByteArray) (x1:Int) (x7:ByteArray) (x8:Int) (x9:Int) (x10:Int),n≤k∧Wk C st ⟨[(0,.w (S x0)),(1,.w (K .i32 x1)),(7,.w (S x7)),(8,.w (I x8)),(9,.w (I x9)),(10,.w (I x10))],[]⟩∧strings_IndexRune.g1_0 n x0 x7 x8 x9 x10=some r)] (.cons rfl .nil) ?_ (.cons ?_ .nil)
  ·refine Sw<|Sw ?_
   obtain ⟨c180,H⟩:=ifS H
   obtain ⟨c181,H⟩:=ifS H
   obtain ⟨c182,H⟩:=ifS H
   refine Rd hm hN (.qs 6 0 (.q 6 [] .z)) [(0,none),(7,none),(8,none),(9,none)] .nil [] [] (.cons c180 (.cons c179 (.cons c181 (.cons c182 .nil)))) (.cons c180 (.cons c179 (.cons c181 (.cons c182 .nil)))) [] []<|Good.cut (fun st=>∃ n':Nat,n'≤k∧∃ (x0:ByteArray) (x1:Int) (x7:ByteArray) (x8:Int) (x9:Int) (x10:Int),Wk C st ⟨[(0,.w (S x0)),(1,.w (K .i32 x1)),(7,.w (S x7)),(8,.w (I x8)),(9,.w (I x9)),(10,.w (I x10))],[]⟩∧strings_IndexRune.j3 n' x0 x7 x8 x9 x10=some r) ?_ ?_
   ·rcases ifC H with ⟨c183,H⟩ | ⟨c183,H⟩
    ·exact Cf (bneF c183)<|Sk<|⟨k,by omega,x0,x1,x7,x8,x9,x10,Wo [(0,0),(1,0),(7,0),(8,0),(9,0),(10,0)],H⟩
    refine Ct (nq c183)<|Sw ?_
    obtain ⟨c184,H⟩:=ifS H
    obtain ⟨c185,H⟩:=ifS H
    obtain ⟨t186,h187,H⟩:=bindS H
    refine Rd hm hN (.qs 7 0 (.e 7 (.q 8 [] .z))) [(0,none),(7,none),(8,none),(9,none)] .nil [I t186] [] (.cons c184 (.cons c185 (.cons c181 (.cons c182 (.cons (strings_IndexByte.con h187).c .nil))))) (.cons c184 (.cons c185 (.cons c181 (.cons c182 .nil)))) [] []<|Sw<|Sw<|Rg hN ?_
    rcases (ifC H).symm with ⟨c188,H⟩ | ⟨c188,H⟩
    ·exact Cf (df c188)<|Sk<|Rg hN<|⟨k,by omega,x0,x1,x7,x8,wrap64 (x9+(wrap64 (t186+1))),x10,Wo [(0,0),(1,0),(7,0),(8,0),(9,0),(10,0)],H⟩
    refine Ct (dt c188)<|Sw<|Rg hN ?_
    cases H
    exact Rt dR
   clear H
   rintro st ⟨n',hn',x0,x1,x7,x8,x9,x10,W,H⟩
   rcases n' with _ | k
   ·cases H
   refine W.good ?_
   rw [strings_IndexRune.j3] at H
   refine Sw<|Sw<|Rg hN<|Bl<|Good.loopN (fun k' st=>∃ (x0:ByteArray) (x1:Int) (x7:ByteArray) (x8:Int) (x9:Int) (x10:Int) (x12:Int),k'≤k∧Wk C st ⟨[(0,.w (S x0)),(1,.w (K .i32 x1)),(7,.w (S x7)),(8,.w (I x8)),(9,.w (I x9)),(10,.w (I x10)),(12,.w (I x12))],[]⟩∧strings_IndexRune.l2 k' x0 x7 x8 x9 x10 x12=some r) k ⟨x0,x1,x7,x8,x9,x10,1,Nat.le_refl _,Wo [(0,0),(1,0),(7,0),(8,0),(9,0),(10,0),(12,0)],H⟩ fun k=>⟨fun st h=>(by obtain ⟨_,_,_,_,_,_,_,_,_,H⟩:=h;cases H),?_⟩
   clear H
   rintro st ⟨x0,x1,x7,x8,x9,x10,x12,hk,W,H⟩
   refine W.good ?_
   rw [strings_IndexRune.l2] at H
   refine Sw<|Sw<|Rg hN ?_
   rcases (ifC H).symm with ⟨c189,H⟩ | ⟨c189,H⟩
   ·refine Cf (df c189)<|Ex<|Sw<|Sw<|Rg hN ?_
    cases H
    exact Rt dR
   refine Ct (dt c189)<|Sk<|Sw<|Bl<|Sw ?_
   obtain ⟨c190,H⟩:=ifS H
   obtain ⟨c191,H⟩:=ifS H
   obtain ⟨c192,H⟩:=ifS H
   obtain ⟨c193,H⟩:=ifS H
   refine Rd hm hN (.qs 10 0 (.q 10 [] .z)) [(0,none),(7,none),(8,none),(9,none),(12,none)] .nil [] [] (.cons c190 (.cons c191 (.cons c192 (.cons c193 .nil)))) (.cons c190 (.cons c191 (.cons c192 (.cons c193 .nil)))) [] [] ?_
   rcases (ifC H).symm with ⟨c194,H⟩ | ⟨c194,H⟩
   ·exact Ct (nq c194)<|Good.goto<|⟨k,(by first | trivial | omega),x0,x1,x7,x8,x9,x10,by omega,Wo [(0,0),(1,0),(7,0),(8,0),(9,0),(10,0)],H⟩
   exact Cf (bneF c194)<|Sk<|Rg hN<|⟨k,by omega,x0,x1,x7,x8,x9,x10,wrap64 (x12+1),by omega,Wo [(0,0),(1,0),(7,0),(8,0),(9,0),(10,0),(12,0)],H⟩
  ·clear H
   rintro n st ⟨x0,x1,x7,x8,x9,x10,hn,W,H⟩
   rcases n with _ | k
   ·cases H
   refine W.good ?_
   rw [strings_IndexRune.g1_0] at H
   refine Sw<|Sk<|Sw<|Rg hN<|Sw<|Rg hN<|Sw ?_
   obtain ⟨t195,h196,H⟩:=bindS H
   rcases (ifC H).symm with ⟨c197,H⟩ | ⟨c197,H⟩
   ·exact Rh hN [B true,I t195,B false,B false,B false,B false] (.cons (rfl:true=true) (.cons (bytealg_Cutover.con h196).c (.cons (df c197) (.cons (rfl:false=false) (.cons (rfl:false=false) (.cons (rfl:false=false) .nil))))))<|Good.cond false (by kernel_rfl)<|Sk<|⟨k,by omega,x0,x1,x7,x8,wrap64 (x9+1),wrap64 (x10+1),by omega,Wo [(0,0),(1,0),(7,0),(8,0),(9,0),(10,0)],H⟩
   rcases ifC H with ⟨c198,H⟩ | ⟨c198,H⟩
   ·exact Rh hN [B true,I t195,B true,B true] (.cons (rfl:true=true) (.cons (bytealg_Cutover.con h196).c (.cons (dt c197) (.cons (dt c198) .nil))))<|Good.cond true (by kernel_rfl)<|Good.goto<|⟨by kernel_rfl,⟨k,(by first | trivial | omega),x0,x1,x7,x8,wrap64 (x9+1),by omega,Wo [(0,0),(1,0),(7,0),(8,0),(9,0)],H⟩⟩
   exact Rh hN [B true,I t195,B true,B false,B false,B false] (.cons (rfl:true=true) (.cons (bytealg_Cutover.con h196).c (.cons (dt c197) (.cons (df c198) (.cons (rfl:false=false) (.cons (rfl:false=false) .nil))))))<|Good.cond false (by kernel_rfl)<|Sk<|⟨k,by omega,x0,x1,x7,x8,wrap64 (x9+1),wrap64 (x10+1),by omega,Wo [(0,0),(1,0),(7,0),(8,0),(9,0),(10,0)],H⟩
 ·clear H
  rintro n st ⟨x0,x1,x7,x8,x9,hn,W,H⟩
  rcases n with _ | k
  ·cases H
  refine W.good ?_
  rw [strings_IndexRune.g0_1] at H
  refine Sw<|Sk<|Sw<|Good.cond true (by kernel_rfl)<|Sw ?_
  obtain ⟨c199,H⟩:=ifS H
  obtain ⟨c200,H⟩:=ifS H
  cases H
def strings_ContainsRune.f (k:Nat) (a0:ByteArray) (a1:Int):Option (Bool):=(strings_IndexRune.f k a0 a1).bind fun t201=>(some (decide (t201≥0)))
theorem strings_ContainsRune.con {k:Nat} {a0:ByteArray} {a1:Int} {r:(Bool)} (H:strings_ContainsRune.f k a0 a1=some r):Con Tryd.prog 62 [S a0,K .i32 a1] (B r):=by
 refine Cg Tryd.func62 rfl fun C hN hL=>?_
 unfold strings_ContainsRune.f at H
 refine Sw<|Rg hN<|Sw ?_
 obtain ⟨t201,h202,H⟩:=bindS H
 refine Rh hN [I t201] (.cons (strings_IndexRune.con h202).c .nil) ?_
 cases H
 exact Rt dR
def strs_Printable_1.j1:Nat→Int→Bool→Option (Bool)
 | 0,_,_=>none
 | k+1,x0,x3=>if x3=true then (some false) else (if x0≥48 then (if x0≤57 then (some false) else ((strings_ContainsRune.f k (⟨#[32,39,40,41,43,44,45,46,47,58,61,63]⟩:ByteArray) x0).bind fun t209=>(some (!t209)))) else ((strings_ContainsRune.f k (⟨#[32,39,40,41,43,44,45,46,47,58,61,63]⟩:ByteArray) x0).bind fun t211=>(some (!t211))))
def strs_Printable_1.j0:Nat→Int→Bool→Option (Bool)
 | 0,_,_=>none
 | k+1,x0,x3=>if x3=true then (some false) else (if x0≥97 then (strs_Printable_1.j1 k x0 (decide (x0≤122))) else (strs_Printable_1.j1 k x0 false))
def strs_Printable_1.f (k:Nat) (a0:Int):Option (Bool):=if a0≥65 then (strs_Printable_1.j0 k a0 (decide (a0≤90))) else (strs_Printable_1.j0 k a0 false)
theorem strs_Printable_1.con {k:Nat} {a0:Int} {r:(Bool)} (H:strs_Printable_1.f k a0=some r):Con Tryd.prog 61 [K .i32 a0] (B r):=by
 refine Cg Tryd.func61 rfl fun C hN hL=>?_
 unfold strs_Printable_1.f at H
 refine Sw<|Rg hN<|Sw<|Bl<|Sw<|Sw<|Good.cut (fun st=>∃ n':Nat,n'≤k∧∃ (x0:Int) (x3:Bool),Wk C st ⟨[(0,.w (K .i32 x0)),(3,.w (B x3))],[]⟩∧strs_Printable_1.j0 n' x0 x3=some r) ?_ ?_
 ·rcases ifC H with ⟨c203,H⟩ | ⟨c203,H⟩
  ·exact Rh hN [B true] (.cons (dt c203) .nil)<|⟨k,by omega,a0,decide (a0≤90),Wo [(0,0),(3,0)],H⟩
  exact Rh hN [B false] (.cons (df c203) .nil)<|⟨k,by omega,a0,false,Wo [(0,0),(3,0)],H⟩
 clear H
 rintro st ⟨n',hn',x0,x3,W,H⟩
 rcases n' with _ | k
 ·cases H
 refine W.good ?_
 rw [strs_Printable_1.j0] at H
 rcases ifC H with ⟨c204,H⟩ | ⟨c204,H⟩
 ·refine Ct c204<|Sk<|Ct c204<|Sw<|Rg hN ?_
  cases H
  exact Rt dR
 refine Cf (bf c204)<|Sw<|Good.cut (fun st=>∃ n':Nat,n'≤k∧∃ (x0:Int) (x3:Bool),Wk C st ⟨[(0,.w (K .i32 x0)),(3,.w (B x3))],[]⟩∧strs_Printable_1.j1 n' x0 x3=some r) ?_ ?_
 ·rcases ifC H with ⟨c205,H⟩ | ⟨c205,H⟩
  ·exact Rh hN [B true] (.cons (dt c205) .nil)<|⟨k,by omega,x0,decide (x0≤122),Wo [(0,0),(3,0)],H⟩
  exact Rh hN [B false] (.cons (df c205) .nil)<|⟨k,by omega,x0,false,Wo [(0,0),(3,0)],H⟩
 clear H
 rintro st ⟨n',hn',x0,x3,W,H⟩
 rcases n' with _ | k
 ·cases H
 refine W.good ?_
 rw [strs_Printable_1.j1] at H
 rcases ifC H with ⟨c206,H⟩ | ⟨c206,H⟩
 ·refine Ct c206<|Sk<|Ct c206<|Sw<|Rg hN ?_
  cases H
  exact Rt dR
 refine Cf (bf c206) ?_
 rcases (ifC H).symm with ⟨c207,H⟩ | ⟨c207,H⟩
 ·refine Rh hN [B false] (.cons (df c207) .nil)<|Good.cond false (by kernel_rfl)<|Sk<|Sw ?_
  obtain ⟨t211,h212,H⟩:=bindS H
  refine Rh hN [B t211] (.cons (strings_ContainsRune.con h212).c .nil) ?_
  cases H
  exact Rt dR
 refine Rh hN [B true] (.cons (dt c207) .nil) ?_
 rcases ifC H with ⟨c208,H⟩ | ⟨c208,H⟩
 ·refine Ct (dt c208)<|Sw<|Rg hN ?_
  cases H
  exact Rt dR
 refine Cf (df c208)<|Sk<|Sw ?_
 obtain ⟨t209,h210,H⟩:=bindS H
 refine Rh hN [B t209] (.cons (strings_ContainsRune.con h210).c .nil) ?_
 cases H
 exact Rt dR
def strings_indexFunc.l0:Nat→(Int→Option (Bool))→Bool→ByteArray→Nat→Option (Int)
 | 0,_,_,_,_=>none
 | k+1,g1,x2,x1000,x1001=>if x1001 < x1000.size then ((g1 ((Utf8.decode x1000 x1001).1:Int)).bind fun t214=>(if (t214 == x2)=true then (some ((x1001:Nat):Int)) else (strings_indexFunc.l0 k g1 x2 x1000 (x1001+(Utf8.decode x1000 x1001).2)))) else (some (-1))
def strings_indexFunc.f (k:Nat) (a0:ByteArray) (g1:Int→Option (Bool)) (a2:Bool):Option (Int):=strings_indexFunc.l0 k g1 a2 a0 0
theorem strings_indexFunc.con {k:Nat} {a0:ByteArray} {g1:Int→Option (Bool)} {a2:Bool} {f1:FuncId} {c1:List V} (hg1:∀ (az0:Int) r,g1 az0=some r→Con Tryd.prog f1 ([K .i32 az0]++c1) (B r)) {r:(Int)} (H:strings_indexFunc.f k a0 g1 a2=some r):Con Tryd.prog 72 [S a0,.clo f1 c1,B a2] (I r):=by
 refine Cg Tryd.func72 rfl fun C hN hL=>?_
 unfold strings_indexFunc.f at H
 refine Sw<|Rg hN<|Sw<|Sw<|Rg hN<|Bl<|Good.loopN (fun k' st=>∃ (x2:Bool) (x1000:ByteArray) (x1001:Nat),k'≤k∧Wk C st ⟨[(1,.w (.clo f1 c1)),(2,.w (B x2)),(10,.d (.ptr 0 0))],[.iter x1000 x1001]⟩∧strings_indexFunc.l0 k' g1 x2 x1000 x1001=some r) k ⟨a2,a0,0,Nat.le_refl _,Wo [(1,0),(2,0),(10,0)],H⟩ fun k=>⟨fun st h=>(by obtain ⟨_,_,_,_,_,H⟩:=h;cases H),?_⟩
 clear H
 rintro st ⟨x2,x1000,x1001,hk,W,H⟩
 refine W.good ?_
 rw [strings_indexFunc.l0] at H
 refine Sw ?_
 rcases (ifC H).symm with ⟨c213,H⟩ | ⟨c213,H⟩
 ·refine Rh hN [.kb false] (.cons c213 .nil)<|Sw<|Good.cond false (by kernel_rfl)<|Ex<|Sw<|Rg hN ?_
  cases H
  exact Rt dR
 refine Rh hN [.kb true] (.cons c213 .nil)<|Sw<|Good.cond true (by kernel_rfl)<|Sk<|Bl<|Sw<|Rg hN<|Sw ?_
 obtain ⟨t214,h215,H⟩:=bindS H
 refine Rh hN [B t214] (.cons (hg1 _ _ h215).c .nil) ?_
 rcases (ifC H).symm with ⟨c216,H⟩ | ⟨c216,H⟩
 ·exact Cf (bf c216)<|Sk<|⟨k,by omega,x2,x1000,x1001+(Utf8.decode x1000 x1001).2,by omega,Wo [(1,0),(2,0),(10,0)],H⟩
 refine Ct c216<|Sw<|Rg hN ?_
 cases H
 exact Rt dR
def strings_IndexFunc.f (k:Nat) (a0:ByteArray) (g1:Int→Option (Bool)):Option (Int):=(strings_indexFunc.f k a0 g1 true).bind fun t217=>(some t217)
theorem strings_IndexFunc.con {k:Nat} {a0:ByteArray} {g1:Int→Option (Bool)} {f1:FuncId} {c1:List V} (hg1:∀ (az0:Int) r,g1 az0=some r→Con Tryd.prog f1 ([K .i32 az0]++c1) (B r)) {r:(Int)} (H:strings_IndexFunc.f k a0 g1=some r):Con Tryd.prog 67 [S a0,.clo f1 c1] (I r):=by
 refine Cg Tryd.func67 rfl fun C hN hL=>?_
 unfold strings_IndexFunc.f at H
 refine Sw<|Rg hN<|Sw ?_
 obtain ⟨t217,h218,H⟩:=bindS H
 refine Rh hN [I t217] (.cons (strings_indexFunc.con (f1:=f1) (c1:=c1) hg1 h218).c .nil) ?_
 cases H
 exact Rt dR
def strings_ContainsFunc.f (k:Nat) (a0:ByteArray) (g1:Int→Option (Bool)):Option (Bool):=(strings_IndexFunc.f k a0 g1).bind fun t219=>(some (decide (t219≥0)))
theorem strings_ContainsFunc.con {k:Nat} {a0:ByteArray} {g1:Int→Option (Bool)} {f1:FuncId} {c1:List V} (hg1:∀ (az0:Int) r,g1 az0=some r→Con Tryd.prog f1 ([K .i32 az0]++c1) (B r)) {r:(Bool)} (H:strings_ContainsFunc.f k a0 g1=some r):Con Tryd.prog 63 [S a0,.clo f1 c1] (B r):=by
 refine Cg Tryd.func63 rfl fun C hN hL=>?_
 unfold strings_ContainsFunc.f at H
 refine Sw<|Rg hN<|Sw ?_
 obtain ⟨t219,h220,H⟩:=bindS H
 refine Rh hN [I t219] (.cons (strings_IndexFunc.con (f1:=f1) (c1:=c1) hg1 h220).c .nil) ?_
 cases H
 exact Rt dR
def strs_Printable.f (k:Nat) (a0:ByteArray):Option (Bool):=(strings_ContainsFunc.f k a0 (fun z0=>strs_Printable_1.f k z0)).bind fun t221=>(some (!t221))
theorem strs_Printable.con {k:Nat} {a0:ByteArray} {r:(Bool)} (H:strs_Printable.f k a0=some r):Con Tryd.prog 58 [S a0] (B r):=by
 refine Cg Tryd.func58 rfl fun C hN hL=>?_
 unfold strs_Printable.f at H
 refine Sw<|Rg hN<|Sw<|Rg hN<|Sw ?_
 obtain ⟨t221,h222,H⟩:=bindS H
 refine Rh hN [B t221] (.cons (strings_ContainsFunc.con (f1:=61) (c1:=[]) (fun _ _ h=>strs_Printable_1.con h) h222).c .nil) ?_
 cases H
 exact Rt dR
def strs_Right.f (k:Nat) (a0:Int) (a1:ByteArray):Option (Bool):=if a0=1 then ((strs_Unbool.f a1).bind fun t224=>(some t224.2)) else (if a0=2 then ((whole_Right.f a1).bind fun t227=>(some t227)) else (if a0=3 then ((strs_Unbits.f k a1).bind fun t230=>(some t230.2.2)) else (if a0=4 then (some true) else (if a0=5 then (some (a1.toList == ([]:List UInt8))) else (if a0=6 then ((oid_Decode.f k a1).bind fun t235=>(some t235.2)) else (if a0=12 then ((strs_Utf.f a1).bind fun t238=>(some t238)) else (if a0=19 then ((strs_Printable.f k a1).bind fun t241=>(some t241)) else (some false))))))))
theorem strs_Right.con {k:Nat} {a0:Int} {a1:ByteArray} {r:(Bool)} (H:strs_Right.f k a0 a1=some r):Con Tryd.prog 53 [I a0,S a1] (B r):=by
 refine Cg Tryd.func53 rfl fun C hN hL=>?_
 unfold strs_Right.f at H
 refine Sw<|Rg hN<|Sw<|Rg hN<|Sw<|Sw<|Rg hN<|Bl<|Sw<|Rg hN ?_
 rcases ifC H with ⟨c223,H⟩ | ⟨c223,H⟩
 ·refine Ct (bq c223) ?_
  obtain ⟨t224,h225,H⟩:=bindS H
  refine Rh hN [.tup [B t224.1,B t224.2]] (.cons (strs_Unbool.con h225).c .nil)<|Sw<|Rg hN ?_
  cases H
  exact Rt dR
 refine Cf (bn c223)<|Sw<|Rg hN ?_
 rcases ifC H with ⟨c226,H⟩ | ⟨c226,H⟩
 ·refine Ct (bq c226) ?_
  obtain ⟨t227,h228,H⟩:=bindS H
  refine Rh hN [B t227] (.cons (whole_Right.con h228).c .nil)<|Sw<|Rg hN ?_
  cases H
  exact Rt dR
 refine Cf (bn c226)<|Sw<|Rg hN ?_
 rcases ifC H with ⟨c229,H⟩ | ⟨c229,H⟩
 ·refine Ct (bq c229) ?_
  obtain ⟨t230,h231,H⟩:=bindS H
  refine Rh hN [.tup [S t230.1,I t230.2.1,B t230.2.2]] (.cons (strs_Unbits.con h231).c .nil)<|Sw<|Rg hN ?_
  cases H
  exact Rt dR
 refine Cf (bn c229)<|Sw<|Rg hN ?_
 rcases ifC H with ⟨c232,H⟩ | ⟨c232,H⟩
 ·refine Ct (bq c232)<|Rg hN<|Sw<|Rg hN ?_
  cases H
  exact Rt dR
 refine Cf (bn c232)<|Sw<|Rg hN ?_
 rcases ifC H with ⟨c233,H⟩ | ⟨c233,H⟩
 ·refine Ct (bq c233)<|Ri hN [] (.cons (strV (rfl:a1.toList=a1.toList) (litL ([]:List UInt8))) .nil) [(31,.bool (a1.toList == ([]:List UInt8)))]<|Sw<|Rg hN ?_
  cases H
  exact Rt dR
 refine Cf (bn c233)<|Sw<|Rg hN ?_
 rcases ifC H with ⟨c234,H⟩ | ⟨c234,H⟩
 ·refine Ct (bq c234) ?_
  obtain ⟨t235,h236,H⟩:=bindS H
  refine Rh hN [.tup [.row none 1 (List.map I t235.1),B t235.2]] (.cons (oid_Decode.con h236).c .nil)<|Sw<|Rg hN ?_
  cases H
  exact Rt dR
 refine Cf (bn c234)<|Sw<|Rg hN ?_
 rcases ifC H with ⟨c237,H⟩ | ⟨c237,H⟩
 ·refine Ct (bq c237) ?_
  obtain ⟨t238,h239,H⟩:=bindS H
  refine Rh hN [B t238] (.cons (strs_Utf.con h239).c .nil)<|Sw<|Rg hN ?_
  cases H
  exact Rt dR
 refine Cf (bn c237)<|Sw<|Rg hN ?_
 rcases (ifC H).symm with ⟨c240,H⟩ | ⟨c240,H⟩
 ·refine Cf (bn c240)<|Sk<|Sw<|Rg hN ?_
  cases H
  exact Rt dR
 refine Ct (bq c240) ?_
 obtain ⟨t241,h242,H⟩:=bindS H
 refine Rh hN [B t241] (.cons (strs_Printable.con h242).c .nil)<|Sw<|Rg hN ?_
 cases H
 exact Rt dR
def tlv_reader_may.j0:Nat→ByteArray→Bool→ByteArray→List S52→List (Nat × Nat)→List Int→Int→Bool→Option (Int × ByteArray × List S52 × List (Nat × Nat) × List Int)
 | 0,_,_,_,_,_,_,_,_=>none
 | k+1,x2,x25,x1000,x1001,x1002,x1003,x2001,x2002=>if x25=true then (some (0,x1000,x1001,x1002,x1003)) else (if x2002=true then (some (5,x1000,x1001,x1002,x1003)) else ((strs_Right.f k x2001 x2).bind fun t250=>(if t250=true then (some (0,x1000,x1001,x1002,x1003)) else (some (5,x1000,x1001,x1002,x1003)))))
def tlv_reader_may.f (k:Nat) (a0_0:ByteArray) (l0_1:List S52) (l0_2:List (Nat × Nat)) (l0_3:List Int) (a1_0:Int) (a1_1:Int) (a1_2:Bool) (a1_3:Int) (a2:ByteArray):Option (Int × ByteArray × List S52 × List (Nat × Nat) × List Int):=if (l0_3.length:Int)≥16 then (some (6,a0_0,l0_1,l0_2,l0_3)) else (if (l0_1.length:Int)≥1000 then (some (4,a0_0,l0_1,l0_2,l0_3)) else (if a1_0=0 then (if a1_2=true then (if a1_1=16 then (tlv_reader_may.j0 k a2 true a0_0 l0_1 l0_2 l0_3 a1_1 a1_2) else (tlv_reader_may.j0 k a2 (a1_1 == 17) a0_0 l0_1 l0_2 l0_3 a1_1 a1_2)) else (tlv_reader_may.j0 k a2 false a0_0 l0_1 l0_2 l0_3 a1_1 a1_2)) else (some (0,a0_0,l0_1,l0_2,l0_3))))
theorem tlv_reader_may.con {k:Nat} {a0_0:ByteArray} {l0_1:List S52} {l0_2:List (Nat × Nat)} {l0_3:List Int} {a1_0:Int} {a1_1:Int} {a1_2:Bool} {a1_3:Int} {a2:ByteArray} {r:(Int × ByteArray × List S52 × List (Nat × Nat) × List Int)} (H:tlv_reader_may.f k a0_0 l0_1 l0_2 l0_3 a1_0 a1_1 a1_2 a1_3 a2=some r):ConX Tryd.prog 42 [.ptr 0 0,.v (.agg [I a1_0,I a1_1,B a1_2,I a1_3]),.v (S a2)] [[S a0_0,.row (some 52) 5 (List.map (v52 1) l0_1),.row (some 72) 1 (List.map Cx l0_2),.row (some 3) 1 (List.map I l0_3)]] (.v (I r.1)) [[S r.2.1,.row (some 52) 5 (List.map (v52 1) r.2.2.1),.row (some 72) 1 (List.map Cx r.2.2.2.1),.row (some 3) 1 (List.map I r.2.2.2.2)]]:=by
 refine conX_of_good Tryd.func42 rfl (by kernel_rfl) (by kernel_rfl) fun C hN hL=>?_
 unfold tlv_reader_may.f at H
 refine Sw<|Rg hN<|Sw<|Bl<|Sw<|Rh hN [I (l0_3.length:Int)] (.cons (lenM I l0_3) .nil) ?_
 rcases ifC H with ⟨c243,H⟩ | ⟨c243,H⟩
 ·refine Ct (dt c243)<|Sw<|Rg hN ?_
  cases H
  exact Good.ret (finX_fitR (.refl _) (FitLL.refl _) (by kernel_rfl) rfl)
 refine Cf (df c243)<|Sw<|Rh hN [I (l0_1.length:Int)] (.cons (lenM (v52 1) l0_1) .nil) ?_
 rcases ifC H with ⟨c244,H⟩ | ⟨c244,H⟩
 ·refine Ct (dt c244)<|Sw<|Rg hN ?_
  cases H
  exact Good.ret (finX_fitR (.refl _) (FitLL.refl _) (by kernel_rfl) rfl)
 refine Cf (df c244)<|Sw<|Rg hN ?_
 rcases (ifC H).symm with ⟨c245,H⟩ | ⟨c245,H⟩
 ·refine Ct (nq c245)<|Sw<|Rg hN ?_
  cases H
  exact Good.ret (finX_fitR (.refl _) (FitLL.refl _) (by kernel_rfl) rfl)
 refine Cf (bneF c245)<|Sw<|Sw<|Good.cut (fun st=>∃ n':Nat,n'≤k∧∃ (x2:ByteArray) (x25:Bool) (x1000:ByteArray) (x1001:List S52) (x1002:List (Nat × Nat)) (x1003:List Int) (x2000:Int) (x2001:Int) (x2002:Bool) (x2003:Int),Wk C st ⟨[(2,.w (S x2)),(4,.d (.ptr 1 0)),(25,.w (B x25))],[.cells [.v (S x1000),.v (.row (some 52) 5 (List.map (v52 1) x1001)),.v (.row (some 72) 1 (List.map Cx x1002)),.v (.row (some 3) 1 (List.map I x1003))],.cells [.v (I x2000),.v (I x2001),.v (B x2002),.v (I x2003)]]⟩∧tlv_reader_may.j0 n' x2 x25 x1000 x1001 x1002 x1003 x2001 x2002=some r) ?_ ?_
 ·rcases (ifC H).symm with ⟨c246,H⟩ | ⟨c246,H⟩
  ·exact Rh hN [B false] (.cons (bf c246) .nil)<|⟨k,by omega,a2,false,a0_0,l0_1,l0_2,l0_3,a1_0,a1_1,a1_2,a1_3,Wo [(2,0),(4,0),(25,0)],H⟩
  rcases ifC H with ⟨c247,H⟩ | ⟨c247,H⟩
  ·exact Rh hN [B true,B true] (.cons c246 (.cons (bq c247) .nil))<|⟨k,by omega,a2,true,a0_0,l0_1,l0_2,l0_3,a1_0,a1_1,a1_2,a1_3,Wo [(2,0),(4,0),(25,0)],H⟩
  exact Rh hN [B true,B false] (.cons c246 (.cons (bn c247) .nil))<|⟨k,by omega,a2,(a1_1 == 17),a0_0,l0_1,l0_2,l0_3,a1_0,a1_1,a1_2,a1_3,Wo [(2,0),(4,0),(25,0)],H⟩
 clear H
 rintro st ⟨n',hn',x2,x25,x1000,x1001,x1002,x1003,x2000,x2001,x2002,x2003,W,H⟩
 rcases n' with _ | k
 ·cases H
 refine W.good ?_
 rw [tlv_reader_may.j0] at H
 rcases ifC H with ⟨c248,H⟩ | ⟨c248,H⟩
 ·refine Ct c248<|Sk<|Ct c248<|Sw<|Rg hN ?_
  cases H
  exact Good.ret (finX_fitR (.refl _) (FitLL.refl _) (by kernel_rfl) rfl)
 refine Cf (bf c248) ?_
 rcases ifC H with ⟨c249,H⟩ | ⟨c249,H⟩
 ·refine Rh hN [B false] (.cons (notF c249) .nil)<|Good.cond false (by kernel_rfl)<|Sk<|Sw<|Rg hN ?_
  cases H
  exact Good.ret (finX_fitR (.refl _) (FitLL.refl _) (by kernel_rfl) rfl)
 obtain ⟨t250,h251,H⟩:=bindS H
 refine Rh hN [B true,B t250] (.cons (notT (bf c249)) (.cons (strs_Right.con h251).c .nil)) ?_
 rcases ifC H with ⟨c252,H⟩ | ⟨c252,H⟩
 ·refine Ct c252<|Sw<|Rg hN ?_
  cases H
  exact Good.ret (finX_fitR (.refl _) (FitLL.refl _) (by kernel_rfl) rfl)
 refine Cf (bf c252)<|Sk<|Sw<|Rg hN ?_
 cases H
 exact Good.ret (finX_fitR (.refl _) (FitLL.refl _) (by kernel_rfl) rfl)
def tlv_reader_put.f (a0_0:ByteArray) (l0_1:List S52) (l0_2:List (Nat × Nat)) (l0_3:List Int) (a1_0:Int) (a1_1:Int) (a1_2:Bool) (a1_3:Int) (a2:ByteArray) (a3:(Nat × Nat)):Option (List S52 × List (Nat × Nat) × List Int):=if (l0_3.length:Int) > 0 then (if 0≤(wrap64 ((l0_3.length:Int) - 1)) then (if (wrap64 ((l0_3.length:Int) - 1)) < (l0_3.length:Int) then (if 0≤(rd l0_3 (wrap64 ((l0_3.length:Int) - 1))) then (if (rd l0_3 (wrap64 ((l0_3.length:Int) - 1))) < (l0_1.length:Int) then (if ((rd_T52 l0_1 (rd l0_3 (wrap64 ((l0_3.length:Int) - 1)))).f4).length < 17592186044416 then ((some (l0_1.set ((rd l0_3 (wrap64 ((l0_3.length:Int) - 1))):Int).toNat (⟨(rd_T52 l0_1 (rd l0_3 (wrap64 ((l0_3.length:Int) - 1)))).f0,(rd_T52 l0_1 (rd l0_3 (wrap64 ((l0_3.length:Int) - 1)))).f1,(rd_T52 l0_1 (rd l0_3 (wrap64 ((l0_3.length:Int) - 1)))).f2,(rd_T52 l0_1 (rd l0_3 (wrap64 ((l0_3.length:Int) - 1)))).f3,(((rd_T52 l0_1 (rd l0_3 (wrap64 ((l0_3.length:Int) - 1)))).f4)++[(l0_1.length:Int)])⟩:S52):List S52)).bind fun y260=>(if a1_2=true then (if l0_3.length < 17592186044416 then (if y260.length < 2199023255552 then (if l0_2.length < 8796093022208 then (some ((y260++[(⟨a1_0,a1_1,a1_2,(⟨#[]⟩:ByteArray),([]:List Int)⟩:S52)]),(l0_2++[a3]),(l0_3++[(l0_1.length:Int)]))) else (none)) else (none)) else (none)) else (if y260.length < 2199023255552 then (if l0_2.length < 8796093022208 then (some ((y260++[(⟨a1_0,a1_1,a1_2,a2,([]:List Int)⟩:S52)]),(l0_2++[a3]),l0_3)) else (none)) else (none)))) else (none)) else (none)) else (none)) else (none)) else (none)) else (if a1_2=true then (if l0_3.length < 17592186044416 then (if l0_1.length < 2199023255552 then (if l0_2.length < 8796093022208 then (some ((l0_1++[(⟨a1_0,a1_1,a1_2,(⟨#[]⟩:ByteArray),([]:List Int)⟩:S52)]),(l0_2++[a3]),(l0_3++[(l0_1.length:Int)]))) else (none)) else (none)) else (none)) else (if l0_1.length < 2199023255552 then (if l0_2.length < 8796093022208 then (some ((l0_1++[(⟨a1_0,a1_1,a1_2,a2,([]:List Int)⟩:S52)]),(l0_2++[a3]),l0_3)) else (none)) else (none)))
theorem tlv_reader_put.con {a0_0:ByteArray} {l0_1:List S52} {l0_2:List (Nat × Nat)} {l0_3:List Int} {a1_0:Int} {a1_1:Int} {a1_2:Bool} {a1_3:Int} {a2:ByteArray} {a3:(Nat × Nat)} {r:(List S52 × List (Nat × Nat) × List Int)} (H:tlv_reader_put.f a0_0 l0_1 l0_2 l0_3 a1_0 a1_1 a1_2 a1_3 a2 a3=some r):ConX Tryd.prog 43 [.ptr 0 0,.v (.agg [I a1_0,I a1_1,B a1_2,I a1_3]),.v (S a2),.v (Cx a3)] [[S a0_0,.row (some 52) 5 (List.map (v52 1) l0_1),.row (some 72) 1 (List.map Cx l0_2),.row (some 3) 1 (List.map I l0_3)]] (.v (.tup [])) [[S a0_0,.row (some 52) 5 (List.map (v52 1) r.1),.row (some 72) 1 (List.map Cx r.2.1),.row (some 3) 1 (List.map I r.2.2)]]:=by
 refine conX_of_good Tryd.func43 rfl (by kernel_rfl) (by kernel_rfl) fun C hN hL=>?_
 unfold tlv_reader_put.f at H
 refine Sw<|Rg hN<|Sw<|Rh hN [I (l0_1.length:Int)] (.cons (lenM (v52 1) l0_1) .nil)<|Sw<|Sw<|Rh hN [I (l0_3.length:Int)] (.cons (lenM I l0_3) .nil) ?_
 rcases (ifC H).symm with ⟨c253,H⟩ | ⟨c253,H⟩
 ·refine Cf (df c253)<|Sk<|Sw<|Rg hN<|Sw<|Sw<|Rg hN ?_
  rcases (ifC H).symm with ⟨c272,H⟩ | ⟨c272,H⟩
  ·refine Cf (bf c272)<|Rg hN<|Sw ?_
   obtain ⟨c279,H⟩:=ifS H
   refine Rd hm hN (.i 0 (.q 1 [[4,3,2],[]] (.q 2 [[4,3],[]] (.q 3 [[4],[]] (.q 4 [[],[]] (.q 5 [[6],[]] (.e 6 (.e 7 (.i 8 (.i 9 (.e 10 .z))))))))))) [(0,some (.pt [S a0_0,.row none 5 (List.map (v52 0) l0_1),.row none 1 (List.map Cx l0_2),.row none 1 (List.map I l0_3)])),(10,some (.pt [I a1_0,I a1_1,B a1_2,S a2,.nil 3 1]))] (.cons (ptS (shrC (rfl:(V.shr (S a0_0))=S a0_0) (shrC (shrM (some 52) 5 (v52 1) (v52 0) l0_1 (v52.shr _)) (shrC (shrM (some 72) 1 Cx Cx l0_2 (fun _=>rfl)) (shrC (shrM (some 3) 1 I I l0_3 (fun _=>rfl)) (rfl:shrL []=[])))))) (.cons (ptS (shrC (rfl:(V.shr (I a1_0))=I a1_0) (shrC (rfl:(V.shr (I a1_1))=I a1_1) (shrC (rfl:(V.shr (B a1_2))=B a1_2) (shrC (rfl:(V.shr (S a2))=S a2) (shrC (rfl:(V.shr (.nil 3 1))=.nil 3 1) (rfl:shrL []=[]))))))) .nil)) [.kb true,.row (some 52) 5 (List.map (v52 1) (l0_1++[(⟨a1_0,a1_1,a1_2,a2,([]:List Int)⟩:S52)]))] [] (.cons (fitM (v52 1) l0_1 [(⟨a1_0,a1_1,a1_2,a2,([]:List Int)⟩:S52)] (.cons (.agg (.cons (.refl _) (.cons (.refl _) (.cons (.refl _) (.cons (.refl _) (.cons (.nilO 3 1) .nil)))))) .nil)) (.cons (limM1 (v52 1) c279) .nil)) .nil [] [] ?_
   obtain ⟨c281,H⟩:=ifS H
   refine Rh hN [.kb true,.row (some 72) 1 (List.map Cx (l0_2++[a3]))] (.cons (fitM Cx l0_2 [a3] (.refl _)) (.cons (limM1 Cx c281) .nil)) ?_
   cases H
   exact finX_fit (.refl _) (FitLL.refl _) (by kernel_rfl) rfl
  refine Ct c272 ?_
  obtain ⟨c273,H⟩:=ifS H
  refine Rh hN [.kb true,.row (some 3) 1 (List.map I (l0_3++[(l0_1.length:Int)]))] (.cons (fitM I l0_3 [(l0_1.length:Int)] (.refl _)) (.cons (limM1 I c273) .nil))<|Sw ?_
  obtain ⟨c275,H⟩:=ifS H
  refine Rd hm hN (.i 0 (.q 1 [[4,3,2],[]] (.q 2 [[4,3],[]] (.q 3 [[4],[]] (.q 4 [[],[]] (.q 5 [[6],[]] (.e 6 (.e 7 (.i 8 (.i 9 (.e 10 .z))))))))))) [(0,some (.pt [S a0_0,.row none 5 (List.map (v52 0) l0_1),.row none 1 (List.map Cx l0_2),.row none 1 (List.map I (l0_3++[(l0_1.length:Int)]))])),(10,some (.pt [I a1_0,I a1_1,B a1_2,S (⟨#[]⟩:ByteArray),.nil 3 1]))] (.cons (ptS (shrC (rfl:(V.shr (S a0_0))=S a0_0) (shrC (shrM (some 52) 5 (v52 1) (v52 0) l0_1 (v52.shr _)) (shrC (shrM (some 72) 1 Cx Cx l0_2 (fun _=>rfl)) (shrC (shrM (some 3) 1 I I (l0_3++[(l0_1.length:Int)]) (fun _=>rfl)) (rfl:shrL []=[])))))) (.cons (ptS (shrC (rfl:(V.shr (I a1_0))=I a1_0) (shrC (rfl:(V.shr (I a1_1))=I a1_1) (shrC (rfl:(V.shr (B a1_2))=B a1_2) (shrC (rfl:(V.shr (S (⟨#[]⟩:ByteArray)))=S (⟨#[]⟩:ByteArray)) (shrC (rfl:(V.shr (.nil 3 1))=.nil 3 1) (rfl:shrL []=[]))))))) .nil)) [.kb true,.row (some 52) 5 (List.map (v52 1) (l0_1++[(⟨a1_0,a1_1,a1_2,(⟨#[]⟩:ByteArray),([]:List Int)⟩:S52)]))] [] (.cons (fitM (v52 1) l0_1 [(⟨a1_0,a1_1,a1_2,(⟨#[]⟩:ByteArray),([]:List Int)⟩:S52)] (.cons (.agg (.cons (.refl _) (.cons (.refl _) (.cons (.refl _) (.cons (.refl _) (.cons (.nilO 3 1) .nil)))))) .nil)) (.cons (limM1 (v52 1) c275) .nil)) .nil [] [] ?_
  obtain ⟨c277,H⟩:=ifS H
  refine Rh hN [.kb true,.row (some 72) 1 (List.map Cx (l0_2++[a3]))] (.cons (fitM Cx l0_2 [a3] (.refl _)) (.cons (limM1 Cx c277) .nil)) ?_
  cases H
  exact finX_fit (.refl _) (FitLL.refl _) (by kernel_rfl) rfl
 refine Ct (dt c253)<|Sw ?_
 obtain ⟨c254,H⟩:=ifS H
 obtain ⟨c255,H⟩:=ifS H
 refine Rd hm hN (.qs 12 0 (.q 12 [] .z)) [(0,some (.pt [S a0_0,.row none 5 (List.map (v52 0) l0_1),.row none 1 (List.map Cx l0_2),.row none 1 (List.map I l0_3)]))] (.cons (ptS (shrC (rfl:(V.shr (S a0_0))=S a0_0) (shrC (shrM (some 52) 5 (v52 1) (v52 0) l0_1 (v52.shr _)) (shrC (shrM (some 72) 1 Cx Cx l0_2 (fun _=>rfl)) (shrC (shrM (some 3) 1 I I l0_3 (fun _=>rfl)) (rfl:shrL []=[])))))) .nil) [I (l0_3.length:Int),I (rd l0_3 (wrap64 ((l0_3.length:Int) - 1)))] [I (l0_3.length:Int),I (rd l0_3 (wrap64 ((l0_3.length:Int) - 1)))] (.cons (lenM I l0_3) (.cons c254 (.cons (ltM I c255) (.cons (atM I (0:Int) c254 c255) .nil)))) (.cons (lenM I l0_3) (.cons c254 (.cons (atM I (0:Int) c254 c255) .nil))) [] [] ?_
 obtain ⟨c256,H⟩:=ifS H
 obtain ⟨c257,H⟩:=ifS H
 obtain ⟨c258,H⟩:=ifS H
 replace H:=bindI H
 refine Good.regTB (n:=3) hm hN hL (.i 0 (.i 1 (.i 2 (.i 4 (.q 5 [[12,11,10,8,7,6],[]] (.q 6 [[12,11,10,8,7],[]] (.q 7 [[12,11,10,8],[]] (.q 8 [[12,11,10],[]] (.q 9 [[12,11,10],[]] (.q 10 [[12,11],[]] (.q 11 [[12],[]] (.q 12 [[],[]] (.q 13 [[14],[]] (.b 3 [.kb true,(v52 1) (rd_T52 l0_1 (rd l0_3 (wrap64 ((l0_3.length:Int) - 1)))),.row (some 3) 1 (List.map I (((rd_T52 l0_1 (rd l0_3 (wrap64 ((l0_3.length:Int) - 1)))).f4)++[(l0_1.length:Int)])),setC ((v52 1) (rd_T52 l0_1 (rd l0_3 (wrap64 ((l0_3.length:Int) - 1))))) 4 [.any],(v52 1) (⟨(rd_T52 l0_1 (rd l0_3 (wrap64 ((l0_3.length:Int) - 1)))).f0,(rd_T52 l0_1 (rd l0_3 (wrap64 ((l0_3.length:Int) - 1)))).f1,(rd_T52 l0_1 (rd l0_3 (wrap64 ((l0_3.length:Int) - 1)))).f2,(rd_T52 l0_1 (rd l0_3 (wrap64 ((l0_3.length:Int) - 1)))).f3,(((rd_T52 l0_1 (rd l0_3 (wrap64 ((l0_3.length:Int) - 1)))).f4)++[(l0_1.length:Int)])⟩:S52),.row (some 52) 5 (List.map (v52 1) (l0_1.set ((rd l0_3 (wrap64 ((l0_3.length:Int) - 1))):Int).toNat (⟨(rd_T52 l0_1 (rd l0_3 (wrap64 ((l0_3.length:Int) - 1)))).f0,(rd_T52 l0_1 (rd l0_3 (wrap64 ((l0_3.length:Int) - 1)))).f1,(rd_T52 l0_1 (rd l0_3 (wrap64 ((l0_3.length:Int) - 1)))).f2,(rd_T52 l0_1 (rd l0_3 (wrap64 ((l0_3.length:Int) - 1)))).f3,(((rd_T52 l0_1 (rd l0_3 (wrap64 ((l0_3.length:Int) - 1)))).f4)++[(l0_1.length:Int)])⟩:S52)))] [] (.e 14 (.e 15 (.e 16 (.e 17 (.e 18 .z))))) [] [] (.e 14 (.b 3 [.kb true,(v52 1) (rd_T52 l0_1 (rd l0_3 (wrap64 ((l0_3.length:Int) - 1)))),.row (some 3) 1 (List.map I (((rd_T52 l0_1 (rd l0_3 (wrap64 ((l0_3.length:Int) - 1)))).f4)++[(l0_1.length:Int)])),setC ((v52 1) (rd_T52 l0_1 (rd l0_3 (wrap64 ((l0_3.length:Int) - 1))))) 4 [.any],(v52 1) (⟨(rd_T52 l0_1 (rd l0_3 (wrap64 ((l0_3.length:Int) - 1)))).f0,(rd_T52 l0_1 (rd l0_3 (wrap64 ((l0_3.length:Int) - 1)))).f1,(rd_T52 l0_1 (rd l0_3 (wrap64 ((l0_3.length:Int) - 1)))).f2,(rd_T52 l0_1 (rd l0_3 (wrap64 ((l0_3.length:Int) - 1)))).f3,(((rd_T52 l0_1 (rd l0_3 (wrap64 ((l0_3.length:Int) - 1)))).f4)++[(l0_1.length:Int)])⟩:S52),.row (some 52) 5 (List.map (v52 1) (l0_1.set ((rd l0_3 (wrap64 ((l0_3.length:Int) - 1))):Int).toNat (⟨(rd_T52 l0_1 (rd l0_3 (wrap64 ((l0_3.length:Int) - 1)))).f0,(rd_T52 l0_1 (rd l0_3 (wrap64 ((l0_3.length:Int) - 1)))).f1,(rd_T52 l0_1 (rd l0_3 (wrap64 ((l0_3.length:Int) - 1)))).f2,(rd_T52 l0_1 (rd l0_3 (wrap64 ((l0_3.length:Int) - 1)))).f3,(((rd_T52 l0_1 (rd l0_3 (wrap64 ((l0_3.length:Int) - 1)))).f4)++[(l0_1.length:Int)])⟩:S52)))] [] (.e 15 (.e 16 (.e 17 (.e 18 .z)))) [.kb true,(v52 1) (rd_T52 l0_1 (rd l0_3 (wrap64 ((l0_3.length:Int) - 1)))),.row (some 3) 1 (List.map I (((rd_T52 l0_1 (rd l0_3 (wrap64 ((l0_3.length:Int) - 1)))).f4)++[(l0_1.length:Int)])),setC ((v52 1) (rd_T52 l0_1 (rd l0_3 (wrap64 ((l0_3.length:Int) - 1))))) 4 [.any],(v52 1) (⟨(rd_T52 l0_1 (rd l0_3 (wrap64 ((l0_3.length:Int) - 1)))).f0,(rd_T52 l0_1 (rd l0_3 (wrap64 ((l0_3.length:Int) - 1)))).f1,(rd_T52 l0_1 (rd l0_3 (wrap64 ((l0_3.length:Int) - 1)))).f2,(rd_T52 l0_1 (rd l0_3 (wrap64 ((l0_3.length:Int) - 1)))).f3,(((rd_T52 l0_1 (rd l0_3 (wrap64 ((l0_3.length:Int) - 1)))).f4)++[(l0_1.length:Int)])⟩:S52),.row (some 52) 5 (List.map (v52 1) (l0_1.set ((rd l0_3 (wrap64 ((l0_3.length:Int) - 1))):Int).toNat (⟨(rd_T52 l0_1 (rd l0_3 (wrap64 ((l0_3.length:Int) - 1)))).f0,(rd_T52 l0_1 (rd l0_3 (wrap64 ((l0_3.length:Int) - 1)))).f1,(rd_T52 l0_1 (rd l0_3 (wrap64 ((l0_3.length:Int) - 1)))).f2,(rd_T52 l0_1 (rd l0_3 (wrap64 ((l0_3.length:Int) - 1)))).f3,(((rd_T52 l0_1 (rd l0_3 (wrap64 ((l0_3.length:Int) - 1)))).f4)++[(l0_1.length:Int)])⟩:S52)))] [] (.e 15 (.e 3 (.e 16 (.e 17 (.e 18 .z))))))))))))))))))))) [(0,some (.pt [S a0_0,.row none 5 (List.map (v52 0) l0_1),.row none 1 (List.map Cx l0_2),.row none 1 (List.map I l0_3)])),(8,none),(9,none)] (by kernel_rfl) (.cons (ptS (shrC (rfl:(V.shr (S a0_0))=S a0_0) (shrC (shrM (some 52) 5 (v52 1) (v52 0) l0_1 (v52.shr _)) (shrC (shrM (some 72) 1 Cx Cx l0_2 (fun _=>rfl)) (shrC (shrM (some 3) 1 I I l0_3 (fun _=>rfl)) (rfl:shrL []=[])))))) .nil) [(v52 1) (rd_T52 l0_1 (rd l0_3 (wrap64 ((l0_3.length:Int) - 1))))] [(v52 0) (rd_T52 l0_1 (rd l0_3 (wrap64 ((l0_3.length:Int) - 1))))] (.cons (.cons c256 (.cons (ltM (v52 1) c257) (.cons (atM (v52 1) z52 c256 c257) (.cons (atM (v52 1) z52 c256 c257) (.cons (fitM I ((rd_T52 l0_1 (rd l0_3 (wrap64 ((l0_3.length:Int) - 1)))).f4) [(l0_1.length:Int)] (.refl _)) (.cons (limM1 I c258) (.cons c256 (.cons (ltH (v52 1) (m:=((rd l0_3 (wrap64 ((l0_3.length:Int) - 1))):Int).toNat) (X:=setC ((v52 1) (rd_T52 l0_1 (rd l0_3 (wrap64 ((l0_3.length:Int) - 1))))) 4 [.any]) c257) (.cons (atH (v52 1) (X:=setC ((v52 1) (rd_T52 l0_1 (rd l0_3 (wrap64 ((l0_3.length:Int) - 1))))) 4 [.any]) c256 c257) (.cons (Fit.refl ((v52 1) (⟨(rd_T52 l0_1 (rd l0_3 (wrap64 ((l0_3.length:Int) - 1)))).f0,(rd_T52 l0_1 (rd l0_3 (wrap64 ((l0_3.length:Int) - 1)))).f1,(rd_T52 l0_1 (rd l0_3 (wrap64 ((l0_3.length:Int) - 1)))).f2,(rd_T52 l0_1 (rd l0_3 (wrap64 ((l0_3.length:Int) - 1)))).f3,(((rd_T52 l0_1 (rd l0_3 (wrap64 ((l0_3.length:Int) - 1)))).f4)++[(l0_1.length:Int)])⟩:S52))) (.cons (setH (v52 1) (l:=l0_1) (n:=((rd l0_3 (wrap64 ((l0_3.length:Int) - 1))):Int).toNat) (x:=(⟨(rd_T52 l0_1 (rd l0_3 (wrap64 ((l0_3.length:Int) - 1)))).f0,(rd_T52 l0_1 (rd l0_3 (wrap64 ((l0_3.length:Int) - 1)))).f1,(rd_T52 l0_1 (rd l0_3 (wrap64 ((l0_3.length:Int) - 1)))).f2,(rd_T52 l0_1 (rd l0_3 (wrap64 ((l0_3.length:Int) - 1)))).f3,(((rd_T52 l0_1 (rd l0_3 (wrap64 ((l0_3.length:Int) - 1)))).f4)++[(l0_1.length:Int)])⟩:S52)) (X:=setC ((v52 1) (rd_T52 l0_1 (rd l0_3 (wrap64 ((l0_3.length:Int) - 1))))) 4 [.any])) .nil))))))))))) (.cons c256 (.cons (atM (v52 0) z52 c256 c257) .nil)) (.cons (.cons c256 (.cons (ltM (v52 1) c257) (.cons (atM (v52 1) z52 c256 c257) (.cons (atM (v52 1) z52 c256 c257) (.cons (fitM I ((rd_T52 l0_1 (rd l0_3 (wrap64 ((l0_3.length:Int) - 1)))).f4) [(l0_1.length:Int)] (.refl _)) (.cons (limM1 I c258) (.cons c256 (.cons (ltH (v52 1) (m:=((rd l0_3 (wrap64 ((l0_3.length:Int) - 1))):Int).toNat) (X:=setC ((v52 1) (rd_T52 l0_1 (rd l0_3 (wrap64 ((l0_3.length:Int) - 1))))) 4 [.any]) c257) (.cons (atH (v52 1) (X:=setC ((v52 1) (rd_T52 l0_1 (rd l0_3 (wrap64 ((l0_3.length:Int) - 1))))) 4 [.any]) c256 c257) (.cons (Fit.refl ((v52 1) (⟨(rd_T52 l0_1 (rd l0_3 (wrap64 ((l0_3.length:Int) - 1)))).f0,(rd_T52 l0_1 (rd l0_3 (wrap64 ((l0_3.length:Int) - 1)))).f1,(rd_T52 l0_1 (rd l0_3 (wrap64 ((l0_3.length:Int) - 1)))).f2,(rd_T52 l0_1 (rd l0_3 (wrap64 ((l0_3.length:Int) - 1)))).f3,(((rd_T52 l0_1 (rd l0_3 (wrap64 ((l0_3.length:Int) - 1)))).f4)++[(l0_1.length:Int)])⟩:S52))) (.cons (setH (v52 1) (l:=l0_1) (n:=((rd l0_3 (wrap64 ((l0_3.length:Int) - 1))):Int).toNat) (x:=(⟨(rd_T52 l0_1 (rd l0_3 (wrap64 ((l0_3.length:Int) - 1)))).f0,(rd_T52 l0_1 (rd l0_3 (wrap64 ((l0_3.length:Int) - 1)))).f1,(rd_T52 l0_1 (rd l0_3 (wrap64 ((l0_3.length:Int) - 1)))).f2,(rd_T52 l0_1 (rd l0_3 (wrap64 ((l0_3.length:Int) - 1)))).f3,(((rd_T52 l0_1 (rd l0_3 (wrap64 ((l0_3.length:Int) - 1)))).f4)++[(l0_1.length:Int)])⟩:S52)) (X:=setC ((v52 1) (rd_T52 l0_1 (rd l0_3 (wrap64 ((l0_3.length:Int) - 1))))) 4 [.any])) .nil))))))))))) (.cons c256 (.cons (atM (v52 0) z52 c256 c257) .nil)) (.cons (.cons c256 (.cons (ltM (v52 1) c257) (.cons (atM (v52 1) z52 c256 c257) (.cons (atM (v52 1) z52 c256 c257) (.cons (fitM I ((rd_T52 l0_1 (rd l0_3 (wrap64 ((l0_3.length:Int) - 1)))).f4) [(l0_1.length:Int)] (.refl _)) (.cons (limM1 I c258) (.cons c256 (.cons (ltH (v52 1) (m:=((rd l0_3 (wrap64 ((l0_3.length:Int) - 1))):Int).toNat) (X:=setC ((v52 1) (rd_T52 l0_1 (rd l0_3 (wrap64 ((l0_3.length:Int) - 1))))) 4 [.any]) c257) (.cons (atH (v52 1) (X:=setC ((v52 1) (rd_T52 l0_1 (rd l0_3 (wrap64 ((l0_3.length:Int) - 1))))) 4 [.any]) c256 c257) (.cons (Fit.refl ((v52 1) (⟨(rd_T52 l0_1 (rd l0_3 (wrap64 ((l0_3.length:Int) - 1)))).f0,(rd_T52 l0_1 (rd l0_3 (wrap64 ((l0_3.length:Int) - 1)))).f1,(rd_T52 l0_1 (rd l0_3 (wrap64 ((l0_3.length:Int) - 1)))).f2,(rd_T52 l0_1 (rd l0_3 (wrap64 ((l0_3.length:Int) - 1)))).f3,(((rd_T52 l0_1 (rd l0_3 (wrap64 ((l0_3.length:Int) - 1)))).f4)++[(l0_1.length:Int)])⟩:S52))) (.cons (setH (v52 1) (l:=l0_1) (n:=((rd l0_3 (wrap64 ((l0_3.length:Int) - 1))):Int).toNat) (x:=(⟨(rd_T52 l0_1 (rd l0_3 (wrap64 ((l0_3.length:Int) - 1)))).f0,(rd_T52 l0_1 (rd l0_3 (wrap64 ((l0_3.length:Int) - 1)))).f1,(rd_T52 l0_1 (rd l0_3 (wrap64 ((l0_3.length:Int) - 1)))).f2,(rd_T52 l0_1 (rd l0_3 (wrap64 ((l0_3.length:Int) - 1)))).f3,(((rd_T52 l0_1 (rd l0_3 (wrap64 ((l0_3.length:Int) - 1)))).f4)++[(l0_1.length:Int)])⟩:S52)) (X:=setC ((v52 1) (rd_T52 l0_1 (rd l0_3 (wrap64 ((l0_3.length:Int) - 1))))) 4 [.any])) .nil))))))))))) (.cons c256 (.cons (atM (v52 0) z52 c256 c257) .nil)) .nil))) [] [] (by kernel_rfl) (by kernel_rfl) [[],[],[]] [(0,0),(2,0),(3,0),(5,0),(8,0)] [(0,.d (.ptr 0 0)),(2,.w (S a2)),(3,.w (Cx a3)),(5,.d (.ptr 1 0)),(8,.w (I (l0_1.length:Int)))] [.cells [.v (S a0_0),.v (.row (some 52) 5 (List.map (v52 1) (l0_1.set ((rd l0_3 (wrap64 ((l0_3.length:Int) - 1))):Int).toNat (⟨(rd_T52 l0_1 (rd l0_3 (wrap64 ((l0_3.length:Int) - 1)))).f0,(rd_T52 l0_1 (rd l0_3 (wrap64 ((l0_3.length:Int) - 1)))).f1,(rd_T52 l0_1 (rd l0_3 (wrap64 ((l0_3.length:Int) - 1)))).f2,(rd_T52 l0_1 (rd l0_3 (wrap64 ((l0_3.length:Int) - 1)))).f3,(((rd_T52 l0_1 (rd l0_3 (wrap64 ((l0_3.length:Int) - 1)))).f4)++[(l0_1.length:Int)])⟩:S52)))),.v (.row (some 72) 1 (List.map Cx l0_2)),.v (.row (some 3) 1 (List.map I l0_3))],.cells [.v (I a1_0),.v (I a1_1),.v (B a1_2),.v (I a1_3)]] (by kernel_rfl) (by kernel_rfl)<|Sw<|Rg hN<|Sw<|Sw<|Rg hN ?_
 rcases (ifC H).symm with ⟨c261,H⟩ | ⟨c261,H⟩
 ·refine Cf (bf c261)<|Rg hN<|Sw ?_
  obtain ⟨c268,H⟩:=ifS H
  refine Rd hm hN (.i 0 (.q 1 [[4,3,2],[]] (.q 2 [[4,3],[]] (.q 3 [[4],[]] (.q 4 [[],[]] (.q 5 [[6],[]] (.e 6 (.e 7 (.i 8 (.i 9 (.e 10 .z))))))))))) [(0,some (.pt [S a0_0,.row none 5 (List.map (v52 0) (l0_1.set ((rd l0_3 (wrap64 ((l0_3.length:Int) - 1))):Int).toNat (⟨(rd_T52 l0_1 (rd l0_3 (wrap64 ((l0_3.length:Int) - 1)))).f0,(rd_T52 l0_1 (rd l0_3 (wrap64 ((l0_3.length:Int) - 1)))).f1,(rd_T52 l0_1 (rd l0_3 (wrap64 ((l0_3.length:Int) - 1)))).f2,(rd_T52 l0_1 (rd l0_3 (wrap64 ((l0_3.length:Int) - 1)))).f3,(((rd_T52 l0_1 (rd l0_3 (wrap64 ((l0_3.length:Int) - 1)))).f4)++[(l0_1.length:Int)])⟩:S52))),.row none 1 (List.map Cx l0_2),.row none 1 (List.map I l0_3)])),(10,some (.pt [I a1_0,I a1_1,B a1_2,S a2,.nil 3 1]))] (.cons (ptS (shrC (rfl:(V.shr (S a0_0))=S a0_0) (shrC (shrM (some 52) 5 (v52 1) (v52 0) (l0_1.set ((rd l0_3 (wrap64 ((l0_3.length:Int) - 1))):Int).toNat (⟨(rd_T52 l0_1 (rd l0_3 (wrap64 ((l0_3.length:Int) - 1)))).f0,(rd_T52 l0_1 (rd l0_3 (wrap64 ((l0_3.length:Int) - 1)))).f1,(rd_T52 l0_1 (rd l0_3 (wrap64 ((l0_3.length:Int) - 1)))).f2,(rd_T52 l0_1 (rd l0_3 (wrap64 ((l0_3.length:Int) - 1)))).f3,(((rd_T52 l0_1 (rd l0_3 (wrap64 ((l0_3.length:Int) - 1)))).f4)++[(l0_1.length:Int)])⟩:S52)) (v52.shr _)) (shrC (shrM (some 72) 1 Cx Cx l0_2 (fun _=>rfl)) (shrC (shrM (some 3) 1 I I l0_3 (fun _=>rfl)) (rfl:shrL []=[])))))) (.cons (ptS (shrC (rfl:(V.shr (I a1_0))=I a1_0) (shrC (rfl:(V.shr (I a1_1))=I a1_1) (shrC (rfl:(V.shr (B a1_2))=B a1_2) (shrC (rfl:(V.shr (S a2))=S a2) (shrC (rfl:(V.shr (.nil 3 1))=.nil 3 1) (rfl:shrL []=[]))))))) .nil)) [.kb true,.row (some 52) 5 (List.map (v52 1) ((l0_1.set ((rd l0_3 (wrap64 ((l0_3.length:Int) - 1))):Int).toNat (⟨(rd_T52 l0_1 (rd l0_3 (wrap64 ((l0_3.length:Int) - 1)))).f0,(rd_T52 l0_1 (rd l0_3 (wrap64 ((l0_3.length:Int) - 1)))).f1,(rd_T52 l0_1 (rd l0_3 (wrap64 ((l0_3.length:Int) - 1)))).f2,(rd_T52 l0_1 (rd l0_3 (wrap64 ((l0_3.length:Int) - 1)))).f3,(((rd_T52 l0_1 (rd l0_3 (wrap64 ((l0_3.length:Int) - 1)))).f4)++[(l0_1.length:Int)])⟩:S52))++[(⟨a1_0,a1_1,a1_2,a2,([]:List Int)⟩:S52)]))] [] (.cons (fitM (v52 1) (l0_1.set ((rd l0_3 (wrap64 ((l0_3.length:Int) - 1))):Int).toNat (⟨(rd_T52 l0_1 (rd l0_3 (wrap64 ((l0_3.length:Int) - 1)))).f0,(rd_T52 l0_1 (rd l0_3 (wrap64 ((l0_3.length:Int) - 1)))).f1,(rd_T52 l0_1 (rd l0_3 (wrap64 ((l0_3.length:Int) - 1)))).f2,(rd_T52 l0_1 (rd l0_3 (wrap64 ((l0_3.length:Int) - 1)))).f3,(((rd_T52 l0_1 (rd l0_3 (wrap64 ((l0_3.length:Int) - 1)))).f4)++[(l0_1.length:Int)])⟩:S52)) [(⟨a1_0,a1_1,a1_2,a2,([]:List Int)⟩:S52)] (.cons (.agg (.cons (.refl _) (.cons (.refl _) (.cons (.refl _) (.cons (.refl _) (.cons (.nilO 3 1) .nil)))))) .nil)) (.cons (limM1 (v52 1) c268) .nil)) .nil [] [] ?_
  obtain ⟨c270,H⟩:=ifS H
  refine Rh hN [.kb true,.row (some 72) 1 (List.map Cx (l0_2++[a3]))] (.cons (fitM Cx l0_2 [a3] (.refl _)) (.cons (limM1 Cx c270) .nil)) ?_
  cases H
  exact finX_fit (.refl _) (FitLL.refl _) (by kernel_rfl) rfl
 refine Ct c261 ?_
 obtain ⟨c262,H⟩:=ifS H
 refine Rh hN [.kb true,.row (some 3) 1 (List.map I (l0_3++[(l0_1.length:Int)]))] (.cons (fitM I l0_3 [(l0_1.length:Int)] (.refl _)) (.cons (limM1 I c262) .nil))<|Sw ?_
 obtain ⟨c264,H⟩:=ifS H
 refine Rd hm hN (.i 0 (.q 1 [[4,3,2],[]] (.q 2 [[4,3],[]] (.q 3 [[4],[]] (.q 4 [[],[]] (.q 5 [[6],[]] (.e 6 (.e 7 (.i 8 (.i 9 (.e 10 .z))))))))))) [(0,some (.pt [S a0_0,.row none 5 (List.map (v52 0) (l0_1.set ((rd l0_3 (wrap64 ((l0_3.length:Int) - 1))):Int).toNat (⟨(rd_T52 l0_1 (rd l0_3 (wrap64 ((l0_3.length:Int) - 1)))).f0,(rd_T52 l0_1 (rd l0_3 (wrap64 ((l0_3.length:Int) - 1)))).f1,(rd_T52 l0_1 (rd l0_3 (wrap64 ((l0_3.length:Int) - 1)))).f2,(rd_T52 l0_1 (rd l0_3 (wrap64 ((l0_3.length:Int) - 1)))).f3,(((rd_T52 l0_1 (rd l0_3 (wrap64 ((l0_3.length:Int) - 1)))).f4)++[(l0_1.length:Int)])⟩:S52))),.row none 1 (List.map Cx l0_2),.row none 1 (List.map I (l0_3++[(l0_1.length:Int)]))])),(10,some (.pt [I a1_0,I a1_1,B a1_2,S (⟨#[]⟩:ByteArray),.nil 3 1]))] (.cons (ptS (shrC (rfl:(V.shr (S a0_0))=S a0_0) (shrC (shrM (some 52) 5 (v52 1) (v52 0) (l0_1.set ((rd l0_3 (wrap64 ((l0_3.length:Int) - 1))):Int).toNat (⟨(rd_T52 l0_1 (rd l0_3 (wrap64 ((l0_3.length:Int) - 1)))).f0,(rd_T52 l0_1 (rd l0_3 (wrap64 ((l0_3.length:Int) - 1)))).f1,(rd_T52 l0_1 (rd l0_3 (wrap64 ((l0_3.length:Int) - 1)))).f2,(rd_T52 l0_1 (rd l0_3 (wrap64 ((l0_3.length:Int) - 1)))).f3,(((rd_T52 l0_1 (rd l0_3 (wrap64 ((l0_3.length:Int) - 1)))).f4)++[(l0_1.length:Int)])⟩:S52)) (v52.shr _)) (shrC (shrM (some 72) 1 Cx Cx l0_2 (fun _=>rfl)) (shrC (shrM (some 3) 1 I I (l0_3++[(l0_1.length:Int)]) (fun _=>rfl)) (rfl:shrL []=[])))))) (.cons (ptS (shrC (rfl:(V.shr (I a1_0))=I a1_0) (shrC (rfl:(V.shr (I a1_1))=I a1_1) (shrC (rfl:(V.shr (B a1_2))=B a1_2) (shrC (rfl:(V.shr (S (⟨#[]⟩:ByteArray)))=S (⟨#[]⟩:ByteArray)) (shrC (rfl:(V.shr (.nil 3 1))=.nil 3 1) (rfl:shrL []=[]))))))) .nil)) [.kb true,.row (some 52) 5 (List.map (v52 1) ((l0_1.set ((rd l0_3 (wrap64 ((l0_3.length:Int) - 1))):Int).toNat (⟨(rd_T52 l0_1 (rd l0_3 (wrap64 ((l0_3.length:Int) - 1)))).f0,(rd_T52 l0_1 (rd l0_3 (wrap64 ((l0_3.length:Int) - 1)))).f1,(rd_T52 l0_1 (rd l0_3 (wrap64 ((l0_3.length:Int) - 1)))).f2,(rd_T52 l0_1 (rd l0_3 (wrap64 ((l0_3.length:Int) - 1)))).f3,(((rd_T52 l0_1 (rd l0_3 (wrap64 ((l0_3.length:Int) - 1)))).f4)++[(l0_1.length:Int)])⟩:S52))++[(⟨a1_0,a1_1,a1_2,(⟨#[]⟩:ByteArray),([]:List Int)⟩:S52)]))] [] (.cons (fitM (v52 1) (l0_1.set ((rd l0_3 (wrap64 ((l0_3.length:Int) - 1))):Int).toNat (⟨(rd_T52 l0_1 (rd l0_3 (wrap64 ((l0_3.length:Int) - 1)))).f0,(rd_T52 l0_1 (rd l0_3 (wrap64 ((l0_3.length:Int) - 1)))).f1,(rd_T52 l0_1 (rd l0_3 (wrap64 ((l0_3.length:Int) - 1)))).f2,(rd_T52 l0_1 (rd l0_3 (wrap64 ((l0_3.length:Int) - 1)))).f3,(((rd_T52 l0_1 (rd l0_3 (wrap64 ((l0_3.length:Int) - 1)))).f4)++[(l0_1.length:Int)])⟩:S52)) [(⟨a1_0,a1_1,a1_2,(⟨#[]⟩:ByteArray),([]:List Int)⟩:S52)] (.cons (.agg (.cons (.refl _) (.cons (.refl _) (.cons (.refl _) (.cons (.refl _) (.cons (.nilO 3 1) .nil)))))) .nil)) (.cons (limM1 (v52 1) c264) .nil)) .nil [] [] ?_
 obtain ⟨c266,H⟩:=ifS H
 refine Rh hN [.kb true,.row (some 72) 1 (List.map Cx (l0_2++[a3]))] (.cons (fitM Cx l0_2 [a3] (.refl _)) (.cons (limM1 Cx c266) .nil)) ?_
 cases H
 exact finX_fit (.refl _) (FitLL.refl _) (by kernel_rfl) rfl
def span_Of.f (a0:Int) (a1:Int):Option ((Nat × Nat)):=if (mn a0 a1) < 0 then (some (0,0)) else (if (mx a0 a1) > 65552 then (some (0,0)) else ((span_sure.f (floatOfInt .f64 a0,floatOfInt .f64 a1)).bind fun t285=>(some t285)))
theorem span_Of.con {a0:Int} {a1:Int} {r:((Nat × Nat))} (H:span_Of.f a0 a1=some r):Con Tryd.prog 44 [I a0,I a1] (Cx r):=by
 refine Cg Tryd.func44 rfl fun C hN hL=>?_
 unfold span_Of.f at H
 refine Sw<|Rg hN<|Sw<|Sw ?_
 rcases ifC H with ⟨c283,H⟩ | ⟨c283,H⟩
 ·refine Rh hN [B true] (.cons (dt c283) .nil)<|Good.cond true (by kernel_rfl)<|Sw<|Rg hN ?_
  cases H
  exact Rt dR
 refine Rh hN [B false] (.cons (df c283) .nil) ?_
 rcases ifC H with ⟨c284,H⟩ | ⟨c284,H⟩
 ·refine Ct (dt c284)<|Sw<|Rg hN ?_
  cases H
  exact Rt dR
 refine Cf (df c284)<|Sk<|Sw ?_
 obtain ⟨t285,h286,H⟩:=bindS H
 refine Rh hN [Cx t285] (.cons (span_sure.con h286).c .nil) ?_
 cases H
 exact Rt dR
def tlv_reader_close.l0:Nat→Int→ByteArray→List S52→List (Nat × Nat)→List Int→Option (Bool × ByteArray × List S52 × List (Nat × Nat) × List Int)
 | 0,_,_,_,_,_=>none
 | k+1,x1,x1000,x1001,x1002,x1003=>if (x1003.length:Int) > 0 then ((tlv_reader_end.f x1000 x1001 x1002 x1003).bind fun t288=>(if t288=x1 then (if 0≤(wrap64 ((x1003.length:Int) - 1)) then (if (wrap64 ((x1003.length:Int) - 1))≤(x1003.length:Int) then (tlv_reader_close.l0 k x1 x1000 x1001 x1002 (x1003.take ((wrap64 ((x1003.length:Int) - 1)):Int).toNat)) else (none)) else (none)) else (some (((x1003.length:Int) == 0),x1000,x1001,x1002,x1003)))) else (some (((x1003.length:Int) == 0),x1000,x1001,x1002,x1003))
def tlv_reader_close.f (k:Nat) (a0_0:ByteArray) (l0_1:List S52) (l0_2:List (Nat × Nat)) (l0_3:List Int) (a1:Int):Option (Bool × ByteArray × List S52 × List (Nat × Nat) × List Int):=tlv_reader_close.l0 k a1 a0_0 l0_1 l0_2 l0_3
theorem tlv_reader_close.con {k:Nat} {a0_0:ByteArray} {l0_1:List S52} {l0_2:List (Nat × Nat)} {l0_3:List Int} {a1:Int} {r:(Bool × ByteArray × List S52 × List (Nat × Nat) × List Int)} (H:tlv_reader_close.f k a0_0 l0_1 l0_2 l0_3 a1=some r):ConX Tryd.prog 45 [.ptr 0 0,.v (I a1)] [[S a0_0,.row (some 52) 5 (List.map (v52 1) l0_1),.row (some 72) 1 (List.map Cx l0_2),.row (some 3) 1 (List.map I l0_3)]] (.v (B r.1)) [[S r.2.1,.row (some 52) 5 (List.map (v52 1) r.2.2.1),.row (some 72) 1 (List.map Cx r.2.2.2.1),.row (some 3) 1 (List.map I r.2.2.2.2)]]:=by
 refine conX_of_good Tryd.func45 rfl (by kernel_rfl) (by kernel_rfl) fun C hN hL=>?_
 unfold tlv_reader_close.f at H
 refine Sw<|Rg hN<|Sw<|Bl<|Good.loopN (fun k' st=>∃ (x1:Int) (x1000:ByteArray) (x1001:List S52) (x1002:List (Nat × Nat)) (x1003:List Int),k'≤k∧Wk C st ⟨[(0,.d (.ptr 0 0)),(1,.w (I x1))],[.cells [.v (S x1000),.v (.row (some 52) 5 (List.map (v52 1) x1001)),.v (.row (some 72) 1 (List.map Cx x1002)),.v (.row (some 3) 1 (List.map I x1003))]]⟩∧tlv_reader_close.l0 k' x1 x1000 x1001 x1002 x1003=some r) k ⟨a1,a0_0,l0_1,l0_2,l0_3,Nat.le_refl _,Wo [(0,0),(1,0)],H⟩ fun k=>⟨fun st h=>(by obtain ⟨_,_,_,_,_,_,_,H⟩:=h;cases H),?_⟩
 clear H
 rintro st ⟨x1,x1000,x1001,x1002,x1003,hk,W,H⟩
 refine W.good ?_
 rw [tlv_reader_close.l0] at H
 refine Sw<|Sw ?_
 rcases (ifC H).symm with ⟨c287,H⟩ | ⟨c287,H⟩
 ·refine Rh hN [I (x1003.length:Int),B false] (.cons (lenM I x1003) (.cons (df c287) .nil))<|Good.cond false (by kernel_rfl)<|Ex<|Sw<|Rh hN [I (x1003.length:Int)] (.cons (lenM I x1003) .nil) ?_
  cases H
  exact Good.ret (finX_fitR (.refl _) (FitLL.refl _) (by kernel_rfl) rfl)
 obtain ⟨t288,h289,H⟩:=bindS H
 refine Rh hN [I (x1003.length:Int),B true,I t288,.tup [.agg [S x1000,.row (some 52) 5 (List.map (v52 1) x1001),.row (some 72) 1 (List.map Cx x1002),.row (some 3) 1 (List.map I x1003)]]] (.cons (lenM I x1003) (.cons (dt c287) (.cons (tlv_reader_end.con h289).c .nil))) ?_
 rcases (ifC H).symm with ⟨c290,H⟩ | ⟨c290,H⟩
 ·refine Cf (bn c290)<|Ex<|Sw<|Rh hN [I (x1003.length:Int)] (.cons (lenM I x1003) .nil) ?_
  cases H
  exact Good.ret (finX_fitR (.refl _) (FitLL.refl _) (by kernel_rfl) rfl)
 refine Ct (bq c290)<|Sk<|Bl ?_
 obtain ⟨c291,H⟩:=ifS H
 obtain ⟨c292,H⟩:=ifS H
 exact Rd hm hN (.q 0 [[]] (.q 1 [[]] (.q 2 [[]] (.q 3 [[]] (.q 4 [[]] (.q 5 [[]] (.q 6 [[]] (.q 7 [[]] (.q 8 [[]] (.q 9 [[]] (.q 10 [[]] (.e 11 (.q 12 [[13]] (.q 13 [[]] (.e 14 .z))))))))))))))) [(0,some (.pt [S x1000,.row none 5 (List.map (v52 0) x1001),.row none 1 (List.map Cx x1002),.row none 1 (List.map I x1003)]))] (.cons (ptS (shrC (rfl:(V.shr (S x1000))=S x1000) (shrC (shrM (some 52) 5 (v52 1) (v52 0) x1001 (v52.shr _)) (shrC (shrM (some 72) 1 Cx Cx x1002 (fun _=>rfl)) (shrC (shrM (some 3) 1 I I x1003 (fun _=>rfl)) (rfl:shrL []=[])))))) .nil) [I (x1003.length:Int),.row (some 3) 1 (List.map I (x1003.take ((wrap64 ((x1003.length:Int) - 1)):Int).toNat))] [I (x1003.length:Int)] (.cons (lenM I x1003) (.cons c291 (.cons (leM I c292) (.cons (takeM I (l:=x1003) (n:=((wrap64 ((x1003.length:Int) - 1)):Int).toNat)) .nil)))) (.cons (lenM I x1003) .nil) [] []<|⟨k,by omega,x1,x1000,x1001,x1002,x1003.take ((wrap64 ((x1003.length:Int) - 1)):Int).toNat,by omega,Wo [(0,0),(1,0)],H⟩
def tlv_reader_read.g0_0:Nat→Int→Int→ByteArray→List S52→List (Nat × Nat)→List Int→Option (Int × Int × ByteArray × List S52 × List (Nat × Nat) × List Int)
 | 0,_,_,_,_,_,_=>none
 | k+1,x5,x8,x1000,x1001,x1002,x1003=>if x8=0 then (some (0,0,x1000,x1001,x1002,x1003)) else (some (x8,x5,x1000,x1001,x1002,x1003))
mutual
def tlv_reader_read.g0_1:Nat→Int→ByteArray→List S52→List (Nat × Nat)→List Int→Option (Int × Int × ByteArray × List S52 × List (Nat × Nat) × List Int)
 | 0,_,_,_,_,_=>none
 | k+1,x5,x1000,x1001,x1002,x1003=>(tlv_reader_end.f x1000 x1001 x1002 x1003).bind fun t319=>((octets_Cut.f x1000 x5 (wrap64 (t319 - x5))).bind fun t321=>((head_Decode.f k t321).bind fun t323=>(if t323.2.2.2.2.2=0 then (if t323.2.2.2.1 > (wrap64 ((wrap64 (t319 - x5)) - t323.2.2.2.2.1)) then (tlv_reader_read.g0_0 k x5 5 x1000 x1001 x1002 x1003) else ((octets_Cut.f x1000 (wrap64 (x5+t323.2.2.2.2.1)) t323.2.2.2.1).bind fun t327=>((tlv_reader_may.f k x1000 x1001 x1002 x1003 t323.1 t323.2.1 t323.2.2.1 t323.2.2.2.1 t327).bind fun t329=>(if t329.1=0 then ((span_Of.f x5 (wrap64 ((wrap64 (x5+t323.2.2.2.2.1))+t323.2.2.2.1))).bind fun t332=>((tlv_reader_put.f t329.2.1 t329.2.2.1 t329.2.2.2.1 t329.2.2.2.2 t323.1 t323.2.1 t323.2.2.1 t323.2.2.2.1 t327 t332).bind fun t334=>(if t323.2.2.1=true then (tlv_reader_read.j3 k (wrap64 (x5+t323.2.2.2.2.1)) t329.1 t329.2.1 t334.1 t334.2.1 t334.2.2) else (tlv_reader_read.j3 k (wrap64 ((wrap64 (x5+t323.2.2.2.2.1))+t323.2.2.2.1)) t329.1 t329.2.1 t334.1 t334.2.1 t334.2.2)))) else (tlv_reader_read.g0_0 k x5 t329.1 t329.2.1 t329.2.2.1 t329.2.2.2.1 t329.2.2.2.2))))) else (tlv_reader_read.g0_0 k x5 t323.2.2.2.2.2 x1000 x1001 x1002 x1003))))
def tlv_reader_read.j3:Nat→Int→Int→ByteArray→List S52→List (Nat × Nat)→List Int→Option (Int × Int × ByteArray × List S52 × List (Nat × Nat) × List Int)
 | 0,_,_,_,_,_,_=>none
 | k+1,x5,x8,x1000,x1001,x1002,x1003=>(tlv_reader_close.f k x1000 x1001 x1002 x1003 x5).bind fun t337=>(if t337.1=true then (if x5 < (t337.2.1.size:Int) then (some (5,x5,t337.2.1,t337.2.2.1,t337.2.2.2.1,t337.2.2.2.2)) else (if x8=0 then (some (0,0,t337.2.1,t337.2.2.1,t337.2.2.2.1,t337.2.2.2.2)) else (some (x8,x5,t337.2.1,t337.2.2.1,t337.2.2.2.1,t337.2.2.2.2)))) else (tlv_reader_read.g0_1 k x5 t337.2.1 t337.2.2.1 t337.2.2.2.1 t337.2.2.2.2))
end
def tlv_reader_read.j0:Nat→Int→Int→ByteArray→List S52→List (Nat × Nat)→List Int→Option (Int × Int × ByteArray × List S52 × List (Nat × Nat) × List Int)
 | 0,_,_,_,_,_,_=>none
 | k+1,x5,x8,x1000,x1001,x1002,x1003=>(tlv_reader_close.f k x1000 x1001 x1002 x1003 x5).bind fun t313=>(if t313.1=true then (if x5 < (t313.2.1.size:Int) then (some (5,x5,t313.2.1,t313.2.2.1,t313.2.2.2.1,t313.2.2.2.2)) else (if x8=0 then (some (0,0,t313.2.1,t313.2.2.1,t313.2.2.2.1,t313.2.2.2.2)) else (some (x8,x5,t313.2.1,t313.2.2.1,t313.2.2.2.1,t313.2.2.2.2)))) else (tlv_reader_read.g0_1 k x5 t313.2.1 t313.2.2.1 t313.2.2.2.1 t313.2.2.2.2))
def tlv_reader_read.f (k:Nat) (a0_0:ByteArray) (l0_1:List S52) (l0_2:List (Nat × Nat)) (l0_3:List Int):Option (Int × Int × ByteArray × List S52 × List (Nat × Nat) × List Int):=if a0_0.toList=([]:List UInt8) then (tlv_reader_read.g0_0 k 0 3 a0_0 l0_1 l0_2 l0_3) else (if (a0_0.size:Int) > 65535 then (tlv_reader_read.g0_0 k 0 4 a0_0 l0_1 l0_2 l0_3) else ((tlv_reader_end.f a0_0 l0_1 l0_2 l0_3).bind fun t295=>((octets_Cut.f a0_0 0 (wrap64 (t295 - 0))).bind fun t297=>((head_Decode.f k t297).bind fun t299=>(if t299.2.2.2.2.2=0 then (if t299.2.2.2.1 > (wrap64 ((wrap64 (t295 - 0)) - t299.2.2.2.2.1)) then (tlv_reader_read.g0_0 k 0 5 a0_0 l0_1 l0_2 l0_3) else ((octets_Cut.f a0_0 (wrap64 (0+t299.2.2.2.2.1)) t299.2.2.2.1).bind fun t303=>((tlv_reader_may.f k a0_0 l0_1 l0_2 l0_3 t299.1 t299.2.1 t299.2.2.1 t299.2.2.2.1 t303).bind fun t305=>(if t305.1=0 then ((span_Of.f 0 (wrap64 ((wrap64 (0+t299.2.2.2.2.1))+t299.2.2.2.1))).bind fun t308=>((tlv_reader_put.f t305.2.1 t305.2.2.1 t305.2.2.2.1 t305.2.2.2.2 t299.1 t299.2.1 t299.2.2.1 t299.2.2.2.1 t303 t308).bind fun t310=>(if t299.2.2.1=true then (tlv_reader_read.j0 k (wrap64 (0+t299.2.2.2.2.1)) t305.1 t305.2.1 t310.1 t310.2.1 t310.2.2) else (tlv_reader_read.j0 k (wrap64 ((wrap64 (0+t299.2.2.2.2.1))+t299.2.2.2.1)) t305.1 t305.2.1 t310.1 t310.2.1 t310.2.2)))) else (tlv_reader_read.g0_0 k 0 t305.1 t305.2.1 t305.2.2.1 t305.2.2.2.1 t305.2.2.2.2))))) else (tlv_reader_read.g0_0 k 0 t299.2.2.2.2.2 a0_0 l0_1 l0_2 l0_3))))))
theorem tlv_reader_read.con {k:Nat} {a0_0:ByteArray} {l0_1:List S52} {l0_2:List (Nat × Nat)} {l0_3:List Int} {r:(Int × Int × ByteArray × List S52 × List (Nat × Nat) × List Int)} (H:tlv_reader_read.f k a0_0 l0_1 l0_2 l0_3=some r):ConX Tryd.prog 28 [.ptr 0 0] [[S a0_0,.row (some 52) 5 (List.map (v52 1) l0_1),.row (some 72) 1 (List.map Cx l0_2),.row (some 3) 1 (List.map I l0_3)]] (.v (.agg [I r.1,I r.2.1])) [[S r.2.2.1,.row (some 52) 5 (List.map (v52 1) r.2.2.2.1),.row (some 72) 1 (List.map Cx r.2.2.2.2.1),.row (some 3) 1 (List.map I r.2.2.2.2.2)]]:=by
 refine conX_of_good Tryd.func28 rfl (by kernel_rfl) (by kernel_rfl) fun C hN hL=>?_
 unfold tlv_reader_read.f at H
 refine Sw<|Rg hN<|Good.scope [(0,_,fun n st=>∃ (x5:Int) (x8:Int) (x1000:ByteArray) (x1001:List S52) (x1002:List (Nat × Nat)) (x1003:List Int) (x2000:Int) (x2001:Int) (x3000:Int) (x3001:Int) (x3002:Bool) (x3003:Int),n≤k∧Wk C st ⟨[(2,.d (.ptr 1 0)),(5,.w (I x5)),(8,.w (I x8))],[.cells [.v (S x1000),.v (.row (some 52) 5 (List.map (v52 1) x1001)),.v (.row (some 72) 1 (List.map Cx x1002)),.v (.row (some 3) 1 (List.map I x1003))],.cells [.v (I x2000),.v (I x2001)],.cells [.v (I x3000),.v (I x3001),.v (B x3002),.v (I x3003)]]⟩∧tlv_reader_read.g0_0 n x5 x8 x1000 x1001 x1002 x1003=some r),(1,_,fun n st=>∃ (x5:Int) (x1000:ByteArray) (x1001:List S52) (x1002:List (Nat × Nat)) (x1003:List Int) (x2000:Int) (x2001:Int) (x3000:Int) (x3001:Int) (x3002:Bool) (x3003:Int),n≤k∧Wk C st ⟨[(0,.d (.ptr 0 0)),(2,.d (.ptr 1 0)),(3,.d (.ptr 2 0)),(5,.w (I x5))],[.cells [.v (S x1000),.v (.row (some 52) 5 (List.map (v52 1) x1001)),.v (.row (some 72) 1 (List.map Cx x1002)),.v (.row (some 3) 1 (List.map I x1003))],.cells [.v (I x2000),.v (I x2001)],.cells [.v (I x3000),.v (I x3001),.v (B x3002),.v (I x3003)]]⟩∧tlv_reader_read.g0_1 n x5 x1000 x1001 x1002 x1003=some r)] (.cons rfl (.cons rfl .nil)) ?_ (.cons ?_ (.cons ?_ .nil))
 ·refine Sw<|Rg hN<|Sw<|Rg hN<|Sw<|Rg hN<|Sw<|Rg hN<|Sw<|Sw<|Ri hN [] (.cons (strV (rfl:a0_0.toList=a0_0.toList) (litL ([]:List UInt8))) .nil) [(13,.bool (a0_0.toList == ([]:List UInt8)))] ?_
  rcases ifC H with ⟨c293,H⟩ | ⟨c293,H⟩
  ·exact Ct (bq c293)<|Sw<|Rg hN<|Good.goto<|⟨k,(by first | trivial | omega),0,3,a0_0,l0_1,l0_2,l0_3,0,0,0,0,false,0,by omega,Wo [(2,0),(5,0),(8,0)],H⟩
  refine Cf (bn c293)<|Sk<|Sw<|Sw<|Rg hN ?_
  rcases ifC H with ⟨c294,H⟩ | ⟨c294,H⟩
  ·exact Ct (dt c294)<|Sw<|Rg hN<|Good.goto<|⟨k,(by first | trivial | omega),0,4,a0_0,l0_1,l0_2,l0_3,0,0,0,0,false,0,by omega,Wo [(2,0),(5,0),(8,0)],H⟩
  refine Cf (df c294)<|Sk<|Sw<|Good.label<|Sw ?_
  obtain ⟨t295,h296,H⟩:=bindS H
  refine Rh hN [I t295,.tup [.agg [S a0_0,.row (some 52) 5 (List.map (v52 1) l0_1),.row (some 72) 1 (List.map Cx l0_2),.row (some 3) 1 (List.map I l0_3)]]] (.cons (tlv_reader_end.con h296).c .nil)<|Sw ?_
  obtain ⟨t297,h298,H⟩:=bindS H
  obtain ⟨t299,h300,H⟩:=bindS H
  refine Rh hN [S t297,.tup [.agg [I t299.1,I t299.2.1,B t299.2.2.1,I t299.2.2.2.1],I t299.2.2.2.2.1,I t299.2.2.2.2.2]] (.cons (octets_Cut.con h298).c (.cons (head_Decode.con h300).c .nil))<|Sw<|Sw<|Rg hN ?_
  rcases (ifC H).symm with ⟨c301,H⟩ | ⟨c301,H⟩
  ·exact Ct (nq c301)<|Good.goto<|⟨k,(by first | trivial | omega),0,t299.2.2.2.2.2,a0_0,l0_1,l0_2,l0_3,0,0,t299.1,t299.2.1,t299.2.2.1,t299.2.2.2.1,by omega,Wo [(2,0),(5,0),(8,0)],H⟩
  refine Cf (bneF c301)<|Sk<|Sw<|Sw<|Rg hN ?_
  rcases ifC H with ⟨c302,H⟩ | ⟨c302,H⟩
  ·exact Ct (dt c302)<|Sw<|Rg hN<|Good.goto<|⟨k,(by first | trivial | omega),0,5,a0_0,l0_1,l0_2,l0_3,0,0,t299.1,t299.2.1,t299.2.2.1,t299.2.2.2.1,by omega,Wo [(2,0),(5,0),(8,0)],H⟩
  refine Cf (df c302)<|Sk<|Sw ?_
  obtain ⟨t303,h304,H⟩:=bindS H
  refine Rd hm hN (.qs 9 0 (.e 9 (.q 10 [] .z))) [(0,some (.pt [S a0_0,.row none 5 (List.map (v52 0) l0_1),.row none 1 (List.map Cx l0_2),.row none 1 (List.map I l0_3)])),(3,some (.pt [I t299.1,I t299.2.1,B t299.2.2.1,I t299.2.2.2.1])),(4,none),(5,none)] (.cons (ptS (shrC (rfl:(V.shr (S a0_0))=S a0_0) (shrC (shrM (some 52) 5 (v52 1) (v52 0) l0_1 (v52.shr _)) (shrC (shrM (some 72) 1 Cx Cx l0_2 (fun _=>rfl)) (shrC (shrM (some 3) 1 I I l0_3 (fun _=>rfl)) (rfl:shrL []=[])))))) (.cons (ptS (shrC (rfl:(V.shr (I t299.1))=I t299.1) (shrC (rfl:(V.shr (I t299.2.1))=I t299.2.1) (shrC (rfl:(V.shr (B t299.2.2.1))=B t299.2.2.1) (shrC (rfl:(V.shr (I t299.2.2.2.1))=I t299.2.2.2.1) (rfl:shrL []=[])))))) .nil)) [S t303] [] (.cons (octets_Cut.con h304).c .nil) .nil [] []<|Sw<|Sw ?_
  obtain ⟨t305,h306,H⟩:=bindS H
  refine Rh hN [I t305.1,.tup [.agg [S t305.2.1,.row (some 52) 5 (List.map (v52 1) t305.2.2.1),.row (some 72) 1 (List.map Cx t305.2.2.2.1),.row (some 3) 1 (List.map I t305.2.2.2.2)]]] (.cons (tlv_reader_may.con h306).c .nil)<|Sw<|Rg hN ?_
  rcases (ifC H).symm with ⟨c307,H⟩ | ⟨c307,H⟩
  ·exact Ct (nq c307)<|Good.goto<|⟨k,(by first | trivial | omega),0,t305.1,t305.2.1,t305.2.2.1,t305.2.2.2.1,t305.2.2.2.2,0,0,t299.1,t299.2.1,t299.2.2.1,t299.2.2.2.1,by omega,Wo [(2,0),(5,0),(8,0)],H⟩
  refine Cf (bneF c307)<|Sk<|Sw ?_
  obtain ⟨t308,h309,H⟩:=bindS H
  obtain ⟨t310,h311,H⟩:=bindS H
  refine Rd hm hN (.q 0 [[]] (.q 1 [[]] (.q 2 [[]] (.q 3 [[10]] (.q 4 [[10,9,6]] (.q 5 [[10,9,6]] (.q 6 [[10,9]] (.q 7 [[10,9,8]] (.q 8 [[10,9]] (.q 9 [[10]] (.e 10 (.e 11 .z)))))))))))) [(0,some (.pt [S t305.2.1,.row none 5 (List.map (v52 0) t305.2.2.1),.row none 1 (List.map Cx t305.2.2.2.1),.row none 1 (List.map I t305.2.2.2.2)])),(3,some (.pt [I t299.1,I t299.2.1,B t299.2.2.1,I t299.2.2.2.1])),(4,none),(5,none),(7,none)] (.cons (ptS (shrC (rfl:(V.shr (S t305.2.1))=S t305.2.1) (shrC (shrM (some 52) 5 (v52 1) (v52 0) t305.2.2.1 (v52.shr _)) (shrC (shrM (some 72) 1 Cx Cx t305.2.2.2.1 (fun _=>rfl)) (shrC (shrM (some 3) 1 I I t305.2.2.2.2 (fun _=>rfl)) (rfl:shrL []=[])))))) (.cons (ptS (shrC (rfl:(V.shr (I t299.1))=I t299.1) (shrC (rfl:(V.shr (I t299.2.1))=I t299.2.1) (shrC (rfl:(V.shr (B t299.2.2.1))=B t299.2.2.1) (shrC (rfl:(V.shr (I t299.2.2.2.1))=I t299.2.2.2.1) (rfl:shrL []=[])))))) .nil)) [Cx t308,.tup [],.tup [.agg [S t305.2.1,.row (some 52) 5 (List.map (v52 1) t310.1),.row (some 72) 1 (List.map Cx t310.2.1),.row (some 3) 1 (List.map I t310.2.2)]]] [] (.cons (span_Of.con h309).c (.cons (tlv_reader_put.con h311).c .nil)) .nil [] []<|Sw<|Rg hN<|Sw<|Sw<|Rg hN<|Good.cut (fun st=>∃ n':Nat,n'≤k∧∃ (x5:Int) (x8:Int) (x1000:ByteArray) (x1001:List S52) (x1002:List (Nat × Nat)) (x1003:List Int) (x2000:Int) (x2001:Int) (x3000:Int) (x3001:Int) (x3002:Bool) (x3003:Int),Wk C st ⟨[(0,.d (.ptr 0 0)),(2,.d (.ptr 1 0)),(3,.d (.ptr 2 0)),(5,.w (I x5)),(8,.w (I x8))],[.cells [.v (S x1000),.v (.row (some 52) 5 (List.map (v52 1) x1001)),.v (.row (some 72) 1 (List.map Cx x1002)),.v (.row (some 3) 1 (List.map I x1003))],.cells [.v (I x2000),.v (I x2001)],.cells [.v (I x3000),.v (I x3001),.v (B x3002),.v (I x3003)]]⟩∧tlv_reader_read.j0 n' x5 x8 x1000 x1001 x1002 x1003=some r) ?_ ?_
  ·rcases ifC H with ⟨c312,H⟩ | ⟨c312,H⟩
   ·exact Cf (notF c312)<|Sk<|⟨k,by omega,wrap64 (0+t299.2.2.2.2.1),t305.1,t305.2.1,t310.1,t310.2.1,t310.2.2,0,0,t299.1,t299.2.1,t299.2.2.1,t299.2.2.2.1,Wo [(0,0),(2,0),(3,0),(5,0),(8,0)],H⟩
   exact Ct (notT (bf c312))<|Rg hN<|⟨k,by omega,wrap64 ((wrap64 (0+t299.2.2.2.2.1))+t299.2.2.2.1),t305.1,t305.2.1,t310.1,t310.2.1,t310.2.2,0,0,t299.1,t299.2.1,t299.2.2.1,t299.2.2.2.1,Wo [(0,0),(2,0),(3,0),(5,0),(8,0)],H⟩
  clear H
  rintro st ⟨n',hn',x5,x8,x1000,x1001,x1002,x1003,x2000,x2001,x3000,x3001,x3002,x3003,W,H⟩
  rcases n' with _ | k
  ·cases H
  refine W.good ?_
  rw [tlv_reader_read.j0] at H
  refine Sw<|Sw ?_
  obtain ⟨t313,h314,H⟩:=bindS H
  refine Rh hN [B t313.1,.tup [.agg [S t313.2.1,.row (some 52) 5 (List.map (v52 1) t313.2.2.1),.row (some 72) 1 (List.map Cx t313.2.2.2.1),.row (some 3) 1 (List.map I t313.2.2.2.2)]]] (.cons (tlv_reader_close.con h314).c .nil) ?_
  rcases (ifC H).symm with ⟨c315,H⟩ | ⟨c315,H⟩
  ·exact Ct (notT (bf c315))<|Good.goto<|⟨k,(by first | trivial | omega),x5,t313.2.1,t313.2.2.1,t313.2.2.2.1,t313.2.2.2.2,x2000,x2001,x3000,x3001,x3002,x3003,by omega,Wo [(0,0),(2,0),(3,0),(5,0)],H⟩
  refine Cf (notF c315)<|Sk<|Sw<|Sw<|Rg hN ?_
  rcases ifC H with ⟨c316,H⟩ | ⟨c316,H⟩
  ·refine Ct (dt c316)<|Rg hN<|Sw<|Good.label<|Sw<|Sw<|Rg hN<|Cf (bn (show ¬ ((5:Int)=0) by decide))<|Sk<|Sw<|Rg hN ?_
   cases H
   exact Good.ret (finX_fitR (.refl _) (FitLL.refl _) (by kernel_rfl) rfl)
  refine Cf (df c316)<|Sk<|Sw<|Good.label<|Sw<|Sw<|Rg hN ?_
  rcases ifC H with ⟨c317,H⟩ | ⟨c317,H⟩
  ·refine Ct (bq c317)<|Sw<|Rg hN ?_
   cases H
   exact Good.ret (finX_fitR (.refl _) (FitLL.refl _) (by kernel_rfl) rfl)
  refine Cf (bn c317)<|Sk<|Sw<|Rg hN ?_
  cases H
  exact Good.ret (finX_fitR (.refl _) (FitLL.refl _) (by kernel_rfl) rfl)
 ·clear H
  rintro n st ⟨x5,x8,x1000,x1001,x1002,x1003,x2000,x2001,x3000,x3001,x3002,x3003,hn,W,H⟩
  rcases n with _ | k
  ·cases H
  refine W.good ?_
  rw [tlv_reader_read.g0_0] at H
  refine Sw<|Sk<|Sw<|Sw<|Rg hN ?_
  rcases ifC H with ⟨c318,H⟩ | ⟨c318,H⟩
  ·refine Ct (bq c318)<|Sw<|Rg hN ?_
   cases H
   exact Good.ret (finX_fitR (.refl _) (FitLL.refl _) (by kernel_rfl) rfl)
  refine Cf (bn c318)<|Sk<|Sw<|Rg hN ?_
  cases H
  exact Good.ret (finX_fitR (.refl _) (FitLL.refl _) (by kernel_rfl) rfl)
 ·clear H
  rintro n st ⟨x5,x1000,x1001,x1002,x1003,x2000,x2001,x3000,x3001,x3002,x3003,hn,W,H⟩
  rcases n with _ | k
  ·cases H
  refine W.good ?_
  rw [tlv_reader_read.g0_1] at H
  refine Sw<|Sk<|Sw ?_
  obtain ⟨t319,h320,H⟩:=bindS H
  refine Rh hN [I t319,.tup [.agg [S x1000,.row (some 52) 5 (List.map (v52 1) x1001),.row (some 72) 1 (List.map Cx x1002),.row (some 3) 1 (List.map I x1003)]]] (.cons (tlv_reader_end.con h320).c .nil)<|Sw ?_
  obtain ⟨t321,h322,H⟩:=bindS H
  obtain ⟨t323,h324,H⟩:=bindS H
  refine Rh hN [S t321,.tup [.agg [I t323.1,I t323.2.1,B t323.2.2.1,I t323.2.2.2.1],I t323.2.2.2.2.1,I t323.2.2.2.2.2]] (.cons (octets_Cut.con h322).c (.cons (head_Decode.con h324).c .nil))<|Sw<|Sw<|Rg hN ?_
  rcases (ifC H).symm with ⟨c325,H⟩ | ⟨c325,H⟩
  ·exact Ct (nq c325)<|Good.goto<|⟨k,(by first | trivial | omega),x5,t323.2.2.2.2.2,x1000,x1001,x1002,x1003,x2000,x2001,t323.1,t323.2.1,t323.2.2.1,t323.2.2.2.1,by omega,Wo [(2,0),(5,0),(8,0)],H⟩
  refine Cf (bneF c325)<|Sk<|Sw<|Sw<|Rg hN ?_
  rcases ifC H with ⟨c326,H⟩ | ⟨c326,H⟩
  ·exact Ct (dt c326)<|Sw<|Rg hN<|Good.goto<|⟨k,(by first | trivial | omega),x5,5,x1000,x1001,x1002,x1003,x2000,x2001,t323.1,t323.2.1,t323.2.2.1,t323.2.2.2.1,by omega,Wo [(2,0),(5,0),(8,0)],H⟩
  refine Cf (df c326)<|Sk<|Sw ?_
  obtain ⟨t327,h328,H⟩:=bindS H
  refine Rd hm hN (.qs 9 0 (.e 9 (.q 10 [] .z))) [(0,some (.pt [S x1000,.row none 5 (List.map (v52 0) x1001),.row none 1 (List.map Cx x1002),.row none 1 (List.map I x1003)])),(3,some (.pt [I t323.1,I t323.2.1,B t323.2.2.1,I t323.2.2.2.1])),(4,none),(5,none)] (.cons (ptS (shrC (rfl:(V.shr (S x1000))=S x1000) (shrC (shrM (some 52) 5 (v52 1) (v52 0) x1001 (v52.shr _)) (shrC (shrM (some 72) 1 Cx Cx x1002 (fun _=>rfl)) (shrC (shrM (some 3) 1 I I x1003 (fun _=>rfl)) (rfl:shrL []=[])))))) (.cons (ptS (shrC (rfl:(V.shr (I t323.1))=I t323.1) (shrC (rfl:(V.shr (I t323.2.1))=I t323.2.1) (shrC (rfl:(V.shr (B t323.2.2.1))=B t323.2.2.1) (shrC (rfl:(V.shr (I t323.2.2.2.1))=I t323.2.2.2.1) (rfl:shrL []=[])))))) .nil)) [S t327] [] (.cons (octets_Cut.con h328).c .nil) .nil [] []<|Sw<|Sw ?_
  obtain ⟨t329,h330,H⟩:=bindS H
  refine Rh hN [I t329.1,.tup [.agg [S t329.2.1,.row (some 52) 5 (List.map (v52 1) t329.2.2.1),.row (some 72) 1 (List.map Cx t329.2.2.2.1),.row (some 3) 1 (List.map I t329.2.2.2.2)]]] (.cons (tlv_reader_may.con h330).c .nil)<|Sw<|Rg hN ?_
  rcases (ifC H).symm with ⟨c331,H⟩ | ⟨c331,H⟩
  ·exact Ct (nq c331)<|Good.goto<|⟨k,(by first | trivial | omega),x5,t329.1,t329.2.1,t329.2.2.1,t329.2.2.2.1,t329.2.2.2.2,x2000,x2001,t323.1,t323.2.1,t323.2.2.1,t323.2.2.2.1,by omega,Wo [(2,0),(5,0),(8,0)],H⟩
  refine Cf (bneF c331)<|Sk<|Sw ?_
  obtain ⟨t332,h333,H⟩:=bindS H
  obtain ⟨t334,h335,H⟩:=bindS H
  refine Rd hm hN (.q 0 [[]] (.q 1 [[]] (.q 2 [[]] (.q 3 [[10]] (.q 4 [[10,9,6]] (.q 5 [[10,9,6]] (.q 6 [[10,9]] (.q 7 [[10,9,8]] (.q 8 [[10,9]] (.q 9 [[10]] (.e 10 (.e 11 .z)))))))))))) [(0,some (.pt [S t329.2.1,.row none 5 (List.map (v52 0) t329.2.2.1),.row none 1 (List.map Cx t329.2.2.2.1),.row none 1 (List.map I t329.2.2.2.2)])),(3,some (.pt [I t323.1,I t323.2.1,B t323.2.2.1,I t323.2.2.2.1])),(4,none),(5,none),(7,none)] (.cons (ptS (shrC (rfl:(V.shr (S t329.2.1))=S t329.2.1) (shrC (shrM (some 52) 5 (v52 1) (v52 0) t329.2.2.1 (v52.shr _)) (shrC (shrM (some 72) 1 Cx Cx t329.2.2.2.1 (fun _=>rfl)) (shrC (shrM (some 3) 1 I I t329.2.2.2.2 (fun _=>rfl)) (rfl:shrL []=[])))))) (.cons (ptS (shrC (rfl:(V.shr (I t323.1))=I t323.1) (shrC (rfl:(V.shr (I t323.2.1))=I t323.2.1) (shrC (rfl:(V.shr (B t323.2.2.1))=B t323.2.2.1) (shrC (rfl:(V.shr (I t323.2.2.2.1))=I t323.2.2.2.1) (rfl:shrL []=[])))))) .nil)) [Cx t332,.tup [],.tup [.agg [S t329.2.1,.row (some 52) 5 (List.map (v52 1) t334.1),.row (some 72) 1 (List.map Cx t334.2.1),.row (some 3) 1 (List.map I t334.2.2)]]] [] (.cons (span_Of.con h333).c (.cons (tlv_reader_put.con h335).c .nil)) .nil [] []<|Sw<|Rg hN<|Sw<|Sw<|Rg hN<|Good.cut (fun st=>∃ n':Nat,n'≤k∧∃ (x5:Int) (x8:Int) (x1000:ByteArray) (x1001:List S52) (x1002:List (Nat × Nat)) (x1003:List Int) (x2000:Int) (x2001:Int) (x3000:Int) (x3001:Int) (x3002:Bool) (x3003:Int),Wk C st ⟨[(0,.d (.ptr 0 0)),(2,.d (.ptr 1 0)),(3,.d (.ptr 2 0)),(5,.w (I x5)),(8,.w (I x8))],[.cells [.v (S x1000),.v (.row (some 52) 5 (List.map (v52 1) x1001)),.v (.row (some 72) 1 (List.map Cx x1002)),.v (.row (some 3) 1 (List.map I x1003))],.cells [.v (I x2000),.v (I x2001)],.cells [.v (I x3000),.v (I x3001),.v (B x3002),.v (I x3003)]]⟩∧tlv_reader_read.j3 n' x5 x8 x1000 x1001 x1002 x1003=some r) ?_ ?_
  ·rcases ifC H with ⟨c336,H⟩ | ⟨c336,H⟩
   ·exact Cf (notF c336)<|Sk<|⟨k,by omega,wrap64 (x5+t323.2.2.2.2.1),t329.1,t329.2.1,t334.1,t334.2.1,t334.2.2,x2000,x2001,t323.1,t323.2.1,t323.2.2.1,t323.2.2.2.1,Wo [(0,0),(2,0),(3,0),(5,0),(8,0)],H⟩
   exact Ct (notT (bf c336))<|Rg hN<|⟨k,by omega,wrap64 ((wrap64 (x5+t323.2.2.2.2.1))+t323.2.2.2.1),t329.1,t329.2.1,t334.1,t334.2.1,t334.2.2,x2000,x2001,t323.1,t323.2.1,t323.2.2.1,t323.2.2.2.1,Wo [(0,0),(2,0),(3,0),(5,0),(8,0)],H⟩
  clear H
  rintro st ⟨n',hn',x5,x8,x1000,x1001,x1002,x1003,x2000,x2001,x3000,x3001,x3002,x3003,W,H⟩
  rcases n' with _ | k
  ·cases H
  refine W.good ?_
  rw [tlv_reader_read.j3] at H
  refine Sw<|Sw ?_
  obtain ⟨t337,h338,H⟩:=bindS H
  refine Rh hN [B t337.1,.tup [.agg [S t337.2.1,.row (some 52) 5 (List.map (v52 1) t337.2.2.1),.row (some 72) 1 (List.map Cx t337.2.2.2.1),.row (some 3) 1 (List.map I t337.2.2.2.2)]]] (.cons (tlv_reader_close.con h338).c .nil) ?_
  rcases (ifC H).symm with ⟨c339,H⟩ | ⟨c339,H⟩
  ·exact Ct (notT (bf c339))<|Good.goto<|⟨k,(by first | trivial | omega),x5,t337.2.1,t337.2.2.1,t337.2.2.2.1,t337.2.2.2.2,x2000,x2001,x3000,x3001,x3002,x3003,by omega,Wo [(0,0),(2,0),(3,0),(5,0)],H⟩
  refine Cf (notF c339)<|Sk<|Sw<|Sw<|Rg hN ?_
  rcases ifC H with ⟨c340,H⟩ | ⟨c340,H⟩
  ·refine Ct (dt c340)<|Rg hN<|Sw<|Good.label<|Sw<|Sw<|Rg hN<|Cf (bn (show ¬ ((5:Int)=0) by decide))<|Sk<|Sw<|Rg hN ?_
   cases H
   exact Good.ret (finX_fitR (.refl _) (FitLL.refl _) (by kernel_rfl) rfl)
  refine Cf (df c340)<|Sk<|Sw<|Good.label<|Sw<|Sw<|Rg hN ?_
  rcases ifC H with ⟨c341,H⟩ | ⟨c341,H⟩
  ·refine Ct (bq c341)<|Sw<|Rg hN ?_
   cases H
   exact Good.ret (finX_fitR (.refl _) (FitLL.refl _) (by kernel_rfl) rfl)
  refine Cf (bn c341)<|Sk<|Sw<|Rg hN ?_
  cases H
  exact Good.ret (finX_fitR (.refl _) (FitLL.refl _) (by kernel_rfl) rfl)
def tlv_Decode.f (k:Nat) (a0:ByteArray):Option (List S52 × Int × Int):=(tlv_reader_read.f k a0 ([]:List S52) ([]:List (Nat × Nat)) ([]:List Int)).bind fun t342=>(if t342.1=0 then (some (t342.2.2.2.1,0,0)) else (some (([]:List S52),t342.1,t342.2.1)))
theorem tlv_Decode.con {k:Nat} {a0:ByteArray} {r:(List S52 × Int × Int)} (H:tlv_Decode.f k a0=some r):Con Tryd.prog 14 [S a0] (.tup [.row (some 52) 5 (List.map (v52 1) r.1),.agg [I r.2.1,I r.2.2]]):=by
 refine Cg Tryd.func14 rfl fun C hN hL=>?_
 unfold tlv_Decode.f at H
 refine Sw<|Rg hN<|Sw<|Rg hN<|Sw<|Sw ?_
 obtain ⟨t342,h343,H⟩:=bindS H
 refine Rh hN [.agg [I t342.1,I t342.2.1],.tup [.agg [S t342.2.2.1,.row (some 52) 5 (List.map (v52 1) t342.2.2.2.1),.row (some 72) 1 (List.map Cx t342.2.2.2.2.1),.row (some 3) 1 (List.map I t342.2.2.2.2.2)]]] (.cons (ConX.n (tlv_reader_read.con h343) (.cons (.refl _) .nil) (.cons (.cons (.refl _) (.cons (.nilO 52 5) (.cons (.nilO 72 1) (.cons (.nilO 3 1) .nil)))) .nil)) .nil)<|Sw<|Rg hN ?_
 rcases (ifC H).symm with ⟨c344,H⟩ | ⟨c344,H⟩
 ·refine Ct (nq c344)<|Sw<|Rd hm hN (.q 0 [[]] (.q 1 [[]] (.e 2 .z))) [(3,some (.pt [I 0,I 0])),(5,some (.pt [I t342.1,I t342.2.1]))] (.cons (ptS (shrC (rfl:(V.shr (I 0))=I 0) (shrC (rfl:(V.shr (I 0))=I 0) (rfl:shrL []=[])))) (.cons (ptS (shrC (rfl:(V.shr (I t342.1))=I t342.1) (shrC (rfl:(V.shr (I t342.2.1))=I t342.2.1) (rfl:shrL []=[])))) .nil)) [] [] .nil .nil [] [] ?_
  cases H
  exact Good.ret (fin_fit (u:=.tup [.nil 52 5,.agg [I t342.1,I t342.2.1]]) (.tup (.cons (.nilO 52 5) (.cons (.refl _) .nil))) (by kernel_rfl))
 refine Cf (bneF c344)<|Sk<|Sw<|Rg hN ?_
 cases H
 exact Rt dR
def tlv_Pieces.l0:Nat→ByteArray→List ByteArray→Int→Int→Int→Option (List ByteArray × Int × Int)
 | 0,_,_,_,_,_=>none
 | k+1,x0,x2,x4,x1000,x1001=>if x4 < (x0.size:Int) then (if 0≤x4 then (if x4≤(x0.size:Int) then ((head_Decode.f k (x0.extract (x4:Int).toNat x0.size)).bind fun t361=>(if t361.2.2.2.2.2=0 then (if t361.2.2.2.1 > (wrap64 ((wrap64 ((x0.size:Int) - x4)) - t361.2.2.2.2.1)) then (some (([]:List ByteArray),5,x4)) else ((octets_Cut.f x0 x4 (wrap64 (t361.2.2.2.2.1+t361.2.2.2.1))).bind fun t365=>(if x2.length < 8796093022208 then (tlv_Pieces.l0 k x0 (x2++[t365]) (wrap64 (x4+(wrap64 (t361.2.2.2.2.1+t361.2.2.2.1)))) x1000 x1001) else (none)))) else (some (([]:List ByteArray),t361.2.2.2.2.2,x4)))) else (none)) else (none)) else (some (x2,x1000,x1001))
def tlv_Pieces.f (k:Nat) (a0:ByteArray):Option (List ByteArray × Int × Int):=if (a0.size:Int) > 65535 then (some (([]:List ByteArray),4,0)) else (tlv_Pieces.l0 k a0 ([]:List ByteArray) 0 0 0)
theorem tlv_Pieces.con {k:Nat} {a0:ByteArray} {r:(List ByteArray × Int × Int)} (H:tlv_Pieces.f k a0=some r):Con Tryd.prog 21 [S a0] (.tup [.row (some 9) 1 (List.map S r.1),.agg [I r.2.1,I r.2.2]]):=by
 refine Cg Tryd.func21 rfl fun C hN hL=>?_
 unfold tlv_Pieces.f at H
 refine Sw<|Rg hN<|Sw<|Sw<|Rg hN ?_
 rcases ifC H with ⟨c357,H⟩ | ⟨c357,H⟩
 ·refine Ct (dt c357)<|Sw<|Rg hN ?_
  cases H
  exact Good.ret (fin_fit (u:=.tup [.nil 9 1,.agg [I 4,I 0]]) (.tup (.cons (.nilO 9 1) (.cons (.refl _) .nil))) (by kernel_rfl))
 refine Cf (df c357)<|Sk<|Sw<|Sw<|Rg hN<|Bl<|Good.loopN (fun k' st=>∃ (x0:ByteArray) (x2:List ByteArray) (x4:Int) (x1000:Int) (x1001:Int),k'≤k∧Wk C st ⟨[(0,.w (S x0)),(2,.w (.row (some 9) 1 (List.map S x2))),(3,.d (.ptr 0 0)),(4,.w (I x4))],[.cells [.v (I x1000),.v (I x1001)]]⟩∧tlv_Pieces.l0 k' x0 x2 x4 x1000 x1001=some r) k ⟨a0,([]:List ByteArray),0,0,0,Nat.le_refl _,Wo [(0,0),(2,1),(3,0),(4,0)],H⟩ fun k=>⟨fun st h=>(by obtain ⟨_,_,_,_,_,_,_,H⟩:=h;cases H),?_⟩
 clear H
 rintro st ⟨x0,x2,x4,x1000,x1001,hk,W,H⟩
 refine W.good ?_
 rw [tlv_Pieces.l0] at H
 refine Sw<|Sw<|Rg hN ?_
 rcases (ifC H).symm with ⟨c358,H⟩ | ⟨c358,H⟩
 ·refine Cf (df c358)<|Ex<|Sw<|Rd hm hN (.q 0 [[]] (.q 1 [[]] (.q 2 [[]] (.e 3 .z)))) [(2,some (.row none 1 (List.map S x2))),(3,some (.pt [I x1000,I x1001]))] (.cons (shrM (some 9) 1 S S x2 (fun _=>rfl)) (.cons (ptS (shrC (rfl:(V.shr (I x1000))=I x1000) (shrC (rfl:(V.shr (I x1001))=I x1001) (rfl:shrL []=[])))) .nil)) [] [] .nil .nil [] [] ?_
  cases H
  exact Rt dR
 refine Ct (dt c358)<|Sk<|Bl<|Sw ?_
 obtain ⟨c359,H⟩:=ifS H
 obtain ⟨c360,H⟩:=ifS H
 obtain ⟨t361,h362,H⟩:=bindS H
 refine Rh hN [.tup [.agg [I t361.1,I t361.2.1,B t361.2.2.1,I t361.2.2.2.1],I t361.2.2.2.2.1,I t361.2.2.2.2.2]] (.cons c359 (.cons c360 (.cons (head_Decode.con h362).c .nil)))<|Sw<|Bl<|Sw<|Rg hN ?_
 rcases (ifC H).symm with ⟨c363,H⟩ | ⟨c363,H⟩
 ·refine Ct (nq c363)<|Sw<|Rg hN ?_
  cases H
  exact Good.ret (fin_fit (u:=.tup [.nil 9 1,.agg [I t361.2.2.2.2.2,I x4]]) (.tup (.cons (.nilO 9 1) (.cons (.refl _) .nil))) (by kernel_rfl))
 refine Cf (bneF c363)<|Sw<|Rg hN ?_
 rcases ifC H with ⟨c364,H⟩ | ⟨c364,H⟩
 ·refine Ct (dt c364)<|Sw<|Rg hN ?_
  cases H
  exact Good.ret (fin_fit (u:=.tup [.nil 9 1,.agg [I 5,I x4]]) (.tup (.cons (.nilO 9 1) (.cons (.refl _) .nil))) (by kernel_rfl))
 refine Cf (df c364)<|Sk<|Sw ?_
 obtain ⟨t365,h366,H⟩:=bindS H
 obtain ⟨c367,H⟩:=ifS H
 exact Rh hN [S t365,.kb true,.row (some 9) 1 (List.map S (x2++[t365]))] (.cons (octets_Cut.con h366).c (.cons (fitM S x2 [t365] (.refl _)) (.cons (limM1 S c367) .nil)))<|Rg hN<|⟨k,by omega,x0,(x2++[t365]),wrap64 (x4+(wrap64 (t361.2.2.2.2.1+t361.2.2.2.1))),x1000,x1001,by omega,Wk.ofB hL 1 [(0,0),(2,0),(3,0),(4,0)] (by kernel_rfl) (by kernel_rfl) (by kernel_rfl),H⟩
def pkcs8_elements.l0:Nat→List ByteArray→List (List S52)→Int→Int→Option (List (List S52) × Bool)
 | 0,_,_,_,_=>none
 | k+1,x4,x6,x20,x21=>if x21 < x20 then (if 0≤x21 then (if x21 < (x4.length:Int) then ((tlv_Decode.f k (rdOf ByteArray.empty x4 x21)).bind fun t386=>(if t386.2.1=0 then (if x6.length < 5864062014805 then (pkcs8_elements.l0 k x4 (x6++[t386.1]) x20 (wrap64 (x21+1))) else (none)) else (some (([]:List (List S52)),false)))) else (none)) else (none)) else (some (x6,true))
def pkcs8_elements.f (k:Nat) (a0:ByteArray):Option (List (List S52) × Bool):=(tlv_Pieces.f k a0).bind fun t380=>(if t380.2.1=0 then (pkcs8_elements.l0 k t380.1 ([]:List (List S52)) (t380.1.length:Int) 0) else (some (([]:List (List S52)),false)))
theorem pkcs8_elements.con {k:Nat} {a0:ByteArray} {r:(List (List S52) × Bool)} (H:pkcs8_elements.f k a0=some r):Con Tryd.prog 9 [S a0] (.tup [.row (some 35) 1 (List.map (vL52 0) r.1),B r.2]):=by
 refine Cg Tryd.func9 rfl fun C hN hL=>?_
 unfold pkcs8_elements.f at H
 refine Sw<|Rg hN<|Sw ?_
 obtain ⟨t380,h381,H⟩:=bindS H
 refine Rh hN [.tup [.row (some 9) 1 (List.map S t380.1),.agg [I t380.2.1,I t380.2.2]]] (.cons (tlv_Pieces.con h381).c .nil)<|Sw<|Sw<|Rg hN ?_
 rcases (ifC H).symm with ⟨c382,H⟩ | ⟨c382,H⟩
 ·refine Ct (nq c382)<|Sw<|Rg hN ?_
  cases H
  exact Good.ret (fin_fit (u:=.tup [.nil 35 1,B false]) (.tup (.cons (.nilO 35 1) (.cons (.refl _) .nil))) (by kernel_rfl))
 refine Cf (bneF c382)<|Sk<|Sw<|Rg hN<|Sw<|Sw<|Rh hN [I (t380.1.length:Int)] (.cons (lenM S t380.1) .nil)<|Bl<|Good.loopN (fun k' st=>∃ (x4:List ByteArray) (x6:List (List S52)) (x20:Int) (x21:Int) (x1000:Int) (x1001:Int),k'≤k∧Wk C st ⟨[(4,.w (.row (some 9) 1 (List.map S x4))),(6,.w (.row (some 35) 1 (List.map (vL52 0) x6))),(19,.al (.top (.t 4))),(20,.w (I x20)),(21,.w (I x21))],[.cells [.v (I x1000),.v (I x1001)]]⟩∧pkcs8_elements.l0 k' x4 x6 x20 x21=some r) k ⟨t380.1,([]:List (List S52)),(t380.1.length:Int),0,t380.2.1,t380.2.2,Nat.le_refl _,Wo [(4,0),(6,1),(19,0),(20,0),(21,0)],H⟩ fun k=>⟨fun st h=>(by obtain ⟨_,_,_,_,_,_,_,_,H⟩:=h;cases H),?_⟩
 clear H
 rintro st ⟨x4,x6,x20,x21,x1000,x1001,hk,W,H⟩
 refine W.good ?_
 rw [pkcs8_elements.l0] at H
 refine Sw<|Rg hN<|Sw ?_
 rcases (ifC H).symm with ⟨c383,H⟩ | ⟨c383,H⟩
 ·refine Cf (df c383)<|Ex<|Sw<|Rg hN ?_
  cases H
  exact Rt dR
 refine Ct (dt c383)<|Sk<|Sw<|Bl<|Sw ?_
 obtain ⟨c384,H⟩:=ifS H
 obtain ⟨c385,H⟩:=ifS H
 refine Rh hN [S (rdOf ByteArray.empty x4 x21)] (.cons c384 (.cons (ltM S c385) (.cons (atM S ByteArray.empty c384 c385) .nil)))<|Sw ?_
 obtain ⟨t386,h387,H⟩:=bindS H
 refine Rh hN [.tup [.row (some 52) 5 (List.map (v52 1) t386.1),.agg [I t386.2.1,I t386.2.2]]] (.cons (tlv_Decode.con h387).c .nil)<|Sw<|Sw<|Rg hN ?_
 rcases (ifC H).symm with ⟨c388,H⟩ | ⟨c388,H⟩
 ·refine Ct (nq c388)<|Sw<|Rg hN ?_
  cases H
  exact Good.ret (fin_fit (u:=.tup [.nil 35 1,B false]) (.tup (.cons (.nilO 35 1) (.cons (.refl _) .nil))) (by kernel_rfl))
 refine Cf (bneF c388)<|Sk ?_
 obtain ⟨c389,H⟩:=ifS H
 exact Rh hN [.row none 5 (List.map (v52 0) t386.1),.kb true,.row (some 35) 1 (List.map (vL52 0) (x6++[t386.1]))] (.cons (shrM (some 52) 5 (v52 1) (v52 0) t386.1 (v52.shr _)) (.cons (fitM (vL52 0) x6 [t386.1] (.refl _)) (.cons (limM1 (vL52 0) c389) .nil)))<|Rg hN<|⟨k,by omega,x4,(x6++[t386.1]),x20,wrap64 (x21+1),x1000,x1001,by omega,Wk.ofB hL 1 [(4,0),(6,0),(19,0),(20,0),(21,0)] (by kernel_rfl) (by kernel_rfl) (by kernel_rfl),H⟩
def putNums (n:Int):List Int:=[n / 72057594037927936 % 256,n / 281474976710656 % 256,n / 1099511627776 % 256,n / 4294967296 % 256,n / 16777216 % 256,n / 65536 % 256,n / 256 % 256,n % 256]
def octets_Put.f (a0:Int) (a1:Int):Option ByteArray:=if a1 < 1 then some (⟨#[]⟩:ByteArray) else if a1 > 8 then some (⟨#[]⟩:ByteArray) else some (strOfNums ((putNums a0).drop (8 - a1.toNat)))
theorem octets_Put.cells (w:World) (x0 x1 x2 x3 x4 x5 x6 x7:Int) (i:Nat) (hi:i < 8) :
 (w.alloc (.cells #[.int .u8 x0,.int .u8 x1,.int .u8 x2,.int .u8 x3,.int .u8 x4,.int .u8 x5,.int .u8 x6,.int .u8 x7] 92)).cell? ⟨w.heap.size,i,none⟩=some (.int .u8 ([x0,x1,x2,x3,x4,x5,x6,x7].getD i 0)):=by
 rw [World.cell?_alloc_new]
 match i,hi with
 | 0,_=>rfl
 | 1,_=>rfl
 | 2,_=>rfl
 | 3,_=>rfl
 | 4,_=>rfl
 | 5,_=>rfl
 | 6,_=>rfl
 | 7,_=>rfl
theorem octets_Put.conv (w:World) (k:Nat) (hk:k < 8) (x0 x1 x2 x3 x4 x5 x6 x7:Int) :
 (convert 69 9 (.slice (some ⟨w.heap.size,k,none⟩) (8 - k) (8 - k))).run Tryd.prog (w.alloc (.cells #[.int .u8 x0,.int .u8 x1,.int .u8 x2,.int .u8 x3,.int .u8 x4,.int .u8 x5,.int .u8 x6,.int .u8 x7] 92))=.ok (.string (strOfNums ([x0,x1,x2,x3,x4,x5,x6,x7].drop k))) (w.alloc (.cells #[.int .u8 x0,.int .u8 x1,.int .u8 x2,.int .u8 x3,.int .u8 x4,.int .u8 x5,.int .u8 x6,.int .u8 x7] 92)):=by
 refine run_convert_bytes_arg _ 69 5 Tryd.underlying69 Tryd.underlying5 w.heap.size k (8 - k) (8 - k) _ (by simp) (fun i hi=>?_) 9 Tryd.underlying9
 have:=octets_Put.cells w x0 x1 x2 x3 x4 x5 x6 x7 (k+i) (by omega)
 rw [this]
 simp [List.getD_eq_getElem?_getD]
set_option maxHeartbeats 8000000 in
set_option maxRecDepth 100000 in
theorem octets_Put.calls (a0:Int) (a1:Int) (r:ByteArray) (w:World) (h:octets_Put.f a0 a1=some r) :
 Calls Tryd.prog 22 #[.int .u64 a0,.int .i64 a1] w fun e w'=>e=.returned (.string r)∧Below w.heap.size w w':=by
 by_cases h1:a1 < 1
 ·have hr:r=(⟨#[]⟩:ByteArray):=by unfold octets_Put.f at h;rw [if_pos h1] at h;exact (Option.some.inj h).symm
  subst hr
  clear h
  go_enter Tryd.func22,Tryd.ntmps22
  go_wp2
  go_ret
  exact ⟨rfl,Below.refl _ _⟩
 by_cases h2:8 < a1
 ·have hr:r=(⟨#[]⟩:ByteArray):=by unfold octets_Put.f at h;rw [if_neg h1,if_pos h2] at h;exact (Option.some.inj h).symm
  subst hr
  clear h
  go_enter Tryd.func22,Tryd.ntmps22
  go_wp2
  go_ret
  exact ⟨rfl,Below.refl _ _⟩
 have hr:r=strOfNums ((putNums a0).drop (8 - a1.toNat)):=by unfold octets_Put.f at h;rw [if_neg h1,if_neg (by omega)] at h;exact (Option.some.inj h).symm
 subst hr
 clear h
 rcases (by omega:a1=1∨a1=2∨a1=3∨a1=4∨a1=5∨a1=6∨a1=7∨a1=8) with rfl | rfl | rfl | rfl | rfl | rfl | rfl | rfl
 ·have hcv:=octets_Put.conv w 7 (by omega)
  clear h1 h2
  go_enter Tryd.func22,Tryd.ntmps22
  go_wp2
  refine wp_loop_rounds 9 ?_
  repeat any_goals (rw [rounds_succ];go_wp2)
  go_ret
  exact ⟨rfl,by repeat (first | exact Below.refl _ _ | apply bl_alloc)⟩
 ·have hcv:=octets_Put.conv w 6 (by omega)
  clear h1 h2
  go_enter Tryd.func22,Tryd.ntmps22
  go_wp2
  refine wp_loop_rounds 9 ?_
  repeat any_goals (rw [rounds_succ];go_wp2)
  go_ret
  exact ⟨rfl,by repeat (first | exact Below.refl _ _ | apply bl_alloc)⟩
 ·have hcv:=octets_Put.conv w 5 (by omega)
  clear h1 h2
  go_enter Tryd.func22,Tryd.ntmps22
  go_wp2
  refine wp_loop_rounds 9 ?_
  repeat any_goals (rw [rounds_succ];go_wp2)
  go_ret
  exact ⟨rfl,by repeat (first | exact Below.refl _ _ | apply bl_alloc)⟩
 ·have hcv:=octets_Put.conv w 4 (by omega)
  clear h1 h2
  go_enter Tryd.func22,Tryd.ntmps22
  go_wp2
  refine wp_loop_rounds 9 ?_
  repeat any_goals (rw [rounds_succ];go_wp2)
  go_ret
  exact ⟨rfl,by repeat (first | exact Below.refl _ _ | apply bl_alloc)⟩
 ·have hcv:=octets_Put.conv w 3 (by omega)
  clear h1 h2
  go_enter Tryd.func22,Tryd.ntmps22
  go_wp2
  refine wp_loop_rounds 9 ?_
  repeat any_goals (rw [rounds_succ];go_wp2)
  go_ret
  exact ⟨rfl,by repeat (first | exact Below.refl _ _ | apply bl_alloc)⟩
 ·have hcv:=octets_Put.conv w 2 (by omega)
  clear h1 h2
  go_enter Tryd.func22,Tryd.ntmps22
  go_wp2
  refine wp_loop_rounds 9 ?_
  repeat any_goals (rw [rounds_succ];go_wp2)
  go_ret
  exact ⟨rfl,by repeat (first | exact Below.refl _ _ | apply bl_alloc)⟩
 ·have hcv:=octets_Put.conv w 1 (by omega)
  clear h1 h2
  go_enter Tryd.func22,Tryd.ntmps22
  go_wp2
  refine wp_loop_rounds 9 ?_
  repeat any_goals (rw [rounds_succ];go_wp2)
  go_ret
  exact ⟨rfl,by repeat (first | exact Below.refl _ _ | apply bl_alloc)⟩
 ·have hcv:=octets_Put.conv w 0 (by omega)
  clear h1 h2
  go_enter Tryd.func22,Tryd.ntmps22
  go_wp2
  refine wp_loop_rounds 9 ?_
  repeat any_goals (rw [rounds_succ];go_wp2)
  go_ret
  exact ⟨rfl,by repeat (first | exact Below.refl _ _ | apply bl_alloc)⟩
theorem octets_Put.con {a0:Int} {a1:Int} {r:ByteArray} (H:octets_Put.f a0 a1=some r):Con Tryd.prog 22 [K .u64 a0,I a1] (S r) :=
 con_lits Tryd.func22 rfl (by kernel_rfl) rfl fun p w ht=>octets_Put.calls a0 a1 r w H
def whole_Encode.l0:Nat→ByteArray→Option (ByteArray)
 | 0,_=>none
 | k+1,x3=>if (x3.size:Int) > 1 then ((whole_Right.f x3).bind fun t394=>(if t394=true then (some x3) else (if 1≤(x3.size:Int) then (whole_Encode.l0 k (x3.extract 1 x3.size)) else (none)))) else (some x3)
def whole_Encode.f (k:Nat) (a0:Int):Option (ByteArray):=(octets_Put.f (IntKind.u64.wrap (a0)) 8).bind fun t391=>(whole_Encode.l0 k t391)
theorem whole_Encode.con {k:Nat} {a0:Int} {r:(ByteArray)} (H:whole_Encode.f k a0=some r):Con Tryd.prog 11 [I a0] (S r):=by
 refine Cg Tryd.func11 rfl fun C hN hL=>?_
 unfold whole_Encode.f at H
 refine Sw<|Rg hN<|Sw ?_
 obtain ⟨t391,h392,H⟩:=bindS H
 refine Rh hN [S t391] (.cons (octets_Put.con h392).c .nil)<|Sw<|Bl<|Good.loopN (fun k' st=>∃ (x3:ByteArray),k'≤k∧Wk C st ⟨[(3,.w (S x3))],[]⟩∧whole_Encode.l0 k' x3=some r) k ⟨t391,Nat.le_refl _,Wo [(3,0)],H⟩ fun k=>⟨fun st h=>(by obtain ⟨_,_,_,H⟩:=h;cases H),?_⟩
 clear H
 rintro st ⟨x3,hk,W,H⟩
 refine W.good ?_
 rw [whole_Encode.l0] at H
 refine Sw<|Sw ?_
 rcases (ifC H).symm with ⟨c393,H⟩ | ⟨c393,H⟩
 ·refine Rh hN [B false] (.cons (df c393) .nil)<|Good.cond false (by kernel_rfl)<|Ex<|Sw<|Rg hN ?_
  cases H
  exact Rt dR
 obtain ⟨t394,h395,H⟩:=bindS H
 refine Rh hN [B true,B t394] (.cons (dt c393) (.cons (whole_Right.con h395).c .nil)) ?_
 rcases ifC H with ⟨c396,H⟩ | ⟨c396,H⟩
 ·refine Cf (notF c396)<|Ex<|Sw<|Rg hN ?_
  cases H
  exact Rt dR
 refine Ct (notT (bf c396))<|Sk<|Bl ?_
 obtain ⟨c397,H⟩:=ifS H
 exact Rh hN [] (.cons (show (0:Int)≤1 by decide) (.cons c397 .nil))<|⟨k,by omega,x3.extract 1 x3.size,by omega,Wo [(3,0)],H⟩
def slices_Clone_int_int.f (l0:List Int):Option (List Int):=if ([]:List Int).length+l0.length < 17592186044416 then (some (([]:List Int)++l0)) else (none)
theorem slices_Clone_int_int.con {l0:List Int} {r:(List Int)} (H:slices_Clone_int_int.f l0=some r):Con Tryd.prog 37 [.row none 1 (List.map I l0)] (.row (some 3) 1 (List.map I r)):=by
 refine Cg Tryd.func37 rfl fun C hN hL=>?_
 unfold slices_Clone_int_int.f at H
 refine Sw<|Rg hN<|Sw<|Sw<|Good.regNil 1 4 0 (List.map I l0) hN [] .nil (by kernel_rfl) (by kernel_rfl) (fun hes=>?_) ?_
 ·refine Good.cond true (by kernel_rfl)<|Sw<|Rg hN ?_
  obtain rfl:l0=[]:=List.map_eq_nil_iff.1 hes
  obtain ⟨_,H⟩:=ifS H
  cases H
  exact Good.ret (fin_fit (u:=.nil 3 1) (.nilO 3 1) (by kernel_rfl))
 refine Good.cond false (by kernel_rfl)<|Sk<|Sw ?_
 obtain ⟨c398,H⟩:=ifS H
 refine Rh hN [.kb false,.row (some 3) 1 (List.map I (([]:List Int)++l0))] (.cons (fitM I ([]:List Int) l0 (.refl _)) (.cons (limM2 I I c398) .nil)) ?_
 cases H
 exact Rt dR
def tree_moved.l0:Nat→Int→Int→Int→Int→Int→Bool→ByteArray→List Int→Option (Int × Int × Bool × ByteArray × List Int)
 | 0,_,_,_,_,_,_,_,_=>none
 | k+1,x1,x12,x13,x1000,x1001,x1002,x1003,x1004=>if x13 < x12 then (if 0≤x13 then (if x13 < (x1004.length:Int) then (tree_moved.l0 k x1 x12 (wrap64 (x13+1)) x1000 x1001 x1002 x1003 (x1004.set (x13:Int).toNat (wrap64 ((rd x1004 x13)+x1)))) else (none)) else (none)) else (some (x1000,x1001,x1002,x1003,x1004))
def tree_moved.f (k:Nat) (a0_0:Int) (a0_1:Int) (a0_2:Bool) (a0_3:ByteArray) (l0_4:List Int) (a1:Int):Option (Int × Int × Bool × ByteArray × List Int):=(slices_Clone_int_int.f l0_4).bind fun t400=>(tree_moved.l0 k a1 (t400.length:Int) 0 a0_0 a0_1 a0_2 a0_3 t400)
theorem tree_moved.con {k:Nat} {a0_0:Int} {a0_1:Int} {a0_2:Bool} {a0_3:ByteArray} {l0_4:List Int} {a1:Int} {r:(Int × Int × Bool × ByteArray × List Int)} (H:tree_moved.f k a0_0 a0_1 a0_2 a0_3 l0_4 a1=some r):Con Tryd.prog 24 [.agg [I a0_0,I a0_1,B a0_2,S a0_3,.row none 1 (List.map I l0_4)],I a1] (.agg [I r.1,I r.2.1,B r.2.2.1,S r.2.2.2.1,.row (some 3) 1 (List.map I r.2.2.2.2)]):=by
 refine Cg Tryd.func24 rfl fun C hN hL=>?_
 unfold tree_moved.f at H
 refine Sw<|Rg hN<|Sw ?_
 obtain ⟨t400,h401,H⟩:=bindS H
 refine Rh hN [.row (some 3) 1 (List.map I t400)] (.cons (slices_Clone_int_int.con h401).c .nil)<|Sw<|Sw<|Rh hN [I (t400.length:Int)] (.cons (lenM I t400) .nil)<|Bl<|Good.loopN (fun k' st=>∃ (x1:Int) (x12:Int) (x13:Int) (x1000:Int) (x1001:Int) (x1002:Bool) (x1003:ByteArray) (x1004:List Int) (x2000:Int) (x2001:Int) (x2002:Bool) (x2003:ByteArray),k'≤k∧Wk C st ⟨[(1,.w (I x1)),(2,.d (.ptr 0 0)),(4,.d (.ptr 1 0)),(12,.w (I x12)),(13,.w (I x13))],[.cells [.v (I x1000),.v (I x1001),.v (B x1002),.v (S x1003),.v (.row (some 3) 1 (List.map I x1004))],.cells [.v (I x2000),.v (I x2001),.v (B x2002),.v (S x2003),.v (.nil 3 1)]]⟩∧tree_moved.l0 k' x1 x12 x13 x1000 x1001 x1002 x1003 x1004=some r) k ⟨a1,(t400.length:Int),0,a0_0,a0_1,a0_2,a0_3,t400,0,0,false,(⟨#[]⟩:ByteArray),Nat.le_refl _,Wo [(1,0),(2,0),(4,0),(12,0),(13,0)],H⟩ fun k=>⟨fun st h=>(by obtain ⟨_,_,_,_,_,_,_,_,_,_,_,_,_,_,H⟩:=h;cases H),?_⟩
 clear H
 rintro st ⟨x1,x12,x13,x1000,x1001,x1002,x1003,x1004,x2000,x2001,x2002,x2003,hk,W,H⟩
 refine W.good ?_
 rw [tree_moved.l0] at H
 refine Sw<|Rg hN<|Sw ?_
 rcases (ifC H).symm with ⟨c402,H⟩ | ⟨c402,H⟩
 ·refine Cf (df c402)<|Ex<|Sw<|Rg hN ?_
  cases H
  exact Rt dR
 refine Ct (dt c402)<|Sk<|Sw<|Bl<|Sw<|Rg hN ?_
 obtain ⟨c403,H⟩:=ifS H
 obtain ⟨c404,H⟩:=ifS H
 exact Rh hN [I (rd x1004 x13),I (rd x1004 x13),I (wrap64 ((rd x1004 x13)+x1)),.row (some 3) 1 (List.map I (x1004.set (x13:Int).toNat (wrap64 ((rd x1004 x13)+x1))))] (.cons c403 (.cons (ltM I c404) (.cons (atM I (0:Int) c403 c404) (.cons c403 (.cons (ltM I c404) (.cons (atM I (0:Int) c403 c404) (.cons (Fit.refl (I (wrap64 ((rd x1004 x13)+x1)))) (.cons (setM I (l:=x1004) (n:=(x13:Int).toNat) (x:=wrap64 ((rd x1004 x13)+x1))) .nil))))))))<|Rg hN<|⟨k,by omega,x1,x12,wrap64 (x13+1),x1000,x1001,x1002,x1003,(x1004.set (x13:Int).toNat (wrap64 ((rd x1004 x13)+x1))),x2000,x2001,x2002,x2003,by omega,Wo [(1,0),(2,0),(4,0),(12,0),(13,0)],H⟩
mutual
def tree_Of.l0:Nat→List S52→List (List S52)→Int→Int→Option (List S52)
 | 0,_,_,_,_=>none
 | k+1,x7,x17,x18,x19=>if x19 < x18 then (if 0≤x19 then (if x19 < (x17.length:Int) then (if ((rd_L52 x17 x19).length:Int) > 0 then (if 0 < (x7.length:Int) then (if ((rd_T52 x7 0).f4).length < 17592186044416 then (tree_Of.j1 k (x7.set (0:Int).toNat (⟨(rd_T52 x7 0).f0,(rd_T52 x7 0).f1,(rd_T52 x7 0).f2,(rd_T52 x7 0).f3,(((rd_T52 x7 0).f4)++[(x7.length:Int)])⟩:S52)) (rd_L52 x17 x19) (x7.length:Int) x17 x18 x19) else (none)) else (none)) else (tree_Of.j1 k x7 (rd_L52 x17 x19) (x7.length:Int) x17 x18 x19)) else (none)) else (none)) else (some x7)
def tree_Of.j1:Nat→List S52→List S52→Int→List (List S52)→Int→Int→Option (List S52)
 | 0,_,_,_,_,_,_=>none
 | k+1,x7,x9,x10,x17,x18,x19=>tree_Of.l1 k x7 x10 x17 x18 x19 x9 (x9.length:Int) 0
def tree_Of.l1:Nat→List S52→Int→List (List S52)→Int→Int→List S52→Int→Int→Option (List S52)
 | 0,_,_,_,_,_,_,_,_=>none
 | k+1,x7,x10,x17,x18,x19,x38,x39,x40=>if x40 < x39 then (if 0≤x40 then (if x40 < (x38.length:Int) then ((tree_moved.f k ((rd_T52 x38 x40).f0) ((rd_T52 x38 x40).f1) ((rd_T52 x38 x40).f2) ((rd_T52 x38 x40).f3) ((rd_T52 x38 x40).f4) x10).bind fun t422=>(if x7.length < 2199023255552 then (tree_Of.l1 k (x7++[(⟨t422.1,t422.2.1,t422.2.2.1,t422.2.2.2.1,t422.2.2.2.2⟩:S52)]) x10 x17 x18 x19 x38 x39 (wrap64 (x40+1))) else (none))) else (none)) else (none)) else (tree_Of.l0 k x7 x17 x18 (wrap64 (x19+1)))
end
def tree_Of.f (k:Nat) (a0:Int) (a1:Int) (l2:List (List S52)):Option (List S52):=tree_Of.l0 k ([(⟨a0,a1,true,(⟨#[]⟩:ByteArray),([]:List Int)⟩:S52)]:List S52) l2 (l2.length:Int) 0
theorem tree_Of.con {k:Nat} {a0:Int} {a1:Int} {l2:List (List S52)} {r:(List S52)} (H:tree_Of.f k a0 a1 l2=some r):Con Tryd.prog 12 [I a0,I a1,.row none 1 (List.map (vL52 0) l2)] (.row (some 52) 5 (List.map (v52 1) r)):=by
 refine Cg Tryd.func12 rfl fun C hN hL=>?_
 unfold tree_Of.f at H
 refine Sw<|Rg hN<|Sw<|Rj hN [] (.cons (fitR (o:=some 52) (sz:=5) (n:=[.agg [I a0,I a1,B true,S (⟨#[]⟩:ByteArray),.row (some 3) 1 (List.map I ([]:List Int))]]) (.cons (.agg (.cons (.refl _) (.cons (.refl _) (.cons (.refl _) (.cons (.refl _) (.cons (.nilO 3 1) .nil)))))) .nil)) .nil) [] [(16,.row (some 52) 5 (List.map (v52 1) ([(⟨a0,a1,true,(⟨#[]⟩:ByteArray),([]:List Int)⟩:S52)]:List S52)))]<|Sw<|Sw<|Rh hN [I (l2.length:Int)] (.cons (lenM (vL52 0) l2) .nil)<|Bl<|Good.loopN (fun k' st=>∃ (x7:List S52) (x17:List (List S52)) (x18:Int) (x19:Int),k'≤k∧Wk C st ⟨[(7,.w (.row (some 52) 5 (List.map (v52 1) x7))),(17,.w (.row none 1 (List.map (vL52 0) x17))),(18,.w (I x18)),(19,.w (I x19))],[]⟩∧tree_Of.l0 k' x7 x17 x18 x19=some r) k ⟨([(⟨a0,a1,true,(⟨#[]⟩:ByteArray),([]:List Int)⟩:S52)]:List S52),l2,(l2.length:Int),0,Nat.le_refl _,Wo [(7,0),(17,0),(18,0),(19,0)],H⟩ fun k=>⟨fun st h=>(by obtain ⟨_,_,_,_,_,_,H⟩:=h;cases H),?_⟩
 clear H
 rintro st ⟨x7,x17,x18,x19,hk,W,H⟩
 refine W.good ?_
 rw [tree_Of.l0] at H
 refine Sw<|Rg hN<|Sw ?_
 rcases (ifC H).symm with ⟨c411,H⟩ | ⟨c411,H⟩
 ·refine Cf (df c411)<|Ex<|Sw<|Rg hN ?_
  cases H
  exact Rt dR
 refine Ct (dt c411)<|Sk<|Sw<|Bl<|Sw ?_
 obtain ⟨c412,H⟩:=ifS H
 obtain ⟨c413,H⟩:=ifS H
 refine Rh hN [(vL52 0) (rd_L52 x17 x19)] (.cons c412 (.cons (atM (vL52 0) ([]:List S52) c412 c413) .nil))<|Sw<|Rh hN [I (x7.length:Int)] (.cons (lenM (v52 1) x7) .nil)<|Sw<|Sw<|Rh hN [I ((rd_L52 x17 x19).length:Int)] (.cons (lenM (v52 0) (rd_L52 x17 x19)) .nil)<|Good.cut (fun st=>∃ n':Nat,n'≤k∧∃ (x7:List S52) (x9:List S52) (x10:Int) (x17:List (List S52)) (x18:Int) (x19:Int),Wk C st ⟨[(7,.w (.row (some 52) 5 (List.map (v52 1) x7))),(9,.w (.row none 5 (List.map (v52 0) x9))),(10,.w (I x10)),(17,.w (.row none 1 (List.map (vL52 0) x17))),(18,.w (I x18)),(19,.w (I x19))],[]⟩∧tree_Of.j1 n' x7 x9 x10 x17 x18 x19=some r) ?_ ?_
 ·rcases (ifC H).symm with ⟨c414,H⟩ | ⟨c414,H⟩
  ·exact Cf (df c414)<|Sk<|⟨k,by omega,x7,rd_L52 x17 x19,(x7.length:Int),x17,x18,x19,Wo [(7,0),(9,0),(10,0),(17,0),(18,0),(19,0)],H⟩
  refine Ct (dt c414) ?_
  obtain ⟨c415,H⟩:=ifS H
  obtain ⟨c416,H⟩:=ifS H
  exact Rh hN [(v52 1) (rd_T52 x7 0),.kb true,(v52 1) (rd_T52 x7 0),.row (some 3) 1 (List.map I (((rd_T52 x7 0).f4)++[(x7.length:Int)])),setC ((v52 1) (rd_T52 x7 0)) 4 [.any],(v52 1) (⟨(rd_T52 x7 0).f0,(rd_T52 x7 0).f1,(rd_T52 x7 0).f2,(rd_T52 x7 0).f3,(((rd_T52 x7 0).f4)++[(x7.length:Int)])⟩:S52),.row (some 52) 5 (List.map (v52 1) (x7.set (0:Int).toNat (⟨(rd_T52 x7 0).f0,(rd_T52 x7 0).f1,(rd_T52 x7 0).f2,(rd_T52 x7 0).f3,(((rd_T52 x7 0).f4)++[(x7.length:Int)])⟩:S52)))] (.cons (show (0:Int)≤0 by decide) (.cons (ltM (v52 1) c415) (.cons (atM (v52 1) z52 (show (0:Int)≤0 by decide) c415) (.cons (atM (v52 1) z52 (show (0:Int)≤0 by decide) c415) (.cons (fitM I ((rd_T52 x7 0).f4) [(x7.length:Int)] (.refl _)) (.cons (limM1 I c416) (.cons (show (0:Int)≤0 by decide) (.cons (ltH (v52 1) (m:=(0:Int).toNat) (X:=setC ((v52 1) (rd_T52 x7 0)) 4 [.any]) c415) (.cons (atH (v52 1) (X:=setC ((v52 1) (rd_T52 x7 0)) 4 [.any]) (show (0:Int)≤0 by decide) c415) (.cons (Fit.refl ((v52 1) (⟨(rd_T52 x7 0).f0,(rd_T52 x7 0).f1,(rd_T52 x7 0).f2,(rd_T52 x7 0).f3,(((rd_T52 x7 0).f4)++[(x7.length:Int)])⟩:S52))) (.cons (setH (v52 1) (l:=x7) (n:=(0:Int).toNat) (x:=(⟨(rd_T52 x7 0).f0,(rd_T52 x7 0).f1,(rd_T52 x7 0).f2,(rd_T52 x7 0).f3,(((rd_T52 x7 0).f4)++[(x7.length:Int)])⟩:S52)) (X:=setC ((v52 1) (rd_T52 x7 0)) 4 [.any])) .nil)))))))))))<|⟨k,by omega,(x7.set (0:Int).toNat (⟨(rd_T52 x7 0).f0,(rd_T52 x7 0).f1,(rd_T52 x7 0).f2,(rd_T52 x7 0).f3,(((rd_T52 x7 0).f4)++[(x7.length:Int)])⟩:S52)),rd_L52 x17 x19,(x7.length:Int),x17,x18,x19,Wo [(7,0),(9,0),(10,0),(17,0),(18,0),(19,0)],H⟩
 clear H
 rintro st ⟨n',hn',x7,x9,x10,x17,x18,x19,W,H⟩
 rcases n' with _ | k
 ·cases H
 refine W.good ?_
 rw [tree_Of.j1] at H
 refine Sw<|Rh hN [I (x9.length:Int)] (.cons (lenM (v52 0) x9) .nil)<|Bl<|Good.loopN (fun k' st=>∃ (x7:List S52) (x10:Int) (x17:List (List S52)) (x18:Int) (x19:Int) (x38:List S52) (x39:Int) (x40:Int),k'≤k∧Wk C st ⟨[(7,.w (.row (some 52) 5 (List.map (v52 1) x7))),(10,.w (I x10)),(17,.w (.row none 1 (List.map (vL52 0) x17))),(18,.w (I x18)),(19,.w (I x19)),(38,.w (.row none 5 (List.map (v52 0) x38))),(39,.w (I x39)),(40,.w (I x40))],[]⟩∧tree_Of.l1 k' x7 x10 x17 x18 x19 x38 x39 x40=some r) k ⟨x7,x10,x17,x18,x19,x9,(x9.length:Int),0,Nat.le_refl _,Wo [(7,0),(10,0),(17,0),(18,0),(19,0),(38,0),(39,0),(40,0)],H⟩ fun k=>⟨fun st h=>(by obtain ⟨_,_,_,_,_,_,_,_,_,_,H⟩:=h;cases H),?_⟩
 clear H
 rintro st ⟨x7,x10,x17,x18,x19,x38,x39,x40,hk,W,H⟩
 refine W.good ?_
 rw [tree_Of.l1] at H
 refine Sw<|Rg hN<|Sw ?_
 rcases (ifC H).symm with ⟨c419,H⟩ | ⟨c419,H⟩
 ·exact Cf (df c419)<|Ex<|Rg hN<|⟨k,by omega,x7,x17,x18,wrap64 (x19+1),by omega,Wo [(7,0),(17,0),(18,0),(19,0)],H⟩
 refine Ct (dt c419)<|Sk<|Sw<|Bl<|Sw ?_
 obtain ⟨c420,H⟩:=ifS H
 obtain ⟨c421,H⟩:=ifS H
 refine Rh hN [(v52 0) (rd_T52 x38 x40)] (.cons c420 (.cons (atM (v52 0) z52 c420 c421) .nil)) ?_
 obtain ⟨t422,h423,H⟩:=bindS H
 obtain ⟨c424,H⟩:=ifS H
 exact Rh hN [.agg [I t422.1,I t422.2.1,B t422.2.2.1,S t422.2.2.2.1,.row (some 3) 1 (List.map I t422.2.2.2.2)],.tup [],.kb true,.row (some 52) 5 (List.map (v52 1) (x7++[(⟨t422.1,t422.2.1,t422.2.2.1,t422.2.2.2.1,t422.2.2.2.2⟩:S52)]))] (.cons (tree_moved.con h423).c (.cons (fitM (v52 1) x7 [(⟨t422.1,t422.2.1,t422.2.2.1,t422.2.2.2.1,t422.2.2.2.2⟩:S52)] (.refl _)) (.cons (limM1 (v52 1) c424) .nil)))<|Rg hN<|⟨k,by omega,(x7++[(⟨t422.1,t422.2.1,t422.2.2.1,t422.2.2.2.1,t422.2.2.2.2⟩:S52)]),x10,x17,x18,x19,x38,x39,wrap64 (x40+1),by omega,Wk.ofB hL 0 [(7,0),(10,0),(17,0),(18,0),(19,0),(38,0),(39,0),(40,0)] (by kernel_rfl) (by kernel_rfl) (by kernel_rfl),H⟩
def tree_one.j0:Nat→Bool→Int→Int→Bool→ByteArray→List Int→Option (Bool)
 | 0,_,_,_,_,_,_=>none
 | k+1,x18,x1000,x1001,x1002,x1003,x1004=>if x18=true then (some false) else (if x1002=true then (if x1003.toList=([]:List UInt8) then (if x1000=0 then (if x1001=16 then (some true) else (some (x1001 == 17))) else (some true)) else (some false)) else (if (x1004.length:Int)=0 then (if x1000=0 then ((strs_Right.f k x1001 x1003).bind fun t435=>(some t435)) else (some true)) else (some false)))
def tree_one.f (k:Nat) (a0_0:Int) (a0_1:Int) (a0_2:Bool) (a0_3:ByteArray) (l0_4:List Int):Option (Bool):=if (mn a0_0 a0_1) < 0 then (tree_one.j0 k true a0_0 a0_1 a0_2 a0_3 l0_4) else (if a0_0 > 3 then (tree_one.j0 k true a0_0 a0_1 a0_2 a0_3 l0_4) else (tree_one.j0 k (decide (a0_1 > 2097151)) a0_0 a0_1 a0_2 a0_3 l0_4))
theorem tree_one.con {k:Nat} {a0_0:Int} {a0_1:Int} {a0_2:Bool} {a0_3:ByteArray} {l0_4:List Int} {r:(Bool)} (H:tree_one.f k a0_0 a0_1 a0_2 a0_3 l0_4=some r):Con Tryd.prog 51 [.agg [I a0_0,I a0_1,B a0_2,S a0_3,.row none 1 (List.map I l0_4)]] (B r):=by
 refine Cg Tryd.func51 rfl fun C hN hL=>?_
 unfold tree_one.f at H
 refine Sw<|Rg hN<|Sw<|Sw<|Good.cut (fun st=>∃ n':Nat,n'≤k∧∃ (x18:Bool) (x1000:Int) (x1001:Int) (x1002:Bool) (x1003:ByteArray) (x1004:List Int),Wk C st ⟨[(1,.d (.ptr 0 0)),(18,.w (B x18))],[.cells [.v (I x1000),.v (I x1001),.v (B x1002),.v (S x1003),.v (.row none 1 (List.map I x1004))]]⟩∧tree_one.j0 n' x18 x1000 x1001 x1002 x1003 x1004=some r) ?_ ?_
 ·rcases ifC H with ⟨c426,H⟩ | ⟨c426,H⟩
  ·exact Rh hN [B true,B true] (.cons (dt c426) (.cons (rfl:true=true) .nil))<|⟨k,by omega,true,a0_0,a0_1,a0_2,a0_3,l0_4,Wo [(1,0),(18,0)],H⟩
  rcases ifC H with ⟨c427,H⟩ | ⟨c427,H⟩
  ·exact Rh hN [B false,B true] (.cons (df c426) (.cons (dt c427) .nil))<|⟨k,by omega,true,a0_0,a0_1,a0_2,a0_3,l0_4,Wo [(1,0),(18,0)],H⟩
  exact Rh hN [B false,B false] (.cons (df c426) (.cons (df c427) .nil))<|⟨k,by omega,decide (a0_1 > 2097151),a0_0,a0_1,a0_2,a0_3,l0_4,Wo [(1,0),(18,0)],H⟩
 clear H
 rintro st ⟨n',hn',x18,x1000,x1001,x1002,x1003,x1004,W,H⟩
 rcases n' with _ | k
 ·cases H
 refine W.good ?_
 rw [tree_one.j0] at H
 rcases ifC H with ⟨c428,H⟩ | ⟨c428,H⟩
 ·refine Ct c428<|Sw<|Rg hN ?_
  cases H
  exact Rt dR
 refine Cf (bf c428)<|Sk<|Sw<|Sw<|Rg hN ?_
 rcases (ifC H).symm with ⟨c429,H⟩ | ⟨c429,H⟩
 ·refine Cf (bf c429)<|Sk<|Sw ?_
  rcases (ifC H).symm with ⟨c433,H⟩ | ⟨c433,H⟩
  ·refine Rh hN [I (x1004.length:Int),B false] (.cons (lenM I x1004) (.cons (bn c433) .nil)) ?_
   cases H
   exact Rt dR
  rcases (ifC H).symm with ⟨c434,H⟩ | ⟨c434,H⟩
  ·refine Rh hN [I (x1004.length:Int),B true,B true] (.cons (lenM I x1004) (.cons (bq c433) (.cons (nq c434) .nil))) ?_
   cases H
   exact Rt dR
  obtain ⟨t435,h436,H⟩:=bindS H
  refine Rh hN [I (x1004.length:Int),B true,B false,B t435] (.cons (lenM I x1004) (.cons (bq c433) (.cons (bneF c434) (.cons (strs_Right.con h436).c .nil)))) ?_
  cases H
  exact Rt dR
 refine Ct c429<|Sw ?_
 rcases (ifC H).symm with ⟨c430,H⟩ | ⟨c430,H⟩
 ·refine Ri hN [B false] (.cons (strV (rfl:x1003.toList=x1003.toList) (litL ([]:List UInt8))) (.cons (bn c430) .nil)) [(23,.bool (x1003.toList == ([]:List UInt8)))] ?_
  cases H
  exact Rt dR
 rcases (ifC H).symm with ⟨c431,H⟩ | ⟨c431,H⟩
 ·refine Ri hN [B true,B true,B true] (.cons (strV (rfl:x1003.toList=x1003.toList) (litL ([]:List UInt8))) (.cons (bq c430) (.cons (nq c431) (.cons (rfl:true=true) .nil)))) [(23,.bool (x1003.toList == ([]:List UInt8)))] ?_
  cases H
  exact Rt dR
 rcases ifC H with ⟨c432,H⟩ | ⟨c432,H⟩
 ·refine Ri hN [B true,B false,B true] (.cons (strV (rfl:x1003.toList=x1003.toList) (litL ([]:List UInt8))) (.cons (bq c430) (.cons (bneF c431) (.cons (bq c432) .nil)))) [(23,.bool (x1003.toList == ([]:List UInt8)))] ?_
  cases H
  exact Rt dR
 refine Ri hN [B true,B false,B false] (.cons (strV (rfl:x1003.toList=x1003.toList) (litL ([]:List UInt8))) (.cons (bq c430) (.cons (bneF c431) (.cons (bn c432) .nil)))) [(23,.bool (x1003.toList == ([]:List UInt8)))] ?_
 cases H
 exact Rt dR
def tree_depth.l2:Nat→List S52→List S107→Int→Int→Int→Option (Int)
 | 0,_,_,_,_,_=>none
 | k+1,x0,x3,x4,x102,x103=>if x103 < x102 then (if 0≤x103 then (if x103 < (x3.length:Int) then (if 0≤((rd_T107 x3 x103).f0) then (if ((rd_T107 x3 x103).f0) < (x0.length:Int) then (if ((rd_T107 x3 x103).f1)=(((rd_T52 x0 ((rd_T107 x3 x103).f0)).f4).length:Int) then (tree_depth.l2 k x0 x3 x4 x102 (wrap64 (x103+1))) else (some 0)) else (none)) else (none)) else (none)) else (none)) else (if x4 > 16 then (some 0) else (some x4))
mutual
def tree_depth.l0:Nat→List S52→List S107→Int→List S52→Int→Int→Option (Int)
 | 0,_,_,_,_,_,_=>none
 | k+1,x0,x3,x4,x18,x19,x20=>if x20 < x19 then (if 0≤x20 then (if x20 < (x18.length:Int) then ((tree_one.f k ((rd_T52 x18 x20).f0) ((rd_T52 x18 x20).f1) ((rd_T52 x18 x20).f2) ((rd_T52 x18 x20).f3) ((rd_T52 x18 x20).f4)).bind fun t453=>(if t453=true then (tree_depth.l1 k x0 x3 x4 x20 x18 x19 x20) else (some 0))) else (none)) else (none)) else (tree_depth.l2 k x0 x3 x4 (x3.length:Int) 0)
def tree_depth.l1:Nat→List S52→List S107→Int→Int→List S52→Int→Int→Option (Int)
 | 0,_,_,_,_,_,_,_=>none
 | k+1,x0,x3,x4,x5,x18,x19,x20=>if (x3.length:Int) > 0 then (if 0≤(wrap64 ((x3.length:Int) - 1)) then (if (wrap64 ((x3.length:Int) - 1)) < (x3.length:Int) then (if 0≤((rd_T107 x3 (wrap64 ((x3.length:Int) - 1))).f0) then (if ((rd_T107 x3 (wrap64 ((x3.length:Int) - 1))).f0) < (x0.length:Int) then (if ((rd_T107 x3 (wrap64 ((x3.length:Int) - 1))).f1)=(((rd_T52 x0 ((rd_T107 x3 (wrap64 ((x3.length:Int) - 1))).f0)).f4).length:Int) then (if (wrap64 ((x3.length:Int) - 1))≤(x3.length:Int) then (tree_depth.l1 k x0 (x3.take ((wrap64 ((x3.length:Int) - 1)):Int).toNat) x4 x5 x18 x19 x20) else (none)) else (tree_depth.j3 k x0 x3 x4 x5 x18 x19 x20)) else (none)) else (none)) else (none)) else (none)) else (tree_depth.j3 k x0 x3 x4 x5 x18 x19 x20)
def tree_depth.j3:Nat→List S52→List S107→Int→Int→List S52→Int→Int→Option (Int)
 | 0,_,_,_,_,_,_,_=>none
 | k+1,x0,x3,x4,x5,x18,x19,x20=>if x5 > 0 then (if (x3.length:Int)=0 then (some 0) else (if 0≤(wrap64 ((x3.length:Int) - 1)) then (if (wrap64 ((x3.length:Int) - 1)) < (x3.length:Int) then (if 0≤((rd_T107 x3 (wrap64 ((x3.length:Int) - 1))).f0) then (if ((rd_T107 x3 (wrap64 ((x3.length:Int) - 1))).f0) < (x0.length:Int) then (if 0≤((rd_T107 x3 (wrap64 ((x3.length:Int) - 1))).f1) then (if ((rd_T107 x3 (wrap64 ((x3.length:Int) - 1))).f1) < (((rd_T52 x0 ((rd_T107 x3 (wrap64 ((x3.length:Int) - 1))).f0)).f4).length:Int) then (if (rd ((rd_T52 x0 ((rd_T107 x3 (wrap64 ((x3.length:Int) - 1))).f0)).f4) ((rd_T107 x3 (wrap64 ((x3.length:Int) - 1))).f1))=x5 then ((some (x3.set ((wrap64 ((x3.length:Int) - 1)):Int).toNat (⟨(rd_T107 x3 (wrap64 ((x3.length:Int) - 1))).f0,wrap64 (((rd_T107 x3 (wrap64 ((x3.length:Int) - 1))).f1)+1)⟩:S107):List S107)).bind fun y472=>(if y472.length < 8796093022208 then ((some (y472++[(⟨x5,0⟩:S107)]:List S107)).bind fun y474=>(tree_depth.l0 k x0 y474 (mx x4 (y474.length:Int)) x18 x19 (wrap64 (x20+1)))) else (none))) else (some 0)) else (none)) else (none)) else (none)) else (none)) else (none)) else (none))) else (if x3.length < 8796093022208 then ((some (x3++[(⟨x5,0⟩:S107)]:List S107)).bind fun y476=>(tree_depth.l0 k x0 y476 (mx x4 (y476.length:Int)) x18 x19 (wrap64 (x20+1)))) else (none))
end
def tree_depth.j0:Nat→List S52→Bool→Option (Int)
 | 0,_,_=>none
 | k+1,x0,x17=>if x17=true then (some 0) else (tree_depth.l0 k x0 ([]:List S107) 0 x0 (x0.length:Int) 0)
def tree_depth.f (k:Nat) (l0:List S52):Option (Int):=if (l0.length:Int)=0 then (tree_depth.j0 k l0 true) else (tree_depth.j0 k l0 (decide ((l0.length:Int) > 1000)))
theorem tree_depth.con {k:Nat} {l0:List S52} {r:(Int)} (H:tree_depth.f k l0=some r):Con Tryd.prog 38 [.row none 5 (List.map (v52 0) l0)] (I r):=by
 refine Cg Tryd.func38 rfl fun C hN hL=>?_
 unfold tree_depth.f at H
 refine Sw<|Rg hN<|Sw<|Sw<|Good.cut (fun st=>∃ n':Nat,n'≤k∧∃ (x0:List S52) (x17:Bool),Wk C st ⟨[(0,.w (.row none 5 (List.map (v52 0) x0))),(17,.w (B x17))],[]⟩∧tree_depth.j0 n' x0 x17=some r) ?_ ?_
 ·rcases ifC H with ⟨c448,H⟩ | ⟨c448,H⟩
  ·exact Rh hN [I (l0.length:Int),B true] (.cons (lenM (v52 0) l0) (.cons (bq c448) .nil))<|⟨k,by omega,l0,true,Wo [(0,0),(17,0)],H⟩
  exact Rh hN [I (l0.length:Int),B false,I (l0.length:Int)] (.cons (lenM (v52 0) l0) (.cons (bn c448) (.cons (lenM (v52 0) l0) .nil)))<|⟨k,by omega,l0,decide ((l0.length:Int) > 1000),Wo [(0,0),(17,0)],H⟩
 clear H
 rintro st ⟨n',hn',x0,x17,W,H⟩
 rcases n' with _ | k
 ·cases H
 refine W.good ?_
 rw [tree_depth.j0] at H
 rcases ifC H with ⟨c449,H⟩ | ⟨c449,H⟩
 ·refine Ct c449<|Sw<|Rg hN ?_
  cases H
  exact Rt dR
 refine Cf (bf c449)<|Sk<|Sw<|Rg hN<|Sw<|Rg hN<|Sw<|Sw<|Rh hN [I (x0.length:Int)] (.cons (lenM (v52 0) x0) .nil)<|Bl<|Good.loopN (fun k' st=>∃ (x0:List S52) (x3:List S107) (x4:Int) (x18:List S52) (x19:Int) (x20:Int),k'≤k∧Wk C st ⟨[(0,.w (.row none 5 (List.map (v52 0) x0))),(3,.w (.row (some 107) 2 (List.map v107 x3))),(4,.w (I x4)),(18,.w (.row none 5 (List.map (v52 0) x18))),(19,.w (I x19)),(20,.w (I x20))],[]⟩∧tree_depth.l0 k' x0 x3 x4 x18 x19 x20=some r) k ⟨x0,([]:List S107),0,x0,(x0.length:Int),0,Nat.le_refl _,Wo [(0,0),(3,1),(4,0),(18,0),(19,0),(20,0)],H⟩ fun k=>⟨fun st h=>(by obtain ⟨_,_,_,_,_,_,_,_,H⟩:=h;cases H),?_⟩
 clear H
 rintro st ⟨x0,x3,x4,x18,x19,x20,hk,W,H⟩
 refine W.good ?_
 rw [tree_depth.l0] at H
 refine Sw<|Rg hN<|Sw ?_
 rcases (ifC H).symm with ⟨c450,H⟩ | ⟨c450,H⟩
 ·refine Cf (df c450)<|Ex<|Sw<|Sw<|Rh hN [I (x3.length:Int)] (.cons (lenM v107 x3) .nil)<|Bl<|Good.loopN (fun k' st=>∃ (x0:List S52) (x3:List S107) (x4:Int) (x102:Int) (x103:Int),k'≤k∧Wk C st ⟨[(0,.w (.row none 5 (List.map (v52 0) x0))),(3,.w (.row (some 107) 2 (List.map v107 x3))),(4,.w (I x4)),(101,.al (.top (.t 3))),(102,.w (I x102)),(103,.w (I x103))],[]⟩∧tree_depth.l2 k' x0 x3 x4 x102 x103=some r) k ⟨x0,x3,x4,(x3.length:Int),0,Nat.le_refl _,Wo [(0,0),(3,0),(4,0),(101,0),(102,0),(103,0)],H⟩ fun k=>⟨fun st h=>(by obtain ⟨_,_,_,_,_,_,_,H⟩:=h;cases H),?_⟩
  clear H
  rintro st ⟨x0,x3,x4,x102,x103,hk,W,H⟩
  refine W.good ?_
  rw [tree_depth.l2] at H
  refine Sw<|Rg hN<|Sw ?_
  rcases (ifC H).symm with ⟨c477,H⟩ | ⟨c477,H⟩
  ·refine Cf (df c477)<|Ex<|Sw<|Sw<|Rg hN ?_
   rcases ifC H with ⟨c483,H⟩ | ⟨c483,H⟩
   ·refine Ct (dt c483)<|Sw<|Rg hN ?_
    cases H
    exact Rt dR
   refine Cf (df c483)<|Sk<|Sw<|Rg hN ?_
   cases H
   exact Rt dR
  refine Ct (dt c477)<|Sk<|Sw<|Bl<|Sw ?_
  obtain ⟨c478,H⟩:=ifS H
  obtain ⟨c479,H⟩:=ifS H
  refine Rh hN [v107 (rd_T107 x3 x103)] (.cons c478 (.cons (ltM v107 c479) (.cons (atM v107 z107 c478 c479) .nil)))<|Sw ?_
  obtain ⟨c480,H⟩:=ifS H
  obtain ⟨c481,H⟩:=ifS H
  refine Rd hm hN (.qs 9 0 (.q 9 [] .z)) [(0,none),(9,some (.pt [I ((rd_T107 x3 x103).f0),I ((rd_T107 x3 x103).f1)]))] (.cons (ptS (shrC (rfl:(V.shr (I ((rd_T107 x3 x103).f0)))=I ((rd_T107 x3 x103).f0)) (shrC (rfl:(V.shr (I ((rd_T107 x3 x103).f1)))=I ((rd_T107 x3 x103).f1)) (rfl:shrL []=[])))) .nil) [(v52 0) (rd_T52 x0 ((rd_T107 x3 x103).f0)),I (((rd_T52 x0 ((rd_T107 x3 x103).f0)).f4).length:Int)] [(v52 0) (rd_T52 x0 ((rd_T107 x3 x103).f0)),I (((rd_T52 x0 ((rd_T107 x3 x103).f0)).f4).length:Int)] (.cons c480 (.cons (atM (v52 0) z52 c480 c481) (.cons (lenM I ((rd_T52 x0 ((rd_T107 x3 x103).f0)).f4)) .nil))) (.cons c480 (.cons (atM (v52 0) z52 c480 c481) (.cons (lenM I ((rd_T52 x0 ((rd_T107 x3 x103).f0)).f4)) .nil))) [] [] ?_
  rcases ifC H with ⟨c482,H⟩ | ⟨c482,H⟩
  ·exact Cf (bneF c482)<|Sk<|Rg hN<|⟨k,by omega,x0,x3,x4,x102,wrap64 (x103+1),by omega,Wk.ofB hL 0 [(0,0),(3,0),(4,0),(101,0),(102,0),(103,0)] (by kernel_rfl) (by kernel_rfl) (by kernel_rfl),H⟩
  refine Ct (nq c482)<|Sw<|Rg hN ?_
  cases H
  exact Rt dR
 refine Ct (dt c450)<|Sk<|Sw<|Bl<|Sw ?_
 obtain ⟨c451,H⟩:=ifS H
 obtain ⟨c452,H⟩:=ifS H
 refine Rh hN [(v52 0) (rd_T52 x18 x20)] (.cons c451 (.cons (atM (v52 0) z52 c451 c452) .nil))<|Sw<|Sw ?_
 obtain ⟨t453,h454,H⟩:=bindS H
 refine Rh hN [B t453] (.cons (tree_one.con h454).c .nil) ?_
 rcases (ifC H).symm with ⟨c455,H⟩ | ⟨c455,H⟩
 ·refine Ct (notT (bf c455))<|Sw<|Rg hN ?_
  cases H
  exact Rt dR
 refine Cf (notF c455)<|Sk<|Sw<|Good.cut (fun st=>∃ n':Nat,n'≤k∧∃ (x0:List S52) (x3:List S107) (x4:Int) (x5:Int) (x18:List S52) (x19:Int) (x20:Int) (x1000:Int) (x1001:Int) (x1002:Bool) (x1003:ByteArray) (x1004:List Int),Wk C st ⟨[(0,.w (.row none 5 (List.map (v52 0) x0))),(3,.w (.row (some 107) 2 (List.map v107 x3))),(4,.w (I x4)),(5,.w (I x5)),(18,.w (.row none 5 (List.map (v52 0) x18))),(19,.w (I x19)),(20,.w (I x20))],[.cells [.v (I x1000),.v (I x1001),.v (B x1002),.v (S x1003),.v (.row none 1 (List.map I x1004))]]⟩∧tree_depth.j3 n' x0 x3 x4 x5 x18 x19 x20=some r) ?_ ?_
 ·refine Bl<|Good.loopN (fun k' st=>∃ (x0:List S52) (x3:List S107) (x4:Int) (x5:Int) (x18:List S52) (x19:Int) (x20:Int) (x1000:Int) (x1001:Int) (x1002:Bool) (x1003:ByteArray) (x1004:List Int),k'≤k∧Wk C st ⟨[(0,.w (.row none 5 (List.map (v52 0) x0))),(3,.w (.row (some 107) 2 (List.map v107 x3))),(4,.w (I x4)),(5,.w (I x5)),(18,.w (.row none 5 (List.map (v52 0) x18))),(19,.w (I x19)),(20,.w (I x20))],[.cells [.v (I x1000),.v (I x1001),.v (B x1002),.v (S x1003),.v (.row none 1 (List.map I x1004))]]⟩∧tree_depth.l1 k' x0 x3 x4 x5 x18 x19 x20=some r) k ⟨x0,x3,x4,x20,x18,x19,x20,(rd_T52 x18 x20).f0,(rd_T52 x18 x20).f1,(rd_T52 x18 x20).f2,(rd_T52 x18 x20).f3,(rd_T52 x18 x20).f4,Nat.le_refl _,Wo [(0,0),(3,0),(4,0),(5,0),(18,0),(19,0),(20,0)],H⟩ fun k=>⟨fun st h=>(by obtain ⟨_,_,_,_,_,_,_,_,_,_,_,_,_,_,H⟩:=h;cases H),?_⟩
  clear H
  rintro st ⟨x0,x3,x4,x5,x18,x19,x20,x1000,x1001,x1002,x1003,x1004,hk,W,H⟩
  refine W.good ?_
  rw [tree_depth.l1] at H
  refine Sw<|Sw ?_
  rcases (ifC H).symm with ⟨c456,H⟩ | ⟨c456,H⟩
  ·exact Rd hm hN (.qs 4 0 (.k 31 (.is 20 4 (.q 24 [] .z)))) [(0,none),(3,some (.row none 2 (List.map v107 x3)))] (.cons (shrM (some 107) 2 v107 v107 x3 (fun _=>rfl)) .nil) [I (x3.length:Int),B false] [I (x3.length:Int)] (.cons (lenM v107 x3) (.cons (df c456) .nil)) (.cons (lenM v107 x3) (.cons (df c456) .nil)) [] []<|Good.cond false (by kernel_rfl)<|Ex<|⟨k,by omega,x0,x3,x4,x5,x18,x19,x20,x1000,x1001,x1002,x1003,x1004,Wo [(0,0),(3,0),(4,0),(5,0),(18,0),(19,0),(20,0)],H⟩
  obtain ⟨c457,H⟩:=ifS H
  obtain ⟨c458,H⟩:=ifS H
  obtain ⟨c459,H⟩:=ifS H
  obtain ⟨c460,H⟩:=ifS H
  refine Rd hm hN (.qs 4 0 (.k 31 (.qs 20 4 (.q 24 [] .z)))) [(0,none),(3,some (.row none 2 (List.map v107 x3)))] (.cons (shrM (some 107) 2 v107 v107 x3 (fun _=>rfl)) .nil) [I (x3.length:Int),B true,I (x3.length:Int),v107 (rd_T107 x3 (wrap64 ((x3.length:Int) - 1))),I (x3.length:Int),v107 (rd_T107 x3 (wrap64 ((x3.length:Int) - 1))),(v52 0) (rd_T52 x0 ((rd_T107 x3 (wrap64 ((x3.length:Int) - 1))).f0)),I (((rd_T52 x0 ((rd_T107 x3 (wrap64 ((x3.length:Int) - 1))).f0)).f4).length:Int)] [I (x3.length:Int),I (x3.length:Int),v107 (rd_T107 x3 (wrap64 ((x3.length:Int) - 1))),I (x3.length:Int),v107 (rd_T107 x3 (wrap64 ((x3.length:Int) - 1))),(v52 0) (rd_T52 x0 ((rd_T107 x3 (wrap64 ((x3.length:Int) - 1))).f0)),I (((rd_T52 x0 ((rd_T107 x3 (wrap64 ((x3.length:Int) - 1))).f0)).f4).length:Int)] (.cons (lenM v107 x3) (.cons (dt c456) (.cons (lenM v107 x3) (.cons c457 (.cons (ltM v107 c458) (.cons (atM v107 z107 c457 c458) (.cons (lenM v107 x3) (.cons c457 (.cons (ltM v107 c458) (.cons (atM v107 z107 c457 c458) (.cons c459 (.cons (atM (v52 0) z52 c459 c460) (.cons (lenM I ((rd_T52 x0 ((rd_T107 x3 (wrap64 ((x3.length:Int) - 1))).f0)).f4)) .nil))))))))))))) (.cons (lenM v107 x3) (.cons (dt c456) (.cons (lenM v107 x3) (.cons c457 (.cons (atM v107 z107 c457 c458) (.cons (lenM v107 x3) (.cons c457 (.cons (atM v107 z107 c457 c458) (.cons c459 (.cons (atM (v52 0) z52 c459 c460) (.cons (lenM I ((rd_T52 x0 ((rd_T107 x3 (wrap64 ((x3.length:Int) - 1))).f0)).f4)) .nil))))))))))) [] [] ?_
  rcases (ifC H).symm with ⟨c461,H⟩ | ⟨c461,H⟩
  ·exact Cf (bn c461)<|Ex<|⟨k,by omega,x0,x3,x4,x5,x18,x19,x20,x1000,x1001,x1002,x1003,x1004,Wo [(0,0),(3,0),(4,0),(5,0),(18,0),(19,0),(20,0)],H⟩
  refine Ct (bq c461)<|Sk<|Bl ?_
  obtain ⟨c462,H⟩:=ifS H
  exact Rh hN [I (x3.length:Int),.row (some 107) 2 (List.map v107 (x3.take ((wrap64 ((x3.length:Int) - 1)):Int).toNat))] (.cons (lenM v107 x3) (.cons c457 (.cons (leM v107 c462) (.cons (takeM v107 (l:=x3) (n:=((wrap64 ((x3.length:Int) - 1)):Int).toNat)) .nil))))<|⟨k,by omega,x0,x3.take ((wrap64 ((x3.length:Int) - 1)):Int).toNat,x4,x5,x18,x19,x20,x1000,x1001,x1002,x1003,x1004,by omega,Wo [(0,0),(3,0),(4,0),(5,0),(18,0),(19,0),(20,0)],H⟩
 clear H
 rintro st ⟨n',hn',x0,x3,x4,x5,x18,x19,x20,x1000,x1001,x1002,x1003,x1004,W,H⟩
 rcases n' with _ | k
 ·cases H
 refine W.good ?_
 rw [tree_depth.j3] at H
 refine Sw<|Sw<|Rg hN ?_
 rcases (ifC H).symm with ⟨c463,H⟩ | ⟨c463,H⟩
 ·refine Cf (df c463)<|Sk<|Sw ?_
  obtain ⟨c475,H⟩:=ifS H
  replace H:=bindI H
  exact Rh hN [.kb true,.row (some 107) 2 (List.map v107 (x3++[(⟨x5,0⟩:S107)]))] (.cons (fitM v107 x3 [(⟨x5,0⟩:S107)] (.refl _)) (.cons (limM1 v107 c475) .nil))<|Rh hN [I ((x3++[(⟨x5,0⟩:S107)]).length:Int)] (.cons (lenM v107 (x3++[(⟨x5,0⟩:S107)])) .nil)<|Rg hN<|⟨k,by omega,x0,(x3++[(⟨x5,0⟩:S107)]),mx x4 ((x3++[(⟨x5,0⟩:S107)]).length:Int),x18,x19,wrap64 (x20+1),by omega,Wk.ofB hL 0 [(0,0),(3,0),(4,0),(18,0),(19,0),(20,0)] (by kernel_rfl) (by kernel_rfl) (by kernel_rfl),H⟩
 refine Ct (dt c463)<|Sw<|Sw<|Rh hN [I (x3.length:Int)] (.cons (lenM v107 x3) .nil) ?_
 rcases ifC H with ⟨c464,H⟩ | ⟨c464,H⟩
 ·refine Ct (bq c464)<|Sw<|Rg hN ?_
  cases H
  exact Rt dR
 refine Cf (bn c464)<|Sk<|Sw ?_
 obtain ⟨c465,H⟩:=ifS H
 obtain ⟨c466,H⟩:=ifS H
 refine Rh hN [I (x3.length:Int)] (.cons (lenM v107 x3) (.cons c465 (.cons (ltM v107 c466) .nil)))<|Sw<|Sw ?_
 obtain ⟨c467,H⟩:=ifS H
 obtain ⟨c468,H⟩:=ifS H
 obtain ⟨c469,H⟩:=ifS H
 obtain ⟨c470,H⟩:=ifS H
 refine Rd hm hN (.qs 15 0 (.q 15 [] .z)) [(0,none),(5,none),(7,some (.tup [v107 (rd_T107 x3 (wrap64 ((x3.length:Int) - 1))),.pt [I ((rd_T107 x3 (wrap64 ((x3.length:Int) - 1))).f0),I ((rd_T107 x3 (wrap64 ((x3.length:Int) - 1))).f1)]]))] (.cons (atM v107 z107 c465 c466) (.cons (ptS (shrC (rfl:(V.shr (I ((rd_T107 x3 (wrap64 ((x3.length:Int) - 1))).f0)))=I ((rd_T107 x3 (wrap64 ((x3.length:Int) - 1))).f0)) (shrC (rfl:(V.shr (I ((rd_T107 x3 (wrap64 ((x3.length:Int) - 1))).f1)))=I ((rd_T107 x3 (wrap64 ((x3.length:Int) - 1))).f1)) (rfl:shrL []=[])))) .nil)) [v107 (rd_T107 x3 (wrap64 ((x3.length:Int) - 1))),(v52 0) (rd_T52 x0 ((rd_T107 x3 (wrap64 ((x3.length:Int) - 1))).f0)),v107 (rd_T107 x3 (wrap64 ((x3.length:Int) - 1))),I (rd ((rd_T52 x0 ((rd_T107 x3 (wrap64 ((x3.length:Int) - 1))).f0)).f4) ((rd_T107 x3 (wrap64 ((x3.length:Int) - 1))).f1))] [(v52 0) (rd_T52 x0 ((rd_T107 x3 (wrap64 ((x3.length:Int) - 1))).f0)),I (rd ((rd_T52 x0 ((rd_T107 x3 (wrap64 ((x3.length:Int) - 1))).f0)).f4) ((rd_T107 x3 (wrap64 ((x3.length:Int) - 1))).f1))] (.cons (atM v107 z107 c465 c466) (.cons c467 (.cons (atM (v52 0) z52 c467 c468) (.cons (atM v107 z107 c465 c466) (.cons c469 (.cons (atM I (0:Int) c469 c470) .nil)))))) (.cons c467 (.cons (atM (v52 0) z52 c467 c468) (.cons c469 (.cons (atM I (0:Int) c469 c470) .nil)))) [] [] ?_
 rcases (ifC H).symm with ⟨c471,H⟩ | ⟨c471,H⟩
 ·refine Ct (nq c471)<|Sw<|Rg hN ?_
  cases H
  exact Rt dR
 refine Cf (bneF c471)<|Sk ?_
 replace H:=bindI H
 refine Rh hN [v107 (rd_T107 x3 (wrap64 ((x3.length:Int) - 1))),v107 (rd_T107 x3 (wrap64 ((x3.length:Int) - 1))),v107 (⟨(rd_T107 x3 (wrap64 ((x3.length:Int) - 1))).f0,wrap64 (((rd_T107 x3 (wrap64 ((x3.length:Int) - 1))).f1)+1)⟩:S107),.row (some 107) 2 (List.map v107 (x3.set ((wrap64 ((x3.length:Int) - 1)):Int).toNat (⟨(rd_T107 x3 (wrap64 ((x3.length:Int) - 1))).f0,wrap64 (((rd_T107 x3 (wrap64 ((x3.length:Int) - 1))).f1)+1)⟩:S107)))] (.cons (atM v107 z107 c465 c466) (.cons (atM v107 z107 c465 c466) (.cons (Fit.refl (v107 (⟨(rd_T107 x3 (wrap64 ((x3.length:Int) - 1))).f0,wrap64 (((rd_T107 x3 (wrap64 ((x3.length:Int) - 1))).f1)+1)⟩:S107))) (.cons (setM v107 (l:=x3) (n:=((wrap64 ((x3.length:Int) - 1)):Int).toNat) (x:=(⟨(rd_T107 x3 (wrap64 ((x3.length:Int) - 1))).f0,wrap64 (((rd_T107 x3 (wrap64 ((x3.length:Int) - 1))).f1)+1)⟩:S107))) .nil))))<|Sw ?_
 obtain ⟨c473,H⟩:=ifS H
 replace H:=bindI H
 exact Rh hN [.kb true,.row (some 107) 2 (List.map v107 ((x3.set ((wrap64 ((x3.length:Int) - 1)):Int).toNat (⟨(rd_T107 x3 (wrap64 ((x3.length:Int) - 1))).f0,wrap64 (((rd_T107 x3 (wrap64 ((x3.length:Int) - 1))).f1)+1)⟩:S107))++[(⟨x5,0⟩:S107)]))] (.cons (fitM v107 (x3.set ((wrap64 ((x3.length:Int) - 1)):Int).toNat (⟨(rd_T107 x3 (wrap64 ((x3.length:Int) - 1))).f0,wrap64 (((rd_T107 x3 (wrap64 ((x3.length:Int) - 1))).f1)+1)⟩:S107)) [(⟨x5,0⟩:S107)] (.refl _)) (.cons (limM1 v107 c473) .nil))<|Rh hN [I (((x3.set ((wrap64 ((x3.length:Int) - 1)):Int).toNat (⟨(rd_T107 x3 (wrap64 ((x3.length:Int) - 1))).f0,wrap64 (((rd_T107 x3 (wrap64 ((x3.length:Int) - 1))).f1)+1)⟩:S107))++[(⟨x5,0⟩:S107)]).length:Int)] (.cons (lenM v107 ((x3.set ((wrap64 ((x3.length:Int) - 1)):Int).toNat (⟨(rd_T107 x3 (wrap64 ((x3.length:Int) - 1))).f0,wrap64 (((rd_T107 x3 (wrap64 ((x3.length:Int) - 1))).f1)+1)⟩:S107))++[(⟨x5,0⟩:S107)])) .nil)<|Rg hN<|⟨k,by omega,x0,((x3.set ((wrap64 ((x3.length:Int) - 1)):Int).toNat (⟨(rd_T107 x3 (wrap64 ((x3.length:Int) - 1))).f0,wrap64 (((rd_T107 x3 (wrap64 ((x3.length:Int) - 1))).f1)+1)⟩:S107))++[(⟨x5,0⟩:S107)]),mx x4 (((x3.set ((wrap64 ((x3.length:Int) - 1)):Int).toNat (⟨(rd_T107 x3 (wrap64 ((x3.length:Int) - 1))).f0,wrap64 (((rd_T107 x3 (wrap64 ((x3.length:Int) - 1))).f1)+1)⟩:S107))++[(⟨x5,0⟩:S107)]).length:Int),x18,x19,wrap64 (x20+1),by omega,Wk.ofB hL 0 [(0,0),(3,0),(4,0),(18,0),(19,0),(20,0)] (by kernel_rfl) (by kernel_rfl) (by kernel_rfl),H⟩
def tree_Right.f (k:Nat) (l0:List S52):Option (Bool):=(tree_depth.f k l0).bind fun t484=>(some (decide (t484 > 0)))
theorem tree_Right.con {k:Nat} {l0:List S52} {r:(Bool)} (H:tree_Right.f k l0=some r):Con Tryd.prog 25 [.row none 5 (List.map (v52 0) l0)] (B r):=by
 refine Cg Tryd.func25 rfl fun C hN hL=>?_
 unfold tree_Right.f at H
 refine Sw<|Rg hN<|Sw ?_
 obtain ⟨t484,h485,H⟩:=bindS H
 refine Rh hN [I t484] (.cons (tree_depth.con h485).c .nil) ?_
 cases H
 exact Rt dR
def head_Head_may.f (a0_0:Int) (a0_1:Int) (a0_2:Bool) (a0_3:Int):Option (Bool):=if (mn (mn a0_0 a0_1) a0_3)≥0 then (if a0_0≤3 then (if a0_1≤2097151 then (some (decide (a0_3≤65535))) else (some false)) else (some false)) else (some false)
theorem head_Head_may.con {a0_0:Int} {a0_1:Int} {a0_2:Bool} {a0_3:Int} {r:(Bool)} (H:head_Head_may.f a0_0 a0_1 a0_2 a0_3=some r):Con Tryd.prog 40 [.agg [I a0_0,I a0_1,B a0_2,I a0_3]] (B r):=by
 refine Cg Tryd.func40 rfl fun C hN hL=>?_
 unfold head_Head_may.f at H
 refine Sw<|Rg hN<|Sw ?_
 rcases (ifC H).symm with ⟨c486,H⟩ | ⟨c486,H⟩
 ·refine Rh hN [B false,B false,B false] (.cons (df c486) (.cons (rfl:false=false) (.cons (rfl:false=false) .nil))) ?_
  cases H
  exact Rt dR
 rcases (ifC H).symm with ⟨c487,H⟩ | ⟨c487,H⟩
 ·refine Rh hN [B true,B false,B false] (.cons (dt c486) (.cons (df c487) (.cons (rfl:false=false) .nil))) ?_
  cases H
  exact Rt dR
 rcases ifC H with ⟨c488,H⟩ | ⟨c488,H⟩
 ·refine Rh hN [B true,B true,B true] (.cons (dt c486) (.cons (dt c487) (.cons (dt c488) .nil))) ?_
  cases H
  exact Rt dR
 refine Rh hN [B true,B true,B false] (.cons (dt c486) (.cons (dt c487) (.cons (df c488) .nil))) ?_
 cases H
 exact Rt dR
def head_Encode.j2:Nat→List Int→Int→Option (ByteArray × Int)
 | 0,_,_=>none
 | k+1,x4,x1003=>if x1003 < 128 then (if x4.length < 140737488355328 then (some (strOfNums (x4++[(x1003) % 256]),0)) else (none)) else (if x1003 < 256 then (if x4.length+2 < 140737488355328 then (some (strOfNums (x4++[129,(x1003) % 256]),0)) else (none)) else (if x4.length+3 < 140737488355328 then (some (strOfNums (x4++[130,(x1003 / 256) % 256,(x1003) % 256]),0)) else (none)))
def head_Encode.l0:Nat→List Int→Int→Int→Int→Option (ByteArray × Int)
 | 0,_,_,_,_=>none
 | k+1,x4,x6,x1001,x1003=>if x6≥0 then (if 0≤x6 then (if (shr .i64 x1001 x6)=0 then (head_Encode.l0 k x4 (wrap64 (x6 - 7)) x1001 x1003) else (if x4.length < 140737488355328 then (head_Encode.l0 k (x4++[(Go.bits .or .i64 (Go.bits .and .i64 (shr .i64 x1001 x6) 127) 128) % 256]) (wrap64 (x6 - 7)) x1001 x1003) else (none))) else (none)) else (if 0≤(wrap64 ((x4.length:Int) - 1)) then (if (wrap64 ((x4.length:Int) - 1)) < (x4.length:Int) then (head_Encode.j2 k (x4.set ((wrap64 ((x4.length:Int) - 1)):Int).toNat (Go.bits .and .u8 (rd x4 (wrap64 ((x4.length:Int) - 1))) 127)) x1003) else (none)) else (none))
def head_Encode.j0:Nat→List Int→Int→Int→Int→Option (ByteArray × Int)
 | 0,_,_,_,_=>none
 | k+1,x4,x5,x1001,x1003=>if x1001 < 31 then (if x4.length < 140737488355328 then (head_Encode.j2 k (x4++[Go.bits .or .u8 x5 ((x1001) % 256)]) x1003) else (none)) else (if x4.length < 140737488355328 then (head_Encode.l0 k (x4++[Go.bits .or .u8 x5 31]) 14 x1001 x1003) else (none))
def head_Encode.f (k:Nat) (a0_0:Int) (a0_1:Int) (a0_2:Bool) (a0_3:Int):Option (ByteArray × Int):=(head_Head_may.f a0_0 a0_1 a0_2 a0_3).bind fun t489=>(if t489=true then (if a0_2=true then (head_Encode.j0 k (List.replicate 0 0) (Go.bits .or .u8 ((wrap64 (a0_0*64)) % 256) 32) a0_1 a0_3) else (head_Encode.j0 k (List.replicate 0 0) ((wrap64 (a0_0*64)) % 256) a0_1 a0_3)) else (some ((⟨#[]⟩:ByteArray),1)))
theorem head_Encode.con {k:Nat} {a0_0:Int} {a0_1:Int} {a0_2:Bool} {a0_3:Int} {r:(ByteArray × Int)} (H:head_Encode.f k a0_0 a0_1 a0_2 a0_3=some r):Con Tryd.prog 27 [.agg [I a0_0,I a0_1,B a0_2,I a0_3]] (.tup [S r.1,I r.2]):=by
 refine Cg Tryd.func27 rfl fun C hN hL=>?_
 unfold head_Encode.f at H
 refine Sw<|Rg hN<|Sw<|Sw ?_
 obtain ⟨t489,h490,H⟩:=bindS H
 refine Rh hN [B t489] (.cons (head_Head_may.con h490).c .nil) ?_
 rcases (ifC H).symm with ⟨c491,H⟩ | ⟨c491,H⟩
 ·refine Ct (notT (bf c491))<|Sw<|Rg hN ?_
  cases H
  exact Rt dR
 refine Cf (notF c491)<|Sk<|Sw<|Rh hN [.row (some 5) 1 (List.map (K .u8) (List.replicate 0 0))] (.cons (show (0:Int)≤0 by decide) (.cons (show (0:Int)≤7 by decide) (.cons (show (7:Int)≤281474976710656 by decide) (.cons (repM0 (K .u8) 0 0) .nil))))<|Sw<|Rh hN [] (.cons (show (0:Int)≤6 by decide) .nil)<|Sw<|Sw<|Rg hN<|Good.cut (fun st=>∃ n':Nat,n'≤k∧∃ (x4:List Int) (x5:Int) (x1000:Int) (x1001:Int) (x1002:Bool) (x1003:Int),Wk C st ⟨[(1,.d (.ptr 0 0)),(4,.w (.row (some 5) 1 (List.map (K .u8) x4))),(5,.w (K .u8 x5))],[.cells [.v (I x1000),.v (I x1001),.v (B x1002),.v (I x1003)]]⟩∧head_Encode.j0 n' x4 x5 x1001 x1003=some r) ?_ ?_
 ·rcases ifC H with ⟨c492,H⟩ | ⟨c492,H⟩
  ·exact Ct c492<|Rg hN<|⟨k,by omega,List.replicate 0 0,Go.bits .or .u8 ((wrap64 (a0_0*64)) % 256) 32,a0_0,a0_1,a0_2,a0_3,Wo [(1,0),(4,0),(5,0)],H⟩
  exact Cf (bf c492)<|Sk<|⟨k,by omega,List.replicate 0 0,(wrap64 (a0_0*64)) % 256,a0_0,a0_1,a0_2,a0_3,Wo [(1,0),(4,0),(5,0)],H⟩
 clear H
 rintro st ⟨n',hn',x4,x5,x1000,x1001,x1002,x1003,W,H⟩
 rcases n' with _ | k
 ·cases H
 refine W.good ?_
 rw [head_Encode.j0] at H
 refine Sw<|Good.cut (fun st=>∃ n':Nat,n'≤k∧∃ (x4:List Int) (x1000:Int) (x1001:Int) (x1002:Bool) (x1003:Int),Wk C st ⟨[(1,.d (.ptr 0 0)),(4,.w (.row (some 5) 1 (List.map (K .u8) x4)))],[.cells [.v (I x1000),.v (I x1001),.v (B x1002),.v (I x1003)]]⟩∧head_Encode.j2 n' x4 x1003=some r) ?_ ?_
 ·refine Bl<|Sw<|Rg hN ?_
  rcases ifC H with ⟨c493,H⟩ | ⟨c493,H⟩
  ·refine Ct (dt c493) ?_
   obtain ⟨c494,H⟩:=ifS H
   exact Rh hN [.kb true,.row (some 5) 1 (List.map (K .u8) (x4++[Go.bits .or .u8 x5 ((x1001) % 256)]))] (.cons (fitM (K .u8) x4 [Go.bits .or .u8 x5 ((x1001) % 256)] (.refl _)) (.cons (limM1 (K .u8) c494) .nil))<|⟨k,by omega,(x4++[Go.bits .or .u8 x5 ((x1001) % 256)]),x1000,x1001,x1002,x1003,Wo [(1,0),(4,0)],H⟩
  refine Cf (df c493)<|Sw ?_
  obtain ⟨c496,H⟩:=ifS H
  refine Rh hN [.kb true,.row (some 5) 1 (List.map (K .u8) (x4++[Go.bits .or .u8 x5 31]))] (.cons (fitM (K .u8) x4 [Go.bits .or .u8 x5 31] (.refl _)) (.cons (limM1 (K .u8) c496) .nil))<|Sw<|Sw<|Rg hN<|Bl<|Good.loopN (fun k' st=>∃ (x4:List Int) (x6:Int) (x1000:Int) (x1001:Int) (x1002:Bool) (x1003:Int),k'≤k∧Wk C st ⟨[(1,.d (.ptr 0 0)),(4,.w (.row (some 5) 1 (List.map (K .u8) x4))),(6,.w (I x6))],[.cells [.v (I x1000),.v (I x1001),.v (B x1002),.v (I x1003)]]⟩∧head_Encode.l0 k' x4 x6 x1001 x1003=some r) k ⟨(x4++[Go.bits .or .u8 x5 31]),14,x1000,x1001,x1002,x1003,Nat.le_refl _,Wo [(1,0),(4,0),(6,0)],H⟩ fun k=>⟨fun st h=>(by obtain ⟨_,_,_,_,_,_,_,_,H⟩:=h;cases H),?_⟩
  clear H
  rintro st ⟨x4,x6,x1000,x1001,x1002,x1003,hk,W,H⟩
  refine W.good ?_
  rw [head_Encode.l0] at H
  refine Sw<|Sw<|Rg hN ?_
  rcases (ifC H).symm with ⟨c498,H⟩ | ⟨c498,H⟩
  ·refine Cf (df c498)<|Ex ?_
   obtain ⟨c503,H⟩:=ifS H
   obtain ⟨c504,H⟩:=ifS H
   exact Rh hN [I (x4.length:Int),(K .u8) (rd x4 (wrap64 ((x4.length:Int) - 1))),(K .u8) (rd x4 (wrap64 ((x4.length:Int) - 1))),(K .u8) (Go.bits .and .u8 (rd x4 (wrap64 ((x4.length:Int) - 1))) 127),.row (some 5) 1 (List.map (K .u8) (x4.set ((wrap64 ((x4.length:Int) - 1)):Int).toNat (Go.bits .and .u8 (rd x4 (wrap64 ((x4.length:Int) - 1))) 127)))] (.cons (lenM (K .u8) x4) (.cons c503 (.cons (ltM (K .u8) c504) (.cons (atM (K .u8) (0:Int) c503 c504) (.cons c503 (.cons (ltM (K .u8) c504) (.cons (atM (K .u8) (0:Int) c503 c504) (.cons (Fit.refl ((K .u8) (Go.bits .and .u8 (rd x4 (wrap64 ((x4.length:Int) - 1))) 127))) (.cons (setM (K .u8) (l:=x4) (n:=((wrap64 ((x4.length:Int) - 1)):Int).toNat) (x:=Go.bits .and .u8 (rd x4 (wrap64 ((x4.length:Int) - 1))) 127)) .nil)))))))))<|⟨k,by omega,(x4.set ((wrap64 ((x4.length:Int) - 1)):Int).toNat (Go.bits .and .u8 (rd x4 (wrap64 ((x4.length:Int) - 1))) 127)),x1000,x1001,x1002,x1003,Wo [(1,0),(4,0)],H⟩
  refine Ct (dt c498)<|Sk<|Sw<|Bl<|Sw ?_
  obtain ⟨c499,H⟩:=ifS H
  refine Rh hN [] (.cons c499 .nil)<|Sw<|Sw<|Rg hN ?_
  rcases ifC H with ⟨c500,H⟩ | ⟨c500,H⟩
  ·exact Ct (bq c500)<|Ex<|Rg hN<|⟨k,by omega,x4,wrap64 (x6 - 7),x1000,x1001,x1002,x1003,by omega,Wo [(1,0),(4,0),(6,0)],H⟩
  refine Cf (bn c500)<|Sk ?_
  obtain ⟨c501,H⟩:=ifS H
  exact Rh hN [.kb true,.row (some 5) 1 (List.map (K .u8) (x4++[(Go.bits .or .i64 (Go.bits .and .i64 (shr .i64 x1001 x6) 127) 128) % 256]))] (.cons (fitM (K .u8) x4 [(Go.bits .or .i64 (Go.bits .and .i64 (shr .i64 x1001 x6) 127) 128) % 256] (.refl _)) (.cons (limM1 (K .u8) c501) .nil))<|Rg hN<|⟨k,by omega,(x4++[(Go.bits .or .i64 (Go.bits .and .i64 (shr .i64 x1001 x6) 127) 128) % 256]),wrap64 (x6 - 7),x1000,x1001,x1002,x1003,by omega,Wo [(1,0),(4,0),(6,0)],H⟩
 clear H
 rintro st ⟨n',hn',x4,x1000,x1001,x1002,x1003,W,H⟩
 rcases n' with _ | k
 ·cases H
 refine W.good ?_
 rw [head_Encode.j2] at H
 refine Sw<|Bl<|Sw<|Rg hN ?_
 rcases ifC H with ⟨c506,H⟩ | ⟨c506,H⟩
 ·refine Ct (dt c506) ?_
  obtain ⟨c507,H⟩:=ifS H
  refine Rh hN [.kb true,.row (some 5) 1 (List.map (K .u8) (x4++[(x1003) % 256]))] (.cons (fitM (K .u8) x4 [(x1003) % 256] (.refl _)) (.cons (limM1 (K .u8) c507) .nil))<|Sw<|Rh hN [S (strOfNums (x4++[(x1003) % 256]))] (.cons (strN (x4++[(x1003) % 256])) .nil) ?_
  cases H
  exact Rt dR
 refine Cf (df c506)<|Sw<|Rg hN ?_
 rcases ifC H with ⟨c509,H⟩ | ⟨c509,H⟩
 ·refine Ct (dt c509) ?_
  obtain ⟨c510,H⟩:=ifS H
  refine Rh hN [.kb true,.row (some 5) 1 (List.map (K .u8) (x4++[129,(x1003) % 256]))] (.cons (fitM (K .u8) x4 [129,(x1003) % 256] (.refl _)) (.cons (limMn (K .u8) c510) .nil))<|Sw<|Rh hN [S (strOfNums (x4++[129,(x1003) % 256]))] (.cons (strN (x4++[129,(x1003) % 256])) .nil) ?_
  cases H
  exact Rt dR
 refine Cf (df c509) ?_
 obtain ⟨c512,H⟩:=ifS H
 refine Rh hN [.kb true,.row (some 5) 1 (List.map (K .u8) (x4++[130,(x1003 / 256) % 256,(x1003) % 256]))] (.cons (show (0:Int)≤8 by decide) (.cons (fitM (K .u8) x4 [130,(x1003 / 256) % 256,(x1003) % 256] (.refl _)) (.cons (limMn (K .u8) c512) .nil)))<|Sw<|Rh hN [S (strOfNums (x4++[130,(x1003 / 256) % 256,(x1003) % 256]))] (.cons (strN (x4++[130,(x1003 / 256) % 256,(x1003) % 256])) .nil) ?_
 cases H
 exact Rt dR
def head_Size.f (k:Nat) (a0_0:Int) (a0_1:Int) (a0_2:Bool) (a0_3:Int):Option (Int):=(head_Encode.f k a0_0 a0_1 a0_2 a0_3).bind fun t514=>(some (t514.1.size:Int))
theorem head_Size.con {k:Nat} {a0_0:Int} {a0_1:Int} {a0_2:Bool} {a0_3:Int} {r:(Int)} (H:head_Size.f k a0_0 a0_1 a0_2 a0_3=some r):Con Tryd.prog 39 [.agg [I a0_0,I a0_1,B a0_2,I a0_3]] (I r):=by
 refine Cg Tryd.func39 rfl fun C hN hL=>?_
 unfold head_Size.f at H
 refine Sw<|Rg hN<|Sw ?_
 obtain ⟨t514,h515,H⟩:=bindS H
 refine Rh hN [.tup [S t514.1,I t514.2]] (.cons (head_Encode.con h515).c .nil)<|Sw<|Rg hN ?_
 cases H
 exact Rt dR
mutual
def tree_sizes.l0:Nat→List S52→List (Nat × Nat)→Int→Option (List (Nat × Nat) × Bool)
 | 0,_,_,_=>none
 | k+1,x0,x4,x5=>if x5≥0 then (if 0≤x5 then (if x5 < (x0.length:Int) then (tree_sizes.l1 k x0 x4 x5 (((rd_T52 x0 x5).f3).size:Int) ((rd_T52 x0 x5).f4) (((rd_T52 x0 x5).f4).length:Int) 0) else (none)) else (none)) else (some (x4,true))
def tree_sizes.l1:Nat→List S52→List (Nat × Nat)→Int→Int→List Int→Int→Int→Option (List (Nat × Nat) × Bool)
 | 0,_,_,_,_,_,_,_=>none
 | k+1,x0,x4,x5,x6,x30,x31,x32=>if x32 < x31 then (if 0≤x32 then (if x32 < (x30.length:Int) then (if 0≤(rd x30 x32) then (if (rd x30 x32) < (x4.length:Int) then (if fok ((rdOf ((0,0):Nat × Nat) x4 (rd x30 x32)).1) ((rdOf ((0,0):Nat × Nat) x4 (rd x30 x32)).2)=true then (if fiok (fadd ((rdOf ((0,0):Nat × Nat) x4 (rd x30 x32)).1) ((rdOf ((0,0):Nat × Nat) x4 (rd x30 x32)).2))=true then (tree_sizes.l1 k x0 x4 x5 (wrap64 (x6+(fint (fadd ((rdOf ((0,0):Nat × Nat) x4 (rd x30 x32)).1) ((rdOf ((0,0):Nat × Nat) x4 (rd x30 x32)).2))))) x30 x31 (wrap64 (x32+1))) else (none)) else (none)) else (none)) else (none)) else (none)) else (none)) else (if 0≤x5 then (if x5 < (x0.length:Int) then ((head_Size.f k ((rd_T52 x0 x5).f0) ((rd_T52 x0 x5).f1) ((rd_T52 x0 x5).f2) x6).bind fun t530=>(if t530=0 then (some (([]:List (Nat × Nat)),false)) else (if (wrap64 (t530+x6)) > 65535 then (some (([]:List (Nat × Nat)),false)) else (if x5 < (x4.length:Int) then (tree_sizes.l0 k x0 (x4.set (x5:Int).toNat (floatOfInt .f64 t530,floatOfInt .f64 x6)) (wrap64 (x5 - 1))) else (none))))) else (none)) else (none))
end
def tree_sizes.f (k:Nat) (l0:List S52):Option (List (Nat × Nat) × Bool):=if 0≤(l0.length:Int) then (if ((l0.length:Int):Int).toNat≤17592186044416 then (tree_sizes.l0 k l0 (List.replicate ((l0.length:Int):Int).toNat ((0,0):Nat × Nat)) (wrap64 ((l0.length:Int) - 1))) else (none)) else (none)
theorem tree_sizes.con {k:Nat} {l0:List S52} {r:(List (Nat × Nat) × Bool)} (H:tree_sizes.f k l0=some r):Con Tryd.prog 26 [.row none 5 (List.map (v52 0) l0)] (.tup [.row (some 72) 1 (List.map Cx r.1),B r.2]):=by
 refine Cg Tryd.func26 rfl fun C hN hL=>?_
 unfold tree_sizes.f at H
 refine Sw<|Rg hN<|Sw ?_
 obtain ⟨c516,H⟩:=ifS H
 obtain ⟨c517,H⟩:=ifS H
 refine Rh hN [I (l0.length:Int),.row (some 72) 1 (List.map Cx (List.replicate ((l0.length:Int):Int).toNat ((0,0):Nat × Nat)))] (.cons (lenM (v52 0) l0) (.cons c516 (.cons (Int.le_refl (l0.length:Int)) (.cons (natLe c517) (.cons (repM0 Cx (((l0.length:Int):Int).toNat) ((0,0):Nat × Nat)) .nil)))))<|Sw<|Sw<|Rh hN [I (l0.length:Int)] (.cons (lenM (v52 0) l0) .nil)<|Bl<|Good.loopN (fun k' st=>∃ (x0:List S52) (x4:List (Nat × Nat)) (x5:Int),k'≤k∧Wk C st ⟨[(0,.w (.row none 5 (List.map (v52 0) x0))),(4,.w (.row (some 72) 1 (List.map Cx x4))),(5,.w (I x5))],[]⟩∧tree_sizes.l0 k' x0 x4 x5=some r) k ⟨l0,List.replicate ((l0.length:Int):Int).toNat ((0,0):Nat × Nat),wrap64 ((l0.length:Int) - 1),Nat.le_refl _,Wo [(0,0),(4,0),(5,0)],H⟩ fun k=>⟨fun st h=>(by obtain ⟨_,_,_,_,_,H⟩:=h;cases H),?_⟩
 clear H
 rintro st ⟨x0,x4,x5,hk,W,H⟩
 refine W.good ?_
 rw [tree_sizes.l0] at H
 refine Sw<|Sw<|Rg hN ?_
 rcases (ifC H).symm with ⟨c518,H⟩ | ⟨c518,H⟩
 ·refine Cf (df c518)<|Ex<|Sw<|Rg hN ?_
  cases H
  exact Rt dR
 refine Ct (dt c518)<|Sk<|Sw<|Bl<|Sw ?_
 obtain ⟨c519,H⟩:=ifS H
 obtain ⟨c520,H⟩:=ifS H
 refine Rh hN [(v52 0) (rd_T52 x0 x5)] (.cons c519 (.cons (atM (v52 0) z52 c519 c520) .nil))<|Sw<|Sw<|Rh hN [(v52 0) (rd_T52 x0 x5),I (((rd_T52 x0 x5).f4).length:Int)] (.cons c519 (.cons (atM (v52 0) z52 c519 c520) (.cons (lenM I ((rd_T52 x0 x5).f4)) .nil)))<|Bl<|Good.loopN (fun k' st=>∃ (x0:List S52) (x4:List (Nat × Nat)) (x5:Int) (x6:Int) (x30:List Int) (x31:Int) (x32:Int),k'≤k∧Wk C st ⟨[(0,.w (.row none 5 (List.map (v52 0) x0))),(4,.w (.row (some 72) 1 (List.map Cx x4))),(5,.w (I x5)),(6,.w (I x6)),(30,.w (.row none 1 (List.map I x30))),(31,.w (I x31)),(32,.w (I x32))],[]⟩∧tree_sizes.l1 k' x0 x4 x5 x6 x30 x31 x32=some r) k ⟨x0,x4,x5,(((rd_T52 x0 x5).f3).size:Int),(rd_T52 x0 x5).f4,(((rd_T52 x0 x5).f4).length:Int),0,Nat.le_refl _,Wo [(0,0),(4,0),(5,0),(6,0),(30,0),(31,0),(32,0)],H⟩ fun k=>⟨fun st h=>(by obtain ⟨_,_,_,_,_,_,_,_,_,H⟩:=h;cases H),?_⟩
 clear H
 rintro st ⟨x0,x4,x5,x6,x30,x31,x32,hk,W,H⟩
 refine W.good ?_
 rw [tree_sizes.l1] at H
 refine Sw<|Rg hN<|Sw ?_
 rcases ifC H with ⟨c521,H⟩ | ⟨c521,H⟩
 ·refine Ct (dt c521)<|Sk<|Sw<|Bl<|Sw ?_
  obtain ⟨c522,H⟩:=ifS H
  obtain ⟨c523,H⟩:=ifS H
  refine Rh hN [I (rd x30 x32)] (.cons c522 (.cons (atM I (0:Int) c522 c523) .nil)) ?_
  obtain ⟨c524,H⟩:=ifS H
  obtain ⟨c525,H⟩:=ifS H
  obtain ⟨c526,H⟩:=ifS H
  obtain ⟨c527,H⟩:=ifS H
  exact Rd hm hN (.qs 14 0 (.q 14 [] .z)) [(4,some (.row none 1 (List.map Cx x4))),(6,none),(8,none)] (.cons (shrM (some 72) 1 Cx Cx x4 (fun _=>rfl)) .nil) [Cx (rdOf ((0,0):Nat × Nat) x4 (rd x30 x32)),Cx (rdOf ((0,0):Nat × Nat) x4 (rd x30 x32))] [Cx (rdOf ((0,0):Nat × Nat) x4 (rd x30 x32)),Cx (rdOf ((0,0):Nat × Nat) x4 (rd x30 x32))] (.cons c524 (.cons (ltM Cx c525) (.cons (atM Cx ((0,0):Nat × Nat) c524 c525) (.cons c524 (.cons (ltM Cx c525) (.cons (atM Cx ((0,0):Nat × Nat) c524 c525) (.cons c526 (.cons c527 .nil)))))))) (.cons c524 (.cons (atM Cx ((0,0):Nat × Nat) c524 c525) (.cons c524 (.cons (atM Cx ((0,0):Nat × Nat) c524 c525) (.cons c526 (.cons c527 .nil)))))) [] []<|Rg hN<|⟨k,by omega,x0,x4,x5,wrap64 (x6+(fint (fadd ((rdOf ((0,0):Nat × Nat) x4 (rd x30 x32)).1) ((rdOf ((0,0):Nat × Nat) x4 (rd x30 x32)).2)))),x30,x31,wrap64 (x32+1),by omega,Wo [(0,0),(4,0),(5,0),(6,0),(30,0),(31,0),(32,0)],H⟩
 refine Cf (df c521)<|Ex<|Sw ?_
 obtain ⟨c528,H⟩:=ifS H
 obtain ⟨c529,H⟩:=ifS H
 obtain ⟨t530,h531,H⟩:=bindS H
 refine Rd hm hN (.qs 17 0 (.e 17 (.q 18 [] .z))) [(0,none),(5,none),(6,none)] .nil [(v52 0) (rd_T52 x0 x5),(v52 0) (rd_T52 x0 x5),(v52 0) (rd_T52 x0 x5),I t530] [(v52 0) (rd_T52 x0 x5),(v52 0) (rd_T52 x0 x5),(v52 0) (rd_T52 x0 x5)] (.cons c528 (.cons (atM (v52 0) z52 c528 c529) (.cons c528 (.cons (atM (v52 0) z52 c528 c529) (.cons c528 (.cons (atM (v52 0) z52 c528 c529) (.cons (head_Size.con h531).c .nil))))))) (.cons c528 (.cons (atM (v52 0) z52 c528 c529) (.cons c528 (.cons (atM (v52 0) z52 c528 c529) (.cons c528 (.cons (atM (v52 0) z52 c528 c529) .nil)))))) [] []<|Sw<|Sw ?_
 rcases ifC H with ⟨c532,H⟩ | ⟨c532,H⟩
 ·refine Rh hN [B true] (.cons (bq c532) .nil)<|Good.cond true (by kernel_rfl)<|Sw<|Rg hN ?_
  cases H
  exact Good.ret (fin_fit (u:=.tup [.nil 72 1,B false]) (.tup (.cons (.nilO 72 1) (.cons (.refl _) .nil))) (by kernel_rfl))
 refine Rh hN [B false] (.cons (bn c532) .nil) ?_
 rcases ifC H with ⟨c533,H⟩ | ⟨c533,H⟩
 ·refine Ct (dt c533)<|Sw<|Rg hN ?_
  cases H
  exact Good.ret (fin_fit (u:=.tup [.nil 72 1,B false]) (.tup (.cons (.nilO 72 1) (.cons (.refl _) .nil))) (by kernel_rfl))
 refine Cf (df c533)<|Sk ?_
 obtain ⟨c534,H⟩:=ifS H
 exact Rh hN [Cx (rdOf ((0,0):Nat × Nat) x4 x5),Cx (floatOfInt .f64 t530,floatOfInt .f64 x6),.row (some 72) 1 (List.map Cx (x4.set (x5:Int).toNat (floatOfInt .f64 t530,floatOfInt .f64 x6)))] (.cons c528 (.cons (ltM Cx c534) (.cons (atM Cx ((0,0):Nat × Nat) c528 c534) (.cons (Fit.refl (Cx (floatOfInt .f64 t530,floatOfInt .f64 x6))) (.cons (setM Cx (l:=x4) (n:=(x5:Int).toNat) (x:=(floatOfInt .f64 t530,floatOfInt .f64 x6))) .nil)))))<|Rg hN<|⟨k,by omega,x0,(x4.set (x5:Int).toNat (floatOfInt .f64 t530,floatOfInt .f64 x6)),wrap64 (x5 - 1),by omega,Wo [(0,0),(4,0),(5,0)],H⟩
def tree_Encode.l0:Nat→List (Nat × Nat)→List Int→List S52→Int→Int→Option (ByteArray × Int)
 | 0,_,_,_,_,_=>none
 | k+1,x4,x6,x21,x22,x23=>if x23 < x22 then (if 0≤x23 then (if x23 < (x21.length:Int) then (if x23 < (x4.length:Int) then (if fiok ((rdOf ((0,0):Nat × Nat) x4 x23).2)=true then ((head_Encode.f k ((rd_T52 x21 x23).f0) ((rd_T52 x21 x23).f1) ((rd_T52 x21 x23).f2) (fint ((rdOf ((0,0):Nat × Nat) x4 x23).2))).bind fun t564=>(if x6.length+t564.1.size < 140737488355328 then ((some (x6++bytesOf t564.1:List Int)).bind fun y567=>(if y567.length+((rd_T52 x21 x23).f3).size < 140737488355328 then (tree_Encode.l0 k x4 (y567++bytesOf ((rd_T52 x21 x23).f3)) x21 x22 (wrap64 (x23+1))) else (none))) else (none))) else (none)) else (none)) else (none)) else (none)) else (some (strOfNums x6,0))
def tree_Encode.f (k:Nat) (l0:List S52):Option (ByteArray × Int):=(tree_Right.f k l0).bind fun t553=>(if t553=true then ((tree_sizes.f k l0).bind fun t556=>(if t556.2=true then (tree_Encode.l0 k t556.1 ([]:List Int) l0 (l0.length:Int) 0) else (some ((⟨#[]⟩:ByteArray),4)))) else (some ((⟨#[]⟩:ByteArray),1)))
theorem tree_Encode.con {k:Nat} {l0:List S52} {r:(ByteArray × Int)} (H:tree_Encode.f k l0=some r):Con Tryd.prog 13 [.row none 5 (List.map (v52 0) l0)] (.tup [S r.1,I r.2]):=by
 refine Cg Tryd.func13 rfl fun C hN hL=>?_
 unfold tree_Encode.f at H
 refine Sw<|Rg hN<|Sw<|Sw ?_
 obtain ⟨t553,h554,H⟩:=bindS H
 refine Rh hN [B t553] (.cons (tree_Right.con h554).c .nil) ?_
 rcases (ifC H).symm with ⟨c555,H⟩ | ⟨c555,H⟩
 ·refine Ct (notT (bf c555))<|Sw<|Rg hN ?_
  cases H
  exact Rt dR
 refine Cf (notF c555)<|Sk<|Sw ?_
 obtain ⟨t556,h557,H⟩:=bindS H
 refine Rh hN [.tup [.row (some 72) 1 (List.map Cx t556.1),B t556.2]] (.cons (tree_sizes.con h557).c .nil)<|Sw<|Sw<|Rg hN ?_
 rcases (ifC H).symm with ⟨c558,H⟩ | ⟨c558,H⟩
 ·refine Ct (notT (bf c558))<|Sw<|Rg hN ?_
  cases H
  exact Rt dR
 refine Cf (notF c558)<|Sk<|Sw<|Rg hN<|Sw<|Sw<|Rh hN [I (l0.length:Int)] (.cons (lenM (v52 0) l0) .nil)<|Bl<|Good.loopN (fun k' st=>∃ (x4:List (Nat × Nat)) (x6:List Int) (x21:List S52) (x22:Int) (x23:Int),k'≤k∧Wk C st ⟨[(4,.w (.row (some 72) 1 (List.map Cx x4))),(6,.w (.row (some 5) 1 (List.map (K .u8) x6))),(21,.w (.row none 5 (List.map (v52 0) x21))),(22,.w (I x22)),(23,.w (I x23))],[]⟩∧tree_Encode.l0 k' x4 x6 x21 x22 x23=some r) k ⟨t556.1,([]:List Int),l0,(l0.length:Int),0,Nat.le_refl _,Wo [(4,0),(6,1),(21,0),(22,0),(23,0)],H⟩ fun k=>⟨fun st h=>(by obtain ⟨_,_,_,_,_,_,_,H⟩:=h;cases H),?_⟩
 clear H
 rintro st ⟨x4,x6,x21,x22,x23,hk,W,H⟩
 refine W.good ?_
 rw [tree_Encode.l0] at H
 refine Sw<|Rg hN<|Sw ?_
 rcases (ifC H).symm with ⟨c559,H⟩ | ⟨c559,H⟩
 ·refine Cf (df c559)<|Ex<|Sw<|Rh hN [S (strOfNums x6)] (.cons (strN x6) .nil) ?_
  cases H
  exact Rt dR
 refine Ct (dt c559)<|Sk<|Sw<|Bl<|Sw ?_
 obtain ⟨c560,H⟩:=ifS H
 obtain ⟨c561,H⟩:=ifS H
 refine Rh hN [(v52 0) (rd_T52 x21 x23)] (.cons c560 (.cons (atM (v52 0) z52 c560 c561) .nil))<|Sw ?_
 obtain ⟨c562,H⟩:=ifS H
 obtain ⟨c563,H⟩:=ifS H
 obtain ⟨t564,h565,H⟩:=bindS H
 refine Rd hm hN (.qs 13 0 (.e 13 (.qs 4 14 (.q 18 [] .z)))) [(4,some (.row none 1 (List.map Cx x4))),(7,none),(8,some (.pt [I ((rd_T52 x21 x23).f0),I ((rd_T52 x21 x23).f1),B ((rd_T52 x21 x23).f2),S ((rd_T52 x21 x23).f3),.row none 1 (List.map I ((rd_T52 x21 x23).f4))]))] (.cons (shrM (some 72) 1 Cx Cx x4 (fun _=>rfl)) (.cons (ptS (shrC (rfl:(V.shr (I ((rd_T52 x21 x23).f0)))=I ((rd_T52 x21 x23).f0)) (shrC (rfl:(V.shr (I ((rd_T52 x21 x23).f1)))=I ((rd_T52 x21 x23).f1)) (shrC (rfl:(V.shr (B ((rd_T52 x21 x23).f2)))=B ((rd_T52 x21 x23).f2)) (shrC (rfl:(V.shr (S ((rd_T52 x21 x23).f3)))=S ((rd_T52 x21 x23).f3)) (shrC (shrM none 1 I I ((rd_T52 x21 x23).f4) (fun _=>rfl)) (rfl:shrL []=[]))))))) .nil)) [Cx (rdOf ((0,0):Nat × Nat) x4 x23),.tup [S t564.1,I t564.2]] [Cx (rdOf ((0,0):Nat × Nat) x4 x23)] (.cons c560 (.cons (ltM Cx c562) (.cons (atM Cx ((0,0):Nat × Nat) c560 c562) (.cons c563 (.cons (head_Encode.con h565).c .nil))))) (.cons c560 (.cons (atM Cx ((0,0):Nat × Nat) c560 c562) (.cons c563 .nil))) [] [] ?_
 obtain ⟨c566,H⟩:=ifS H
 replace H:=bindI H
 obtain ⟨c568,H⟩:=ifS H
 exact Good.regTB (n:=2) hm hN hL (.q 0 [[],[2]] (.q 1 [[],[2]] (.i 3 (.b 2 [.kb false,.row (some 5) 1 (List.map (K .u8) (x6++bytesOf t564.1)),.kb false,.row (some 5) 1 (List.map (K .u8) ((x6++bytesOf t564.1)++bytesOf ((rd_T52 x21 x23).f3)))] [] (.e 4 (.e 5 (.e 6 .z))) [.kb false,.row (some 5) 1 (List.map (K .u8) (x6++bytesOf t564.1)),.kb false,.row (some 5) 1 (List.map (K .u8) ((x6++bytesOf t564.1)++bytesOf ((rd_T52 x21 x23).f3)))] [] (.e 4 (.e 2 (.e 5 (.e 6 .z)))))))) [(6,some (.row none 1 (List.map (K .u8) x6))),(8,some (.pt [I ((rd_T52 x21 x23).f0),I ((rd_T52 x21 x23).f1),B ((rd_T52 x21 x23).f2),S ((rd_T52 x21 x23).f3),.row none 1 (List.map I ((rd_T52 x21 x23).f4))])),(9,none)] (by kernel_rfl) (.cons (shrM (some 5) 1 (K .u8) (K .u8) x6 (fun _=>rfl)) (.cons (ptS (shrC (rfl:(V.shr (I ((rd_T52 x21 x23).f0)))=I ((rd_T52 x21 x23).f0)) (shrC (rfl:(V.shr (I ((rd_T52 x21 x23).f1)))=I ((rd_T52 x21 x23).f1)) (shrC (rfl:(V.shr (B ((rd_T52 x21 x23).f2)))=B ((rd_T52 x21 x23).f2)) (shrC (rfl:(V.shr (S ((rd_T52 x21 x23).f3)))=S ((rd_T52 x21 x23).f3)) (shrC (shrM none 1 I I ((rd_T52 x21 x23).f4) (fun _=>rfl)) (rfl:shrL []=[]))))))) .nil)) [] [] (.cons (.cons (fitB x6 t564.1) (.cons (limB (K .u8) c566) (.cons (fitB (x6++bytesOf t564.1) ((rd_T52 x21 x23).f3)) (.cons (limB (K .u8) c568) .nil)))) .nil (.cons (.cons (fitB x6 t564.1) (.cons (limB (K .u8) c566) (.cons (fitB (x6++bytesOf t564.1) ((rd_T52 x21 x23).f3)) (.cons (limB (K .u8) c568) .nil)))) .nil .nil)) [] [] (by kernel_rfl) (by kernel_rfl) [[],[]] [(4,0),(6,0),(21,0),(22,0),(23,0)] [(4,.w (.row (some 72) 1 (List.map Cx x4))),(6,.w (.row (some 5) 1 (List.map (K .u8) ((x6++bytesOf t564.1)++bytesOf ((rd_T52 x21 x23).f3))))),(21,.w (.row none 5 (List.map (v52 0) x21))),(22,.w (I x22)),(23,.w (I x23))] [.cells [.v (I ((rd_T52 x21 x23).f0)),.v (I ((rd_T52 x21 x23).f1)),.v (B ((rd_T52 x21 x23).f2)),.v (S ((rd_T52 x21 x23).f3)),.v (.row none 1 (List.map I ((rd_T52 x21 x23).f4)))]] (by kernel_rfl) (by kernel_rfl)<|Rg hN<|⟨k,by omega,x4,((x6++bytesOf t564.1)++bytesOf ((rd_T52 x21 x23).f3)),x21,x22,wrap64 (x23+1),by omega,Wk.ofB hL 0 [(4,0),(6,0),(21,0),(22,0),(23,0)] (by kernel_rfl) (by kernel_rfl) (by kernel_rfl),H⟩
def pkcs8_Encode.j0:Nat→List S52→List S52→List (List S52)→Bool→ByteArray→Option (ByteArray × Int)
 | 0,_,_,_,_,_=>none
 | k+1,x4,x6,x8,x36,x1002=>if x36=true then (some ((⟨#[]⟩:ByteArray),1)) else ((whole_Encode.f k 0).bind fun t579=>((tree_Leaf.f 0 2 t579).bind fun t581=>((tree_Of.f k 0 16 ([x4,x6]:List (List S52))).bind fun t583=>((tree_Leaf.f 0 4 x1002).bind fun t585=>(if (x8.length:Int) > 0 then ((tree_Of.f k 2 0 x8).bind fun t588=>(if ([t581,t583,t585]:List (List S52)).length < 5864062014805 then ((tree_Of.f k 0 16 (([t581,t583,t585]:List (List S52))++[t588])).bind fun t592=>((tree_Encode.f k t592).bind fun t594=>(some (t594.1,t594.2)))) else (none))) else ((tree_Of.f k 0 16 ([t581,t583,t585]:List (List S52))).bind fun t596=>((tree_Encode.f k t596).bind fun t598=>(some (t598.1,t598.2)))))))))
def pkcs8_Encode.f (k:Nat) (l0_0:List Int) (l0_1:List Int) (a0_2:ByteArray) (a0_3:ByteArray):Option (ByteArray × Int):=(pkcs8_named.f k l0_0 false).bind fun t570=>((pkcs8_named.f k l0_1 true).bind fun t572=>((pkcs8_elements.f k a0_3).bind fun t574=>(if t570.2=true then (if t572.2=true then (pkcs8_Encode.j0 k t570.1 t572.1 t574.1 (!t574.2) a0_2) else (pkcs8_Encode.j0 k t570.1 t572.1 t574.1 (!false) a0_2)) else (pkcs8_Encode.j0 k t570.1 t572.1 t574.1 (!false) a0_2))))
theorem pkcs8_Encode.con {k:Nat} {l0_0:List Int} {l0_1:List Int} {a0_2:ByteArray} {a0_3:ByteArray} {r:(ByteArray × Int)} (H:pkcs8_Encode.f k l0_0 l0_1 a0_2 a0_3=some r):Con Tryd.prog 5 [.agg [.row none 1 (List.map I l0_0),.row none 1 (List.map I l0_1),S a0_2,S a0_3]] (.tup [S r.1,I r.2]):=by
 refine Cg Tryd.func5 rfl fun C hN hL=>?_
 unfold pkcs8_Encode.f at H
 refine Sw<|Rg hN<|Sw ?_
 obtain ⟨t570,h571,H⟩:=bindS H
 refine Rh hN [.tup [.row (some 52) 5 (List.map (v52 0) t570.1),B t570.2]] (.cons (pkcs8_named.con h571).c .nil)<|Sw ?_
 obtain ⟨t572,h573,H⟩:=bindS H
 refine Rh hN [.tup [.row (some 52) 5 (List.map (v52 0) t572.1),B t572.2]] (.cons (pkcs8_named.con h573).c .nil)<|Sw ?_
 obtain ⟨t574,h575,H⟩:=bindS H
 refine Rh hN [.tup [.row (some 35) 1 (List.map (vL52 0) t574.1),B t574.2]] (.cons (pkcs8_elements.con h575).c .nil)<|Sw<|Sw<|Good.cut (fun st=>∃ n':Nat,n'≤k∧∃ (x4:List S52) (x6:List S52) (x8:List (List S52)) (x36:Bool) (x1000:List Int) (x1001:List Int) (x1002:ByteArray) (x1003:ByteArray),Wk C st ⟨[(1,.d (.ptr 0 0)),(4,.w (.row (some 52) 5 (List.map (v52 0) x4))),(6,.w (.row (some 52) 5 (List.map (v52 0) x6))),(8,.w (.row (some 35) 1 (List.map (vL52 0) x8))),(36,.w (B x36))],[.cells [.v (.row none 1 (List.map I x1000)),.v (.row none 1 (List.map I x1001)),.v (S x1002),.v (S x1003)]]⟩∧pkcs8_Encode.j0 n' x4 x6 x8 x36 x1002=some r) ?_ ?_
 ·rcases (ifC H).symm with ⟨c576,H⟩ | ⟨c576,H⟩
  ·exact Rh hN [B false,B false] (.cons (bf c576) (.cons (rfl:false=false) .nil))<|⟨k,by omega,t570.1,t572.1,t574.1,!false,l0_0,l0_1,a0_2,a0_3,Wo [(1,0),(4,0),(6,0),(8,0),(36,0)],H⟩
  rcases ifC H with ⟨c577,H⟩ | ⟨c577,H⟩
  ·exact Rh hN [B true,B true] (.cons c576 (.cons c577 .nil))<|⟨k,by omega,t570.1,t572.1,t574.1,!t574.2,l0_0,l0_1,a0_2,a0_3,Wo [(1,0),(4,0),(6,0),(8,0),(36,0)],H⟩
  exact Rh hN [B true,B false] (.cons c576 (.cons (bf c577) .nil))<|⟨k,by omega,t570.1,t572.1,t574.1,!false,l0_0,l0_1,a0_2,a0_3,Wo [(1,0),(4,0),(6,0),(8,0),(36,0)],H⟩
 clear H
 rintro st ⟨n',hn',x4,x6,x8,x36,x1000,x1001,x1002,x1003,W,H⟩
 rcases n' with _ | k
 ·cases H
 refine W.good ?_
 rw [pkcs8_Encode.j0] at H
 rcases ifC H with ⟨c578,H⟩ | ⟨c578,H⟩
 ·refine Ct c578<|Sw<|Rg hN ?_
  cases H
  exact Rt dR
 refine Cf (bf c578)<|Sk<|Sw ?_
 obtain ⟨t579,h580,H⟩:=bindS H
 obtain ⟨t581,h582,H⟩:=bindS H
 obtain ⟨t583,h584,H⟩:=bindS H
 obtain ⟨t585,h586,H⟩:=bindS H
 refine Good.regTB (n:=3) hm hN hL (.q 2 [] (.q 3 [] (.q 6 [] (.q 7 [] (.b 0 [S t579] [] (.b 1 [.row (some 52) 5 (List.map (v52 0) t581),.row none 5 (List.map (v52 0) x4),.row none 5 (List.map (v52 0) x6),.row none 1 (List.map (vL52 0) ([x4,x6]:List (List S52))),.row (some 52) 5 (List.map (v52 1) t583),.row (some 52) 5 (List.map (v52 0) t585),.row none 5 (List.map (v52 0) t581),.row none 5 (List.map (v52 0) t583),.row none 5 (List.map (v52 0) t585)] [] (.e 4 (.e 5 (.e 8 (.e 9 (.e 10 .z))))) [.row none 5 (List.map (v52 0) x4),.row none 5 (List.map (v52 0) x6),.row (some 52) 5 (List.map (v52 0) t581),.row none 1 (List.map (vL52 0) ([x4,x6]:List (List S52))),.row (some 52) 5 (List.map (v52 1) t583),.row (some 52) 5 (List.map (v52 0) t585),.row none 5 (List.map (v52 0) t581),.row none 5 (List.map (v52 0) t583),.row none 5 (List.map (v52 0) t585)] [] (.e 4 (.e 1 (.e 5 (.e 8 (.e 9 (.e 10 .z))))))) [.row none 5 (List.map (v52 0) x4),.row none 5 (List.map (v52 0) x6),S t579,.row (some 52) 5 (List.map (v52 0) t581),.row none 1 (List.map (vL52 0) ([x4,x6]:List (List S52))),.row (some 52) 5 (List.map (v52 1) t583),.row (some 52) 5 (List.map (v52 0) t585),.row none 5 (List.map (v52 0) t581),.row none 5 (List.map (v52 0) t583),.row none 5 (List.map (v52 0) t585)] [] (.e 4 (.e 0 (.e 1 (.e 5 (.e 8 (.e 9 (.e 10 .z)))))))))))) [(1,some (.pt [.row none 1 (List.map I x1000),.row none 1 (List.map I x1001),S x1002,S x1003])),(4,some (.row none 5 (List.map (v52 0) x4))),(6,some (.row none 5 (List.map (v52 0) x6)))] (by kernel_rfl) (.cons (ptS (shrC (shrM none 1 I I x1000 (fun _=>rfl)) (shrC (shrM none 1 I I x1001 (fun _=>rfl)) (shrC (rfl:(V.shr (S x1002))=S x1002) (shrC (rfl:(V.shr (S x1003))=S x1003) (rfl:shrL []=[])))))) (.cons (shrM (some 52) 5 (v52 0) (v52 0) x4 (v52.shr _)) (.cons (shrM (some 52) 5 (v52 0) (v52 0) x6 (v52.shr _)) .nil))) [] [] (.cons (.cons (whole_Encode.con h580).c (.cons (tree_Leaf.con h582).c (.cons (shrM (some 52) 5 (v52 0) (v52 0) x4 (v52.shr _)) (.cons (shrM (some 52) 5 (v52 0) (v52 0) x6 (v52.shr _)) (.cons (shrM (some 35) 1 (vL52 0) (vL52 0) ([x4,x6]:List (List S52)) (vL52.shr _)) (.cons (tree_Of.con h584).c (.cons (tree_Leaf.con h586).c (.cons (shrM (some 52) 5 (v52 0) (v52 0) t581 (v52.shr _)) (.cons (shrM (some 52) 5 (v52 1) (v52 0) t583 (v52.shr _)) (.cons (shrM (some 52) 5 (v52 0) (v52 0) t585 (v52.shr _)) .nil)))))))))) .nil (.cons (.cons (whole_Encode.con h580).c (.cons (shrM (some 52) 5 (v52 0) (v52 0) x4 (v52.shr _)) (.cons (shrM (some 52) 5 (v52 0) (v52 0) x6 (v52.shr _)) (.cons (tree_Leaf.con h582).c (.cons (shrM (some 35) 1 (vL52 0) (vL52 0) ([x4,x6]:List (List S52)) (vL52.shr _)) (.cons (tree_Of.con h584).c (.cons (tree_Leaf.con h586).c (.cons (shrM (some 52) 5 (v52 0) (v52 0) t581 (v52.shr _)) (.cons (shrM (some 52) 5 (v52 1) (v52 0) t583 (v52.shr _)) (.cons (shrM (some 52) 5 (v52 0) (v52 0) t585 (v52.shr _)) .nil)))))))))) .nil (.cons (.cons (shrM (some 52) 5 (v52 0) (v52 0) x4 (v52.shr _)) (.cons (shrM (some 52) 5 (v52 0) (v52 0) x6 (v52.shr _)) (.cons (whole_Encode.con h580).c (.cons (tree_Leaf.con h582).c (.cons (shrM (some 35) 1 (vL52 0) (vL52 0) ([x4,x6]:List (List S52)) (vL52.shr _)) (.cons (tree_Of.con h584).c (.cons (tree_Leaf.con h586).c (.cons (shrM (some 52) 5 (v52 0) (v52 0) t581 (v52.shr _)) (.cons (shrM (some 52) 5 (v52 1) (v52 0) t583 (v52.shr _)) (.cons (shrM (some 52) 5 (v52 0) (v52 0) t585 (v52.shr _)) .nil)))))))))) .nil .nil))) [] [] (by kernel_rfl) (by kernel_rfl) [[],[],[]] [(8,0),(10,0)] [(8,.w (.row (some 35) 1 (List.map (vL52 0) x8))),(10,.w (.row (some 35) 1 (List.map (vL52 0) ([t581,t583,t585]:List (List S52)))))] [.cells [.v (.row none 1 (List.map I x1000)),.v (.row none 1 (List.map I x1001)),.v (S x1002),.v (S x1003)]] (by kernel_rfl) (by kernel_rfl)<|Sw<|Sw<|Rh hN [I (x8.length:Int)] (.cons (lenM (vL52 0) x8) .nil) ?_
 rcases (ifC H).symm with ⟨c587,H⟩ | ⟨c587,H⟩
 ·refine Cf (df c587)<|Sk<|Sw ?_
  obtain ⟨t596,h597,H⟩:=bindS H
  obtain ⟨t598,h599,H⟩:=bindS H
  refine Rh hN [.row none 1 (List.map (vL52 0) ([t581,t583,t585]:List (List S52))),.row (some 52) 5 (List.map (v52 1) t596),.row none 5 (List.map (v52 0) t596),.tup [S t598.1,I t598.2]] (.cons (shrM (some 35) 1 (vL52 0) (vL52 0) ([t581,t583,t585]:List (List S52)) (vL52.shr _)) (.cons (tree_Of.con h597).c (.cons (shrM (some 52) 5 (v52 1) (v52 0) t596 (v52.shr _)) (.cons (tree_Encode.con h599).c .nil)))) ?_
  cases H
  exact Rt dR
 refine Ct (dt c587) ?_
 obtain ⟨t588,h589,H⟩:=bindS H
 obtain ⟨c590,H⟩:=ifS H
 refine Rh hN [.row none 1 (List.map (vL52 0) x8),.row (some 52) 5 (List.map (v52 1) t588),.row none 5 (List.map (v52 0) t588),.kb true,.row (some 35) 1 (List.map (vL52 0) (([t581,t583,t585]:List (List S52))++[t588]))] (.cons (shrM (some 35) 1 (vL52 0) (vL52 0) x8 (vL52.shr _)) (.cons (tree_Of.con h589).c (.cons (shrM (some 52) 5 (v52 1) (v52 0) t588 (v52.shr _)) (.cons (fitM (vL52 0) ([t581,t583,t585]:List (List S52)) [t588] (.refl _)) (.cons (limM1 (vL52 0) c590) .nil)))))<|Sw ?_
 obtain ⟨t592,h593,H⟩:=bindS H
 obtain ⟨t594,h595,H⟩:=bindS H
 refine Rh hN [.row none 1 (List.map (vL52 0) (([t581,t583,t585]:List (List S52))++[t588])),.row (some 52) 5 (List.map (v52 1) t592),.row none 5 (List.map (v52 0) t592),.tup [S t594.1,I t594.2]] (.cons (shrM (some 35) 1 (vL52 0) (vL52 0) (([t581,t583,t585]:List (List S52))++[t588]) (vL52.shr _)) (.cons (tree_Of.con h593).c (.cons (shrM (some 52) 5 (v52 1) (v52 0) t592 (v52.shr _)) (.cons (tree_Encode.con h595).c .nil)))) ?_
 cases H
 exact Rt dR
end Go.Rf.T
