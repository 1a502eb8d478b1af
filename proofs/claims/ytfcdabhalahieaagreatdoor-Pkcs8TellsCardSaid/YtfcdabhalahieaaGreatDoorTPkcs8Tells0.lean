import Derived.Test.YtfcdabhalahieaaGreatDoorRPkcs8Tells2
import Derived.Test.YtfcdabhalahieaaGreatDoorProg
import Derived.Test.YtfcdabhalahieaaGreatDoorShelf
import Derived.Test.YtfcdabhalahieaaGreatDoorRows
import Derived.Deep.Cut
import Derived.RangeFuncNested
import Derived.RangeFuncBound
import Derived.RangeFuncCalls
import Derived.RangeFuncLeaves
import Derived.RangeFuncBox
import Derived.Shelf.Abstract
import Derived.Shelf.RegionOpen
import Derived.WalkKit
import Derived.OwnWalkIn
import Derived.TacticsInMore
import Derived.LoopNIn
import Derived.LoopIn
import Derived.Maps.AppendAt
import Derived.Shelf.SlicesE.Reverse
import Derived.Shelf.Unicode.ValidAny
import Derived.Lib.LaidU8T
import Derived.MakeChecks
import Derived.Laws.BytesArg
set_option linter.unusedSectionVars false
set_option linter.unusedSimpArgs false
set_option linter.unusedVariables false
set_option linter.unusedVariables false
namespace Go.Rf.T
open Go Go.Rf Go.Proofs Go.RowKit Go.Proofs.YtfcdabhalahieaaGreatDoor
def yw:=Rows.pkcs8TellsRow.laid
instance:cO:=⟨fun p w=>∃ W,laidMetH Tryz.prog yw W∧∀ b,b < W.heap.size→p b∧w.heap[b]? = W.heap[b]?,fun k h=>let ⟨W,h1,h2⟩:=h;⟨W,h1,fun b hb=>⟨k.aM b (h2 b hb).1,(k.same b (h2 b hb).1).trans (h2 b hb).2⟩⟩⟩
theorem hm:Tryz.prog.follows .mixedOrders=true:=by kernel_rfl
structure Fb where
 f0:List Int
 f1:List Int
 f2:ByteArray
 f3:ByteArray
 deriving Inhabited,DecidableEq
def v24 (o:Nat) (s:Fb):V:=.agg [.row (sH o 3) 1 (List.map I s.f0),.row (sH o 3) 1 (List.map I s.f1),S s.f2,S s.f3]
theorem v24.shr (o:Nat) (s:Fb):(v24 o s).shr=v24 0 s:=WU (aA (aP (sH o 3) 1 I I s.f0 (fun _=>rfl)) (aA (aP (sH o 3) 1 I I s.f1 (fun _=>rfl)) (aA (rfl:V.shr (S s.f2)=S s.f2) (aA (rfl:V.shr (S s.f3)=S s.f3) (rfl:aZ []=[])))))
def Dx (s:Fb):Prop:=(s.f0.length≤maxLen∧∀ a∈s.f0,(Lit.int .i64 a).wf=true)∧(s.f1.length≤maxLen∧∀ a∈s.f1,(Lit.int .i64 a).wf=true)∧s.f2.size≤maxLen∧s.f3.size≤maxLen
structure af where
 f0:Int
 f1:Int
 f2:Bool
 f3:ByteArray
 f4:List Int
 deriving Inhabited,DecidableEq
def z56:af:=⟨0,0,false,(⟨#[]⟩:ByteArray),[]⟩
def v56 (o:Nat) (s:af):V:=.agg [I s.f0,I s.f1,B s.f2,S s.f3,.row (sH o 3) 1 (List.map I s.f4)]
theorem v56.shr (o:Nat) (s:af):(v56 o s).shr=v56 0 s:=WU (aA (rfl:V.shr (I s.f0)=I s.f0) (aA (rfl:V.shr (I s.f1)=I s.f1) (aA (rfl:V.shr (B s.f2)=B s.f2) (aA (rfl:V.shr (S s.f3)=S s.f3) (aA (aP (sH o 3) 1 I I s.f4 (fun _=>rfl)) (rfl:aZ []=[]))))))
def aa (l:List af) (i:Int):af:=l.getD i.toNat z56
structure bZ where
 f0:Int
 f1:Int
 deriving Inhabited,DecidableEq
def z127:bZ:=⟨0,0⟩
def v127 (s:bZ):V:=.agg [I s.f0,I s.f1]
def bG (l:List bZ) (i:Int):bZ:=l.getD i.toNat z127
def aQ (o:Nat) (l:List af):V:=.row (sH o 56) 5 (List.map (v56 (o - 1)) l)
theorem aQ.shr (o:Nat) (l:List af):(aQ o l).shr=aQ 0 l:=aP (sH o 56) 5 (v56 (o - 1)) (v56 0) l (v56.shr _)
def bC (l:List (List af)) (i:Int):List af:=l.getD i.toNat []
def l6.f (a0:Int) (a1:Int) (a2:ByteArray):Option (List af):=some ([(⟨a0,a1,false,a2,([]:List Int)⟩:af)]:List af)
theorem l6.az {a0:Int} {a1:Int} {a2:ByteArray} {r:(List af)} (H:l6.f a0 a1 a2=some r):aW Tryz.prog 12 [I a0,I a1,S a2] (.row (some 56) 5 (List.map (v56 0) r)):=by
 refine Cg Tryz.func12 rfl fun C hN hL=>?_
 unfold l6.f at H
 refine Sw<|Rg hN<|Sw<|Rj hN [] (.cons (Dv (o:=some 56) (sz:=5) (n:=[.agg [I a0,I a1,B false,S a2,.row none 1 (List.map I ([]:List Int))]]) (.cons (.agg (.cons (.refl _) (.cons (.refl _) (.cons (.refl _) (.cons (.refl _) (.cons (.dP 3 1 _) .nil)))))) .nil)) .nil) [] [(11,.row (some 56) 5 (List.map (v56 0) ([(⟨a0,a1,false,a2,([]:List Int)⟩:af)]:List af)))] ?_
 cases H
 exact Rt dR
def qX.f (l0:List Int) (a1:Int):Option (Int):=if a1=0 then (some 2) else (if a1 > 1 then (some 2147483647) else (if 0 < (l0.length:Int) then (if (rd l0 0) < 2 then (some 39) else (some 2147483567)) else (none)))
theorem qX.az {l0:List Int} {a1:Int} {r:(Int)} (H:qX.f l0 a1=some r):aW Tryz.prog 72 [.row none 1 (List.map I l0),I a1] (I r):=by
 refine Cg Tryz.func72 rfl fun C hN hL=>?_
 unfold qX.f at H
 refine Sw<|Rg hN<|Sw<|Bl<|Sw<|Rg hN ?_
 rcases ak H with ⟨c1,H⟩ | ⟨c1,H⟩
 ·refine Ct (bq c1)<|Sw<|Rg hN ?_
  cases H
  exact Rt dR
 refine Cf (bn c1)<|Sw<|Rg hN ?_
 rcases ak H with ⟨c2,H⟩ | ⟨c2,H⟩
 ·refine Ct (dt c2)<|Sw<|Rg hN ?_
  cases H
  exact Rt dR
 refine Cf (df c2)<|Sw ?_
 obtain ⟨c3,H⟩:=ax H
 refine Rh hN [I (rd l0 0)] (.cons (show (0:Int)≤0 by decide) (.cons (aG I (0:Int) (show (0:Int)≤0 by decide) c3) .nil)) ?_
 rcases ak H with ⟨c4,H⟩ | ⟨c4,H⟩
 ·refine Ct (dt c4)<|Sw<|Rg hN ?_
  cases H
  exact Rt dR
 refine Cf (df c4)<|Sk<|Sw<|Rg hN ?_
 cases H
 exact Rt dR
def ig.l0:Nat→List Int→List Int→Int→Int→Option (Bool)
 | 0,_,_,_,_=>none
 | k+1,x0,bF,bY,aT=>if aT < bY then (if 0≤aT then (if aT < (bF.length:Int) then (if (rd bF aT) < 0 then (some false) else ((qX.f x0 aT).bind fun t11=>(if (rd bF aT) > t11 then (some false) else (ig.l0 k x0 bF bY (wrap64 (aT+1)))))) else (none)) else (none)) else (some true)
def ig.j0:Nat→List Int→Bool→Option (Bool)
 | 0,_,_=>none
 | k+1,x0,dI=>if dI=true then (some false) else (ig.l0 k x0 x0 (x0.length:Int) 0)
def ig.f (k:Nat) (l0:List Int):Option (Bool):=if (l0.length:Int) < 2 then (ig.j0 k l0 true) else (ig.j0 k l0 (decide ((l0.length:Int) > 20)))
theorem ig.az {k:Nat} {l0:List Int} {r:(Bool)} (H:ig.f k l0=some r):aW Tryz.prog 48 [.row none 1 (List.map I l0)] (B r):=by
 refine Cg Tryz.func48 rfl fun C hN hL=>?_
 unfold ig.f at H
 refine Sw<|Rg hN<|Sw<|Sw<|Good.cut (fun st=>∃ n':Nat,n'≤k∧∃ (x0:List Int) (dI:Bool),Wk C st ⟨[(0,.w (.row none 1 (List.map I x0))),(12,.w (B dI))],[]⟩∧ig.j0 n' x0 dI=some r) ?_ ?_
 ·rcases ak H with ⟨c5,H⟩ | ⟨c5,H⟩
  ·exact Rh hN [I (l0.length:Int),B true] (.cons (aR I l0) (.cons (dt c5) .nil))<|⟨k,by omega,l0,true,Wo [(0,0),(12,0)],H⟩
  exact Rh hN [I (l0.length:Int),B false,I (l0.length:Int)] (.cons (aR I l0) (.cons (df c5) (.cons (aR I l0) .nil)))<|⟨k,by omega,l0,decide ((l0.length:Int) > 20),Wo [(0,0),(12,0)],H⟩
 clear H
 rintro st ⟨n',hn',x0,dI,W,H⟩
 rcases n' with _ | k
 ·cases H
 refine W.good ?_
 rw [ig.j0] at H
 rcases ak H with ⟨c6,H⟩ | ⟨c6,H⟩
 ·refine Ct c6<|Sw<|Rg hN ?_
  cases H
  exact Rt dR
 refine Cf (bf c6)<|Sk<|Sw<|Sw<|Rh hN [I (x0.length:Int)] (.cons (aR I x0) .nil)<|Bl<|Good.dK (fun k' st=>∃ (x0:List Int) (bF:List Int) (bY:Int) (aT:Int),k'≤k∧Wk C st ⟨[(0,.w (.row none 1 (List.map I x0))),(13,.w (.row none 1 (List.map I bF))),(14,.w (I bY)),(15,.w (I aT))],[]⟩∧ig.l0 k' x0 bF bY aT=some r) k ⟨x0,x0,(x0.length:Int),0,Nat.le_refl _,Wo [(0,0),(13,0),(14,0),(15,0)],H⟩ fun k=>⟨fun st h=>(by obtain ⟨_,_,_,_,_,_,H⟩:=h;cases H),?_⟩
 clear H
 rintro st ⟨x0,bF,bY,aT,hk,W,H⟩
 refine W.good ?_
 rw [ig.l0] at H
 refine Sw<|Rg hN<|Sw ?_
 rcases (ak H).symm with ⟨c7,H⟩ | ⟨c7,H⟩
 ·refine Cf (df c7)<|Ex<|Sw<|Rg hN ?_
  cases H
  exact Rt dR
 refine Ct (dt c7)<|Sk<|Sw<|Bl<|Sw ?_
 obtain ⟨c8,H⟩:=ax H
 obtain ⟨c9,H⟩:=ax H
 refine Rh hN [I (rd bF aT)] (.cons c8 (.cons (aG I (0:Int) c8 c9) .nil))<|Sw ?_
 rcases ak H with ⟨c10,H⟩ | ⟨c10,H⟩
 ·refine Rh hN [B true] (.cons (dt c10) .nil)<|Good.cond true (by kernel_rfl)<|Sw<|Rg hN ?_
  cases H
  exact Rt dR
 obtain ⟨t11,h12,H⟩:=aF H
 refine Rh hN [B false,I t11] (.cons (df c10) (.cons (qX.az h12).c .nil)) ?_
 rcases (ak H).symm with ⟨c13,H⟩ | ⟨c13,H⟩
 ·exact Cf (df c13)<|Sk<|Rg hN<|⟨k,by omega,x0,bF,bY,wrap64 (aT+1),by omega,Wo [(0,0),(13,0),(14,0),(15,0)],H⟩
 refine Ct (dt c13)<|Sw<|Rg hN ?_
 cases H
 exact Rt dR
def lg:Nat→Int→Int→Option (List Int)
 | 0,_,_=>none
 | k+1,n,m=>if n / 128=0 then some [Go.bits .or .u8 ((Go.bits .and .i64 n 127) % 256) m] else (lg k (n / 128) 128).bind fun r=>some (Go.bits .or .u8 ((Go.bits .and .i64 n 127) % 256) m :: r)
def oL (k:Nat):List Int→Option (List Int)
 | []=>some []
 | x :: xs=>(lg k x 0).bind fun d=>if d.length≤10 then (oL k xs).bind fun r=>some (d++r) else none
def Ie (l0:List Int):List Int:=[wrap64 ((wrap64 (40*(rd l0 0)))+(rd l0 1))]++l0.drop 2
def l5.f (k:Nat) (l0:List Int):Option (ByteArray × Bool):=(ig.f k l0).bind fun t108=>if t108=true then (if 2≤l0.length∧l0.length≤1000 then (oL k (Ie l0).reverse).bind fun bs=>some (strOfNums bs.reverse,true) else none) else some ((⟨#[]⟩:ByteArray),false)
section
open Go.Shelf
attribute [local go_sem] Oper.semAt_some
set_option linter.unusedSimpArgs false
theorem WZ {x:Int} (h0 : -9223372036854775808≤x) (h1:x≤9223372036854775807):wrap64 x=x:=by unfold wrap64;omega
def uL (n₀ Bs:Nat) (sv:Value) (W W':World):Prop:=Below n₀ W W'∧(Boxed W Bs 22 sv→Boxed W' Bs 22 sv)
def nO {α:Type} (f:Nat→α) (k:Nat):List α:=(List.range k).map f
theorem RU {α:Type} (f:Nat→α) (k:Nat):nO f (k+1)=nO f k++[f k]:=by simp [nO,List.range_succ]
theorem YV {α:Type} (f:Nat→α) (k:Nat):(nO f k).length=k:=by simp [nO]
set_option maxRecDepth 100000 in
set_option maxHeartbeats 2000000 in
theorem Zm {α:Type} (encs:α→Array Value) (al:Nat→α) (F:Fence) (n:Nat) (h8:F.fn 73) (hro:F.round=none) (hn:1≤n) (l Bs n₀ b off len cap:Nat) (zs:List Int) (Vl:len*8≤140737488351232) (hb:b < n₀) (J Jx:List α→World→Prop)
 (henc:∀ j,j < len→encs (al j) = #[.int .i64 ((len:Int) - 1 - (j:Int)),.int .i64 (zs[len - 1 - j]?.getD 0)])
 (hY:∀ pre x W,J pre W→pre.length < len→YieldAt F (n - 1) Tryz.prog l (encs x) W fun e W' =>
  (e=.returned (.bool true)∧J (pre++[x]) W'∧uL n₀ Bs (.slice (some ⟨b,off,none⟩) len cap) W W')∨(e=.returned (.bool false)∧Jx (pre++[x]) W'))
 (W:World) (AV:Boxed W Bs 22 (.slice (some ⟨b,off,none⟩) len cap)) (hc:∀ j,j < len→W.cell? ⟨b,off+j,none⟩=some (.int .i64 (zs[j]?.getD 0))) (h0:J [] W) :
 CallsIn F n Tryz.prog 73 #[.func (.yield l) #[] #[],.pointer (some ⟨Bs,0,none⟩)] W fun e W'=>(∃ v,e=.returned v) ∧
  ((∃ ys,ys=nO al len∧J ys W')∨(∃ pre,(∃ k,k≤len∧pre=nO al k)∧Jx pre W')):=by
 refine callsIn_of_wp Tryz.func73 rfl h8 ?_ hro
 simp only [Tryz.ntmps73,List.size_toArray,List.length_cons,List.length_nil,Nat.reduceAdd,Nat.reduceSub,Array.replicate_succ,Array.replicate_zero,List.push_toArray,List.append_toArray,List.nil_append,List.cons_append]
 have hw0:wrap64 ((len:Int) - 1)=(len:Int) - 1:=WZ (by omega) (by omega)
 have hB0:=AV.cell
 gi_wp2
 gi_loopw [3] (fun i wr=>∃ k:Nat,k≤len∧i=.int .i64 ((len:Int) - 1 - (k:Int))∧J (nO al k) wr∧Below n₀ W wr∧Boxed wr Bs 22 (.slice (some ⟨b,off,none⟩) len cap))
  (fun i _=>(RowKit.intOf i+1).toNat)
 case atStart=>exact ⟨0,Nat.zero_le _,by simp [hw0],h0,Below.refl _ _,AV⟩
 case round =>
  obtain ⟨k,hk,rfl,hJs,hnx,hbb⟩:=hrel
  have hbx:=hbb.cell
  by_cases hlt:k < len
  ·have ak1:wr.cell? ⟨b,off+(len - 1 - k),none⟩=some (.int .i64 (zs[len - 1 - k]?.getD 0)):=(hnx.cell (p:=⟨b,off+(len - 1 - k),none⟩) hb).trans (hc _ (by omega))
   obtain ⟨fn,tmps,assign,body,hy,hR⟩:=hY _ (al k) wr hJs (by rw [YV];exact hlt)
   rw [henc k hlt] at hy
   have hge:(0:Int)≤(len:Int) - 1 - (k:Int):=by omega
   have hl:(len:Int) - 1 - (k:Int) < (len:Int):=by omega
   have ht:((len:Int) - 1 - (k:Int)).toNat=len - 1 - k:=by omega
   have hw1:wrap64 ((len:Int) - 1 - (k:Int) - 1)=(len:Int) - 1 - ((k+1:Nat):Int):=by rw [WZ (by omega) (by omega)];omega
   gi_wp2
   refine hR.mono ?_
   rintro e W3 (⟨rfl,hJ3,hk3⟩ | ⟨rfl,hJx3⟩)
   ·gi_wp2
    go_roundw
    case rel=>exact ⟨k+1,by omega,congrArg (Value.int .i64) (by omega),by rw [RU];exact hJ3,hnx.trans hk3.1,hk3.2 hbb⟩
    case measure=>simp [RowKit.intOf];omega
   ·gi_wp2
    refine bodyPost_ret (results_none rfl _ _ _) rfl ?_
    exact ⟨⟨_,rfl⟩,.inr ⟨_,⟨k+1,by omega,(RU _ _).symm⟩,hJx3⟩⟩
  ·obtain rfl:k=len:=by omega
   have hge:¬ (0:Int)≤(k:Int) - 1 - (k:Int):=by omega
   gi_wp2
   go_end0
   first | exact ⟨⟨_,rfl⟩,.inl ⟨_,rfl,hJs⟩⟩ | exact ⟨⟨_,rfl⟩,.inl hJs⟩
theorem aeg {n₀ Bs:Nat} {sv:Value} {A B C:World} (h:uL n₀ Bs sv A B) (k:uL n₀ Bs sv B C):uL n₀ Bs sv A C:=⟨h.1.trans k.1,fun x=>k.2 (h.2 x)⟩
theorem aeh {n₀ Bs:Nat} {sv:Value} {w:World} (hn:n₀≤w.heap.size) (W:World) (l:Nat) (o o':Obj) (hl:w.heap.size≤l) (h:W.heap[l]? = some o) (h1:o.isCells=false) (h2:o.isWalk=false):uL n₀ Bs sv W (W.putObj l o') :=
 ⟨belowK_b hn W l o o' hl h h1 h2,fun x=>x.kept (grownBy_putObj' W l o') (fun e=>by
  cases e
  rw [show W.heap[Bs]? = _ from x] at h
  cases h
  cases h1)⟩
theorem YW {α:Type} (encs:α→Array Value) (al:Nat→α) (F:Fence) (n:Nat) (h8:F.fn 73) (hro:F.round=none) (hn:1≤n) (Bs n₀ b off len cap:Nat) (zs:List Int) (Vl:len*8≤140737488351232) (hb:b < n₀)
 (henc:∀ j,j < len→encs (al j) = #[.int .i64 ((len:Int) - 1 - (j:Int)),.int .i64 (zs[len - 1 - j]?.getD 0)]) (w:World) (hn₀:n₀≤w.heap.size)
 (AV:Boxed w Bs 22 (.slice (some ⟨b,off,none⟩) len cap)) (hc:∀ j,j < len→w.cell? ⟨b,off+j,none⟩=some (.int .i64 (zs[j]?.getD 0))) :
 SeqStopsK F n Tryz.prog 73 #[.pointer (some ⟨Bs,0,none⟩)] encs (uL n₀ Bs (.slice (some ⟨b,off,none⟩) len cap)) (fun ys=>ys=nO al len) (fun _=>True) len w:=fun l J Jx W hW _ _ hY h0=>by
 refine (Zm encs al F n h8 hro hn l Bs n₀ b off len cap zs Vl hb J Jx henc hY W ((hW.block Bs AV.lt).trans AV) (fun j hj=>((hW.mono hn₀).cell (p:=⟨b,off+j,none⟩) hb).trans (hc j hj)) h0).mono ?_
 rintro e W' ⟨he,⟨ys,rfl,hj⟩ | ⟨pre,_,hj⟩⟩
 ·exact ⟨he,.inl ⟨_,rfl,hj⟩⟩
 ·exact ⟨he,.inr ⟨_,trivial,hj⟩⟩
theorem YX (a:Option Addr) (len cap:Nat) (w:World) :
 Calls Tryz.prog 49 #[.slice a len cap] w fun e w'=>e=.returned (.func (.func 73) #[] #[.pointer (some ⟨w.heap.size,0,none⟩)])∧w'=w.alloc (.cells #[.slice a len cap] 22):=by
 go_enter Tryz.func49,Tryz.ntmps49
 go_wp2
 go_ret
 exact ⟨rfl,rfl⟩
theorem TW {k:Nat}:∀ {xs bs:List Int},oL k xs=some bs→∀ x∈xs,∃ d,lg k x 0=some d∧d.length≤10
 | [],_,_,x,hx=>by cases hx
 | y :: ys,bs,h,x,hx=>by
  rw [oL] at h
  obtain ⟨d,h1,h⟩:=Option.bind_eq_some_iff.1 h
  by_cases h2:d.length≤10
  ·rw [if_pos h2] at h
   obtain ⟨r,h3,h⟩:=Option.bind_eq_some_iff.1 h
   rcases List.mem_cons.1 hx with rfl | hx
   ·exact ⟨d,h1,h2⟩
   ·exact TW h3 x hx
  ·rw [if_neg h2] at h;cases h
def lN (k:Nat) (xs:List Int):List Int:=xs.flatMap fun x=>(lg k x 0).getD []
abbrev rT (k:Nat):={ p:Int × Int // ∃ d,lg k p.2 0=some d∧d.length≤10 }
theorem aby {k:Nat} (pre:List (rT k)):(lN k (pre.map fun x=>x.1.2)).length≤10*pre.length:=by
 induction pre with
 | nil=>simp [lN]
 | cons x xs ih =>
  obtain ⟨⟨i,n⟩,d,hd,h10⟩:=x
  have e:lN k (List.map (fun x:rT k=>x.1.2) (⟨(i,n),d,hd,h10⟩ :: xs))=d++lN k (xs.map fun x=>x.1.2):=by
   simp [lN,hd]
  rw [e,List.length_append,List.length_cons]
  omega
theorem aaL {k:Nat} (pre:List (rT k)) (x:rT k) {d:List Int} (hd:lg k x.1.2 0=some d):lN k ((pre++[x]).map fun x=>x.1.2)=lN k (pre.map fun x=>x.1.2)++d:=by
 simp [lN,hd]
theorem TY:∀ {k:Nat} {n m:Int} {d:List Int},lg k n m=some d→0≤n
 | 0,_,_,_,h=>by cases h
 | k+1,n,m,d,h=>by
  rw [lg] at h
  by_cases hs:n / 128=0
  ·omega
  ·rw [if_neg hs] at h
   obtain ⟨r,hr,_⟩:=Option.bind_eq_some_iff.1 h
   have:=TY hr
   omega
theorem UI {k:Nat}:∀ {xs bs:List Int},oL k xs=some bs→bs=lN k xs
 | [],_,h=>by cases h;rfl
 | y :: ys,bs,h=>by
  rw [oL] at h
  obtain ⟨d,h1,h⟩:=Option.bind_eq_some_iff.1 h
  by_cases h2:d.length≤10
  ·rw [if_pos h2] at h
   obtain ⟨r,h3,h⟩:=Option.bind_eq_some_iff.1 h
   cases h
   rw [UI h3]
   simp [lN,h1]
  ·rw [if_neg h2] at h;cases h
theorem acv:(Tryz.prog.info? 5).map (fun i=>(i.zero,i.size,i.bytes))=some (some (.int .u8 0),1,1):=by kernel_rfl
theorem acw {k:Nat}:∀ {xs bs:List Int},oL k xs=some bs→0 < xs.length→0 < bs.length
 | [],_,_,h=>by simp at h
 | y :: ys,bs,h,_=>by
  rw [oL] at h
  obtain ⟨d,h1,h⟩:=Option.bind_eq_some_iff.1 h
  by_cases h2:d.length≤10
  ·rw [if_pos h2] at h
   obtain ⟨r,h3,h⟩:=Option.bind_eq_some_iff.1 h
   cases h
   have:0 < d.length:=by
    cases k with
    | zero=>cases h1
    | succ k =>
     rw [lg] at h1
     split at h1
     ·cases h1;simp
     ·obtain ⟨r,_,h1⟩:=Option.bind_eq_some_iff.1 h1
      cases h1;simp
   rw [List.length_append]
   omega
  ·rw [if_neg h2] at h;cases h
theorem l5.agm {C:Ctx} {w w':World} {s:ByteArray} {b:Bool} (h:Calm C.W w) (k:Below w.heap.size w w'):Q8 C (.aC [S s,B b]) (.returned (.tuple #[.string s,.bool b])) w' :=
 ⟨_,[],fun _=>False,rfl,⟨k.os.trans h.os,k.tape.trans h.tape,k.output.trans h.output,Nat.le_trans h.size k.size,fun b hb=>(k.block b (Nat.lt_of_lt_of_le hb h.size)).trans (h.same b hb)⟩,fun _ h=>h.elim,List.nodup_nil,fun _ h=>(by cases h),.aC (vs:=[.string s,.bool b]) (.cons (A:=[]) (.lit _) (.cons (A:=[]) (.lit _) .nil))⟩
def l5.ren:Go.Shelf.Ren:=⟨fun | 35=>50 | n=>n,fun | 22=>76 | 23=>5 | 3=>3 | 4=>4 | 0=>0 | n=>n,fun | n=>n⟩
theorem l5.lays:SlLaysE.n35 Tryz.prog l5.ren:={
  mixed:=by kernel_rfl
  f35:=⟨Tryz.f50.name,by decide,Tryz.func50.trans (congrArg some (by kernel_rfl))⟩
  t0:=Tryz.underlying0
  a0:=Tryz.isAgg0
  z0:=Tryz.sizeOf0
  v0:=Tryz.zeroValue0
  t3:=Tryz.underlying3
  a3:=Tryz.isAgg3
  z3:=Tryz.sizeOf3
  v3:=Tryz.zeroValue3
  t4:=Tryz.underlying4
  a4:=Tryz.isAgg4
  z4:=Tryz.sizeOf4
  v4:=Tryz.zeroValue4
  t22:=Tryz.underlying76
  a22:=Tryz.isAgg76
  z22:=Tryz.sizeOf76
  v22:=Tryz.zeroValue76
  a23:=Tryz.isAgg5
  z23:=Tryz.sizeOf5 }
theorem l5.Y8 (g1 vZ:Nat) (bs:List Int) (w:World) (hc:∀ j,j < bs.length→w.cell? ⟨g1,j,none⟩=some (.int .u8 (bs[j]?.getD 0))∧w.frozen? ⟨g1,j,none⟩=false) (hl:bs.length≤9223372036854775807) :
 Calls Tryz.prog 50 #[.slice (some ⟨g1,0,none⟩) bs.length vZ] w fun e w'=>e=.returned (.tuple #[])∧(∀ j,j < bs.length→w'.cell? ⟨g1,j,none⟩=some (.int .u8 (bs.reverse[j]?.getD 0)))∧w'.os=w.os∧w'.tape=w.tape∧w'.output=w.output∧w'.heap.size=w.heap.size∧∀ b,b≠g1→w'.heap[b]? = w.heap[b]?:=by
 have hH:Go.Sort.Holds (Value.int .u8) w g1 0 bs.toArray:=fun j hj=>by
  rw [List.size_toArray] at hj
  have:=hc j hj
  rw [Nat.zero_add]
  refine ⟨this.1.trans ?_,this.2⟩
  simp [List.getElem?_eq_getElem hj,getElem!_pos,hj]
 refine (AnyE.slices_Reverse l5.lays (Value.int .u8) (fun x=>by simp [Value.oneCell']) g1 0 vZ bs w hH hl).mono ?_
 rintro e w' ⟨rfl,n,rfl⟩
 have hH2:Go.Sort.Holds (Value.int .u8) (Go.Sort.ahead w n) g1 0 bs.toArray:=fun j hj=>hH j hj
 refine ⟨rfl,fun j hj=>?_,rfl,rfl,rfl,?_,fun b hb=>?_⟩
 ·have h1:=(Go.Sort.holds_putRow (Value.int .u8) (Go.Sort.ahead w n) g1 0 bs.toArray bs.reverse.toArray hH2 (by simp) j (by simpa using hj)).1
  rw [Nat.zero_add] at h1
  rw [h1]
  simp [List.getElem?_eq_getElem,getElem!_pos,hj]
 ·simp [Go.Sort.putRow,Go.Sort.mapBlock,Go.Sort.ahead]
 ·simp [Go.Sort.putRow,Go.Sort.mapBlock,Go.Sort.ahead,Array.getElem?_modify,Ne.symm hb]
set_option maxHeartbeats 8000000 in
set_option maxRecDepth 100000 in
theorem l5.az {k:Nat} {l0:List Int} {r:ByteArray × Bool} (H:l5.f k l0=some r):aW Tryz.prog 27 [.row none 1 (List.map I l0)] (.aC [S r.1,B r.2]):=by
 refine aab Tryz.func27 rfl (by kernel_rfl) (by kernel_rfl) fun C hN hL hF=>?_
 unfold l5.f at H
 refine oP.seq<|Rg hN<|oP.seq<|Sw ?_
 obtain ⟨t19,h20,H⟩:=aF H
 refine Rh hN [B t19] (.cons (ig.az h20).c .nil) ?_
 rcases (ak H).symm with ⟨c21,H⟩ | ⟨c21,H⟩
 ·refine Ct (ed (bf c21))<|Sw<|Rg hN ?_
  cases H
  exact Good.ret (oP.fin hF (fin.pO (by kernel_rfl)))
 refine Cf (eH c21)<|Sk<|oP.seq ?_
 obtain ⟨cL,H⟩:=ax H
 obtain ⟨bs,hbs,H⟩:=aF H
 have qM:0 < (l0.length:Int):=by omega
 have c23:1 < (l0.length:Int):=by omega
 have c24:2≤(l0.length:Int):=by omega
 have uM:([wrap64 ((wrap64 (40*(rd l0 0)))+(rd l0 1))]:List Int).length+(l0.drop 2).length < 17592186044416:=by rw [List.length_drop];simp only [List.length_cons,List.length_nil];omega
 refine Good.qp (n:=2) hm hN hL (.q 0 [[8,7,3,2,1]] (.q 1 [[8,7,3,2]] (.q 2 [[8,7,3]] (.q 3 [[8,7]] (.q 4 [[8,7,6,5]] (.q 5 [[8,7,6]] (.q 6 [[8,7]] (.q 7 [[8]] (.q 9 [[10]] (.b 8 [.row none 1 (List.map I (l0.drop 2)),.kb false,.row (some 3) 1 (List.map I (([wrap64 ((wrap64 (40*(rd l0 0)))+(rd l0 1))]:List Int)++(l0.drop 2)))] [] (.e 10 (.e 11 (.e 12 .z))) [.row none 1 (List.map I (l0.drop 2)),.kb false,.row (some 3) 1 (List.map I (([wrap64 ((wrap64 (40*(rd l0 0)))+(rd l0 1))]:List Int)++(l0.drop 2)))] [] (.e 10 (.e 8 (.e 11 (.e 12 .z)))))))))))))) [(0,none)] (by kernel_rfl) .nil [I (rd l0 0),I (rd l0 1)] [I (rd l0 0),I (rd l0 1)] (.cons (.cons (show (0:Int)≤0 by decide) (.cons (aG I (0:Int) (show (0:Int)≤0 by decide) qM) (.cons (show (0:Int)≤1 by decide) (.cons (aG I (0:Int) (show (0:Int)≤1 by decide) c23) (.cons (show (0:Int)≤2 by decide) (.cons (uI I c24) (.cons (Ca I (l:=l0) (n:=2)) (.cons (dL I ([wrap64 ((wrap64 (40*(rd l0 0)))+(rd l0 1))]:List Int) (l0.drop 2) (.refl _)) (.cons (yo I I uM) .nil))))))))) (.cons (show (0:Int)≤0 by decide) (.cons (aG I (0:Int) (show (0:Int)≤0 by decide) qM) (.cons (show (0:Int)≤1 by decide) (.cons (aG I (0:Int) (show (0:Int)≤1 by decide) c23) .nil)))) (.cons (.cons (show (0:Int)≤0 by decide) (.cons (aG I (0:Int) (show (0:Int)≤0 by decide) qM) (.cons (show (0:Int)≤1 by decide) (.cons (aG I (0:Int) (show (0:Int)≤1 by decide) c23) (.cons (show (0:Int)≤2 by decide) (.cons (uI I c24) (.cons (Ca I (l:=l0) (n:=2)) (.cons (dL I ([wrap64 ((wrap64 (40*(rd l0 0)))+(rd l0 1))]:List Int) (l0.drop 2) (.refl _)) (.cons (yo I I uM) .nil))))))))) (.cons (show (0:Int)≤0 by decide) (.cons (aG I (0:Int) (show (0:Int)≤0 by decide) qM) (.cons (show (0:Int)≤1 by decide) (.cons (aG I (0:Int) (show (0:Int)≤1 by decide) c23) .nil)))) .nil)) [] [] (by kernel_rfl) (by kernel_rfl) [[],[]] [(4,0)] [(4,.w (.row (some 3) 1 (List.map I (([wrap64 ((wrap64 (40*(rd l0 0)))+(rd l0 1))]:List Int)++(l0.drop 2)))))] [] (by kernel_rfl) (by kernel_rfl) ?_
 obtain ⟨y115,hy⟩:∃ y:List Int,y=([wrap64 ((wrap64 (40*(rd l0 0)))+(rd l0 1))]:List Int)++(l0.drop 2):=⟨_,rfl⟩
 have hy0:y115.length=l0.length - 1:=by rw [hy,List.length_append,List.length_drop];simp only [List.length_cons,List.length_nil];omega
 have A3:lv (oL k y115.reverse=some bs):=⟨by rw [hy];exact hbs⟩
 rw [← hy]
 cases H
 clear H hbs hy qM c23 c24 uM h20 c21
 intro g0 a eP S
 have AX:=lv.mk hy0
 have HL:=lv.mk cL
 clear hy0 cL
 have e4:=aV.inv (S.env 4 (.w (.row (some 3) 1 (List.map I y115))) rfl).2.1
 have Jp:=aS.abu (enc:=Value.int .i64) e4
 rcases Jp.2 with ⟨_,h0⟩ | ⟨g,cap,ak2,hv4,hg0,hb0,hr0⟩
 ·have:=AX.out;have:=HL.out;omega
 have YC:=lv.mk (show y115.length≤cap from hr0.1)
 have HG2:=lv.mk (show g < eP.heap.size from (Array.getElem?_eq_some_iff.1 hb0).1)
 have hcell0:lv (∀ j,j < y115.length→eP.cell? ⟨g,j,none⟩=some (.int .i64 (y115[j]?.getD 0))):=⟨fun j hj=>by
  have h1:=(hv4 ▸ Jp).cells (g:=g) rfl j (.int .i64 (y115[j]?.getD 0)) (by simp [List.getElem?_eq_getElem hj])
  have ha:(⟨g,0,none⟩:Addr).add j=⟨g,j,none⟩:=by unfold Addr.add;split<;>simp_all
  rwa [ha] at h1⟩
 have HR:lv (Calm C.W eP):=⟨⟨S.os,S.tape,S.output,S.size,fun b hb=>S.frame b hb (hF b)⟩⟩
 have wV:a.tmps=((List.range 44).map fun i=>a.tmps.getD i undef).toArray:=acr (S.tmps.trans hN)
 have hdf:=S.defers
 obtain ⟨Q9,dfs⟩:=a
 replace hdf:dfs=[]:=hdf
 subst hdf
 obtain ⟨f,hf⟩:∃ f:Nat→Value,f=fun i=>Q9.getD i undef:=⟨_,rfl⟩
 have AY:f 4=.slice (some ⟨g,0,none⟩) y115.length cap:=by rw [hf];exact hv4
 replace wV:Q9=((List.range 44).map f).toArray:=by rw [hf];exact wV
 rw [wV]
 clear S e4 Jp hb0 hr0 hg0 hN hL wV hf hv4 Q9
 show Code.wp _ _ _ ⟨#[f 0,f 1,f 2,f 3,f 4,f 5,f 6,f 7,f 8,f 9,f 10,f 11,f 12,f 13,f 14,f 15,f 16,f 17,f 18,f 19,f 20,f 21,f 22,f 23,f 24,f 25,f 26,f 27,f 28,f 29,f 30,f 31,f 32,f 33,f 34,f 35,f 36,f 37,f 38,f 39,f 40,f 41,f 42,f 43],[]⟩ _
 dsimp only
 rw [AY]
 go_upto_region 5 with fail
 iterate 6 (try (first | go_values | go_skip | go_guarded | go_step | go_upon))
 refine (YX _ _ _ _).mono ?_
 rintro e w' ⟨rfl,rfl⟩
 dsimp only
 iterate 4 (try (first | go_values | go_skip | go_guarded | go_step | go_upon | go_back))
 rw [World.size_alloc]
 refine wp_block<|(wpIn_wide (n:=3)).1 ?_
 have bO:=Boxed.new eP 76 (.slice none 0 0)
 have bS:=Boxed.new (eP.alloc (.cells #[.slice none 0 0] 76)) 22 (.slice (some ⟨g,0,none⟩) y115.length cap)
 rw [World.size_alloc] at bS
 have hB0:Below eP.heap.size eP ((eP.alloc (.cells #[.slice none 0 0] 76)).alloc (.cells #[.slice (some ⟨g,0,none⟩) y115.length cap] 22)):=((Below.refl _ eP).alloc (Nat.le_refl _) _).alloc (by simp) _
 have hcell:∀ j,j < y115.length→((eP.alloc (.cells #[.slice none 0 0] 76)).alloc (.cells #[.slice (some ⟨g,0,none⟩) y115.length cap] 22)).cell? ⟨g,0+j,none⟩=some (.int .i64 (y115[j]?.getD 0)):=fun j hj=>by
  have h1:=hcell0.out j hj
  have h2:=(Below.cell ((((Below.refl eP.heap.size eP).alloc (Nat.le_refl _) (.cells #[.slice none 0 0] 76))).alloc (by simp) (.cells #[.slice (some ⟨g,0,none⟩) y115.length cap] 22)) (World.block_lt_of_cell? _ _ h1)).trans h1
  rw [Nat.zero_add]
  exact h2
 have hmem:∀ x∈y115.reverse,∃ d,lg k x 0=some d∧d.length≤10:=TW A3.out
 have hal:∀ j,∃ d,lg k (y115[y115.length - 1 - j]?.getD 0) 0=some d∧d.length≤10:=fun j=>by
  have hj:y115.length - 1 - j < y115.length:=by have:=AX.out;have:=HL.out;omega
  refine hmem _ ?_
  rw [List.getElem?_eq_getElem hj,Option.getD_some]
  exact List.mem_reverse.2 (List.getElem_mem hj)
 refine wpIn_rangeFunc_ownG (α:=rT k) (encs:=fun x=>#[.int .i64 x.1.1,.int .i64 x.1.2]) rfl (by omega) (gf:=73) (lb:=#[.pointer (some ⟨eP.heap.size+1,0,none⟩)]) rfl trivial (enters_of Tryz.func73 (by kernel_rfl) rfl)
  (YW (fun x:rT k=>#[.int .i64 x.1.1,.int .i64 x.1.2]) (fun j=>⟨((y115.length:Int) - 1 - (j:Int),y115[y115.length - 1 - j]?.getD 0),hal j⟩) Fence.wide (3 - 1) trivial rfl (by omega) (eP.heap.size+1) eP.heap.size g 0 y115.length cap y115 (by have:=AX.out;have:=HL.out;omega) (by have:=HG2.out;omega) (fun j _=>rfl) _ (by simp;omega) bS hcell)
  aeg (aeh (by simp;omega)) (Below.refl _ _) (fun _=>rfl)
  (fun pre W=>(∃ v,Boxed W eP.heap.size 76 v∧W.ownsRow eP.heap.size 5 1 v (lN k (pre.map fun x=>x.1.2)).length ((lN k (pre.map fun x=>x.1.2)).map (Value.int .u8))∧True)∧Below eP.heap.size eP W)
  (fun _ _ _=>False)
  (OwnFrom.and (Own.from (holdsRow_own eP.heap.size eP.heap.size 76 5 1 (fun pre:List (rT k)=>(lN k (pre.map fun x=>x.1.2)).length) (fun pre=>(lN k (pre.map fun x=>x.1.2)).map (Value.int .u8)) (fun _ _=>True)) _) (ownFrom_below (Nat.le_refl _) (by simp;omega)))
  (fun _ _ _ _ _ hs _ _=>hs)
  ⟨⟨_,bO.alloc _,World.ownsRow_nil _ _ _ _,trivial⟩,hB0⟩
   (fun x=>{ tmps:=#[f 0,f 1,f 2,f 3,.slice (some ⟨g,0,none⟩) y115.length cap,.pointer (some ⟨eP.heap.size,0,none⟩),f 6,.int .i64 x.1.2,f 8,f 9,f 10,f 11,f 12,f 13,f 14,f 15,f 16,f 17,f 18,f 19,f 20,f 21,f 22,f 23,.slice (some ⟨g,0,none⟩) y115.length cap,.func (.func 73) #[] #[.pointer (some ⟨eP.heap.size+1,0,none⟩)],.int .i64 x.1.1,.int .i64 x.1.2,f 28,f 29,f 30,f 31,f 32,f 33,f 34,f 35,f 36,f 37,f 38,f 39,f 40,f 41,f 42,f 43],defers:=[] }) ?assign ?body ?done ?stop
 case assign =>
  intro l x W K hK
  gi_wp2
  exact hK
 case stop =>
  rintro D c pre W _ _ h _
  exact h.elim
 case body =>
  rintro l pre ⟨⟨xi,xn⟩,d,hd,agn⟩ W ⟨⟨v,hv,hrow,_⟩,hB⟩ hlt
  dsimp only
  gi_wp2
  gi_loopw [7,8] (fun vn vm wr=>∃ (kq:Nat) (n' m':Int) (cur rest:List Int),vn=.int .i64 n'∧vm=.int .u8 m'∧lg kq n' m'=some rest∧cur++rest=lN k (pre.map fun x=>x.1.2)++d ∧
   (∃ v,Boxed wr eP.heap.size 76 v∧wr.ownsRow eP.heap.size 5 1 v cur.length (cur.map (Value.int .u8)))∧uL eP.heap.size (eP.heap.size+1) (.slice (some ⟨g,0,none⟩) y115.length cap) W wr∧KeepsFrom eP.heap.size W wr)
   (fun vn _ _=>(RowKit.intOf vn).toNat)
  case atStart=>exact ⟨k,xn,0,_,d,rfl,rfl,hd,rfl,⟨v,hv,hrow⟩,⟨Below.refl _ _,fun h=>h⟩,KeepsFrom.refl _ _⟩
  case round =>
   obtain ⟨kq,n',m',cur,rest,rfl,rfl,hq,hcr,⟨v2,hv2,hrow2⟩,hbk,Ra⟩:=hrel
   have hc:=hv2.cell
   have hcl:cur.length≤10010:=by
    have h1:=congrArg List.length hcr
    have h2:=aby pre
    have h3:=AX.out
    have h4:=HL.out
    simp only [List.length_append] at h1
    omega
   have hsz:eP.heap.size≤wr.heap.size:=Nat.le_trans hB.size hbk.1.size
   have xg:cur.length+1≤maxLen:=by unfold maxLen;omega
   obtain ⟨i0,hi,hz0,hz1,hz2⟩:=info_parts acv
   cases kq with
   | zero=>cases hq
   | succ kq =>
    rw [lg] at hq
    by_cases hs:n' / 128=0
    ·rw [if_pos hs] at hq
     have hs0:(n' / 128 == 0)=true:=by simp [hs]
     gi_wp2_with (gi_at_builtin;refine wpListIn_append_own _ rfl _ _ 76 rfl eP.heap.size 5 i0 (.int .u8 0) 1 1 Tryz.underlying76 hi hz0 hz1 hz2 rfl (by decide) _ _ _ rfl (hrow2.alloc _) ⟨wr.heap.size,0,none⟩ 1 1 [.int .u8 (Go.bits .or .u8 ((Go.bits .and .i64 n' 127) % 256) m')] rfl rfl (cell_one_new _ _ _) (by simp [Value.oneCell']) xg (by omega) (by simp;omega) ?_;intro v' w1 hown' hgrow _;obtain ⟨g',cap',rfl⟩:=ownsRow_succ hown';obtain ⟨hv3,hv4,hr4,hk4,hb4⟩:=hv2.appended (by decide) hrow2 hsz (Nat.le_refl _) hown' hgrow;have hc1:=hv3.cell;have hf1:=hv3.frozen;have hS1:=fun hS:Boxed wr (eP.heap.size+1) 22 (.slice (some ⟨g,0,none⟩) y115.length cap)=>((hS.alloc _).kept hgrow (hS.not_row (by decide) hrow2)).kept (grownBy_setCell' w1 eP.heap.size (.slice (some ⟨g',0,none⟩) (cur.length+1) cap')) (by simp))
     obtain rfl:=Option.some.inj hq
     have e:=aaL pre ⟨(xi,xn),d,hd,agn⟩ hd
     rw [← hcr] at e
     refine ⟨⟨Nat.le_trans Ra.size (hk4.from eP.heap.size).size,fun k o hk=>(Ra.trans (hk4.from _)).same k o (by simp at hk;omega)⟩,⟨hbk.1.trans hb4,fun h=>hS1 (hbk.2 h)⟩,⟨_,hv4,?_,trivial⟩,hB.trans (hbk.1.trans hb4)⟩
     rw [e]
     simpa using hr4
    ·rw [if_neg hs] at hq
     have hs0:(n' / 128 == 0)=false:=by simp [hs]
     obtain ⟨r,hr,hq⟩:=Option.bind_eq_some_iff.1 hq
     obtain rfl:=Option.some.inj hq
     have hpos:=TY hr
     gi_wp2_with (gi_at_builtin;refine wpListIn_append_own _ rfl _ _ 76 rfl eP.heap.size 5 i0 (.int .u8 0) 1 1 Tryz.underlying76 hi hz0 hz1 hz2 rfl (by decide) _ _ _ rfl (hrow2.alloc _) ⟨wr.heap.size,0,none⟩ 1 1 [.int .u8 (Go.bits .or .u8 ((Go.bits .and .i64 n' 127) % 256) m')] rfl rfl (cell_one_new _ _ _) (by simp [Value.oneCell']) xg (by omega) (by simp;omega) ?_;intro v' w1 hown' hgrow _;obtain ⟨g',cap',rfl⟩:=ownsRow_succ hown';obtain ⟨hv3,hv4,hr4,hk4,hb4⟩:=hv2.appended (by decide) hrow2 hsz (Nat.le_refl _) hown' hgrow;have hc1:=hv3.cell;have hf1:=hv3.frozen;have hS1:=fun hS:Boxed wr (eP.heap.size+1) 22 (.slice (some ⟨g,0,none⟩) y115.length cap)=>((hS.alloc _).kept hgrow (hS.not_row (by decide) hrow2)).kept (grownBy_setCell' w1 eP.heap.size (.slice (some ⟨g',0,none⟩) (cur.length+1) cap')) (by simp))
     refine ⟨⟨kq,n' / 128,128,cur++[Go.bits .or .u8 ((Go.bits .and .i64 n' 127) % 256) m'],r,rfl,rfl,hr,?_,⟨_,hv4,?_⟩,⟨hbk.1.trans hb4,fun h=>hS1 (hbk.2 h)⟩,Ra.trans (hk4.from _)⟩,?_⟩
     ·rw [← hcr];simp
     ·simpa using hr4
     ·simp only [RowKit.intOf];omega
 case done =>
  rintro D ys W hD rfl ⟨⟨v,hv,hrow,_⟩,hB2⟩ hK
  have e:lN k ((nO (fun j=>(⟨((y115.length:Int) - 1 - (j:Int),y115[y115.length - 1 - j]?.getD 0),hal j⟩:rT k)) y115.length).map fun x=>x.1.2)=bs:=by
   have h1:=UI A3.out
   rw [h1]
   congr 1
   refine List.ext_getElem (by simp [nO]) (fun i h2 h3=>?_)
   rw [List.length_reverse] at h3
   simp only [nO,List.getElem_map,List.getElem_range,List.getElem_reverse]
   rw [List.getElem?_eq_getElem (by omega),Option.getD_some]
  rw [e] at hrow
  clear e
  have hbl:0 < bs.length:=acw A3.out (by rw [List.length_reverse];have:=AX.out;have:=HL.out;omega)
  rcases hrow.2 with ⟨_,h0⟩ | ⟨g1,vZ,ak3,rfl,hg1,hb1,hr1⟩
  ·omega
  have YD:g1≠eP.heap.size:=fun e=>hv.not_row (by decide) hrow (by simp [Value.ownBlock,e])
  have hnD:g1≠D:=fun e=>by
   subst e
   rw [hb1] at hK
   cases hK
  have hcell1:∀ j,j < bs.length→W.cell? ⟨g1,j,none⟩=some (.int .u8 (bs[j]?.getD 0))∧W.frozen? ⟨g1,j,none⟩=false:=fun j hj=>by
   have h1:=hrow.cells (g:=g1) rfl j (.int .u8 (bs[j]?.getD 0)) (by simp [List.getElem?_eq_getElem hj])
   have ha:(⟨g1,0,none⟩:Addr).add j=⟨g1,j,none⟩:=by unfold Addr.add;split<;>simp_all
   rw [ha] at h1
   exact ⟨h1,by simp [World.frozen?,hb1]⟩
  have hlen:bs.length≤9223372036854775807:=Nat.le_trans hr1.1 (Nat.le_trans hr1.2.1 (by decide))
  have HK:=lv.mk hK
  have HV:=lv.mk hv
  have agp:=lv.mk hcell1
  have HB2:=lv.mk hB2
  have HNB:=lv.mk YD
  have HND:=lv.mk hnD
  have HD:=lv.mk hD
  have YC:=lv.mk hg1
  have hc:=HV.out.cell
  clear hv hrow hB2 hK YD hnD hcell1 hD hmem hal hcell bO bS hB0 hr1 hb1 hg1
  go_wp2_with (go_at_call 50;refine (l5.Y8 g1 vZ bs W agp.out hlen).mono ?_;rintro e w2 ⟨rfl,ho,o1,o2,o3,o4,o5⟩;have hc2:=(Boxed.cell ((o5 _ (Ne.symm HNB.out)).trans HV.out:Boxed w2 eP.heap.size 76 (.slice (some ⟨g1,0,none⟩) bs.length vZ)));have hcv:=run_convert_bytes_arg (P:=Tryz.prog) w2 76 5 Tryz.underlying76 Tryz.underlying5 g1 0 bs.length vZ bs.reverse (by simp) (fun i hi=>by rw [Nat.zero_add];exact (ho i (by simpa using hi)).trans (by rw [List.getD_eq_getElem?_getD])) 9 Tryz.underlying9;have YE:=lv.mk ((o5 D (Ne.symm HND.out)).trans HK.out);have HB3:lv (Below eP.heap.size eP w2):=⟨HB2.out.trans ⟨o1,o2,o3,by omega,fun i hi=>o5 i (by have:=YC.out;omega)⟩⟩;clear ho)
  refine ⟨by simp,.inl ⟨_,_,rfl,run_takeDeferred YE.out,?_⟩⟩
  refine ⟨_,results_tmp2 rfl _ _ _,l5.agm HR.out (HB3.out.trans (belowK_b (w:=eP) (Nat.le_refl _) w2 D _ _ (by have:=HD.out;simp at this;omega) YE.out rfl rfl))⟩
end
def jS.j0:Nat→List Int→Bool→Option (List af × Bool)
 | 0,_,_=>none
 | k+1,x0,bF=>if bF=true then ((l6.f 0 5 (⟨#[]⟩:ByteArray)).bind fun t16=>(some (t16,true))) else ((l5.f k x0).bind fun t18=>((l6.f 0 6 t18.1).bind fun t20=>(some (t20,t18.2))))
def jS.f (k:Nat) (l0:List Int) (a1:Bool):Option (List af × Bool):=if a1=true then (jS.j0 k l0 ((l0.length:Int) == 0)) else (jS.j0 k l0 false)
theorem jS.az {k:Nat} {l0:List Int} {a1:Bool} {r:(List af × Bool)} (H:jS.f k l0 a1=some r):aW Tryz.prog 10 [.row none 1 (List.map I l0),B a1] (.aC [.row (some 56) 5 (List.map (v56 0) r.1),B r.2]):=by
 refine Cg Tryz.func10 rfl fun C hN hL=>?_
 unfold jS.f at H
 refine Sw<|Rg hN<|Sw<|Sw<|Good.cut (fun st=>∃ n':Nat,n'≤k∧∃ (x0:List Int) (bF:Bool),Wk C st ⟨[(0,.w (.row none 1 (List.map I x0))),(13,.w (B bF))],[]⟩∧jS.j0 n' x0 bF=some r) ?_ ?_
 ·rcases ak H with ⟨c14,H⟩ | ⟨c14,H⟩
  ·exact Rh hN [B true,I (l0.length:Int)] (.cons c14 (.cons (aR I l0) .nil))<|⟨k,by omega,l0,((l0.length:Int) == 0),Wo [(0,0),(13,0)],H⟩
  exact Rh hN [B false] (.cons (bf c14) .nil)<|⟨k,by omega,l0,false,Wo [(0,0),(13,0)],H⟩
 clear H
 rintro st ⟨n',hn',x0,bF,W,H⟩
 rcases n' with _ | k
 ·cases H
 refine W.good ?_
 rw [jS.j0] at H
 rcases ak H with ⟨c15,H⟩ | ⟨c15,H⟩
 ·refine Ct c15<|Sw ?_
  obtain ⟨t16,Fe,H⟩:=aF H
  refine Rh hN [.row (some 56) 5 (List.map (v56 0) t16)] (.cons (l6.az Fe).c .nil) ?_
  cases H
  exact Rt dR
 refine Cf (bf c15)<|Sk<|Sw ?_
 obtain ⟨t18,h19,H⟩:=aF H
 refine Rh hN [.aC [S t18.1,B t18.2]] (.cons (l5.az h19).c .nil)<|Sw ?_
 obtain ⟨t20,h21,H⟩:=aF H
 refine Rh hN [.row (some 56) 5 (List.map (v56 0) t20)] (.cons (l6.az h21).c .nil) ?_
 cases H
 exact Rt dR
def bz.l0:Nat→ByteArray→Int→Int→Int→Int→Int→Int→Int→Bool→Int→Option (Int × Int × Bool × Int × Int × Int)
 | 0,_,_,_,_,_,_,_,_,_,_=>none
 | k+1,x0,x6,x7,x8,x107,lh,x2000,aB,aJ,aL=>if lh < x107 then (if 0≤x6 then (if x6 < (x0.size:Int) then (bz.l0 k x0 (wrap64 (x6+1)) x7 x8 x107 (wrap64 (lh+1)) x2000 aB aJ (Go.bits .or .i64 (wrap64 (aL*256)) (wrap64 (bt x0 x6)))) else (none)) else (none)) else (if 0≤(wrap64 ((wrap64 (8*x7)) - 8)) then (if aL≥(shl .i64 1 (wrap64 ((wrap64 (8*x7)) - 8))) then (if aL≥128 then (some (x2000,aB,aJ,aL,x6,0)) else (some (0,0,false,0,0,x8))) else (some (0,0,false,0,0,x8))) else (none))
def bz.fQ:Nat→Int→Option (Int × Int × Bool × Int × Int × Int)
 | 0,_=>none
 | k+1,x8=>some (0,0,false,0,0,x8)
def bz.j1:Nat→ByteArray→Int→Int→Bool→Int→Int→Bool→Int→Option (Int × Int × Bool × Int × Int × Int)
 | 0,_,_,_,_,_,_,_,_=>none
 | k+1,x0,x6,x8,jh,x2000,aB,aJ,aL=>if jh=true then (bz.fQ k x8) else (if 0≤x6 then (if x6 < (x0.size:Int) then (if (bt x0 x6) > 130 then (bz.fQ k 4) else (if (bt x0 x6) < 128 then (some (x2000,aB,aJ,wrap64 (bt x0 x6),wrap64 (x6+1),0)) else (if (wrap64 ((wrap64 (x6+1))+(wrap64 (Go.bits .and .u8 (bt x0 x6) 127)))) > (x0.size:Int) then (bz.fQ k x8) else (bz.l0 k x0 (wrap64 (x6+1)) (wrap64 (Go.bits .and .u8 (bt x0 x6) 127)) x8 (wrap64 (Go.bits .and .u8 (bt x0 x6) 127)) 0 x2000 aB aJ aL)))) else (none)) else (none))
def bz.j5:Nat→ByteArray→Int→Int→Bool→Int→Int→Bool→Int→Option (Int × Int × Bool × Int × Int × Int)
 | 0,_,_,_,_,_,_,_,_=>none
 | k+1,x0,x6,x8,jh,x2000,aB,aJ,aL=>if jh=true then (bz.fQ k x8) else (if 0≤x6 then (if x6 < (x0.size:Int) then (if (bt x0 x6) > 130 then (bz.fQ k 4) else (if (bt x0 x6) < 128 then (some (x2000,aB,aJ,wrap64 (bt x0 x6),wrap64 (x6+1),0)) else (if (wrap64 ((wrap64 (x6+1))+(wrap64 (Go.bits .and .u8 (bt x0 x6) 127)))) > (x0.size:Int) then (bz.fQ k x8) else (bz.l0 k x0 (wrap64 (x6+1)) (wrap64 (Go.bits .and .u8 (bt x0 x6) 127)) x8 (wrap64 (Go.bits .and .u8 (bt x0 x6) 127)) 0 x2000 aB aJ aL)))) else (none)) else (none))
def bz.iy:Nat→ByteArray→Int→Int→Int→Int→Bool→Int→Option (Int × Int × Bool × Int × Int × Int)
 | 0,_,_,_,_,_,_,_=>none
 | k+1,x0,x6,x8,x2000,aB,aJ,aL=>if x6≥(x0.size:Int) then (bz.j5 k x0 x6 x8 true x2000 aB aJ aL) else (if 0≤x6 then (if x6 < (x0.size:Int) then (bz.j5 k x0 x6 x8 ((bt x0 x6) == 128) x2000 aB aJ aL) else (none)) else (none))
def bz.j8:Nat→ByteArray→Int→Int→Bool→Int→Int→Bool→Int→Option (Int × Int × Bool × Int × Int × Int)
 | 0,_,_,_,_,_,_,_,_=>none
 | k+1,x0,x6,x8,jh,x2000,aB,aJ,aL=>if jh=true then (bz.fQ k x8) else (if 0≤x6 then (if x6 < (x0.size:Int) then (if (bt x0 x6) > 130 then (bz.fQ k 4) else (if (bt x0 x6) < 128 then (some (x2000,aB,aJ,wrap64 (bt x0 x6),wrap64 (x6+1),0)) else (if (wrap64 ((wrap64 (x6+1))+(wrap64 (Go.bits .and .u8 (bt x0 x6) 127)))) > (x0.size:Int) then (bz.fQ k x8) else (bz.l0 k x0 (wrap64 (x6+1)) (wrap64 (Go.bits .and .u8 (bt x0 x6) 127)) x8 (wrap64 (Go.bits .and .u8 (bt x0 x6) 127)) 0 x2000 aB aJ aL)))) else (none)) else (none))
mutual
def bz.zB:Nat→ByteArray→Int→Int→Int→Int→Int→Bool→Int→Option (Int × Int × Bool × Int × Int × Int)
 | 0,_,_,_,_,_,_,_,_=>none
 | k+1,x0,x6,x7,x8,x2000,aB,aJ,aL=>if x6≥(x0.size:Int) then (bz.j7 k x0 x6 x7 x8 true x2000 aB aJ aL) else (if x7=3 then (bz.j7 k x0 x6 x7 x8 true x2000 aB aJ aL) else (if x7=0 then (if 0≤x6 then (if x6 < (x0.size:Int) then (bz.j7 k x0 x6 x7 x8 ((bt x0 x6) == 128) x2000 aB aJ aL) else (none)) else (none)) else (bz.j7 k x0 x6 x7 x8 false x2000 aB aJ aL)))
def bz.j7:Nat→ByteArray→Int→Int→Int→Bool→Int→Int→Bool→Int→Option (Int × Int × Bool × Int × Int × Int)
 | 0,_,_,_,_,_,_,_,_,_=>none
 | k+1,x0,x6,x7,x8,lC,x2000,aB,aJ,aL=>if lC=true then (bz.fQ k x8) else (if 0≤x6 then (if x6 < (x0.size:Int) then (if 0≤(wrap64 ((wrap64 (x6+1)) - 1)) then (if (wrap64 ((wrap64 (x6+1)) - 1)) < (x0.size:Int) then (if (bt x0 (wrap64 ((wrap64 (x6+1)) - 1)))≥128 then (bz.zB k x0 (wrap64 (x6+1)) (wrap64 (x7+1)) x8 x2000 (Go.bits .or .i64 (wrap64 (aB*128)) (wrap64 (Go.bits .and .u8 (bt x0 x6) 127))) aJ aL) else (if (Go.bits .or .i64 (wrap64 (aB*128)) (wrap64 (Go.bits .and .u8 (bt x0 x6) 127))) < 31 then (bz.fQ k x8) else (if (wrap64 (x6+1))≥(x0.size:Int) then (bz.j8 k x0 (wrap64 (x6+1)) x8 true x2000 (Go.bits .or .i64 (wrap64 (aB*128)) (wrap64 (Go.bits .and .u8 (bt x0 x6) 127))) aJ aL) else (if 0≤(wrap64 (x6+1)) then (if (wrap64 (x6+1)) < (x0.size:Int) then (bz.j8 k x0 (wrap64 (x6+1)) x8 ((bt x0 (wrap64 (x6+1))) == 128) x2000 (Go.bits .or .i64 (wrap64 (aB*128)) (wrap64 (Go.bits .and .u8 (bt x0 x6) 127))) aJ aL) else (none)) else (none))))) else (none)) else (none)) else (none)) else (none))
end
def bz.j0:Nat→ByteArray→Int→Int→Int→Bool→Int→Int→Bool→Int→Option (Int × Int × Bool × Int × Int × Int)
 | 0,_,_,_,_,_,_,_,_,_=>none
 | k+1,x0,x6,x7,x8,lC,x2000,aB,aJ,aL=>if lC=true then (bz.fQ k x8) else (if 0≤x6 then (if x6 < (x0.size:Int) then (if 0≤(wrap64 ((wrap64 (x6+1)) - 1)) then (if (wrap64 ((wrap64 (x6+1)) - 1)) < (x0.size:Int) then (if (bt x0 (wrap64 ((wrap64 (x6+1)) - 1)))≥128 then (bz.zB k x0 (wrap64 (x6+1)) (wrap64 (x7+1)) x8 x2000 (Go.bits .or .i64 (wrap64 (aB*128)) (wrap64 (Go.bits .and .u8 (bt x0 x6) 127))) aJ aL) else (if (Go.bits .or .i64 (wrap64 (aB*128)) (wrap64 (Go.bits .and .u8 (bt x0 x6) 127))) < 31 then (bz.fQ k x8) else (if (wrap64 (x6+1))≥(x0.size:Int) then (bz.j1 k x0 (wrap64 (x6+1)) x8 true x2000 (Go.bits .or .i64 (wrap64 (aB*128)) (wrap64 (Go.bits .and .u8 (bt x0 x6) 127))) aJ aL) else (if 0≤(wrap64 (x6+1)) then (if (wrap64 (x6+1)) < (x0.size:Int) then (bz.j1 k x0 (wrap64 (x6+1)) x8 ((bt x0 (wrap64 (x6+1))) == 128) x2000 (Go.bits .or .i64 (wrap64 (aB*128)) (wrap64 (Go.bits .and .u8 (bt x0 x6) 127))) aJ aL) else (none)) else (none))))) else (none)) else (none)) else (none)) else (none))
def bz.f (k:Nat) (a0:ByteArray):Option (Int × Int × Bool × Int × Int × Int):=if a0.toList=([]:List UInt8) then (bz.fQ k 5) else (if 0 < (a0.size:Int) then (if (wrap64 (Go.bits .and .u8 (bt a0 0) 31)) < 31 then (bz.iy k a0 1 5 (wrap64 ((bt a0 0) / 64)) (wrap64 (Go.bits .and .u8 (bt a0 0) 31)) ((Go.bits .and .u8 (bt a0 0) 32) != 0) 0) else (if 1≥(a0.size:Int) then (bz.j0 k a0 1 0 5 true (wrap64 ((bt a0 0) / 64)) 0 ((Go.bits .and .u8 (bt a0 0) 32) != 0) 0) else (if 1 < (a0.size:Int) then (bz.j0 k a0 1 0 5 ((bt a0 1) == 128) (wrap64 ((bt a0 0) / 64)) 0 ((Go.bits .and .u8 (bt a0 0) 32) != 0) 0) else (none)))) else (none))
theorem bz.az {k:Nat} {a0:ByteArray} {r:(Int × Int × Bool × Int × Int × Int)} (H:bz.f k a0=some r):aW Tryz.prog 51 [S a0] (.aC [.agg [I r.1,I r.2.1,B r.2.2.1,I r.2.2.2.1],I r.2.2.2.2.1,I r.2.2.2.2.2]):=by
 refine Cg Tryz.func51 rfl fun C hN hL=>?_
 unfold bz.f at H
 refine Sw<|Rg hN<|Good.scope [(0,_,fun n st=>∃ (x8:Int) (x1000:Int) (ah:Int) (ay:Bool) (au:Int) (x2000:Int) (aB:Int) (aJ:Bool) (aL:Int),n≤k∧Wk C st ⟨[(2,.d (.ptr 0 0)),(8,.w (I x8))],[.cells [.v (I x1000),.v (I ah),.v (B ay),.v (I au)],.cells [.v (I x2000),.v (I aB),.v (B aJ),.v (I aL)]]⟩∧bz.fQ n x8=some r),(1,_,fun n st=>∃ (x0:ByteArray) (x6:Int) (x8:Int) (x1000:Int) (ah:Int) (ay:Bool) (au:Int) (x2000:Int) (aB:Int) (aJ:Bool) (aL:Int),n≤k∧Wk C st ⟨[(0,.w (S x0)),(2,.d (.ptr 0 0)),(5,.d (.ptr 1 0)),(6,.w (I x6)),(8,.w (I x8))],[.cells [.v (I x1000),.v (I ah),.v (B ay),.v (I au)],.cells [.v (I x2000),.v (I aB),.v (B aJ),.v (I aL)]]⟩∧bz.iy n x0 x6 x8 x2000 aB aJ aL=some r),(2,_,fun n st=>∃ (x0:ByteArray) (x6:Int) (x7:Int) (x8:Int) (x1000:Int) (ah:Int) (ay:Bool) (au:Int) (x2000:Int) (aB:Int) (aJ:Bool) (aL:Int),n≤k∧Wk C st ⟨[(0,.w (S x0)),(2,.d (.ptr 0 0)),(5,.d (.ptr 1 0)),(6,.w (I x6)),(7,.w (I x7)),(8,.w (I x8))],[.cells [.v (I x1000),.v (I ah),.v (B ay),.v (I au)],.cells [.v (I x2000),.v (I aB),.v (B aJ),.v (I aL)]]⟩∧bz.zB n x0 x6 x7 x8 x2000 aB aJ aL=some r)] (.cons rfl (.cons rfl (.cons rfl .nil))) ?_ (.cons ?_ (.cons ?_ (.cons ?_ .nil)))
 ·refine Sw<|Rg hN<|Sw<|Rg hN<|Sw<|Sw<|Ri hN [] (.cons (fA (rfl:a0.toList=a0.toList) (eU ([]:List UInt8))) .nil) [(10,.bool (a0.toList == ([]:List UInt8)))] ?_
  rcases ak H with ⟨qM,H⟩ | ⟨qM,H⟩
  ·exact Ct (bq qM)<|Good.goto<|⟨k,(by first | trivial | omega),5,0,0,false,0,0,0,false,0,by omega,Wo [(2,0),(8,0)],H⟩
  refine Cf (bn qM)<|Sk<|Sw ?_
  obtain ⟨c23,H⟩:=ax H
  refine Rd hm hN (.q 0 [[]] (.q 1 [[]] (.q 2 [[]] (.q 3 [[]] (.q 4 [[]] (.q 5 [[]] (.q 6 [[]] (.q 7 [[]] (.q 8 [[]] (.q 9 [[]] (.q 10 [[]] (.q 11 [[]] (.q 12 [[]] (.e 13 .z)))))))))))))) [(0,none),(5,some (.pt [I 0,I 0,B false,I 0]))] (.cons (bV (aA (rfl:(V.shr (I 0))=I 0) (aA (rfl:(V.shr (I 0))=I 0) (aA (rfl:(V.shr (B false))=B false) (aA (rfl:(V.shr (I 0))=I 0) (rfl:aZ []=[])))))) .nil) [] [] (.cons (show (0:Int)≤0 by decide) (.cons c23 (.cons (show (0:Int)≤6 by decide) (.cons (show (0:Int)≤0 by decide) (.cons c23 (.cons (show (0:Int)≤0 by decide) (.cons c23 .nil))))))) (.cons (show (0:Int)≤0 by decide) (.cons c23 (.cons (show (0:Int)≤6 by decide) (.cons (show (0:Int)≤0 by decide) (.cons c23 (.cons (show (0:Int)≤0 by decide) (.cons c23 .nil))))))) [] []<|Sw<|Rg hN<|Sw<|Sw<|Rg hN ?_
  rcases ak H with ⟨c24,H⟩ | ⟨c24,H⟩
  ·exact Ct (dt c24)<|Good.goto<|⟨k,(by first | trivial | omega),a0,1,5,0,0,false,0,wrap64 ((bt a0 0) / 64),wrap64 (Go.bits .and .u8 (bt a0 0) 31),((Go.bits .and .u8 (bt a0 0) 32) != 0),0,by omega,Wo [(0,0),(2,0),(5,0),(6,0),(8,0)],H⟩
  refine Cf (df c24)<|Sk<|Sw<|Rg hN<|Sw<|Good.label<|Sw<|Sw<|Good.cut (fun st=>∃ n':Nat,n'≤k∧∃ (x0:ByteArray) (x6:Int) (x7:Int) (x8:Int) (lC:Bool) (x1000:Int) (ah:Int) (ay:Bool) (au:Int) (x2000:Int) (aB:Int) (aJ:Bool) (aL:Int),Wk C st ⟨[(0,.w (S x0)),(2,.d (.ptr 0 0)),(5,.d (.ptr 1 0)),(6,.w (I x6)),(7,.w (I x7)),(8,.w (I x8)),(45,.w (B lC))],[.cells [.v (I x1000),.v (I ah),.v (B ay),.v (I au)],.cells [.v (I x2000),.v (I aB),.v (B aJ),.v (I aL)]]⟩∧bz.j0 n' x0 x6 x7 x8 lC x2000 aB aJ aL=some r) ?_ ?_
  ·rcases ak H with ⟨uM,H⟩ | ⟨uM,H⟩
   ·exact Rh hN [B true,B true] (.cons (dt uM) (.cons (rfl:true=true) .nil))<|⟨k,by omega,a0,1,0,5,true,0,0,false,0,wrap64 ((bt a0 0) / 64),0,((Go.bits .and .u8 (bt a0 0) 32) != 0),0,Wo [(0,0),(2,0),(5,0),(6,0),(7,0),(8,0),(45,0)],H⟩
   obtain ⟨c26,H⟩:=ax H
   exact Rh hN [B false,B false,B true] (.cons (df uM) (.cons (bn (show ¬ ((0:Int)=3) by decide)) (.cons (bq (show (0:Int)=0 by decide)) (.cons (show (0:Int)≤1 by decide) (.cons c26 .nil)))))<|⟨k,by omega,a0,1,0,5,((bt a0 1) == 128),0,0,false,0,wrap64 ((bt a0 0) / 64),0,((Go.bits .and .u8 (bt a0 0) 32) != 0),0,Wo [(0,0),(2,0),(5,0),(6,0),(7,0),(8,0),(45,0)],H⟩
  clear H
  rintro st ⟨n',hn',x0,x6,x7,x8,lC,x1000,ah,ay,au,x2000,aB,aJ,aL,W,H⟩
  rcases n' with _ | k
  ·cases H
  refine W.good ?_
  rw [bz.j0] at H
  rcases ak H with ⟨Rb,H⟩ | ⟨Rb,H⟩
  ·exact Ct Rb<|Good.goto<|⟨k,(by first | trivial | omega),x8,x1000,ah,ay,au,x2000,aB,aJ,aL,by omega,Wo [(2,0),(8,0)],H⟩
  refine Cf (bf Rb)<|Sk<|Sw ?_
  obtain ⟨c28,H⟩:=ax H
  obtain ⟨YF,H⟩:=ax H
  refine Rd hm hN (.q 0 [[]] (.q 1 [[]] (.q 2 [[]] (.q 3 [[]] (.q 4 [[]] (.q 5 [[]] (.q 6 [[]] (.q 7 [[]] (.q 8 [[]] (.q 9 [[]] (.e 10 .z))))))))))) [(0,none),(5,some (.pt [I x2000,I aB,B aJ,I aL])),(6,none)] (.cons (bV (aA (rfl:(V.shr (I x2000))=I x2000) (aA (rfl:(V.shr (I aB))=I aB) (aA (rfl:(V.shr (B aJ))=B aJ) (aA (rfl:(V.shr (I aL))=I aL) (rfl:aZ []=[])))))) .nil) [] [] (.cons (show (0:Int)≤7 by decide) (.cons c28 (.cons YF .nil))) (.cons (show (0:Int)≤7 by decide) (.cons c28 (.cons YF .nil))) [] []<|Sw<|Rg hN<|Sw<|Rg hN<|Sw<|Sw ?_
  obtain ⟨c30,H⟩:=ax H
  obtain ⟨c31,H⟩:=ax H
  refine Rh hN [] (.cons c30 (.cons c31 .nil)) ?_
  rcases ak H with ⟨c32,H⟩ | ⟨c32,H⟩
  ·exact Ct (dt c32)<|Good.goto<|⟨k,(by first | trivial | omega),x0,wrap64 (x6+1),wrap64 (x7+1),x8,x1000,ah,ay,au,x2000,Go.bits .or .i64 (wrap64 (aB*128)) (wrap64 (Go.bits .and .u8 (bt x0 x6) 127)),aJ,aL,by omega,Wo [(0,0),(2,0),(5,0),(6,0),(7,0),(8,0)],H⟩
  refine Cf (df c32)<|Sk<|Sw<|Sw<|Rg hN ?_
  rcases ak H with ⟨Rc,H⟩ | ⟨Rc,H⟩
  ·exact Ct (dt Rc)<|Good.goto<|⟨k,(by first | trivial | omega),x8,x1000,ah,ay,au,x2000,Go.bits .or .i64 (wrap64 (aB*128)) (wrap64 (Go.bits .and .u8 (bt x0 x6) 127)),aJ,aL,by omega,Wo [(2,0),(8,0)],H⟩
  refine Cf (df Rc)<|Sk<|Sw<|Good.label<|Sw<|Sw<|Good.cut (fun st=>∃ n':Nat,n'≤k∧∃ (x0:ByteArray) (x6:Int) (x8:Int) (jh:Bool) (x1000:Int) (ah:Int) (ay:Bool) (au:Int) (x2000:Int) (aB:Int) (aJ:Bool) (aL:Int),Wk C st ⟨[(0,.w (S x0)),(2,.d (.ptr 0 0)),(5,.d (.ptr 1 0)),(6,.w (I x6)),(8,.w (I x8)),(77,.w (B jh))],[.cells [.v (I x1000),.v (I ah),.v (B ay),.v (I au)],.cells [.v (I x2000),.v (I aB),.v (B aJ),.v (I aL)]]⟩∧bz.j1 n' x0 x6 x8 jh x2000 aB aJ aL=some r) ?_ ?_
  ·rcases ak H with ⟨c34,H⟩ | ⟨c34,H⟩
   ·exact Rh hN [B true] (.cons (dt c34) .nil)<|⟨k,by omega,x0,wrap64 (x6+1),x8,true,x1000,ah,ay,au,x2000,Go.bits .or .i64 (wrap64 (aB*128)) (wrap64 (Go.bits .and .u8 (bt x0 x6) 127)),aJ,aL,Wo [(0,0),(2,0),(5,0),(6,0),(8,0),(77,0)],H⟩
   obtain ⟨c35,H⟩:=ax H
   obtain ⟨c36,H⟩:=ax H
   exact Rh hN [B false] (.cons (df c34) (.cons c35 (.cons c36 .nil)))<|⟨k,by omega,x0,wrap64 (x6+1),x8,((bt x0 (wrap64 (x6+1))) == 128),x1000,ah,ay,au,x2000,Go.bits .or .i64 (wrap64 (aB*128)) (wrap64 (Go.bits .and .u8 (bt x0 x6) 127)),aJ,aL,Wo [(0,0),(2,0),(5,0),(6,0),(8,0),(77,0)],H⟩
  clear H
  rintro st ⟨n',hn',x0,x6,x8,jh,x1000,ah,ay,au,x2000,aB,aJ,aL,W,H⟩
  rcases n' with _ | k
  ·cases H
  refine W.good ?_
  rw [bz.j1] at H
  rcases ak H with ⟨c37,H⟩ | ⟨c37,H⟩
  ·exact Ct c37<|Good.goto<|⟨k,(by first | trivial | omega),x8,x1000,ah,ay,au,x2000,aB,aJ,aL,by omega,Wo [(2,0),(8,0)],H⟩
  refine Cf (bf c37)<|Sk<|Sw<|Sw ?_
  obtain ⟨Ff,H⟩:=ax H
  obtain ⟨Fg,H⟩:=ax H
  refine Rh hN [] (.cons Ff (.cons Fg .nil)) ?_
  rcases ak H with ⟨c40,H⟩ | ⟨c40,H⟩
  ·exact Ct (dt c40)<|Sw<|Rg hN<|Good.goto<|⟨k,(by first | trivial | omega),4,x1000,ah,ay,au,x2000,aB,aJ,aL,by omega,Wo [(2,0),(8,0)],H⟩
  refine Cf (df c40)<|Sk<|Sw<|Sw<|Rh hN [] (.cons Ff (.cons Fg .nil)) ?_
  rcases ak H with ⟨Re,H⟩ | ⟨Re,H⟩
  ·refine Ct (dt Re)<|Sw<|Rh hN [] (.cons Ff (.cons Fg .nil))<|Sw<|Rg hN ?_
   cases H
   exact Rt dR
  refine Cf (df Re)<|Sk<|Sw<|Rh hN [] (.cons Ff (.cons Fg .nil))<|Sw<|Rg hN<|Sw<|Sw<|Rg hN ?_
  rcases ak H with ⟨Rk,H⟩ | ⟨Rk,H⟩
  ·exact Ct (dt Rk)<|Good.goto<|⟨k,(by first | trivial | omega),x8,x1000,ah,ay,au,x2000,aB,aJ,aL,by omega,Wo [(2,0),(8,0)],H⟩
  refine Cf (df Rk)<|Sk<|Sw<|Sw<|Rg hN<|Bl<|Good.dK (fun k' st=>∃ (x0:ByteArray) (x6:Int) (x7:Int) (x8:Int) (x107:Int) (lh:Int) (x1000:Int) (ah:Int) (ay:Bool) (au:Int) (x2000:Int) (aB:Int) (aJ:Bool) (aL:Int),k'≤k∧Wk C st ⟨[(0,.w (S x0)),(2,.d (.ptr 0 0)),(5,.d (.ptr 1 0)),(6,.w (I x6)),(7,.w (I x7)),(8,.w (I x8)),(107,.w (I x107)),(108,.w (I lh))],[.cells [.v (I x1000),.v (I ah),.v (B ay),.v (I au)],.cells [.v (I x2000),.v (I aB),.v (B aJ),.v (I aL)]]⟩∧bz.l0 k' x0 x6 x7 x8 x107 lh x2000 aB aJ aL=some r) k ⟨x0,wrap64 (x6+1),wrap64 (Go.bits .and .u8 (bt x0 x6) 127),x8,wrap64 (Go.bits .and .u8 (bt x0 x6) 127),0,x1000,ah,ay,au,x2000,aB,aJ,aL,Nat.le_refl _,Wo [(0,0),(2,0),(5,0),(6,0),(7,0),(8,0),(107,0),(108,0)],H⟩ fun k=>⟨fun st h=>(by obtain ⟨_,_,_,_,_,_,_,_,_,_,_,_,_,_,_,_,H⟩:=h;cases H),?_⟩
  clear H
  rintro st ⟨x0,x6,x7,x8,x107,lh,x1000,ah,ay,au,x2000,aB,aJ,aL,hk,W,H⟩
  refine W.good ?_
  rw [bz.l0] at H
  refine Sw<|Rg hN<|Sw ?_
  rcases ak H with ⟨oQ,H⟩ | ⟨oQ,H⟩
  ·refine Ct (dt oQ)<|Sk<|Sw<|Bl<|Sw ?_
   obtain ⟨sI,H⟩:=ax H
   obtain ⟨sJ,H⟩:=ax H
   exact Rd hm hN (.q 0 [[]] (.q 1 [[]] (.q 2 [[]] (.q 3 [[]] (.q 4 [[]] (.q 5 [[]] (.q 6 [[]] (.q 7 [[]] (.q 8 [[]] (.e 9 .z)))))))))) [(0,none),(5,some (.pt [I x2000,I aB,B aJ,I aL])),(6,none)] (.cons (bV (aA (rfl:(V.shr (I x2000))=I x2000) (aA (rfl:(V.shr (I aB))=I aB) (aA (rfl:(V.shr (B aJ))=B aJ) (aA (rfl:(V.shr (I aL))=I aL) (rfl:aZ []=[])))))) .nil) [] [] (.cons (show (0:Int)≤8 by decide) (.cons sI (.cons sJ .nil))) (.cons (show (0:Int)≤8 by decide) (.cons sI (.cons sJ .nil))) [] []<|Rg hN<|Rg hN<|⟨k,by omega,x0,wrap64 (x6+1),x7,x8,x107,wrap64 (lh+1),x1000,ah,ay,au,x2000,aB,aJ,Go.bits .or .i64 (wrap64 (aL*256)) (wrap64 (bt x0 x6)),by omega,Wo [(0,0),(2,0),(5,0),(6,0),(7,0),(8,0),(107,0),(108,0)],H⟩
  refine Cf (df oQ)<|Ex<|Sw<|Sw ?_
  obtain ⟨c46,H⟩:=ax H
  rcases (ak H).symm with ⟨lD,H⟩ | ⟨lD,H⟩
  ·refine Rd hm hN (.qs 8 0 (.k 129 (.is 3 8 (.q 11 [] .z)))) [(5,some (.pt [I x2000,I aB,B aJ,I aL])),(7,none)] (.cons (bV (aA (rfl:(V.shr (I x2000))=I x2000) (aA (rfl:(V.shr (I aB))=I aB) (aA (rfl:(V.shr (B aJ))=B aJ) (aA (rfl:(V.shr (I aL))=I aL) (rfl:aZ []=[])))))) .nil) [B false] [] (.cons c46 (.cons (df lD) .nil)) (.cons c46 (.cons (df lD) .nil)) [] []<|Good.cond false (by kernel_rfl)<|Sk<|Sw<|Good.label<|Sw<|Rg hN ?_
   cases H
   exact Rt dR
  refine Rd hm hN (.qs 8 0 (.k 129 (.qs 3 8 (.q 11 [] .z)))) [(5,some (.pt [I x2000,I aB,B aJ,I aL])),(7,none)] (.cons (bV (aA (rfl:(V.shr (I x2000))=I x2000) (aA (rfl:(V.shr (I aB))=I aB) (aA (rfl:(V.shr (B aJ))=B aJ) (aA (rfl:(V.shr (I aL))=I aL) (rfl:aZ []=[])))))) .nil) [B true] [] (.cons c46 (.cons (dt lD) .nil)) (.cons c46 (.cons (dt lD) .nil)) [] [] ?_
  rcases ak H with ⟨oU,H⟩ | ⟨oU,H⟩
  ·refine Ct (dt oU)<|Sw<|Rg hN ?_
   cases H
   exact Rt dR
  refine Cf (df oU)<|Sk<|Sw<|Good.label<|Sw<|Rg hN ?_
  cases H
  exact Rt dR
 ·clear H
  rintro n st ⟨x8,x1000,ah,ay,au,x2000,aB,aJ,aL,hn,W,H⟩
  rcases n with _ | k
  ·cases H
  refine W.good ?_
  rw [bz.fQ] at H
  refine Sw<|Sk<|Sw<|Rg hN ?_
  cases H
  exact Rt dR
 ·clear H
  rintro n st ⟨x0,x6,x8,x1000,ah,ay,au,x2000,aB,aJ,aL,hn,W,H⟩
  rcases n with _ | k
  ·cases H
  refine W.good ?_
  rw [bz.iy] at H
  refine Sw<|Sk<|Sw<|Sw<|Good.cut (fun st=>∃ n':Nat,n'≤k∧∃ (x0:ByteArray) (x6:Int) (x8:Int) (jh:Bool) (x1000:Int) (ah:Int) (ay:Bool) (au:Int) (x2000:Int) (aB:Int) (aJ:Bool) (aL:Int),Wk C st ⟨[(0,.w (S x0)),(2,.d (.ptr 0 0)),(5,.d (.ptr 1 0)),(6,.w (I x6)),(8,.w (I x8)),(77,.w (B jh))],[.cells [.v (I x1000),.v (I ah),.v (B ay),.v (I au)],.cells [.v (I x2000),.v (I aB),.v (B aJ),.v (I aL)]]⟩∧bz.j5 n' x0 x6 x8 jh x2000 aB aJ aL=some r) ?_ ?_
  ·rcases ak H with ⟨c49,H⟩ | ⟨c49,H⟩
   ·exact Rh hN [B true] (.cons (dt c49) .nil)<|⟨k,by omega,x0,x6,x8,true,x1000,ah,ay,au,x2000,aB,aJ,aL,Wo [(0,0),(2,0),(5,0),(6,0),(8,0),(77,0)],H⟩
   obtain ⟨c50,H⟩:=ax H
   obtain ⟨c51,H⟩:=ax H
   exact Rh hN [B false] (.cons (df c49) (.cons c50 (.cons c51 .nil)))<|⟨k,by omega,x0,x6,x8,((bt x0 x6) == 128),x1000,ah,ay,au,x2000,aB,aJ,aL,Wo [(0,0),(2,0),(5,0),(6,0),(8,0),(77,0)],H⟩
  clear H
  rintro st ⟨n',hn',x0,x6,x8,jh,x1000,ah,ay,au,x2000,aB,aJ,aL,W,H⟩
  rcases n' with _ | k
  ·cases H
  refine W.good ?_
  rw [bz.j5] at H
  rcases ak H with ⟨Rl,H⟩ | ⟨Rl,H⟩
  ·exact Ct Rl<|Good.goto<|⟨k,(by first | trivial | omega),x8,x1000,ah,ay,au,x2000,aB,aJ,aL,by omega,Wo [(2,0),(8,0)],H⟩
  refine Cf (bf Rl)<|Sk<|Sw<|Sw ?_
  obtain ⟨c53,H⟩:=ax H
  obtain ⟨Fh,H⟩:=ax H
  refine Rh hN [] (.cons c53 (.cons Fh .nil)) ?_
  rcases ak H with ⟨Rm,H⟩ | ⟨Rm,H⟩
  ·exact Ct (dt Rm)<|Sw<|Rg hN<|Good.goto<|⟨k,(by first | trivial | omega),4,x1000,ah,ay,au,x2000,aB,aJ,aL,by omega,Wo [(2,0),(8,0)],H⟩
  refine Cf (df Rm)<|Sk<|Sw<|Sw<|Rh hN [] (.cons c53 (.cons Fh .nil)) ?_
  rcases ak H with ⟨Rn,H⟩ | ⟨Rn,H⟩
  ·refine Ct (dt Rn)<|Sw<|Rh hN [] (.cons c53 (.cons Fh .nil))<|Sw<|Rg hN ?_
   cases H
   exact Rt dR
  refine Cf (df Rn)<|Sk<|Sw<|Rh hN [] (.cons c53 (.cons Fh .nil))<|Sw<|Rg hN<|Sw<|Sw<|Rg hN ?_
  rcases ak H with ⟨Ro,H⟩ | ⟨Ro,H⟩
  ·exact Ct (dt Ro)<|Good.goto<|⟨k,(by first | trivial | omega),x8,x1000,ah,ay,au,x2000,aB,aJ,aL,by omega,Wo [(2,0),(8,0)],H⟩
  refine Cf (df Ro)<|Sk<|Sw<|Sw<|Rg hN<|Bl<|Good.dK (fun k' st=>∃ (x0:ByteArray) (x6:Int) (x7:Int) (x8:Int) (x107:Int) (lh:Int) (x1000:Int) (ah:Int) (ay:Bool) (au:Int) (x2000:Int) (aB:Int) (aJ:Bool) (aL:Int),k'≤k∧Wk C st ⟨[(0,.w (S x0)),(2,.d (.ptr 0 0)),(5,.d (.ptr 1 0)),(6,.w (I x6)),(7,.w (I x7)),(8,.w (I x8)),(107,.w (I x107)),(108,.w (I lh))],[.cells [.v (I x1000),.v (I ah),.v (B ay),.v (I au)],.cells [.v (I x2000),.v (I aB),.v (B aJ),.v (I aL)]]⟩∧bz.l0 k' x0 x6 x7 x8 x107 lh x2000 aB aJ aL=some r) k ⟨x0,wrap64 (x6+1),wrap64 (Go.bits .and .u8 (bt x0 x6) 127),x8,wrap64 (Go.bits .and .u8 (bt x0 x6) 127),0,x1000,ah,ay,au,x2000,aB,aJ,aL,Nat.le_refl _,Wo [(0,0),(2,0),(5,0),(6,0),(7,0),(8,0),(107,0),(108,0)],H⟩ fun k=>⟨fun st h=>(by obtain ⟨_,_,_,_,_,_,_,_,_,_,_,_,_,_,_,_,H⟩:=h;cases H),?_⟩
  clear H
  rintro st ⟨x0,x6,x7,x8,x107,lh,x1000,ah,ay,au,x2000,aB,aJ,aL,hk,W,H⟩
  refine W.good ?_
  rw [bz.l0] at H
  refine Sw<|Rg hN<|Sw ?_
  rcases ak H with ⟨oQ,H⟩ | ⟨oQ,H⟩
  ·refine Ct (dt oQ)<|Sk<|Sw<|Bl<|Sw ?_
   obtain ⟨sI,H⟩:=ax H
   obtain ⟨sJ,H⟩:=ax H
   exact Rd hm hN (.q 0 [[]] (.q 1 [[]] (.q 2 [[]] (.q 3 [[]] (.q 4 [[]] (.q 5 [[]] (.q 6 [[]] (.q 7 [[]] (.q 8 [[]] (.e 9 .z)))))))))) [(0,none),(5,some (.pt [I x2000,I aB,B aJ,I aL])),(6,none)] (.cons (bV (aA (rfl:(V.shr (I x2000))=I x2000) (aA (rfl:(V.shr (I aB))=I aB) (aA (rfl:(V.shr (B aJ))=B aJ) (aA (rfl:(V.shr (I aL))=I aL) (rfl:aZ []=[])))))) .nil) [] [] (.cons (show (0:Int)≤8 by decide) (.cons sI (.cons sJ .nil))) (.cons (show (0:Int)≤8 by decide) (.cons sI (.cons sJ .nil))) [] []<|Rg hN<|Rg hN<|⟨k,by omega,x0,wrap64 (x6+1),x7,x8,x107,wrap64 (lh+1),x1000,ah,ay,au,x2000,aB,aJ,Go.bits .or .i64 (wrap64 (aL*256)) (wrap64 (bt x0 x6)),by omega,Wo [(0,0),(2,0),(5,0),(6,0),(7,0),(8,0),(107,0),(108,0)],H⟩
  refine Cf (df oQ)<|Ex<|Sw<|Sw ?_
  obtain ⟨c46,H⟩:=ax H
  rcases (ak H).symm with ⟨lD,H⟩ | ⟨lD,H⟩
  ·refine Rd hm hN (.qs 8 0 (.k 129 (.is 3 8 (.q 11 [] .z)))) [(5,some (.pt [I x2000,I aB,B aJ,I aL])),(7,none)] (.cons (bV (aA (rfl:(V.shr (I x2000))=I x2000) (aA (rfl:(V.shr (I aB))=I aB) (aA (rfl:(V.shr (B aJ))=B aJ) (aA (rfl:(V.shr (I aL))=I aL) (rfl:aZ []=[])))))) .nil) [B false] [] (.cons c46 (.cons (df lD) .nil)) (.cons c46 (.cons (df lD) .nil)) [] []<|Good.cond false (by kernel_rfl)<|Sk<|Sw<|Good.label<|Sw<|Rg hN ?_
   cases H
   exact Rt dR
  refine Rd hm hN (.qs 8 0 (.k 129 (.qs 3 8 (.q 11 [] .z)))) [(5,some (.pt [I x2000,I aB,B aJ,I aL])),(7,none)] (.cons (bV (aA (rfl:(V.shr (I x2000))=I x2000) (aA (rfl:(V.shr (I aB))=I aB) (aA (rfl:(V.shr (B aJ))=B aJ) (aA (rfl:(V.shr (I aL))=I aL) (rfl:aZ []=[])))))) .nil) [B true] [] (.cons c46 (.cons (dt lD) .nil)) (.cons c46 (.cons (dt lD) .nil)) [] [] ?_
  rcases ak H with ⟨oU,H⟩ | ⟨oU,H⟩
  ·refine Ct (dt oU)<|Sw<|Rg hN ?_
   cases H
   exact Rt dR
  refine Cf (df oU)<|Sk<|Sw<|Good.label<|Sw<|Rg hN ?_
  cases H
  exact Rt dR
 ·clear H
  rintro n st ⟨x0,x6,x7,x8,x1000,ah,ay,au,x2000,aB,aJ,aL,hn,W,H⟩
  rcases n with _ | k
  ·cases H
  refine W.good ?_
  rw [bz.zB] at H
  refine Sw<|Sk<|Sw<|Sw<|Good.cut (fun st=>∃ n':Nat,n'≤k∧∃ (x0:ByteArray) (x6:Int) (x7:Int) (x8:Int) (lC:Bool) (x1000:Int) (ah:Int) (ay:Bool) (au:Int) (x2000:Int) (aB:Int) (aJ:Bool) (aL:Int),Wk C st ⟨[(0,.w (S x0)),(2,.d (.ptr 0 0)),(5,.d (.ptr 1 0)),(6,.w (I x6)),(7,.w (I x7)),(8,.w (I x8)),(45,.w (B lC))],[.cells [.v (I x1000),.v (I ah),.v (B ay),.v (I au)],.cells [.v (I x2000),.v (I aB),.v (B aJ),.v (I aL)]]⟩∧bz.j7 n' x0 x6 x7 x8 lC x2000 aB aJ aL=some r) ?_ ?_
  ·rcases ak H with ⟨AZ,H⟩ | ⟨AZ,H⟩
   ·exact Rh hN [B true,B true] (.cons (dt AZ) (.cons (rfl:true=true) .nil))<|⟨k,by omega,x0,x6,x7,x8,true,x1000,ah,ay,au,x2000,aB,aJ,aL,Wo [(0,0),(2,0),(5,0),(6,0),(7,0),(8,0),(45,0)],H⟩
   rcases ak H with ⟨c59,H⟩ | ⟨c59,H⟩
   ·exact Rh hN [B false,B true] (.cons (df AZ) (.cons (bq c59) .nil))<|⟨k,by omega,x0,x6,x7,x8,true,x1000,ah,ay,au,x2000,aB,aJ,aL,Wo [(0,0),(2,0),(5,0),(6,0),(7,0),(8,0),(45,0)],H⟩
   rcases (ak H).symm with ⟨Rp,H⟩ | ⟨Rp,H⟩
   ·exact Rh hN [B false,B false,B false] (.cons (df AZ) (.cons (bn c59) (.cons (bn Rp) .nil)))<|⟨k,by omega,x0,x6,x7,x8,false,x1000,ah,ay,au,x2000,aB,aJ,aL,Wo [(0,0),(2,0),(5,0),(6,0),(7,0),(8,0),(45,0)],H⟩
   obtain ⟨c61,H⟩:=ax H
   obtain ⟨c62,H⟩:=ax H
   exact Rh hN [B false,B false,B true] (.cons (df AZ) (.cons (bn c59) (.cons (bq Rp) (.cons c61 (.cons c62 .nil)))))<|⟨k,by omega,x0,x6,x7,x8,((bt x0 x6) == 128),x1000,ah,ay,au,x2000,aB,aJ,aL,Wo [(0,0),(2,0),(5,0),(6,0),(7,0),(8,0),(45,0)],H⟩
  clear H
  rintro st ⟨n',hn',x0,x6,x7,x8,lC,x1000,ah,ay,au,x2000,aB,aJ,aL,W,H⟩
  rcases n' with _ | k
  ·cases H
  refine W.good ?_
  rw [bz.j7] at H
  rcases ak H with ⟨Rq,H⟩ | ⟨Rq,H⟩
  ·exact Ct Rq<|Good.goto<|⟨k,(by first | trivial | omega),x8,x1000,ah,ay,au,x2000,aB,aJ,aL,by omega,Wo [(2,0),(8,0)],H⟩
  refine Cf (bf Rq)<|Sk<|Sw ?_
  obtain ⟨c64,H⟩:=ax H
  obtain ⟨YG,H⟩:=ax H
  refine Rd hm hN (.q 0 [[]] (.q 1 [[]] (.q 2 [[]] (.q 3 [[]] (.q 4 [[]] (.q 5 [[]] (.q 6 [[]] (.q 7 [[]] (.q 8 [[]] (.q 9 [[]] (.e 10 .z))))))))))) [(0,none),(5,some (.pt [I x2000,I aB,B aJ,I aL])),(6,none)] (.cons (bV (aA (rfl:(V.shr (I x2000))=I x2000) (aA (rfl:(V.shr (I aB))=I aB) (aA (rfl:(V.shr (B aJ))=B aJ) (aA (rfl:(V.shr (I aL))=I aL) (rfl:aZ []=[])))))) .nil) [] [] (.cons (show (0:Int)≤7 by decide) (.cons c64 (.cons YG .nil))) (.cons (show (0:Int)≤7 by decide) (.cons c64 (.cons YG .nil))) [] []<|Sw<|Rg hN<|Sw<|Rg hN<|Sw<|Sw ?_
  obtain ⟨c66,H⟩:=ax H
  obtain ⟨c67,H⟩:=ax H
  refine Rh hN [] (.cons c66 (.cons c67 .nil)) ?_
  rcases ak H with ⟨Rs,H⟩ | ⟨Rs,H⟩
  ·exact Ct (dt Rs)<|Good.goto<|⟨k,(by first | trivial | omega),x0,wrap64 (x6+1),wrap64 (x7+1),x8,x1000,ah,ay,au,x2000,Go.bits .or .i64 (wrap64 (aB*128)) (wrap64 (Go.bits .and .u8 (bt x0 x6) 127)),aJ,aL,by omega,Wo [(0,0),(2,0),(5,0),(6,0),(7,0),(8,0)],H⟩
  refine Cf (df Rs)<|Sk<|Sw<|Sw<|Rg hN ?_
  rcases ak H with ⟨Ru,H⟩ | ⟨Ru,H⟩
  ·exact Ct (dt Ru)<|Good.goto<|⟨k,(by first | trivial | omega),x8,x1000,ah,ay,au,x2000,Go.bits .or .i64 (wrap64 (aB*128)) (wrap64 (Go.bits .and .u8 (bt x0 x6) 127)),aJ,aL,by omega,Wo [(2,0),(8,0)],H⟩
  refine Cf (df Ru)<|Sk<|Sw<|Good.label<|Sw<|Sw<|Good.cut (fun st=>∃ n':Nat,n'≤k∧∃ (x0:ByteArray) (x6:Int) (x8:Int) (jh:Bool) (x1000:Int) (ah:Int) (ay:Bool) (au:Int) (x2000:Int) (aB:Int) (aJ:Bool) (aL:Int),Wk C st ⟨[(0,.w (S x0)),(2,.d (.ptr 0 0)),(5,.d (.ptr 1 0)),(6,.w (I x6)),(8,.w (I x8)),(77,.w (B jh))],[.cells [.v (I x1000),.v (I ah),.v (B ay),.v (I au)],.cells [.v (I x2000),.v (I aB),.v (B aJ),.v (I aL)]]⟩∧bz.j8 n' x0 x6 x8 jh x2000 aB aJ aL=some r) ?_ ?_
  ·rcases ak H with ⟨c70,H⟩ | ⟨c70,H⟩
   ·exact Rh hN [B true] (.cons (dt c70) .nil)<|⟨k,by omega,x0,wrap64 (x6+1),x8,true,x1000,ah,ay,au,x2000,Go.bits .or .i64 (wrap64 (aB*128)) (wrap64 (Go.bits .and .u8 (bt x0 x6) 127)),aJ,aL,Wo [(0,0),(2,0),(5,0),(6,0),(8,0),(77,0)],H⟩
   obtain ⟨c71,H⟩:=ax H
   obtain ⟨c72,H⟩:=ax H
   exact Rh hN [B false] (.cons (df c70) (.cons c71 (.cons c72 .nil)))<|⟨k,by omega,x0,wrap64 (x6+1),x8,((bt x0 (wrap64 (x6+1))) == 128),x1000,ah,ay,au,x2000,Go.bits .or .i64 (wrap64 (aB*128)) (wrap64 (Go.bits .and .u8 (bt x0 x6) 127)),aJ,aL,Wo [(0,0),(2,0),(5,0),(6,0),(8,0),(77,0)],H⟩
  clear H
  rintro st ⟨n',hn',x0,x6,x8,jh,x1000,ah,ay,au,x2000,aB,aJ,aL,W,H⟩
  rcases n' with _ | k
  ·cases H
  refine W.good ?_
  rw [bz.j8] at H
  rcases ak H with ⟨Rv,H⟩ | ⟨Rv,H⟩
  ·exact Ct Rv<|Good.goto<|⟨k,(by first | trivial | omega),x8,x1000,ah,ay,au,x2000,aB,aJ,aL,by omega,Wo [(2,0),(8,0)],H⟩
  refine Cf (bf Rv)<|Sk<|Sw<|Sw ?_
  obtain ⟨Fj,H⟩:=ax H
  obtain ⟨c75,H⟩:=ax H
  refine Rh hN [] (.cons Fj (.cons c75 .nil)) ?_
  rcases ak H with ⟨c76,H⟩ | ⟨c76,H⟩
  ·exact Ct (dt c76)<|Sw<|Rg hN<|Good.goto<|⟨k,(by first | trivial | omega),4,x1000,ah,ay,au,x2000,aB,aJ,aL,by omega,Wo [(2,0),(8,0)],H⟩
  refine Cf (df c76)<|Sk<|Sw<|Sw<|Rh hN [] (.cons Fj (.cons c75 .nil)) ?_
  rcases ak H with ⟨Rw,H⟩ | ⟨Rw,H⟩
  ·refine Ct (dt Rw)<|Sw<|Rh hN [] (.cons Fj (.cons c75 .nil))<|Sw<|Rg hN ?_
   cases H
   exact Rt dR
  refine Cf (df Rw)<|Sk<|Sw<|Rh hN [] (.cons Fj (.cons c75 .nil))<|Sw<|Rg hN<|Sw<|Sw<|Rg hN ?_
  rcases ak H with ⟨Rx,H⟩ | ⟨Rx,H⟩
  ·exact Ct (dt Rx)<|Good.goto<|⟨k,(by first | trivial | omega),x8,x1000,ah,ay,au,x2000,aB,aJ,aL,by omega,Wo [(2,0),(8,0)],H⟩
  refine Cf (df Rx)<|Sk<|Sw<|Sw<|Rg hN<|Bl<|Good.dK (fun k' st=>∃ (x0:ByteArray) (x6:Int) (x7:Int) (x8:Int) (x107:Int) (lh:Int) (x1000:Int) (ah:Int) (ay:Bool) (au:Int) (x2000:Int) (aB:Int) (aJ:Bool) (aL:Int),k'≤k∧Wk C st ⟨[(0,.w (S x0)),(2,.d (.ptr 0 0)),(5,.d (.ptr 1 0)),(6,.w (I x6)),(7,.w (I x7)),(8,.w (I x8)),(107,.w (I x107)),(108,.w (I lh))],[.cells [.v (I x1000),.v (I ah),.v (B ay),.v (I au)],.cells [.v (I x2000),.v (I aB),.v (B aJ),.v (I aL)]]⟩∧bz.l0 k' x0 x6 x7 x8 x107 lh x2000 aB aJ aL=some r) k ⟨x0,wrap64 (x6+1),wrap64 (Go.bits .and .u8 (bt x0 x6) 127),x8,wrap64 (Go.bits .and .u8 (bt x0 x6) 127),0,x1000,ah,ay,au,x2000,aB,aJ,aL,Nat.le_refl _,Wo [(0,0),(2,0),(5,0),(6,0),(7,0),(8,0),(107,0),(108,0)],H⟩ fun k=>⟨fun st h=>(by obtain ⟨_,_,_,_,_,_,_,_,_,_,_,_,_,_,_,_,H⟩:=h;cases H),?_⟩
  clear H
  rintro st ⟨x0,x6,x7,x8,x107,lh,x1000,ah,ay,au,x2000,aB,aJ,aL,hk,W,H⟩
  refine W.good ?_
  rw [bz.l0] at H
  refine Sw<|Rg hN<|Sw ?_
  rcases ak H with ⟨oQ,H⟩ | ⟨oQ,H⟩
  ·refine Ct (dt oQ)<|Sk<|Sw<|Bl<|Sw ?_
   obtain ⟨sI,H⟩:=ax H
   obtain ⟨sJ,H⟩:=ax H
   exact Rd hm hN (.q 0 [[]] (.q 1 [[]] (.q 2 [[]] (.q 3 [[]] (.q 4 [[]] (.q 5 [[]] (.q 6 [[]] (.q 7 [[]] (.q 8 [[]] (.e 9 .z)))))))))) [(0,none),(5,some (.pt [I x2000,I aB,B aJ,I aL])),(6,none)] (.cons (bV (aA (rfl:(V.shr (I x2000))=I x2000) (aA (rfl:(V.shr (I aB))=I aB) (aA (rfl:(V.shr (B aJ))=B aJ) (aA (rfl:(V.shr (I aL))=I aL) (rfl:aZ []=[])))))) .nil) [] [] (.cons (show (0:Int)≤8 by decide) (.cons sI (.cons sJ .nil))) (.cons (show (0:Int)≤8 by decide) (.cons sI (.cons sJ .nil))) [] []<|Rg hN<|Rg hN<|⟨k,by omega,x0,wrap64 (x6+1),x7,x8,x107,wrap64 (lh+1),x1000,ah,ay,au,x2000,aB,aJ,Go.bits .or .i64 (wrap64 (aL*256)) (wrap64 (bt x0 x6)),by omega,Wo [(0,0),(2,0),(5,0),(6,0),(7,0),(8,0),(107,0),(108,0)],H⟩
  refine Cf (df oQ)<|Ex<|Sw<|Sw ?_
  obtain ⟨c46,H⟩:=ax H
  rcases (ak H).symm with ⟨lD,H⟩ | ⟨lD,H⟩
  ·refine Rd hm hN (.qs 8 0 (.k 129 (.is 3 8 (.q 11 [] .z)))) [(5,some (.pt [I x2000,I aB,B aJ,I aL])),(7,none)] (.cons (bV (aA (rfl:(V.shr (I x2000))=I x2000) (aA (rfl:(V.shr (I aB))=I aB) (aA (rfl:(V.shr (B aJ))=B aJ) (aA (rfl:(V.shr (I aL))=I aL) (rfl:aZ []=[])))))) .nil) [B false] [] (.cons c46 (.cons (df lD) .nil)) (.cons c46 (.cons (df lD) .nil)) [] []<|Good.cond false (by kernel_rfl)<|Sk<|Sw<|Good.label<|Sw<|Rg hN ?_
   cases H
   exact Rt dR
  refine Rd hm hN (.qs 8 0 (.k 129 (.qs 3 8 (.q 11 [] .z)))) [(5,some (.pt [I x2000,I aB,B aJ,I aL])),(7,none)] (.cons (bV (aA (rfl:(V.shr (I x2000))=I x2000) (aA (rfl:(V.shr (I aB))=I aB) (aA (rfl:(V.shr (B aJ))=B aJ) (aA (rfl:(V.shr (I aL))=I aL) (rfl:aZ []=[])))))) .nil) [B true] [] (.cons c46 (.cons (dt lD) .nil)) (.cons c46 (.cons (dt lD) .nil)) [] [] ?_
  rcases ak H with ⟨oU,H⟩ | ⟨oU,H⟩
  ·refine Ct (dt oU)<|Sw<|Rg hN ?_
   cases H
   exact Rt dR
  refine Cf (df oU)<|Sk<|Sw<|Good.label<|Sw<|Rg hN ?_
  cases H
  exact Rt dR
def jE.f (a0:ByteArray) (a1:Int) (a2:Int):Option (ByteArray):=if a1 < 0 then (some (⟨#[]⟩:ByteArray)) else (if a1≥(a0.size:Int) then (some (⟨#[]⟩:ByteArray)) else (if a2 < 1 then (some (⟨#[]⟩:ByteArray)) else (if 0≤a1 then (if a1≤(wrap64 (a1+(mn a2 (wrap64 ((a0.size:Int) - a1))))) then (if (wrap64 (a1+(mn a2 (wrap64 ((a0.size:Int) - a1)))))≤(a0.size:Int) then (some (a0.extract (a1:Int).toNat ((wrap64 (a1+(mn a2 (wrap64 ((a0.size:Int) - a1))))):Int).toNat)) else (none)) else (none)) else (none))))
theorem jE.az {a0:ByteArray} {a1:Int} {a2:Int} {r:(ByteArray)} (H:jE.f a0 a1 a2=some r):aW Tryz.prog 52 [S a0,I a1,I a2] (S r):=by
 refine Cg Tryz.func52 rfl fun C hN hL=>?_
 unfold jE.f at H
 refine Sw<|Rg hN<|Sw<|Sw ?_
 rcases ak H with ⟨Fp,H⟩ | ⟨Fp,H⟩
 ·refine Rh hN [B true,B true] (.cons (dt Fp) (.cons (rfl:true=true) .nil))<|Good.cond true (by kernel_rfl)<|Sw<|Rg hN ?_
  cases H
  exact Rt dR
 rcases ak H with ⟨c80,H⟩ | ⟨c80,H⟩
 ·refine Rh hN [B false,B true] (.cons (df Fp) (.cons (dt c80) .nil))<|Good.cond true (by kernel_rfl)<|Sw<|Rg hN ?_
  cases H
  exact Rt dR
 refine Rh hN [B false,B false] (.cons (df Fp) (.cons (df c80) .nil)) ?_
 rcases ak H with ⟨Ry,H⟩ | ⟨Ry,H⟩
 ·refine Ct (dt Ry)<|Sw<|Rg hN ?_
  cases H
  exact Rt dR
 refine Cf (df Ry)<|Sk<|Sw ?_
 obtain ⟨c82,H⟩:=ax H
 obtain ⟨c83,H⟩:=ax H
 obtain ⟨c84,H⟩:=ax H
 refine Rh hN [] (.cons c82 (.cons c83 (.cons c84 .nil))) ?_
 cases H
 exact Rt dR
def nK.f (a0:Nat):Option (Bool):=if (wX a0 0)=true then (if (wW a0 4679241112349573120)=true then (if uw a0=true then (some (mR a0 (floatOfInt .f64 (fint a0)))) else (none)) else (some false)) else (some false)
theorem nK.az {a0:Nat} {r:(Bool)} (H:nK.f a0=some r):aW Tryz.prog 98 [Fl a0] (B r):=by
 refine Cg Tryz.func98 rfl fun C hN hL=>?_
 unfold nK.f at H
 refine Sw<|Rg hN<|Sw ?_
 rcases (ak H).symm with ⟨c85,H⟩ | ⟨c85,H⟩
 ·refine Rh hN [B false,B false] (.cons (bf c85) (.cons (rfl:false=false) .nil)) ?_
  cases H
  exact Rt dR
 rcases (ak H).symm with ⟨Rz,H⟩ | ⟨Rz,H⟩
 ·refine Rh hN [B true,B false] (.cons c85 (.cons (bf Rz) .nil)) ?_
  cases H
  exact Rt dR
 obtain ⟨c87,H⟩:=ax H
 refine Rh hN [B true,B true] (.cons c85 (.cons Rz (.cons c87 .nil))) ?_
 cases H
 exact Rt dR
def sZ.f (a0:(Nat × Nat)):Option (Bool):=(nK.f a0.1).bind fun t88=>(if t88=true then ((nK.f a0.2).bind fun t91=>(if t91=true then (some (wW a0.1 a0.2)) else (some false))) else (some false))
theorem sZ.az {a0:(Nat × Nat)} {r:(Bool)} (H:sZ.f a0=some r):aW Tryz.prog 88 [Cx a0] (B r):=by
 refine Cg Tryz.func88 rfl fun C hN hL=>?_
 unfold sZ.f at H
 refine Sw<|Rg hN<|Sw ?_
 obtain ⟨t88,RA,H⟩:=aF H
 rcases (ak H).symm with ⟨Fq,H⟩ | ⟨Fq,H⟩
 ·refine Rh hN [B t88,B false,B false] (.cons (nK.az RA).c (.cons (bf Fq) (.cons (rfl:false=false) .nil))) ?_
  cases H
  exact Rt dR
 obtain ⟨t91,YH,H⟩:=aF H
 rcases ak H with ⟨c93,H⟩ | ⟨c93,H⟩
 ·refine Rh hN [B t88,B true,B t91,B true] (.cons (nK.az RA).c (.cons Fq (.cons (nK.az YH).c (.cons c93 .nil)))) ?_
  cases H
  exact Rt dR
 refine Rh hN [B t88,B true,B t91,B false] (.cons (nK.az RA).c (.cons Fq (.cons (nK.az YH).c (.cons (bf c93) .nil)))) ?_
 cases H
 exact Rt dR
def qg.f (a0:(Nat × Nat)):Option ((Nat × Nat)):=(sZ.f a0).bind fun t94=>(if t94=true then (if sD a0.1 0=true then (if sD a0.2 0=true then (some (nV a0.1 0,nV a0.2 0)) else (none)) else (none)) else (some (0,0)))
theorem qg.az {a0:(Nat × Nat)} {r:((Nat × Nat))} (H:qg.f a0=some r):aW Tryz.prog 82 [Cx a0] (Cx r):=by
 refine Cg Tryz.func82 rfl fun C hN hL=>?_
 unfold qg.f at H
 refine Sw<|Rg hN<|Sw<|Sw ?_
 obtain ⟨t94,h95,H⟩:=aF H
 refine Rh hN [B t94] (.cons (sZ.az h95).c .nil) ?_
 rcases (ak H).symm with ⟨RB,H⟩ | ⟨RB,H⟩
 ·refine Cf (bf RB)<|Sk<|Sw<|Rg hN ?_
  cases H
  exact Rt dR
 refine Ct RB<|Sw ?_
 obtain ⟨c97,H⟩:=ax H
 obtain ⟨c98,H⟩:=ax H
 refine Rh hN [] (.cons c97 (.cons c98 .nil)) ?_
 cases H
 exact Rt dR
def tH.f (a0:(Nat × Nat)):Option (Int):=(qg.f a0).bind fun t99=>(if uw t99.2=true then (some (fint t99.2)) else (none))
theorem tH.az {a0:(Nat × Nat)} {r:(Int)} (H:tH.f a0=some r):aW Tryz.prog 80 [Cx a0] (I r):=by
 refine Cg Tryz.func80 rfl fun C hN hL=>?_
 unfold tH.f at H
 refine Sw<|Rg hN<|Sw ?_
 obtain ⟨t99,agq,H⟩:=aF H
 obtain ⟨agr,H⟩:=ax H
 refine Rh hN [Cx t99] (.cons (qg.az agq).c (.cons agr .nil)) ?_
 cases H
 exact Rt dR
def oo.f (aK:ByteArray) (av:List af) (bu:List (Nat × Nat)) (aj:List Int):Option (Int):=if (aj.length:Int)=0 then (some (aK.size:Int)) else (if 0≤(wrap64 ((aj.length:Int) - 1)) then (if (wrap64 ((aj.length:Int) - 1)) < (aj.length:Int) then (if 0≤(rd aj (wrap64 ((aj.length:Int) - 1))) then (if (rd aj (wrap64 ((aj.length:Int) - 1))) < (bu.length:Int) then ((tH.f (gI ((0,0):Nat × Nat) bu (rd aj (wrap64 ((aj.length:Int) - 1))))).bind fun t107=>(some t107)) else (none)) else (none)) else (none)) else (none))
theorem oo.az {aK:ByteArray} {av:List af} {bu:List (Nat × Nat)} {aj:List Int} {r:(Int)} (H:oo.f aK av bu aj=some r):kI Tryz.prog 62 [.ptr 0 0] [[S aK,.row (some 56) 5 (List.map (v56 1) av),.row (some 79) 1 (List.map Cx bu),.row (some 3) 1 (List.map I aj)]] (.v (I r)) [[S aK,.row (some 56) 5 (List.map (v56 1) av),.row (some 79) 1 (List.map Cx bu),.row (some 3) 1 (List.map I aj)]]:=by
 refine qQ Tryz.func62 rfl (by kernel_rfl) (by kernel_rfl) fun C hN hL=>?_
 unfold oo.f at H
 refine Sw<|Rg hN<|Sw<|Sw<|Rh hN [I (aj.length:Int)] (.cons (aR I aj) .nil) ?_
 rcases ak H with ⟨Ld,H⟩ | ⟨Ld,H⟩
 ·refine Ct (bq Ld)<|Sw<|Rg hN ?_
  cases H
  exact Good.ret (fU (.refl _) (dF.refl _) (by kernel_rfl) rfl)
 refine Cf (bn Ld)<|Sk<|Sw ?_
 obtain ⟨Dy,H⟩:=ax H
 obtain ⟨Le,H⟩:=ax H
 obtain ⟨c105,H⟩:=ax H
 obtain ⟨Lf,H⟩:=ax H
 obtain ⟨t107,ags,H⟩:=aF H
 refine Rd hm hN (.qs 18 0 (.e 18 (.q 19 [] .z))) [(0,some (.pt [S aK,.row none 5 (List.map (v56 0) av),.row none 1 (List.map Cx bu),.row none 1 (List.map I aj)]))] (.cons (bV (aA (rfl:(V.shr (S aK))=S aK) (aA (aP (some 56) 5 (v56 1) (v56 0) av (v56.shr _)) (aA (aP (some 79) 1 Cx Cx bu (fun _=>rfl)) (aA (aP (some 3) 1 I I aj (fun _=>rfl)) (rfl:aZ []=[])))))) .nil) [I (aj.length:Int),I (rd aj (wrap64 ((aj.length:Int) - 1))),Cx (gI ((0,0):Nat × Nat) bu (rd aj (wrap64 ((aj.length:Int) - 1)))),I t107] [I (aj.length:Int),I (rd aj (wrap64 ((aj.length:Int) - 1))),Cx (gI ((0,0):Nat × Nat) bu (rd aj (wrap64 ((aj.length:Int) - 1))))] (.cons (aR I aj) (.cons Dy (.cons (eF I Le) (.cons (aG I (0:Int) Dy Le) (.cons c105 (.cons (eF Cx Lf) (.cons (aG Cx ((0,0):Nat × Nat) c105 Lf) (.cons (tH.az ags).c .nil)))))))) (.cons (aR I aj) (.cons Dy (.cons (aG I (0:Int) Dy Le) (.cons c105 (.cons (aG Cx ((0,0):Nat × Nat) c105 Lf) .nil))))) [] [] ?_
 cases H
 exact Good.ret (fU (.refl _) (dF.refl _) (by kernel_rfl) rfl)
def qd.f (a0:ByteArray):Option (Bool):=if a0.toList=([]:List UInt8) then (some false) else (if (a0.size:Int)=1 then (some true) else (if 0 < (a0.size:Int) then (if 1 < (a0.size:Int) then (if (Go.bits .or .i64 (wrap64 ((wrap64 (bt a0 0))*2)) (wrap64 ((bt a0 1) / 128)))=0 then (some false) else (some ((Go.bits .or .i64 (wrap64 ((wrap64 (bt a0 0))*2)) (wrap64 ((bt a0 1) / 128))) != 511))) else (none)) else (none)))
theorem qd.az {a0:ByteArray} {r:(Bool)} (H:qd.f a0=some r):aW Tryz.prog 30 [S a0] (B r):=by
 refine Cg Tryz.func30 rfl fun C hN hL=>?_
 unfold qd.f at H
 refine Sw<|Rg hN<|Sw<|Bl<|Sw<|Ri hN [] (.cons (fA (rfl:a0.toList=a0.toList) (eU ([]:List UInt8))) .nil) [(6,.bool (a0.toList == ([]:List UInt8)))] ?_
 rcases ak H with ⟨c109,H⟩ | ⟨c109,H⟩
 ·refine Ct (bq c109)<|Sw<|Rg hN ?_
  cases H
  exact Rt dR
 refine Cf (bn c109)<|Sw<|Rg hN ?_
 rcases ak H with ⟨Lg,H⟩ | ⟨Lg,H⟩
 ·refine Ct (bq Lg)<|Sw<|Rg hN ?_
  cases H
  exact Rt dR
 refine Cf (bn Lg)<|Sk<|Sw ?_
 obtain ⟨W9,H⟩:=ax H
 obtain ⟨Xa,H⟩:=ax H
 refine Rd hm hN (.qs 9 0 (.q 9 [] .z)) [(0,none)] .nil [] [] (.cons (show (0:Int)≤0 by decide) (.cons W9 (.cons (show (0:Int)≤1 by decide) (.cons (show (0:Int)≤1 by decide) (.cons Xa (.cons (show (0:Int)≤7 by decide) .nil)))))) (.cons (show (0:Int)≤0 by decide) (.cons W9 (.cons (show (0:Int)≤1 by decide) (.cons (show (0:Int)≤1 by decide) (.cons Xa (.cons (show (0:Int)≤7 by decide) .nil)))))) [] []<|Sw ?_
 rcases ak H with ⟨Lh,H⟩ | ⟨Lh,H⟩
 ·refine Rh hN [B false] (.cons (dE Lh) .nil) ?_
  cases H
  exact Rt dR
 refine Rh hN [B true] (.cons (nq Lh) .nil) ?_
 cases H
 exact Rt dR
mutual
def iB.l0:Nat→ByteArray→List Int→Int→Bool→Int→Int→Option (List Int × Bool)
 | 0,_,_,_,_,_,_=>none
 | k+1,x0,x4,x5,x6,x9,aX=>if aX < x9 then (if x6=true then (iB.j1 k x0 x4 x5 aX x9 aX (decide (x5 > 2147483647))) else (if 0≤aX then (if aX < (x0.size:Int) then (if (bt x0 aX)=128 then (iB.j1 k x0 x4 x5 aX x9 aX true) else (iB.j1 k x0 x4 x5 aX x9 aX (decide (x5 > 2147483647)))) else (none)) else (none))) else (if x6=true then (some (x4,false)) else (if (x4.length:Int) > 0 then (some (x4,decide ((x4.length:Int) < 20))) else (some (x4,false))))
def iB.j1:Nat→ByteArray→List Int→Int→Int→Int→Int→Bool→Option (List Int × Bool)
 | 0,_,_,_,_,_,_,_=>none
 | k+1,x0,x4,x5,x7,x9,aX,x24=>if x24=true then (some (([]:List Int),false)) else (if 0≤x7 then (if x7 < (x0.size:Int) then (if (bt x0 x7)≥128 then (iB.l0 k x0 x4 (Go.bits .or .i64 (wrap64 (x5*128)) (wrap64 (Go.bits .and .u8 (bt x0 x7) 127))) (decide ((bt x0 x7)≥128)) x9 (wrap64 (aX+1))) else (if x4.length < 17592186044416 then (iB.l0 k x0 (x4++[Go.bits .or .i64 (wrap64 (x5*128)) (wrap64 (Go.bits .and .u8 (bt x0 x7) 127))]) 0 (decide ((bt x0 x7)≥128)) x9 (wrap64 (aX+1))) else (none))) else (none)) else (none))
end
def iB.f (k:Nat) (a0:ByteArray):Option (List Int × Bool):=iB.l0 k a0 ([]:List Int) 0 false (a0.size:Int) 0
theorem iB.az {k:Nat} {a0:ByteArray} {r:(List Int × Bool)} (H:iB.f k a0=some r):aW Tryz.prog 69 [S a0] (.aC [.row (some 3) 1 (List.map I r.1),B r.2]):=by
 refine Cg Tryz.func69 rfl fun C hN hL=>?_
 unfold iB.f at H
 refine Sw<|Rg hN<|Sw<|Rg hN<|Sw<|Rg hN<|Sw<|Sw<|Rg hN<|Bl<|Good.dK (fun k' st=>∃ (x0:ByteArray) (x4:List Int) (x5:Int) (x6:Bool) (x9:Int) (aX:Int),k'≤k∧Wk C st ⟨[(0,.w (S x0)),(4,.w (.row (some 3) 1 (List.map I x4))),(5,.w (I x5)),(6,.w (B x6)),(9,.w (I x9)),(10,.w (I aX))],[]⟩∧iB.l0 k' x0 x4 x5 x6 x9 aX=some r) k ⟨a0,([]:List Int),0,false,(a0.size:Int),0,Nat.le_refl _,Wo [(0,0),(4,1),(5,0),(6,0),(9,0),(10,0)],H⟩ fun k=>⟨fun st h=>(by obtain ⟨_,_,_,_,_,_,_,_,H⟩:=h;cases H),?_⟩
 clear H
 rintro st ⟨x0,x4,x5,x6,x9,aX,hk,W,H⟩
 refine W.good ?_
 rw [iB.l0] at H
 refine Sw<|Rg hN<|Sw ?_
 rcases (ak H).symm with ⟨Li,H⟩ | ⟨Li,H⟩
 ·refine Cf (df Li)<|Ex<|Sw ?_
  rcases ak H with ⟨c127,H⟩ | ⟨c127,H⟩
  ·refine Rh hN [B false,B false] (.cons (eH c127) (.cons (rfl:false=false) .nil)) ?_
   cases H
   exact Rt dR
  rcases ak H with ⟨Lj,H⟩ | ⟨Lj,H⟩
  ·refine Rh hN [B true,I (x4.length:Int),B true,I (x4.length:Int)] (.cons (ed (bf c127)) (.cons (aR I x4) (.cons (dt Lj) (.cons (aR I x4) .nil)))) ?_
   cases H
   exact Rt dR
  refine Rh hN [B true,I (x4.length:Int),B false] (.cons (ed (bf c127)) (.cons (aR I x4) (.cons (df Lj) .nil))) ?_
  cases H
  exact Rt dR
 refine Ct (dt Li)<|Sk<|Sw<|Bl<|Sw<|Rg hN<|Sw<|Sw<|Good.cut (fun st=>∃ n':Nat,n'≤k∧∃ (x0:ByteArray) (x4:List Int) (x5:Int) (x7:Int) (x9:Int) (aX:Int) (x24:Bool),Wk C st ⟨[(0,.w (S x0)),(4,.w (.row (some 3) 1 (List.map I x4))),(5,.w (I x5)),(7,.w (I x7)),(9,.w (I x9)),(10,.w (I aX)),(24,.w (B x24))],[]⟩∧iB.j1 n' x0 x4 x5 x7 x9 aX x24=some r) ?_ ?_
 ·rcases ak H with ⟨Dz,H⟩ | ⟨Dz,H⟩
  ·exact Rh hN [B false,B false] (.cons (eH Dz) (.cons (rfl:false=false) .nil))<|⟨k,by omega,x0,x4,x5,aX,x9,aX,decide (x5 > 2147483647),Wo [(0,0),(4,0),(5,0),(7,0),(9,0),(10,0),(24,0)],H⟩
  obtain ⟨c130,H⟩:=ax H
  obtain ⟨c131,H⟩:=ax H
  rcases ak H with ⟨Ll,H⟩ | ⟨Ll,H⟩
  ·exact Rh hN [B true,B true] (.cons (ed (bf Dz)) (.cons c130 (.cons c131 (.cons (bq Ll) .nil))))<|⟨k,by omega,x0,x4,x5,aX,x9,aX,true,Wo [(0,0),(4,0),(5,0),(7,0),(9,0),(10,0),(24,0)],H⟩
  exact Rh hN [B true,B false] (.cons (ed (bf Dz)) (.cons c130 (.cons c131 (.cons (bn Ll) .nil))))<|⟨k,by omega,x0,x4,x5,aX,x9,aX,decide (x5 > 2147483647),Wo [(0,0),(4,0),(5,0),(7,0),(9,0),(10,0),(24,0)],H⟩
 clear H
 rintro st ⟨n',hn',x0,x4,x5,x7,x9,aX,x24,W,H⟩
 rcases n' with _ | k
 ·cases H
 refine W.good ?_
 rw [iB.j1] at H
 rcases ak H with ⟨Lm,H⟩ | ⟨Lm,H⟩
 ·refine Ct Lm<|Sw<|Rg hN ?_
  cases H
  exact Good.ret (eY (u:=.aC [.nil 3 1,B false]) (.aC (.cons (.fP 3 1) (.cons (.refl _) .nil))) (by kernel_rfl))
 refine Cf (bf Lm)<|Sk<|Sw ?_
 obtain ⟨Xb,H⟩:=ax H
 obtain ⟨Xc,H⟩:=ax H
 refine Rh hN [] (.cons (show (0:Int)≤7 by decide) (.cons Xb (.cons Xc .nil)))<|Sw<|Rh hN [] (.cons Xb (.cons Xc .nil))<|Sw<|Rg hN ?_
 rcases ak H with ⟨Lp,H⟩ | ⟨Lp,H⟩
 ·exact Cf (eH (dt Lp))<|Sk<|Rg hN<|⟨k,by omega,x0,x4,Go.bits .or .i64 (wrap64 (x5*128)) (wrap64 (Go.bits .and .u8 (bt x0 x7) 127)),decide ((bt x0 x7)≥128),x9,wrap64 (aX+1),by omega,Wo [(0,0),(4,0),(5,0),(6,0),(9,0),(10,0)],H⟩
 refine Ct (ed (df Lp))<|Sw ?_
 obtain ⟨agt,H⟩:=ax H
 exact Rh hN [.kb true,.row (some 3) 1 (List.map I (x4++[Go.bits .or .i64 (wrap64 (x5*128)) (wrap64 (Go.bits .and .u8 (bt x0 x7) 127))]))] (.cons (dL I x4 [Go.bits .or .i64 (wrap64 (x5*128)) (wrap64 (Go.bits .and .u8 (bt x0 x7) 127))] (.refl _)) (.cons (dZ I agt) .nil))<|Rg hN<|Rg hN<|⟨k,by omega,x0,(x4++[Go.bits .or .i64 (wrap64 (x5*128)) (wrap64 (Go.bits .and .u8 (bt x0 x7) 127))]),0,decide ((bt x0 x7)≥128),x9,wrap64 (aX+1),by omega,Wo [(0,0),(4,0),(5,0),(6,0),(9,0),(10,0)],H⟩
def mE.f (k:Nat) (a0:ByteArray):Option (List Int × Bool):=(iB.f k a0).bind fun t139=>(if t139.2=true then (if 0 < (t139.1.length:Int) then (if 1≤(t139.1.length:Int) then (if ([mn 2 (wrap64 (Int.tdiv (rd t139.1 0) 40)),wrap64 ((rd t139.1 0) - (wrap64 (40*(mn 2 (wrap64 (Int.tdiv (rd t139.1 0) 40))))))]:List Int).length+(t139.1.drop 1).length < 17592186044416 then ((some (([mn 2 (wrap64 (Int.tdiv (rd t139.1 0) 40)),wrap64 ((rd t139.1 0) - (wrap64 (40*(mn 2 (wrap64 (Int.tdiv (rd t139.1 0) 40))))))]:List Int)++(t139.1.drop 1):List Int)).bind fun Xd=>((ig.f k Xd).bind fun t146=>(if t146=true then (some (Xd,true)) else (some (([]:List Int),false))))) else (none)) else (none)) else (none)) else (some (([]:List Int),false)))
theorem mE.az {k:Nat} {a0:ByteArray} {r:(List Int × Bool)} (H:mE.f k a0=some r):aW Tryz.prog 44 [S a0] (.aC [.row none 1 (List.map I r.1),B r.2]):=by
 refine Cg Tryz.func44 rfl fun C hN hL=>?_
 unfold mE.f at H
 refine Sw<|Rg hN<|Sw ?_
 obtain ⟨t139,agu,H⟩:=aF H
 refine Rh hN [.aC [.row (some 3) 1 (List.map I t139.1),B t139.2]] (.cons (iB.az agu).c .nil)<|Sw<|Sw<|Rg hN ?_
 rcases (ak H).symm with ⟨c141,H⟩ | ⟨c141,H⟩
 ·refine Ct (ed (bf c141))<|Sw<|Rg hN ?_
  cases H
  exact Good.ret (eY (u:=.aC [.nil 3 1,B false]) (.aC (.cons (.dP 3 1 _) (.cons (.refl _) .nil))) (by kernel_rfl))
 refine Cf (eH c141)<|Sk<|Sw ?_
 obtain ⟨rU,H⟩:=ax H
 refine Rh hN [I (rd t139.1 0)] (.cons (show (0:Int)≤0 by decide) (.cons (eF I rU) (.cons (aG I (0:Int) (show (0:Int)≤0 by decide) rU) (.cons (show (40:Int)≠0 by decide) .nil))))<|Sw ?_
 obtain ⟨c143,H⟩:=ax H
 obtain ⟨Xe,H⟩:=ax H
 replace H:=oH H
 refine Good.qp (n:=2) hm hN hL (.q 0 [[7]] (.q 1 [[7,6,3,2]] (.q 2 [[7,6,3]] (.q 3 [[7,6]] (.q 4 [[7,6,5]] (.q 5 [[7,6]] (.q 6 [[7]] (.q 8 [[9]] (.b 7 [.row none 1 (List.map I (t139.1.drop 1)),.row none 1 (List.map I t139.1),.kb false,.row (some 3) 1 (List.map I (([mn 2 (wrap64 (Int.tdiv (rd t139.1 0) 40)),wrap64 ((rd t139.1 0) - (wrap64 (40*(mn 2 (wrap64 (Int.tdiv (rd t139.1 0) 40))))))]:List Int)++(t139.1.drop 1)))] [] (.e 9 (.e 10 (.e 11 .z))) [.row none 1 (List.map I (t139.1.drop 1)),.row none 1 (List.map I t139.1),.kb false,.row (some 3) 1 (List.map I (([mn 2 (wrap64 (Int.tdiv (rd t139.1 0) 40)),wrap64 ((rd t139.1 0) - (wrap64 (40*(mn 2 (wrap64 (Int.tdiv (rd t139.1 0) 40))))))]:List Int)++(t139.1.drop 1)))] [] (.e 9 (.e 7 (.e 10 (.e 11 .z))))))))))))) [(4,some (.row none 1 (List.map I t139.1))),(6,none)] (by kernel_rfl) (.cons (aP (some 3) 1 I I t139.1 (fun _=>rfl)) .nil) [I (rd t139.1 0)] [I (rd t139.1 0)] (.cons (.cons (show (0:Int)≤0 by decide) (.cons (eF I rU) (.cons (aG I (0:Int) (show (0:Int)≤0 by decide) rU) (.cons (aP (some 3) 1 I I t139.1 (fun _=>rfl)) (.cons (show (0:Int)≤1 by decide) (.cons (uI I c143) (.cons (Ca I (l:=t139.1) (n:=1)) (.cons (dL I ([mn 2 (wrap64 (Int.tdiv (rd t139.1 0) 40)),wrap64 ((rd t139.1 0) - (wrap64 (40*(mn 2 (wrap64 (Int.tdiv (rd t139.1 0) 40))))))]:List Int) (t139.1.drop 1) (.refl _)) (.cons (yo I I Xe) .nil))))))))) (.cons (show (0:Int)≤0 by decide) (.cons (aG I (0:Int) (show (0:Int)≤0 by decide) rU) .nil)) (.cons (.cons (show (0:Int)≤0 by decide) (.cons (eF I rU) (.cons (aG I (0:Int) (show (0:Int)≤0 by decide) rU) (.cons (aP (some 3) 1 I I t139.1 (fun _=>rfl)) (.cons (show (0:Int)≤1 by decide) (.cons (uI I c143) (.cons (Ca I (l:=t139.1) (n:=1)) (.cons (dL I ([mn 2 (wrap64 (Int.tdiv (rd t139.1 0) 40)),wrap64 ((rd t139.1 0) - (wrap64 (40*(mn 2 (wrap64 (Int.tdiv (rd t139.1 0) 40))))))]:List Int) (t139.1.drop 1) (.refl _)) (.cons (yo I I Xe) .nil))))))))) (.cons (show (0:Int)≤0 by decide) (.cons (aG I (0:Int) (show (0:Int)≤0 by decide) rU) .nil)) .nil)) [] [] (by kernel_rfl) (by kernel_rfl) [[],[]] [(7,0)] [(7,.w (.row (some 3) 1 (List.map I (([mn 2 (wrap64 (Int.tdiv (rd t139.1 0) 40)),wrap64 ((rd t139.1 0) - (wrap64 (40*(mn 2 (wrap64 (Int.tdiv (rd t139.1 0) 40))))))]:List Int)++(t139.1.drop 1)))))] [] (by kernel_rfl) (by kernel_rfl)<|Sw<|Sw ?_
 obtain ⟨t146,agv,H⟩:=aF H
 refine Rh hN [.row none 1 (List.map I (([mn 2 (wrap64 (Int.tdiv (rd t139.1 0) 40)),wrap64 ((rd t139.1 0) - (wrap64 (40*(mn 2 (wrap64 (Int.tdiv (rd t139.1 0) 40))))))]:List Int)++(t139.1.drop 1))),B t146] (.cons (aP (some 3) 1 I I (([mn 2 (wrap64 (Int.tdiv (rd t139.1 0) 40)),wrap64 ((rd t139.1 0) - (wrap64 (40*(mn 2 (wrap64 (Int.tdiv (rd t139.1 0) 40))))))]:List Int)++(t139.1.drop 1)) (fun _=>rfl)) (.cons (ig.az agv).c .nil)) ?_
 rcases (ak H).symm with ⟨c148,H⟩ | ⟨c148,H⟩
 ·refine Ct (ed (bf c148))<|Sw<|Rg hN ?_
  cases H
  exact Good.ret (eY (u:=.aC [.nil 3 1,B false]) (.aC (.cons (.dP 3 1 _) (.cons (.refl _) .nil))) (by kernel_rfl))
 refine Cf (eH c148)<|Sk<|Sw<|Rg hN ?_
 cases H
 exact Rt dR
def sO.f (a0:ByteArray):Option (Bool × Bool):=if a0.toList=([255]:List UInt8) then (some ((a0.toList == ([255]:List UInt8)),true)) else (some ((a0.toList == ([255]:List UInt8)),(a0.toList == ([0]:List UInt8))))
theorem sO.az {a0:ByteArray} {r:(Bool × Bool)} (H:sO.f a0=some r):aW Tryz.prog 84 [S a0] (.aC [B r.1,B r.2]):=by
 refine Cg Tryz.func84 rfl fun C hN hL=>?_
 unfold sO.f at H
 refine Sw<|Rg hN<|Sw ?_
 rcases ak H with ⟨Lr,H⟩ | ⟨Lr,H⟩
 ·refine Ri hN [B true] (.cons (fA (rfl:a0.toList=a0.toList) (eU ([255]:List UInt8))) (.cons (fA (rfl:a0.toList=a0.toList) (eU ([255]:List UInt8))) (.cons (bq Lr) .nil))) [(5,.bool (a0.toList == ([255]:List UInt8))),(7,.bool (a0.toList == ([255]:List UInt8)))] ?_
  cases H
  exact Rt dR
 refine Ri hN [B false] (.cons (fA (rfl:a0.toList=a0.toList) (eU ([255]:List UInt8))) (.cons (fA (rfl:a0.toList=a0.toList) (eU ([255]:List UInt8))) (.cons (bn Lr) (.cons (fA (rfl:a0.toList=a0.toList) (eU ([0]:List UInt8))) .nil)))) [(5,.bool (a0.toList == ([255]:List UInt8))),(7,.bool (a0.toList == ([255]:List UInt8))),(10,.bool (a0.toList == ([0]:List UInt8)))] ?_
 cases H
 exact Rt dR
def kE.j0:Nat→ByteArray→Bool→Option (ByteArray × Int × Bool)
 | 0,_,_=>none
 | k+1,x0,bI=>if bI=true then (some ((⟨#[]⟩:ByteArray),0,false)) else (if 0≤(wrap64 ((x0.size:Int) - 1)) then (if (wrap64 ((x0.size:Int) - 1)) < (x0.size:Int) then (if 0 < (x0.size:Int) then (if 0≤(bt x0 0) then (if (Go.bits .and .u8 (bt x0 (wrap64 ((x0.size:Int) - 1))) (((shl .u8 1 (bt x0 0)) - 1) % 256))=0 then (if 1≤(x0.size:Int) then (some (x0.extract 1 x0.size,wrap64 (bt x0 0),true)) else (none)) else (if (x0.size:Int) > 1 then (some ((⟨#[]⟩:ByteArray),0,false)) else (if 1≤(x0.size:Int) then (some (x0.extract 1 x0.size,wrap64 (bt x0 0),true)) else (none)))) else (none)) else (none)) else (none)) else (none))
def kE.f (k:Nat) (a0:ByteArray):Option (ByteArray × Int × Bool):=if a0.toList=([]:List UInt8) then (kE.j0 k a0 true) else (if 0 < (a0.size:Int) then (if (bt a0 0) > 7 then (kE.j0 k a0 true) else (if (bt a0 0) > 0 then (kE.j0 k a0 ((a0.size:Int) == 1)) else (kE.j0 k a0 false))) else (none))
theorem kE.az {k:Nat} {a0:ByteArray} {r:(ByteArray × Int × Bool)} (H:kE.f k a0=some r):aW Tryz.prog 85 [S a0] (.aC [S r.1,I r.2.1,B r.2.2]):=by
 refine Cg Tryz.func85 rfl fun C hN hL=>?_
 unfold kE.f at H
 refine Sw<|Rg hN<|Sw<|Sw<|Good.cut (fun st=>∃ n':Nat,n'≤k∧∃ (x0:ByteArray) (bI:Bool),Wk C st ⟨[(0,.w (S x0)),(21,.w (B bI))],[]⟩∧kE.j0 n' x0 bI=some r) ?_ ?_
 ·rcases ak H with ⟨zC,H⟩ | ⟨zC,H⟩
  ·exact Ri hN [B true,B true] (.cons (fA (rfl:a0.toList=a0.toList) (eU ([]:List UInt8))) (.cons (bq zC) (.cons (rfl:true=true) .nil))) [(6,.bool (a0.toList == ([]:List UInt8)))]<|⟨k,by omega,a0,true,Wo [(0,0),(21,0)],H⟩
  obtain ⟨zD,H⟩:=ax H
  rcases ak H with ⟨c152,H⟩ | ⟨c152,H⟩
  ·exact Ri hN [B false,B true] (.cons (fA (rfl:a0.toList=a0.toList) (eU ([]:List UInt8))) (.cons (bn zC) (.cons (show (0:Int)≤0 by decide) (.cons zD (.cons (dt c152) .nil))))) [(6,.bool (a0.toList == ([]:List UInt8)))]<|⟨k,by omega,a0,true,Wo [(0,0),(21,0)],H⟩
  rcases ak H with ⟨Ls,H⟩ | ⟨Ls,H⟩
  ·exact Ri hN [B false,B false,B true] (.cons (fA (rfl:a0.toList=a0.toList) (eU ([]:List UInt8))) (.cons (bn zC) (.cons (show (0:Int)≤0 by decide) (.cons zD (.cons (df c152) (.cons (show (0:Int)≤0 by decide) (.cons zD (.cons (dt Ls) .nil)))))))) [(6,.bool (a0.toList == ([]:List UInt8)))]<|⟨k,by omega,a0,((a0.size:Int) == 1),Wo [(0,0),(21,0)],H⟩
  exact Ri hN [B false,B false,B false] (.cons (fA (rfl:a0.toList=a0.toList) (eU ([]:List UInt8))) (.cons (bn zC) (.cons (show (0:Int)≤0 by decide) (.cons zD (.cons (df c152) (.cons (show (0:Int)≤0 by decide) (.cons zD (.cons (df Ls) .nil)))))))) [(6,.bool (a0.toList == ([]:List UInt8)))]<|⟨k,by omega,a0,false,Wo [(0,0),(21,0)],H⟩
 clear H
 rintro st ⟨n',hn',x0,bI,W,H⟩
 rcases n' with _ | k
 ·cases H
 refine W.good ?_
 rw [kE.j0] at H
 rcases ak H with ⟨c154,H⟩ | ⟨c154,H⟩
 ·refine Ct c154<|Sw<|Rg hN ?_
  cases H
  exact Rt dR
 refine Cf (bf c154)<|Sk<|Sw<|Sw ?_
 obtain ⟨DC,H⟩:=ax H
 obtain ⟨c156,H⟩:=ax H
 obtain ⟨c157,H⟩:=ax H
 obtain ⟨DD,H⟩:=ax H
 rcases ak H with ⟨c159,H⟩ | ⟨c159,H⟩
 ·refine Rd hm hN (.qs 12 0 (.k 33 (.is 3 12 (.q 15 [] .z)))) [(0,none)] .nil [B false] [] (.cons DC (.cons c156 (.cons (show (0:Int)≤0 by decide) (.cons c157 (.cons DD (.cons (dE c159) .nil)))))) (.cons DC (.cons c156 (.cons (show (0:Int)≤0 by decide) (.cons c157 (.cons DD (.cons (dE c159) .nil)))))) [] []<|Good.cond false (by kernel_rfl)<|Sk<|Sw ?_
  obtain ⟨c160,H⟩:=ax H
  refine Rd hm hN (.qs 7 0 (.q 7 [] .z)) [(0,none)] .nil [] [] (.cons (show (0:Int)≤1 by decide) (.cons c160 (.cons (show (0:Int)≤0 by decide) (.cons c157 .nil)))) (.cons (show (0:Int)≤1 by decide) (.cons c160 (.cons (show (0:Int)≤0 by decide) (.cons c157 .nil)))) [] [] ?_
  cases H
  exact Rt dR
 refine Rd hm hN (.qs 12 0 (.k 33 (.qs 3 12 (.q 15 [] .z)))) [(0,none)] .nil [B true] [] (.cons DC (.cons c156 (.cons (show (0:Int)≤0 by decide) (.cons c157 (.cons DD (.cons (nq c159) .nil)))))) (.cons DC (.cons c156 (.cons (show (0:Int)≤0 by decide) (.cons c157 (.cons DD (.cons (nq c159) .nil)))))) [] [] ?_
 rcases ak H with ⟨Lt,H⟩ | ⟨Lt,H⟩
 ·refine Ct (dt Lt)<|Sw<|Rg hN ?_
  cases H
  exact Rt dR
 refine Cf (df Lt)<|Sk<|Sw ?_
 obtain ⟨c162,H⟩:=ax H
 refine Rd hm hN (.qs 7 0 (.q 7 [] .z)) [(0,none)] .nil [] [] (.cons (show (0:Int)≤1 by decide) (.cons c162 (.cons (show (0:Int)≤0 by decide) (.cons c157 .nil)))) (.cons (show (0:Int)≤1 by decide) (.cons c162 (.cons (show (0:Int)≤0 by decide) (.cons c157 .nil)))) [] [] ?_
 cases H
 exact Rt dR
def utf8_ValidString.f (a0:ByteArray):Option Bool:=if a0.size≤9223372036854775807 then some (Lib.validD a0.data.toList) else none
theorem utf8_ValidString.tab {p:bB} {w:World} (h:cO.t p w):Lib.Utf8Tabs 0 1 w:=by
 obtain ⟨W,hW,hB⟩:=h
 rw [MakeChecks.laidMetH_plain _ _ _ (by kernel_rfl)] at hW
 have hm1:("unicode/utf8.first",Lib.firstData)∈yw:=by
  have e:Lib.firstData=Rows.laid_unicode_utf8_first:=by kernel_rfl
  rw [e];unfold yw
  repeat (first | exact List.mem_cons_self | apply List.mem_cons_of_mem)
 have hm2:("unicode/utf8.acceptRanges",Lib.acceptData)∈yw:=by
  have e:Lib.acceptData=Rows.laid_unicode_utf8_acceptRanges:=by kernel_rfl
  rw [e];unfold yw
  repeat (first | exact List.mem_cons_self | apply List.mem_cons_of_mem)
 have h1:Lib.Utf8Tabs 0 1 W:=utf8Tabs_of_readsT (U8Types.of196 Tryz.laysValid) ⟨by kernel_rfl,by kernel_rfl,by kernel_rfl,by kernel_rfl,by kernel_rfl,by kernel_rfl,by kernel_rfl⟩ (Lib.laidMet.reads hW hm1) (Lib.laidMet.reads hW hm2)
 have mv:∀ q v,W.cell? q=some v→w.cell? q=some v:=fun q v hp=>by
  have hlt:=World.block_lt_of_cell? W _ hp
  unfold World.cell? at hp ⊢
  rw [(hB _ hlt).2]
  exact hp
 exact ⟨fun c hc=>mv _ _ (h1.1 c hc),fun i hi=>⟨mv _ _ (h1.2 i hi).1,mv _ _ (h1.2 i hi).2⟩⟩
theorem utf8_ValidString.az {a0:ByteArray} {r:Bool} (H:utf8_ValidString.f a0=some r):aW Tryz.prog 94 [S a0] (B r):=by
 unfold utf8_ValidString.f at H
 obtain ⟨c,H⟩:=ax H
 cases H
 exact GZ Tryz.func94 rfl (by kernel_rfl) rfl fun p w ht=>(Any.utf8_ValidString Tryz.laysValid a0 w c (utf8_ValidString.tab ht)).mono (by rintro e w' ⟨rfl,hw⟩;exact ⟨rfl,by first | (subst hw;exact Below.refl _ _) | exact hw⟩)
def tq.f (a0:ByteArray):Option (Bool):=(utf8_ValidString.f a0).bind fun t163=>(some t163)
theorem tq.az {a0:ByteArray} {r:(Bool)} (H:tq.f a0=some r):aW Tryz.prog 86 [S a0] (B r):=by
 refine Cg Tryz.func86 rfl fun C hN hL=>?_
 unfold tq.f at H
 refine Sw<|Rg hN<|Sw ?_
 obtain ⟨t163,agw,H⟩:=aF H
 refine Rh hN [B t163] (.cons (utf8_ValidString.az agw).c .nil) ?_
 cases H
 exact Rt dR
def strings_IndexByte.f (a0:ByteArray) (a1:Int):Option Int:=some (Lib.indexByte a0.data.toList a1.toNat.toUInt8)
theorem strings_IndexByte.az {a0:ByteArray} {a1:Int} {r:Int} (H:strings_IndexByte.f a0 a1=some r):aW Tryz.prog 104 [S a0,K .u8 a1] (I r):=by
 cases H
 exact GZ Tryz.func104 rfl (by kernel_rfl) rfl fun p w ht=>(Tryz.strings_IndexByte a0 a1 w).mono (by rintro e w' ⟨rfl,hw⟩;exact ⟨rfl,by first | (subst hw;exact Below.refl _ _) | exact hw⟩)
def utf8_ValidRune.j0:Nat→Int→Bool→Option (Bool)
 | 0,_,_=>none
 | k+1,x0,x3=>if x3=true then (some true) else (if 57343 < x0 then (if x0≤1114111 then (some true) else (some false)) else (some false))
def utf8_ValidRune.f (k:Nat) (a0:Int):Option (Bool):=if 0≤a0 then (utf8_ValidRune.j0 k a0 (decide (a0 < 55296))) else (utf8_ValidRune.j0 k a0 false)
theorem utf8_ValidRune.az {k:Nat} {a0:Int} {r:(Bool)} (H:utf8_ValidRune.f k a0=some r):aW Tryz.prog 105 [K .i32 a0] (B r):=by
 refine Cg Tryz.func105 rfl fun C hN hL=>?_
 unfold utf8_ValidRune.f at H
 refine Sw<|Rg hN<|Sw<|Bl<|Sw<|Good.cut (fun st=>∃ n':Nat,n'≤k∧∃ (x0:Int) (x3:Bool),Wk C st ⟨[(0,.w (K .i32 x0)),(3,.w (B x3))],[]⟩∧utf8_ValidRune.j0 n' x0 x3=some r) ?_ ?_
 ·rcases ak H with ⟨Lu,H⟩ | ⟨Lu,H⟩
  ·exact Rh hN [B true] (.cons (dt Lu) .nil)<|⟨k,by omega,a0,decide (a0 < 55296),Wo [(0,0),(3,0)],H⟩
  exact Rh hN [B false] (.cons (df Lu) .nil)<|⟨k,by omega,a0,false,Wo [(0,0),(3,0)],H⟩
 clear H
 rintro st ⟨n',hn',x0,x3,W,H⟩
 rcases n' with _ | k
 ·cases H
 refine W.good ?_
 rw [utf8_ValidRune.j0] at H
 rcases ak H with ⟨Lv,H⟩ | ⟨Lv,H⟩
 ·refine Ct Lv<|Sw<|Rg hN ?_
  cases H
  exact Rt dR
 refine Cf (bf Lv)<|Sw ?_
 rcases (ak H).symm with ⟨c167,H⟩ | ⟨c167,H⟩
 ·refine Rh hN [B false] (.cons (df c167) .nil)<|Good.cond false (by kernel_rfl)<|Sk<|Sw<|Rg hN ?_
  cases H
  exact Rt dR
 refine Rh hN [B true] (.cons (dt c167) .nil) ?_
 rcases ak H with ⟨c168,H⟩ | ⟨c168,H⟩
 ·refine Ct (dt c168)<|Sw<|Rg hN ?_
  cases H
  exact Rt dR
 refine Cf (df c168)<|Sk<|Sw<|Rg hN ?_
 cases H
 exact Rt dR
def bytealg_Cutover.f (a0:Int):Option (Int):=some (wrap64 (Int.tdiv (wrap64 (a0+16)) 8))
theorem bytealg_Cutover.az {a0:Int} {r:(Int)} (H:bytealg_Cutover.f a0=some r):aW Tryz.prog 106 [I a0] (I r):=by
 refine Cg Tryz.func106 rfl fun C hN hL=>?_
 unfold bytealg_Cutover.f at H
 refine Sw<|Rg hN<|Sw<|Rh hN [] (.cons (show (8:Int)≠0 by decide) .nil) ?_
 cases H
 exact Rt dR
def eu.l0:Nat→ByteArray→Nat→Option (Int)
 | 0,_,_=>none
 | k+1,x1000,ah=>if ah < x1000.size then (if ((Utf8.decode x1000 ah).1:Int)=65533 then (some ((ah:Nat):Int)) else (eu.l0 k x1000 (ah+(Utf8.decode x1000 ah).2))) else (some (-1))
def eu.iy:Nat→ByteArray→Int→Int→Option (Int)
 | 0,_,_,_=>none
 | k+1,x0,x8,x9=>if 0≤(wrap64 (x9 - x8)) then (if (wrap64 (x9 - x8))≤(x0.size:Int) then (none) else (none)) else (none)
mutual
def eu.l1:Nat→ByteArray→ByteArray→Int→Int→Int→Option (Int)
 | 0,_,_,_,_,_=>none
 | k+1,x0,x7,x8,x9,aX=>if x9 < (x0.size:Int) then (if 0≤x9 then (if 0≤x8 then (if x8 < (x7.size:Int) then (if (bt x0 x9)=(bt x7 x8) then (eu.j3 k x0 x7 x8 x9 aX) else (if 0≤(wrap64 (x9+1)) then (if (wrap64 (x9+1))≤(x0.size:Int) then ((strings_IndexByte.f (x0.extract ((wrap64 (x9+1)):Int).toNat x0.size) (bt x7 x8)).bind fun t186=>(if t186 < 0 then (some (-1)) else (eu.j3 k x0 x7 x8 (wrap64 (x9+(wrap64 (t186+1)))) aX))) else (none)) else (none))) else (none)) else (none)) else (none)) else (some (-1))
def eu.j3:Nat→ByteArray→ByteArray→Int→Int→Int→Option (Int)
 | 0,_,_,_,_,_=>none
 | k+1,x0,x7,x8,x9,aX=>eu.l2 k x0 x7 x8 x9 aX 1
def eu.l2:Nat→ByteArray→ByteArray→Int→Int→Int→Int→Option (Int)
 | 0,_,_,_,_,_,_=>none
 | k+1,x0,x7,x8,x9,aX,dI=>if dI < (x7.size:Int) then (if 0≤(wrap64 (x9 - dI)) then (if (wrap64 (x9 - dI)) < (x0.size:Int) then (if 0≤(wrap64 (x8 - dI)) then (if (wrap64 (x8 - dI)) < (x7.size:Int) then (if (bt x0 (wrap64 (x9 - dI)))=(bt x7 (wrap64 (x8 - dI))) then (eu.l2 k x0 x7 x8 x9 aX (wrap64 (dI+1))) else (eu.Lx k x0 x7 x8 x9 aX)) else (none)) else (none)) else (none)) else (none)) else (some (wrap64 (x9 - x8)))
def eu.Lx:Nat→ByteArray→ByteArray→Int→Int→Int→Option (Int)
 | 0,_,_,_,_,_=>none
 | k+1,x0,x7,x8,x9,aX=>(bytealg_Cutover.f (wrap64 (x9+1))).bind fun t195=>(if (wrap64 (aX+1)) > t195 then (if (wrap64 (x9+1)) < (x0.size:Int) then (eu.iy k x0 x8 (wrap64 (x9+1))) else (eu.l1 k x0 x7 x8 (wrap64 (x9+1)) (wrap64 (aX+1)))) else (eu.l1 k x0 x7 x8 (wrap64 (x9+1)) (wrap64 (aX+1))))
end
def eu.j0:Nat→ByteArray→Int→Bool→Option (Int)
 | 0,_,_,_=>none
 | k+1,x0,x1,x160=>if x160=true then ((strings_IndexByte.f x0 ((x1) % 256)).bind fun t171=>(some t171)) else (if x1=65533 then (eu.l0 k x0 0) else ((utf8_ValidRune.f k x1).bind fun t176=>(if t176=true then (eu.l1 k x0 (Utf8.encode x1) (wrap64 (((Utf8.encode x1).size:Int) - 1)) (wrap64 (((Utf8.encode x1).size:Int) - 1)) 0) else (some (-1)))))
def eu.f (k:Nat) (a0:ByteArray) (a1:Int):Option (Int):=if 0≤a1 then (eu.j0 k a0 a1 (decide (a1 < 128))) else (eu.j0 k a0 a1 false)
theorem eu.az {k:Nat} {a0:ByteArray} {a1:Int} {r:(Int)} (H:eu.f k a0 a1=some r):aW Tryz.prog 102 [S a0,K .i32 a1] (I r):=by
 refine Cg Tryz.func102 rfl fun C hN hL=>?_
 unfold eu.f at H
 refine Sw<|Rg hN<|Bl<|Sw<|Good.cut (fun st=>∃ n':Nat,n'≤k∧∃ (x0:ByteArray) (x1:Int) (x160:Bool),Wk C st ⟨[(0,.w (S x0)),(1,.w (K .i32 x1)),(160,.w (B x160))],[]⟩∧eu.j0 n' x0 x1 x160=some r) ?_ ?_
 ·rcases ak H with ⟨LA,H⟩ | ⟨LA,H⟩
  ·exact Rh hN [B true] (.cons (dt LA) .nil)<|⟨k,by omega,a0,a1,decide (a1 < 128),Wo [(0,0),(1,0),(160,0)],H⟩
  exact Rh hN [B false] (.cons (df LA) .nil)<|⟨k,by omega,a0,a1,false,Wo [(0,0),(1,0),(160,0)],H⟩
 clear H
 rintro st ⟨n',hn',x0,x1,x160,W,H⟩
 rcases n' with _ | k
 ·cases H
 refine W.good ?_
 rw [eu.j0] at H
 rcases ak H with ⟨LC,H⟩ | ⟨LC,H⟩
 ·refine Ct LC<|Sw ?_
  obtain ⟨t171,agx,H⟩:=aF H
  refine Rh hN [I t171] (.cons (strings_IndexByte.az agx).c .nil) ?_
  cases H
  exact Rt dR
 refine Cf (bf LC)<|Sw<|Rg hN ?_
 rcases ak H with ⟨c173,H⟩ | ⟨c173,H⟩
 ·refine Ct (bq c173)<|Sw<|Sw<|Rg hN<|Bl<|Good.dK (fun k' st=>∃ (x1000:ByteArray) (ah:Nat),k'≤k∧Wk C st ⟨[(175,.d (.ptr 0 0))],[.iter x1000 ah]⟩∧eu.l0 k' x1000 ah=some r) k ⟨x0,0,Nat.le_refl _,Wo [(175,0)],H⟩ fun k=>⟨fun st h=>(by obtain ⟨_,_,_,_,H⟩:=h;cases H),?_⟩
  clear H
  rintro st ⟨x1000,ah,hk,W,H⟩
  refine W.good ?_
  rw [eu.l0] at H
  refine Sw ?_
  rcases (ak H).symm with ⟨LD,H⟩ | ⟨LD,H⟩
  ·refine Rh hN [.kb false] (.cons LD .nil)<|Sw<|Good.cond false (by kernel_rfl)<|Ex<|Sw<|Rg hN ?_
   cases H
   exact Rt dR
  refine Rh hN [.kb true] (.cons LD .nil)<|Sw<|Good.cond true (by kernel_rfl)<|Sk<|Bl<|Sw<|Rg hN<|Sw<|Rg hN ?_
  rcases (ak H).symm with ⟨c175,H⟩ | ⟨c175,H⟩
  ·exact Cf (bn c175)<|Sk<|⟨k,by omega,x1000,ah+(Utf8.decode x1000 ah).2,by omega,Wo [(175,0)],H⟩
  refine Ct (bq c175)<|Sw<|Rg hN ?_
  cases H
  exact Rt dR
 refine Cf (bn c173)<|Sw ?_
 obtain ⟨t176,agy,H⟩:=aF H
 refine Rh hN [B t176] (.cons (utf8_ValidRune.az agy).c .nil) ?_
 rcases (ak H).symm with ⟨LF,H⟩ | ⟨LF,H⟩
 ·refine Ct (ed (bf LF))<|Sw<|Rg hN ?_
  cases H
  exact Rt dR
 refine Cf (eH LF)<|Good.scope [(1,_,fun n st=>∃ (x0:ByteArray) (x1:Int) (x7:ByteArray) (x8:Int) (x9:Int),n≤k∧Wk C st ⟨[(0,.w (S x0)),(1,.w (K .i32 x1)),(7,.w (S x7)),(8,.w (I x8)),(9,.w (I x9))],[]⟩∧eu.iy n x0 x8 x9=some r)] (.cons rfl .nil) ?_ (.cons ?_ .nil)
 ·refine Sw<|Rg hN<|Sw<|Rg hN<|Sw<|Rg hN<|Sw<|Rg hN<|Sw<|Bl<|Good.dK (fun k' st=>∃ (x0:ByteArray) (x1:Int) (x7:ByteArray) (x8:Int) (x9:Int) (aX:Int),k'≤k∧Wk C st ⟨[(0,.w (S x0)),(1,.w (K .i32 x1)),(7,.w (S x7)),(8,.w (I x8)),(9,.w (I x9)),(10,.w (I aX))],[]⟩∧eu.l1 k' x0 x7 x8 x9 aX=some r) k ⟨x0,x1,Utf8.encode x1,wrap64 (((Utf8.encode x1).size:Int) - 1),wrap64 (((Utf8.encode x1).size:Int) - 1),0,Nat.le_refl _,Wo [(0,0),(1,0),(7,0),(8,0),(9,0),(10,0)],H⟩ fun k=>⟨fun st h=>(by obtain ⟨_,_,_,_,_,_,_,_,H⟩:=h;cases H),?_⟩
  clear H
  rintro st ⟨x0,x1,x7,x8,x9,aX,hk,W,H⟩
  refine W.good ?_
  rw [eu.l1] at H
  refine Sw<|Sw<|Rg hN ?_
  rcases (ak H).symm with ⟨zF,H⟩ | ⟨zF,H⟩
  ·refine Cf (df zF)<|Ex<|Sw<|Sw<|Rg hN ?_
   cases H
   exact Rt dR
  refine Ct (dt zF)<|Sk<|Bl<|Good.scope [(0,_,fun n st=>∃ (x0:ByteArray) (x1:Int) (x7:ByteArray) (x8:Int) (x9:Int) (aX:Int),n≤k∧Wk C st ⟨[(0,.w (S x0)),(1,.w (K .i32 x1)),(7,.w (S x7)),(8,.w (I x8)),(9,.w (I x9)),(10,.w (I aX))],[]⟩∧eu.Lx n x0 x7 x8 x9 aX=some r)] (.cons rfl .nil) ?_ (.cons ?_ .nil)
  ·refine Sw<|Sw ?_
   obtain ⟨Xf,H⟩:=ax H
   obtain ⟨DF,H⟩:=ax H
   obtain ⟨c182,H⟩:=ax H
   refine Rd hm hN (.qs 6 0 (.q 6 [] .z)) [(0,none),(7,none),(8,none),(9,none)] .nil [] [] (.cons Xf (.cons zF (.cons DF (.cons c182 .nil)))) (.cons Xf (.cons zF (.cons DF (.cons c182 .nil)))) [] []<|Good.cut (fun st=>∃ n':Nat,n'≤k∧∃ (x0:ByteArray) (x1:Int) (x7:ByteArray) (x8:Int) (x9:Int) (aX:Int),Wk C st ⟨[(0,.w (S x0)),(1,.w (K .i32 x1)),(7,.w (S x7)),(8,.w (I x8)),(9,.w (I x9)),(10,.w (I aX))],[]⟩∧eu.j3 n' x0 x7 x8 x9 aX=some r) ?_ ?_
   ·rcases ak H with ⟨c183,H⟩ | ⟨c183,H⟩
    ·exact Cf (dE c183)<|Sk<|⟨k,by omega,x0,x1,x7,x8,x9,aX,Wo [(0,0),(1,0),(7,0),(8,0),(9,0),(10,0)],H⟩
    refine Ct (nq c183)<|Sw ?_
    obtain ⟨Xg,H⟩:=ax H
    obtain ⟨Xh,H⟩:=ax H
    obtain ⟨t186,agz,H⟩:=aF H
    refine Rd hm hN (.qs 7 0 (.e 7 (.q 8 [] .z))) [(0,none),(7,none),(8,none),(9,none)] .nil [I t186] [] (.cons Xg (.cons Xh (.cons DF (.cons c182 (.cons (strings_IndexByte.az agz).c .nil))))) (.cons Xg (.cons Xh (.cons DF (.cons c182 .nil)))) [] []<|Sw<|Sw<|Rg hN ?_
    rcases (ak H).symm with ⟨LG,H⟩ | ⟨LG,H⟩
    ·exact Cf (df LG)<|Sk<|Rg hN<|⟨k,by omega,x0,x1,x7,x8,wrap64 (x9+(wrap64 (t186+1))),aX,Wo [(0,0),(1,0),(7,0),(8,0),(9,0),(10,0)],H⟩
    refine Ct (dt LG)<|Sw<|Rg hN ?_
    cases H
    exact Rt dR
   clear H
   rintro st ⟨n',hn',x0,x1,x7,x8,x9,aX,W,H⟩
   rcases n' with _ | k
   ·cases H
   refine W.good ?_
   rw [eu.j3] at H
   refine Sw<|Sw<|Rg hN<|Bl<|Good.dK (fun k' st=>∃ (x0:ByteArray) (x1:Int) (x7:ByteArray) (x8:Int) (x9:Int) (aX:Int) (dI:Int),k'≤k∧Wk C st ⟨[(0,.w (S x0)),(1,.w (K .i32 x1)),(7,.w (S x7)),(8,.w (I x8)),(9,.w (I x9)),(10,.w (I aX)),(12,.w (I dI))],[]⟩∧eu.l2 k' x0 x7 x8 x9 aX dI=some r) k ⟨x0,x1,x7,x8,x9,aX,1,Nat.le_refl _,Wo [(0,0),(1,0),(7,0),(8,0),(9,0),(10,0),(12,0)],H⟩ fun k=>⟨fun st h=>(by obtain ⟨_,_,_,_,_,_,_,_,_,H⟩:=h;cases H),?_⟩
   clear H
   rintro st ⟨x0,x1,x7,x8,x9,aX,dI,hk,W,H⟩
   refine W.good ?_
   rw [eu.l2] at H
   refine Sw<|Sw<|Rg hN ?_
   rcases (ak H).symm with ⟨LH,H⟩ | ⟨LH,H⟩
   ·refine Cf (df LH)<|Ex<|Sw<|Sw<|Rg hN ?_
    cases H
    exact Rt dR
   refine Ct (dt LH)<|Sk<|Sw<|Bl<|Sw ?_
   obtain ⟨Xi,H⟩:=ax H
   obtain ⟨Xj,H⟩:=ax H
   obtain ⟨Xk,H⟩:=ax H
   obtain ⟨c193,H⟩:=ax H
   refine Rd hm hN (.qs 10 0 (.q 10 [] .z)) [(0,none),(7,none),(8,none),(9,none),(12,none)] .nil [] [] (.cons Xi (.cons Xj (.cons Xk (.cons c193 .nil)))) (.cons Xi (.cons Xj (.cons Xk (.cons c193 .nil)))) [] [] ?_
   rcases (ak H).symm with ⟨c194,H⟩ | ⟨c194,H⟩
   ·exact Ct (nq c194)<|Good.goto<|⟨k,(by first | trivial | omega),x0,x1,x7,x8,x9,aX,by omega,Wo [(0,0),(1,0),(7,0),(8,0),(9,0),(10,0)],H⟩
   exact Cf (dE c194)<|Sk<|Rg hN<|⟨k,by omega,x0,x1,x7,x8,x9,aX,wrap64 (dI+1),by omega,Wo [(0,0),(1,0),(7,0),(8,0),(9,0),(10,0),(12,0)],H⟩
  ·clear H
   rintro n st ⟨x0,x1,x7,x8,x9,aX,hn,W,H⟩
   rcases n with _ | k
   ·cases H
   refine W.good ?_
   rw [eu.Lx] at H
   refine Sw<|Sk<|Sw<|Rg hN<|Sw<|Rg hN<|Sw ?_
   obtain ⟨t195,LJ,H⟩:=aF H
   rcases (ak H).symm with ⟨DI,H⟩ | ⟨DI,H⟩
   ·exact Rh hN [B true,I t195,B false,B false,B false,B false] (.cons (rfl:true=true) (.cons (bytealg_Cutover.az LJ).c (.cons (df DI) (.cons (rfl:false=false) (.cons (rfl:false=false) (.cons (rfl:false=false) .nil))))))<|Good.cond false (by kernel_rfl)<|Sk<|⟨k,by omega,x0,x1,x7,x8,wrap64 (x9+1),wrap64 (aX+1),by omega,Wo [(0,0),(1,0),(7,0),(8,0),(9,0),(10,0)],H⟩
   rcases ak H with ⟨c198,H⟩ | ⟨c198,H⟩
   ·exact Rh hN [B true,I t195,B true,B true] (.cons (rfl:true=true) (.cons (bytealg_Cutover.az LJ).c (.cons (dt DI) (.cons (dt c198) .nil))))<|Good.cond true (by kernel_rfl)<|Good.goto<|⟨by kernel_rfl,⟨k,(by first | trivial | omega),x0,x1,x7,x8,wrap64 (x9+1),by omega,Wo [(0,0),(1,0),(7,0),(8,0),(9,0)],H⟩⟩
   exact Rh hN [B true,I t195,B true,B false,B false,B false] (.cons (rfl:true=true) (.cons (bytealg_Cutover.az LJ).c (.cons (dt DI) (.cons (df c198) (.cons (rfl:false=false) (.cons (rfl:false=false) .nil))))))<|Good.cond false (by kernel_rfl)<|Sk<|⟨k,by omega,x0,x1,x7,x8,wrap64 (x9+1),wrap64 (aX+1),by omega,Wo [(0,0),(1,0),(7,0),(8,0),(9,0),(10,0)],H⟩
 ·clear H
  rintro n st ⟨x0,x1,x7,x8,x9,hn,W,H⟩
  rcases n with _ | k
  ·cases H
  refine W.good ?_
  rw [eu.iy] at H
  refine Sw<|Sk<|Sw<|Good.cond true (by kernel_rfl)<|Sw ?_
  obtain ⟨ak4,H⟩:=ax H
  obtain ⟨ak5,H⟩:=ax H
  cases H
def qO.f (k:Nat) (a0:ByteArray) (a1:Int):Option (Bool):=(eu.f k a0 a1).bind fun t201=>(some (decide (t201≥0)))
theorem qO.az {k:Nat} {a0:ByteArray} {a1:Int} {r:(Bool)} (H:qO.f k a0 a1=some r):aW Tryz.prog 96 [S a0,K .i32 a1] (B r):=by
 refine Cg Tryz.func96 rfl fun C hN hL=>?_
 unfold qO.f at H
 refine Sw<|Rg hN<|Sw ?_
 obtain ⟨t201,agA,H⟩:=aF H
 refine Rh hN [I t201] (.cons (eu.az agA).c .nil) ?_
 cases H
 exact Rt dR
def iA.j1:Nat→Int→Bool→Option (Bool)
 | 0,_,_=>none
 | k+1,x0,x3=>if x3=true then (some false) else (if x0≥48 then (if x0≤57 then (some false) else ((qO.f k (⟨#[32,39,40,41,43,44,45,46,47,58,61,63]⟩:ByteArray) x0).bind fun t209=>(some (!t209)))) else ((qO.f k (⟨#[32,39,40,41,43,44,45,46,47,58,61,63]⟩:ByteArray) x0).bind fun t211=>(some (!t211))))
def iA.j0:Nat→Int→Bool→Option (Bool)
 | 0,_,_=>none
 | k+1,x0,x3=>if x3=true then (some false) else (if x0≥97 then (iA.j1 k x0 (decide (x0≤122))) else (iA.j1 k x0 false))
def iA.f (k:Nat) (a0:Int):Option (Bool):=if a0≥65 then (iA.j0 k a0 (decide (a0≤90))) else (iA.j0 k a0 false)
theorem iA.az {k:Nat} {a0:Int} {r:(Bool)} (H:iA.f k a0=some r):aW Tryz.prog 95 [K .i32 a0] (B r):=by
 refine Cg Tryz.func95 rfl fun C hN hL=>?_
 unfold iA.f at H
 refine Sw<|Rg hN<|Sw<|Bl<|Sw<|Sw<|Good.cut (fun st=>∃ n':Nat,n'≤k∧∃ (x0:Int) (x3:Bool),Wk C st ⟨[(0,.w (K .i32 x0)),(3,.w (B x3))],[]⟩∧iA.j0 n' x0 x3=some r) ?_ ?_
 ·rcases ak H with ⟨c203,H⟩ | ⟨c203,H⟩
  ·exact Rh hN [B true] (.cons (dt c203) .nil)<|⟨k,by omega,a0,decide (a0≤90),Wo [(0,0),(3,0)],H⟩
  exact Rh hN [B false] (.cons (df c203) .nil)<|⟨k,by omega,a0,false,Wo [(0,0),(3,0)],H⟩
 clear H
 rintro st ⟨n',hn',x0,x3,W,H⟩
 rcases n' with _ | k
 ·cases H
 refine W.good ?_
 rw [iA.j0] at H
 rcases ak H with ⟨DJ,H⟩ | ⟨DJ,H⟩
 ·refine Ct DJ<|Sk<|Ct DJ<|Sw<|Rg hN ?_
  cases H
  exact Rt dR
 refine Cf (bf DJ)<|Sw<|Good.cut (fun st=>∃ n':Nat,n'≤k∧∃ (x0:Int) (x3:Bool),Wk C st ⟨[(0,.w (K .i32 x0)),(3,.w (B x3))],[]⟩∧iA.j1 n' x0 x3=some r) ?_ ?_
 ·rcases ak H with ⟨LK,H⟩ | ⟨LK,H⟩
  ·exact Rh hN [B true] (.cons (dt LK) .nil)<|⟨k,by omega,x0,decide (x0≤122),Wo [(0,0),(3,0)],H⟩
  exact Rh hN [B false] (.cons (df LK) .nil)<|⟨k,by omega,x0,false,Wo [(0,0),(3,0)],H⟩
 clear H
 rintro st ⟨n',hn',x0,x3,W,H⟩
 rcases n' with _ | k
 ·cases H
 refine W.good ?_
 rw [iA.j1] at H
 rcases ak H with ⟨c206,H⟩ | ⟨c206,H⟩
 ·refine Ct c206<|Sk<|Ct c206<|Sw<|Rg hN ?_
  cases H
  exact Rt dR
 refine Cf (bf c206) ?_
 rcases (ak H).symm with ⟨LM,H⟩ | ⟨LM,H⟩
 ·refine Rh hN [B false] (.cons (df LM) .nil)<|Good.cond false (by kernel_rfl)<|Sk<|Sw ?_
  obtain ⟨t211,agB,H⟩:=aF H
  refine Rh hN [B t211] (.cons (qO.az agB).c .nil) ?_
  cases H
  exact Rt dR
 refine Rh hN [B true] (.cons (dt LM) .nil) ?_
 rcases ak H with ⟨c208,H⟩ | ⟨c208,H⟩
 ·refine Ct (dt c208)<|Sw<|Rg hN ?_
  cases H
  exact Rt dR
 refine Cf (df c208)<|Sk<|Sw ?_
 obtain ⟨t209,agC,H⟩:=aF H
 refine Rh hN [B t209] (.cons (qO.az agC).c .nil) ?_
 cases H
 exact Rt dR
def strings_indexFunc.l0:Nat→(Int→Option (Bool))→Bool→ByteArray→Nat→Option (Int)
 | 0,_,_,_,_=>none
 | k+1,g1,x2,x1000,ah=>if ah < x1000.size then ((g1 ((Utf8.decode x1000 ah).1:Int)).bind fun t214=>(if (t214 == x2)=true then (some ((ah:Nat):Int)) else (strings_indexFunc.l0 k g1 x2 x1000 (ah+(Utf8.decode x1000 ah).2)))) else (some (-1))
def strings_indexFunc.f (k:Nat) (a0:ByteArray) (g1:Int→Option (Bool)) (a2:Bool):Option (Int):=strings_indexFunc.l0 k g1 a2 a0 0
theorem strings_indexFunc.az {k:Nat} {a0:ByteArray} {g1:Int→Option (Bool)} {a2:Bool} {f1:FuncId} {c1:List V} (hg1:∀ (sK:Int) r,g1 sK=some r→aW Tryz.prog f1 ([K .i32 sK]++c1) (B r)) {r:(Int)} (H:strings_indexFunc.f k a0 g1 a2=some r):aW Tryz.prog 108 [S a0,.gX f1 c1,B a2] (I r):=by
 refine Cg Tryz.func108 rfl fun C hN hL=>?_
 unfold strings_indexFunc.f at H
 refine Sw<|Rg hN<|Sw<|Sw<|Rg hN<|Bl<|Good.dK (fun k' st=>∃ (x2:Bool) (x1000:ByteArray) (ah:Nat),k'≤k∧Wk C st ⟨[(1,.w (.gX f1 c1)),(2,.w (B x2)),(10,.d (.ptr 0 0))],[.iter x1000 ah]⟩∧strings_indexFunc.l0 k' g1 x2 x1000 ah=some r) k ⟨a2,a0,0,Nat.le_refl _,Wo [(1,0),(2,0),(10,0)],H⟩ fun k=>⟨fun st h=>(by obtain ⟨_,_,_,_,_,H⟩:=h;cases H),?_⟩
 clear H
 rintro st ⟨x2,x1000,ah,hk,W,H⟩
 refine W.good ?_
 rw [strings_indexFunc.l0] at H
 refine Sw ?_
 rcases (ak H).symm with ⟨c213,H⟩ | ⟨c213,H⟩
 ·refine Rh hN [.kb false] (.cons c213 .nil)<|Sw<|Good.cond false (by kernel_rfl)<|Ex<|Sw<|Rg hN ?_
  cases H
  exact Rt dR
 refine Rh hN [.kb true] (.cons c213 .nil)<|Sw<|Good.cond true (by kernel_rfl)<|Sk<|Bl<|Sw<|Rg hN<|Sw ?_
 obtain ⟨t214,agD,H⟩:=aF H
 refine Rh hN [B t214] (.cons (hg1 _ _ agD).c .nil) ?_
 rcases (ak H).symm with ⟨LP,H⟩ | ⟨LP,H⟩
 ·exact Cf (bf LP)<|Sk<|⟨k,by omega,x2,x1000,ah+(Utf8.decode x1000 ah).2,by omega,Wo [(1,0),(2,0),(10,0)],H⟩
 refine Ct LP<|Sw<|Rg hN ?_
 cases H
 exact Rt dR
def strings_IndexFunc.f (k:Nat) (a0:ByteArray) (g1:Int→Option (Bool)):Option (Int):=(strings_indexFunc.f k a0 g1 true).bind fun t217=>(some t217)
theorem strings_IndexFunc.az {k:Nat} {a0:ByteArray} {g1:Int→Option (Bool)} {f1:FuncId} {c1:List V} (hg1:∀ (sK:Int) r,g1 sK=some r→aW Tryz.prog f1 ([K .i32 sK]++c1) (B r)) {r:(Int)} (H:strings_IndexFunc.f k a0 g1=some r):aW Tryz.prog 103 [S a0,.gX f1 c1] (I r):=by
 refine Cg Tryz.func103 rfl fun C hN hL=>?_
 unfold strings_IndexFunc.f at H
 refine Sw<|Rg hN<|Sw ?_
 obtain ⟨t217,agE,H⟩:=aF H
 refine Rh hN [I t217] (.cons (strings_indexFunc.az (f1:=f1) (c1:=c1) hg1 agE).c .nil) ?_
 cases H
 exact Rt dR
def strings_ContainsFunc.f (k:Nat) (a0:ByteArray) (g1:Int→Option (Bool)):Option (Bool):=(strings_IndexFunc.f k a0 g1).bind fun t219=>(some (decide (t219≥0)))
theorem strings_ContainsFunc.az {k:Nat} {a0:ByteArray} {g1:Int→Option (Bool)} {f1:FuncId} {c1:List V} (hg1:∀ (sK:Int) r,g1 sK=some r→aW Tryz.prog f1 ([K .i32 sK]++c1) (B r)) {r:(Bool)} (H:strings_ContainsFunc.f k a0 g1=some r):aW Tryz.prog 97 [S a0,.gX f1 c1] (B r):=by
 refine Cg Tryz.func97 rfl fun C hN hL=>?_
 unfold strings_ContainsFunc.f at H
 refine Sw<|Rg hN<|Sw ?_
 obtain ⟨t219,agF,H⟩:=aF H
 refine Rh hN [I t219] (.cons (strings_IndexFunc.az (f1:=f1) (c1:=c1) hg1 agF).c .nil) ?_
 cases H
 exact Rt dR
def uT.f (k:Nat) (a0:ByteArray):Option (Bool):=(strings_ContainsFunc.f k a0 (fun z0=>iA.f k z0)).bind fun t221=>(some (!t221))
theorem uT.az {k:Nat} {a0:ByteArray} {r:(Bool)} (H:uT.f k a0=some r):aW Tryz.prog 87 [S a0] (B r):=by
 refine Cg Tryz.func87 rfl fun C hN hL=>?_
 unfold uT.f at H
 refine Sw<|Rg hN<|Sw<|Rg hN<|Sw ?_
 obtain ⟨t221,agG,H⟩:=aF H
 refine Rh hN [B t221] (.cons (strings_ContainsFunc.az (f1:=95) (c1:=[]) (fun _ _ h=>iA.az h) agG).c .nil) ?_
 cases H
 exact Rt dR
def jV.f (k:Nat) (a0:Int) (a1:ByteArray):Option (Bool):=if a0=1 then ((sO.f a1).bind fun t224=>(some t224.2)) else (if a0=2 then ((qd.f a1).bind fun t227=>(some t227)) else (if a0=3 then ((kE.f k a1).bind fun t230=>(some t230.2.2)) else (if a0=4 then (some true) else (if a0=5 then (some (a1.toList == ([]:List UInt8))) else (if a0=6 then ((mE.f k a1).bind fun t235=>(some t235.2)) else (if a0=12 then ((tq.f a1).bind fun t238=>(some t238)) else (if a0=19 then ((uT.f k a1).bind fun t241=>(some t241)) else (some false))))))))
theorem jV.az {k:Nat} {a0:Int} {a1:ByteArray} {r:(Bool)} (H:jV.f k a0 a1=some r):aW Tryz.prog 81 [I a0,S a1] (B r):=by
 refine Cg Tryz.func81 rfl fun C hN hL=>?_
 unfold jV.f at H
 refine Sw<|Rg hN<|Sw<|Rg hN<|Sw<|Sw<|Rg hN<|Bl<|Sw<|Rg hN ?_
 rcases ak H with ⟨LQ,H⟩ | ⟨LQ,H⟩
 ·refine Ct (bq LQ) ?_
  obtain ⟨t224,agH,H⟩:=aF H
  refine Rh hN [.aC [B t224.1,B t224.2]] (.cons (sO.az agH).c .nil)<|Sw<|Rg hN ?_
  cases H
  exact Rt dR
 refine Cf (bn LQ)<|Sw<|Rg hN ?_
 rcases ak H with ⟨c226,H⟩ | ⟨c226,H⟩
 ·refine Ct (bq c226) ?_
  obtain ⟨t227,agI,H⟩:=aF H
  refine Rh hN [B t227] (.cons (qd.az agI).c .nil)<|Sw<|Rg hN ?_
  cases H
  exact Rt dR
 refine Cf (bn c226)<|Sw<|Rg hN ?_
 rcases ak H with ⟨c229,H⟩ | ⟨c229,H⟩
 ·refine Ct (bq c229) ?_
  obtain ⟨t230,agJ,H⟩:=aF H
  refine Rh hN [.aC [S t230.1,I t230.2.1,B t230.2.2]] (.cons (kE.az agJ).c .nil)<|Sw<|Rg hN ?_
  cases H
  exact Rt dR
 refine Cf (bn c229)<|Sw<|Rg hN ?_
 rcases ak H with ⟨c232,H⟩ | ⟨c232,H⟩
 ·refine Ct (bq c232)<|Rg hN<|Sw<|Rg hN ?_
  cases H
  exact Rt dR
 refine Cf (bn c232)<|Sw<|Rg hN ?_
 rcases ak H with ⟨c233,H⟩ | ⟨c233,H⟩
 ·refine Ct (bq c233)<|Ri hN [] (.cons (fA (rfl:a1.toList=a1.toList) (eU ([]:List UInt8))) .nil) [(31,.bool (a1.toList == ([]:List UInt8)))]<|Sw<|Rg hN ?_
  cases H
  exact Rt dR
 refine Cf (bn c233)<|Sw<|Rg hN ?_
 rcases ak H with ⟨c234,H⟩ | ⟨c234,H⟩
 ·refine Ct (bq c234) ?_
  obtain ⟨t235,agK,H⟩:=aF H
  refine Rh hN [.aC [.row none 1 (List.map I t235.1),B t235.2]] (.cons (mE.az agK).c .nil)<|Sw<|Rg hN ?_
  cases H
  exact Rt dR
 refine Cf (bn c234)<|Sw<|Rg hN ?_
 rcases ak H with ⟨LU,H⟩ | ⟨LU,H⟩
 ·refine Ct (bq LU) ?_
  obtain ⟨t238,agL,H⟩:=aF H
  refine Rh hN [B t238] (.cons (tq.az agL).c .nil)<|Sw<|Rg hN ?_
  cases H
  exact Rt dR
 refine Cf (bn LU)<|Sw<|Rg hN ?_
 rcases (ak H).symm with ⟨LV,H⟩ | ⟨LV,H⟩
 ·refine Cf (bn LV)<|Sk<|Sw<|Rg hN ?_
  cases H
  exact Rt dR
 refine Ct (bq LV) ?_
 obtain ⟨t241,agM,H⟩:=aF H
 refine Rh hN [B t241] (.cons (uT.az agM).c .nil)<|Sw<|Rg hN ?_
 cases H
 exact Rt dR
def fZ.j0:Nat→ByteArray→Bool→ByteArray→List af→List (Nat × Nat)→List Int→Int→Bool→Option (Int × ByteArray × List af × List (Nat × Nat) × List Int)
 | 0,_,_,_,_,_,_,_,_=>none
 | k+1,x2,x25,x1000,ah,ay,au,aB,aJ=>if x25=true then (some (0,x1000,ah,ay,au)) else (if aJ=true then (some (5,x1000,ah,ay,au)) else ((jV.f k aB x2).bind fun LW=>(if LW=true then (some (0,x1000,ah,ay,au)) else (some (5,x1000,ah,ay,au)))))
def fZ.f (k:Nat) (aK:ByteArray) (av:List af) (bu:List (Nat × Nat)) (aj:List Int) (fH:Int) (eO:Int) (cZ:Bool) (fI:Int) (a2:ByteArray):Option (Int × ByteArray × List af × List (Nat × Nat) × List Int):=if (aj.length:Int)≥16 then (some (6,aK,av,bu,aj)) else (if (av.length:Int)≥1000 then (some (4,aK,av,bu,aj)) else (if fH=0 then (if cZ=true then (if eO=16 then (fZ.j0 k a2 true aK av bu aj eO cZ) else (fZ.j0 k a2 (eO == 17) aK av bu aj eO cZ)) else (fZ.j0 k a2 false aK av bu aj eO cZ)) else (some (0,aK,av,bu,aj))))
theorem fZ.az {k:Nat} {aK:ByteArray} {av:List af} {bu:List (Nat × Nat)} {aj:List Int} {fH:Int} {eO:Int} {cZ:Bool} {fI:Int} {a2:ByteArray} {r:(Int × ByteArray × List af × List (Nat × Nat) × List Int)} (H:fZ.f k aK av bu aj fH eO cZ fI a2=some r):kI Tryz.prog 63 [.ptr 0 0,.v (.agg [I fH,I eO,B cZ,I fI]),.v (S a2)] [[S aK,.row (some 56) 5 (List.map (v56 1) av),.row (some 79) 1 (List.map Cx bu),.row (some 3) 1 (List.map I aj)]] (.v (I r.1)) [[S r.2.1,.row (some 56) 5 (List.map (v56 1) r.2.2.1),.row (some 79) 1 (List.map Cx r.2.2.2.1),.row (some 3) 1 (List.map I r.2.2.2.2)]]:=by
 refine qQ Tryz.func63 rfl (by kernel_rfl) (by kernel_rfl) fun C hN hL=>?_
 unfold fZ.f at H
 refine Sw<|Rg hN<|Sw<|Bl<|Sw<|Rh hN [I (aj.length:Int)] (.cons (aR I aj) .nil) ?_
 rcases ak H with ⟨LX,H⟩ | ⟨LX,H⟩
 ·refine Ct (dt LX)<|Sw<|Rg hN ?_
  cases H
  exact Good.ret (fU (.refl _) (dF.refl _) (by kernel_rfl) rfl)
 refine Cf (df LX)<|Sw<|Rh hN [I (av.length:Int)] (.cons (aR (v56 1) av) .nil) ?_
 rcases ak H with ⟨LY,H⟩ | ⟨LY,H⟩
 ·refine Ct (dt LY)<|Sw<|Rg hN ?_
  cases H
  exact Good.ret (fU (.refl _) (dF.refl _) (by kernel_rfl) rfl)
 refine Cf (df LY)<|Sw<|Rg hN ?_
 rcases (ak H).symm with ⟨LZ,H⟩ | ⟨LZ,H⟩
 ·refine Ct (nq LZ)<|Sw<|Rg hN ?_
  cases H
  exact Good.ret (fU (.refl _) (dF.refl _) (by kernel_rfl) rfl)
 refine Cf (dE LZ)<|Sw<|Sw<|Good.cut (fun st=>∃ n':Nat,n'≤k∧∃ (x2:ByteArray) (x25:Bool) (x1000:ByteArray) (ah:List af) (ay:List (Nat × Nat)) (au:List Int) (x2000:Int) (aB:Int) (aJ:Bool) (aL:Int),Wk C st ⟨[(2,.w (S x2)),(4,.d (.ptr 1 0)),(25,.w (B x25))],[.cells [.v (S x1000),.v (.row (some 56) 5 (List.map (v56 1) ah)),.v (.row (some 79) 1 (List.map Cx ay)),.v (.row (some 3) 1 (List.map I au))],.cells [.v (I x2000),.v (I aB),.v (B aJ),.v (I aL)]]⟩∧fZ.j0 n' x2 x25 x1000 ah ay au aB aJ=some r) ?_ ?_
 ·rcases (ak H).symm with ⟨DK,H⟩ | ⟨DK,H⟩
  ·exact Rh hN [B false] (.cons (bf DK) .nil)<|⟨k,by omega,a2,false,aK,av,bu,aj,fH,eO,cZ,fI,Wo [(2,0),(4,0),(25,0)],H⟩
  rcases ak H with ⟨L6,H⟩ | ⟨L6,H⟩
  ·exact Rh hN [B true,B true] (.cons DK (.cons (bq L6) .nil))<|⟨k,by omega,a2,true,aK,av,bu,aj,fH,eO,cZ,fI,Wo [(2,0),(4,0),(25,0)],H⟩
  exact Rh hN [B true,B false] (.cons DK (.cons (bn L6) .nil))<|⟨k,by omega,a2,(eO == 17),aK,av,bu,aj,fH,eO,cZ,fI,Wo [(2,0),(4,0),(25,0)],H⟩
 clear H
 rintro st ⟨n',hn',x2,x25,x1000,ah,ay,au,x2000,aB,aJ,aL,W,H⟩
 rcases n' with _ | k
 ·cases H
 refine W.good ?_
 rw [fZ.j0] at H
 rcases ak H with ⟨DL,H⟩ | ⟨DL,H⟩
 ·refine Ct DL<|Sk<|Ct DL<|Sw<|Rg hN ?_
  cases H
  exact Good.ret (fU (.refl _) (dF.refl _) (by kernel_rfl) rfl)
 refine Cf (bf DL) ?_
 rcases ak H with ⟨L8,H⟩ | ⟨L8,H⟩
 ·refine Rh hN [B false] (.cons (eH L8) .nil)<|Good.cond false (by kernel_rfl)<|Sk<|Sw<|Rg hN ?_
  cases H
  exact Good.ret (fU (.refl _) (dF.refl _) (by kernel_rfl) rfl)
 obtain ⟨LW,agN,H⟩:=aF H
 refine Rh hN [B true,B LW] (.cons (ed (bf L8)) (.cons (jV.az agN).c .nil)) ?_
 rcases ak H with ⟨L9,H⟩ | ⟨L9,H⟩
 ·refine Ct L9<|Sw<|Rg hN ?_
  cases H
  exact Good.ret (fU (.refl _) (dF.refl _) (by kernel_rfl) rfl)
 refine Cf (bf L9)<|Sk<|Sw<|Rg hN ?_
 cases H
 exact Good.ret (fU (.refl _) (dF.refl _) (by kernel_rfl) rfl)
def pq.f (aK:ByteArray) (av:List af) (bu:List (Nat × Nat)) (aj:List Int) (fH:Int) (eO:Int) (cZ:Bool) (fI:Int) (a2:ByteArray) (a3:(Nat × Nat)):Option (List af × List (Nat × Nat) × List Int):=if (aj.length:Int) > 0 then (if 0≤(wrap64 ((aj.length:Int) - 1)) then (if (wrap64 ((aj.length:Int) - 1)) < (aj.length:Int) then (if 0≤(rd aj (wrap64 ((aj.length:Int) - 1))) then (if (rd aj (wrap64 ((aj.length:Int) - 1))) < (av.length:Int) then (if ((aa av (rd aj (wrap64 ((aj.length:Int) - 1)))).f4).length < 17592186044416 then ((some (av.set ((rd aj (wrap64 ((aj.length:Int) - 1))):Int).toNat (⟨(aa av (rd aj (wrap64 ((aj.length:Int) - 1)))).f0,(aa av (rd aj (wrap64 ((aj.length:Int) - 1)))).f1,(aa av (rd aj (wrap64 ((aj.length:Int) - 1)))).f2,(aa av (rd aj (wrap64 ((aj.length:Int) - 1)))).f3,(((aa av (rd aj (wrap64 ((aj.length:Int) - 1)))).f4)++[(av.length:Int)])⟩:af):List af)).bind fun DN=>(if cZ=true then (if aj.length < 17592186044416 then (if DN.length < 2199023255552 then (if bu.length < 8796093022208 then (some ((DN++[(⟨fH,eO,cZ,(⟨#[]⟩:ByteArray),([]:List Int)⟩:af)]),(bu++[a3]),(aj++[(av.length:Int)]))) else (none)) else (none)) else (none)) else (if DN.length < 2199023255552 then (if bu.length < 8796093022208 then (some ((DN++[(⟨fH,eO,cZ,a2,([]:List Int)⟩:af)]),(bu++[a3]),aj)) else (none)) else (none)))) else (none)) else (none)) else (none)) else (none)) else (none)) else (if cZ=true then (if aj.length < 17592186044416 then (if av.length < 2199023255552 then (if bu.length < 8796093022208 then (some ((av++[(⟨fH,eO,cZ,(⟨#[]⟩:ByteArray),([]:List Int)⟩:af)]),(bu++[a3]),(aj++[(av.length:Int)]))) else (none)) else (none)) else (none)) else (if av.length < 2199023255552 then (if bu.length < 8796093022208 then (some ((av++[(⟨fH,eO,cZ,a2,([]:List Int)⟩:af)]),(bu++[a3]),aj)) else (none)) else (none)))
theorem pq.az {aK:ByteArray} {av:List af} {bu:List (Nat × Nat)} {aj:List Int} {fH:Int} {eO:Int} {cZ:Bool} {fI:Int} {a2:ByteArray} {a3:(Nat × Nat)} {r:(List af × List (Nat × Nat) × List Int)} (H:pq.f aK av bu aj fH eO cZ fI a2 a3=some r):kI Tryz.prog 64 [.ptr 0 0,.v (.agg [I fH,I eO,B cZ,I fI]),.v (S a2),.v (Cx a3)] [[S aK,.row (some 56) 5 (List.map (v56 1) av),.row (some 79) 1 (List.map Cx bu),.row (some 3) 1 (List.map I aj)]] (.v (.aC [])) [[S aK,.row (some 56) 5 (List.map (v56 1) r.1),.row (some 79) 1 (List.map Cx r.2.1),.row (some 3) 1 (List.map I r.2.2)]]:=by
 refine qQ Tryz.func64 rfl (by kernel_rfl) (by kernel_rfl) fun C hN hL=>?_
 unfold pq.f at H
 refine Sw<|Rg hN<|Sw<|Rh hN [I (av.length:Int)] (.cons (aR (v56 1) av) .nil)<|Sw<|Sw<|Rh hN [I (aj.length:Int)] (.cons (aR I aj) .nil) ?_
 rcases (ak H).symm with ⟨Ma,H⟩ | ⟨Ma,H⟩
 ·refine Cf (df Ma)<|Sk<|Sw<|Rg hN<|Sw<|Sw<|Rg hN ?_
  rcases (ak H).symm with ⟨Mc,H⟩ | ⟨Mc,H⟩
  ·refine Cf (bf Mc)<|Rg hN<|Sw ?_
   obtain ⟨agO,H⟩:=ax H
   refine Rd hm hN (.i 0 (.q 1 [[4,3,2],[]] (.q 2 [[4,3],[]] (.q 3 [[4],[]] (.q 4 [[],[]] (.q 5 [[6],[]] (.e 6 (.e 7 (.i 8 (.i 9 (.e 10 .z))))))))))) [(0,some (.pt [S aK,.row none 5 (List.map (v56 0) av),.row none 1 (List.map Cx bu),.row none 1 (List.map I aj)])),(10,some (.pt [I fH,I eO,B cZ,S a2,.nil 3 1]))] (.cons (bV (aA (rfl:(V.shr (S aK))=S aK) (aA (aP (some 56) 5 (v56 1) (v56 0) av (v56.shr _)) (aA (aP (some 79) 1 Cx Cx bu (fun _=>rfl)) (aA (aP (some 3) 1 I I aj (fun _=>rfl)) (rfl:aZ []=[])))))) (.cons (bV (aA (rfl:(V.shr (I fH))=I fH) (aA (rfl:(V.shr (I eO))=I eO) (aA (rfl:(V.shr (B cZ))=B cZ) (aA (rfl:(V.shr (S a2))=S a2) (aA (rfl:(V.shr (.nil 3 1))=.nil 3 1) (rfl:aZ []=[]))))))) .nil)) [.kb true,.row (some 56) 5 (List.map (v56 1) (av++[(⟨fH,eO,cZ,a2,([]:List Int)⟩:af)]))] [] (.cons (dL (v56 1) av [(⟨fH,eO,cZ,a2,([]:List Int)⟩:af)] (.cons (.agg (.cons (.refl _) (.cons (.refl _) (.cons (.refl _) (.cons (.refl _) (.cons (.fP 3 1) .nil)))))) .nil)) (.cons (dZ (v56 1) agO) .nil)) .nil [] [] ?_
   obtain ⟨agP,H⟩:=ax H
   refine Rh hN [.kb true,.row (some 79) 1 (List.map Cx (bu++[a3]))] (.cons (dL Cx bu [a3] (.refl _)) (.cons (dZ Cx agP) .nil)) ?_
   cases H
   exact xJ (.refl _) (dF.refl _) (by kernel_rfl) rfl
  refine Ct Mc ?_
  obtain ⟨agQ,H⟩:=ax H
  refine Rh hN [.kb true,.row (some 3) 1 (List.map I (aj++[(av.length:Int)]))] (.cons (dL I aj [(av.length:Int)] (.refl _)) (.cons (dZ I agQ) .nil))<|Sw ?_
  obtain ⟨agR,H⟩:=ax H
  refine Rd hm hN (.i 0 (.q 1 [[4,3,2],[]] (.q 2 [[4,3],[]] (.q 3 [[4],[]] (.q 4 [[],[]] (.q 5 [[6],[]] (.e 6 (.e 7 (.i 8 (.i 9 (.e 10 .z))))))))))) [(0,some (.pt [S aK,.row none 5 (List.map (v56 0) av),.row none 1 (List.map Cx bu),.row none 1 (List.map I (aj++[(av.length:Int)]))])),(10,some (.pt [I fH,I eO,B cZ,S (⟨#[]⟩:ByteArray),.nil 3 1]))] (.cons (bV (aA (rfl:(V.shr (S aK))=S aK) (aA (aP (some 56) 5 (v56 1) (v56 0) av (v56.shr _)) (aA (aP (some 79) 1 Cx Cx bu (fun _=>rfl)) (aA (aP (some 3) 1 I I (aj++[(av.length:Int)]) (fun _=>rfl)) (rfl:aZ []=[])))))) (.cons (bV (aA (rfl:(V.shr (I fH))=I fH) (aA (rfl:(V.shr (I eO))=I eO) (aA (rfl:(V.shr (B cZ))=B cZ) (aA (rfl:(V.shr (S (⟨#[]⟩:ByteArray)))=S (⟨#[]⟩:ByteArray)) (aA (rfl:(V.shr (.nil 3 1))=.nil 3 1) (rfl:aZ []=[]))))))) .nil)) [.kb true,.row (some 56) 5 (List.map (v56 1) (av++[(⟨fH,eO,cZ,(⟨#[]⟩:ByteArray),([]:List Int)⟩:af)]))] [] (.cons (dL (v56 1) av [(⟨fH,eO,cZ,(⟨#[]⟩:ByteArray),([]:List Int)⟩:af)] (.cons (.agg (.cons (.refl _) (.cons (.refl _) (.cons (.refl _) (.cons (.refl _) (.cons (.fP 3 1) .nil)))))) .nil)) (.cons (dZ (v56 1) agR) .nil)) .nil [] [] ?_
  obtain ⟨agS,H⟩:=ax H
  refine Rh hN [.kb true,.row (some 79) 1 (List.map Cx (bu++[a3]))] (.cons (dL Cx bu [a3] (.refl _)) (.cons (dZ Cx agS) .nil)) ?_
  cases H
  exact xJ (.refl _) (dF.refl _) (by kernel_rfl) rfl
 refine Ct (dt Ma)<|Sw ?_
 obtain ⟨DR,H⟩:=ax H
 obtain ⟨Md,H⟩:=ax H
 refine Rd hm hN (.qs 12 0 (.q 12 [] .z)) [(0,some (.pt [S aK,.row none 5 (List.map (v56 0) av),.row none 1 (List.map Cx bu),.row none 1 (List.map I aj)]))] (.cons (bV (aA (rfl:(V.shr (S aK))=S aK) (aA (aP (some 56) 5 (v56 1) (v56 0) av (v56.shr _)) (aA (aP (some 79) 1 Cx Cx bu (fun _=>rfl)) (aA (aP (some 3) 1 I I aj (fun _=>rfl)) (rfl:aZ []=[])))))) .nil) [I (aj.length:Int),I (rd aj (wrap64 ((aj.length:Int) - 1)))] [I (aj.length:Int),I (rd aj (wrap64 ((aj.length:Int) - 1)))] (.cons (aR I aj) (.cons DR (.cons (eF I Md) (.cons (aG I (0:Int) DR Md) .nil)))) (.cons (aR I aj) (.cons DR (.cons (aG I (0:Int) DR Md) .nil))) [] [] ?_
 obtain ⟨jC,H⟩:=ax H
 obtain ⟨kL,H⟩:=ax H
 obtain ⟨Me,H⟩:=ax H
 replace H:=oH H
 refine Good.qp (n:=3) hm hN hL (.i 0 (.i 1 (.i 2 (.i 4 (.q 5 [[12,11,10,8,7,6],[]] (.q 6 [[12,11,10,8,7],[]] (.q 7 [[12,11,10,8],[]] (.q 8 [[12,11,10],[]] (.q 9 [[12,11,10],[]] (.q 10 [[12,11],[]] (.q 11 [[12],[]] (.q 12 [[],[]] (.q 13 [[14],[]] (.b 3 [.kb true,(v56 1) (aa av (rd aj (wrap64 ((aj.length:Int) - 1)))),.row (some 3) 1 (List.map I (((aa av (rd aj (wrap64 ((aj.length:Int) - 1)))).f4)++[(av.length:Int)])),dX ((v56 1) (aa av (rd aj (wrap64 ((aj.length:Int) - 1))))) 4 [.any],(v56 1) (⟨(aa av (rd aj (wrap64 ((aj.length:Int) - 1)))).f0,(aa av (rd aj (wrap64 ((aj.length:Int) - 1)))).f1,(aa av (rd aj (wrap64 ((aj.length:Int) - 1)))).f2,(aa av (rd aj (wrap64 ((aj.length:Int) - 1)))).f3,(((aa av (rd aj (wrap64 ((aj.length:Int) - 1)))).f4)++[(av.length:Int)])⟩:af),.row (some 56) 5 (List.map (v56 1) (av.set ((rd aj (wrap64 ((aj.length:Int) - 1))):Int).toNat (⟨(aa av (rd aj (wrap64 ((aj.length:Int) - 1)))).f0,(aa av (rd aj (wrap64 ((aj.length:Int) - 1)))).f1,(aa av (rd aj (wrap64 ((aj.length:Int) - 1)))).f2,(aa av (rd aj (wrap64 ((aj.length:Int) - 1)))).f3,(((aa av (rd aj (wrap64 ((aj.length:Int) - 1)))).f4)++[(av.length:Int)])⟩:af)))] [] (.e 14 (.e 15 (.e 16 (.e 17 (.e 18 .z))))) [] [] (.e 14 (.b 3 [.kb true,(v56 1) (aa av (rd aj (wrap64 ((aj.length:Int) - 1)))),.row (some 3) 1 (List.map I (((aa av (rd aj (wrap64 ((aj.length:Int) - 1)))).f4)++[(av.length:Int)])),dX ((v56 1) (aa av (rd aj (wrap64 ((aj.length:Int) - 1))))) 4 [.any],(v56 1) (⟨(aa av (rd aj (wrap64 ((aj.length:Int) - 1)))).f0,(aa av (rd aj (wrap64 ((aj.length:Int) - 1)))).f1,(aa av (rd aj (wrap64 ((aj.length:Int) - 1)))).f2,(aa av (rd aj (wrap64 ((aj.length:Int) - 1)))).f3,(((aa av (rd aj (wrap64 ((aj.length:Int) - 1)))).f4)++[(av.length:Int)])⟩:af),.row (some 56) 5 (List.map (v56 1) (av.set ((rd aj (wrap64 ((aj.length:Int) - 1))):Int).toNat (⟨(aa av (rd aj (wrap64 ((aj.length:Int) - 1)))).f0,(aa av (rd aj (wrap64 ((aj.length:Int) - 1)))).f1,(aa av (rd aj (wrap64 ((aj.length:Int) - 1)))).f2,(aa av (rd aj (wrap64 ((aj.length:Int) - 1)))).f3,(((aa av (rd aj (wrap64 ((aj.length:Int) - 1)))).f4)++[(av.length:Int)])⟩:af)))] [] (.e 15 (.e 16 (.e 17 (.e 18 .z)))) [.kb true,(v56 1) (aa av (rd aj (wrap64 ((aj.length:Int) - 1)))),.row (some 3) 1 (List.map I (((aa av (rd aj (wrap64 ((aj.length:Int) - 1)))).f4)++[(av.length:Int)])),dX ((v56 1) (aa av (rd aj (wrap64 ((aj.length:Int) - 1))))) 4 [.any],(v56 1) (⟨(aa av (rd aj (wrap64 ((aj.length:Int) - 1)))).f0,(aa av (rd aj (wrap64 ((aj.length:Int) - 1)))).f1,(aa av (rd aj (wrap64 ((aj.length:Int) - 1)))).f2,(aa av (rd aj (wrap64 ((aj.length:Int) - 1)))).f3,(((aa av (rd aj (wrap64 ((aj.length:Int) - 1)))).f4)++[(av.length:Int)])⟩:af),.row (some 56) 5 (List.map (v56 1) (av.set ((rd aj (wrap64 ((aj.length:Int) - 1))):Int).toNat (⟨(aa av (rd aj (wrap64 ((aj.length:Int) - 1)))).f0,(aa av (rd aj (wrap64 ((aj.length:Int) - 1)))).f1,(aa av (rd aj (wrap64 ((aj.length:Int) - 1)))).f2,(aa av (rd aj (wrap64 ((aj.length:Int) - 1)))).f3,(((aa av (rd aj (wrap64 ((aj.length:Int) - 1)))).f4)++[(av.length:Int)])⟩:af)))] [] (.e 15 (.e 3 (.e 16 (.e 17 (.e 18 .z))))))))))))))))))))) [(0,some (.pt [S aK,.row none 5 (List.map (v56 0) av),.row none 1 (List.map Cx bu),.row none 1 (List.map I aj)])),(8,none),(9,none)] (by kernel_rfl) (.cons (bV (aA (rfl:(V.shr (S aK))=S aK) (aA (aP (some 56) 5 (v56 1) (v56 0) av (v56.shr _)) (aA (aP (some 79) 1 Cx Cx bu (fun _=>rfl)) (aA (aP (some 3) 1 I I aj (fun _=>rfl)) (rfl:aZ []=[])))))) .nil) [(v56 1) (aa av (rd aj (wrap64 ((aj.length:Int) - 1))))] [(v56 0) (aa av (rd aj (wrap64 ((aj.length:Int) - 1))))] (.cons (.cons jC (.cons (eF (v56 1) kL) (.cons (aG (v56 1) z56 jC kL) (.cons (aG (v56 1) z56 jC kL) (.cons (dL I ((aa av (rd aj (wrap64 ((aj.length:Int) - 1)))).f4) [(av.length:Int)] (.refl _)) (.cons (dZ I Me) (.cons jC (.cons (sF (v56 1) (m:=((rd aj (wrap64 ((aj.length:Int) - 1))):Int).toNat) (X:=dX ((v56 1) (aa av (rd aj (wrap64 ((aj.length:Int) - 1))))) 4 [.any]) kL) (.cons (sG (v56 1) (X:=dX ((v56 1) (aa av (rd aj (wrap64 ((aj.length:Int) - 1))))) 4 [.any]) jC kL) (.cons (Fit.refl ((v56 1) (⟨(aa av (rd aj (wrap64 ((aj.length:Int) - 1)))).f0,(aa av (rd aj (wrap64 ((aj.length:Int) - 1)))).f1,(aa av (rd aj (wrap64 ((aj.length:Int) - 1)))).f2,(aa av (rd aj (wrap64 ((aj.length:Int) - 1)))).f3,(((aa av (rd aj (wrap64 ((aj.length:Int) - 1)))).f4)++[(av.length:Int)])⟩:af))) (.cons (setH (v56 1) (l:=av) (n:=((rd aj (wrap64 ((aj.length:Int) - 1))):Int).toNat) (x:=(⟨(aa av (rd aj (wrap64 ((aj.length:Int) - 1)))).f0,(aa av (rd aj (wrap64 ((aj.length:Int) - 1)))).f1,(aa av (rd aj (wrap64 ((aj.length:Int) - 1)))).f2,(aa av (rd aj (wrap64 ((aj.length:Int) - 1)))).f3,(((aa av (rd aj (wrap64 ((aj.length:Int) - 1)))).f4)++[(av.length:Int)])⟩:af)) (X:=dX ((v56 1) (aa av (rd aj (wrap64 ((aj.length:Int) - 1))))) 4 [.any])) .nil))))))))))) (.cons jC (.cons (aG (v56 0) z56 jC kL) .nil)) (.cons (.cons jC (.cons (eF (v56 1) kL) (.cons (aG (v56 1) z56 jC kL) (.cons (aG (v56 1) z56 jC kL) (.cons (dL I ((aa av (rd aj (wrap64 ((aj.length:Int) - 1)))).f4) [(av.length:Int)] (.refl _)) (.cons (dZ I Me) (.cons jC (.cons (sF (v56 1) (m:=((rd aj (wrap64 ((aj.length:Int) - 1))):Int).toNat) (X:=dX ((v56 1) (aa av (rd aj (wrap64 ((aj.length:Int) - 1))))) 4 [.any]) kL) (.cons (sG (v56 1) (X:=dX ((v56 1) (aa av (rd aj (wrap64 ((aj.length:Int) - 1))))) 4 [.any]) jC kL) (.cons (Fit.refl ((v56 1) (⟨(aa av (rd aj (wrap64 ((aj.length:Int) - 1)))).f0,(aa av (rd aj (wrap64 ((aj.length:Int) - 1)))).f1,(aa av (rd aj (wrap64 ((aj.length:Int) - 1)))).f2,(aa av (rd aj (wrap64 ((aj.length:Int) - 1)))).f3,(((aa av (rd aj (wrap64 ((aj.length:Int) - 1)))).f4)++[(av.length:Int)])⟩:af))) (.cons (setH (v56 1) (l:=av) (n:=((rd aj (wrap64 ((aj.length:Int) - 1))):Int).toNat) (x:=(⟨(aa av (rd aj (wrap64 ((aj.length:Int) - 1)))).f0,(aa av (rd aj (wrap64 ((aj.length:Int) - 1)))).f1,(aa av (rd aj (wrap64 ((aj.length:Int) - 1)))).f2,(aa av (rd aj (wrap64 ((aj.length:Int) - 1)))).f3,(((aa av (rd aj (wrap64 ((aj.length:Int) - 1)))).f4)++[(av.length:Int)])⟩:af)) (X:=dX ((v56 1) (aa av (rd aj (wrap64 ((aj.length:Int) - 1))))) 4 [.any])) .nil))))))))))) (.cons jC (.cons (aG (v56 0) z56 jC kL) .nil)) (.cons (.cons jC (.cons (eF (v56 1) kL) (.cons (aG (v56 1) z56 jC kL) (.cons (aG (v56 1) z56 jC kL) (.cons (dL I ((aa av (rd aj (wrap64 ((aj.length:Int) - 1)))).f4) [(av.length:Int)] (.refl _)) (.cons (dZ I Me) (.cons jC (.cons (sF (v56 1) (m:=((rd aj (wrap64 ((aj.length:Int) - 1))):Int).toNat) (X:=dX ((v56 1) (aa av (rd aj (wrap64 ((aj.length:Int) - 1))))) 4 [.any]) kL) (.cons (sG (v56 1) (X:=dX ((v56 1) (aa av (rd aj (wrap64 ((aj.length:Int) - 1))))) 4 [.any]) jC kL) (.cons (Fit.refl ((v56 1) (⟨(aa av (rd aj (wrap64 ((aj.length:Int) - 1)))).f0,(aa av (rd aj (wrap64 ((aj.length:Int) - 1)))).f1,(aa av (rd aj (wrap64 ((aj.length:Int) - 1)))).f2,(aa av (rd aj (wrap64 ((aj.length:Int) - 1)))).f3,(((aa av (rd aj (wrap64 ((aj.length:Int) - 1)))).f4)++[(av.length:Int)])⟩:af))) (.cons (setH (v56 1) (l:=av) (n:=((rd aj (wrap64 ((aj.length:Int) - 1))):Int).toNat) (x:=(⟨(aa av (rd aj (wrap64 ((aj.length:Int) - 1)))).f0,(aa av (rd aj (wrap64 ((aj.length:Int) - 1)))).f1,(aa av (rd aj (wrap64 ((aj.length:Int) - 1)))).f2,(aa av (rd aj (wrap64 ((aj.length:Int) - 1)))).f3,(((aa av (rd aj (wrap64 ((aj.length:Int) - 1)))).f4)++[(av.length:Int)])⟩:af)) (X:=dX ((v56 1) (aa av (rd aj (wrap64 ((aj.length:Int) - 1))))) 4 [.any])) .nil))))))))))) (.cons jC (.cons (aG (v56 0) z56 jC kL) .nil)) .nil))) [] [] (by kernel_rfl) (by kernel_rfl) [[],[],[]] [(0,0),(2,0),(3,0),(5,0),(8,0)] [(0,.d (.ptr 0 0)),(2,.w (S a2)),(3,.w (Cx a3)),(5,.d (.ptr 1 0)),(8,.w (I (av.length:Int)))] [.cells [.v (S aK),.v (.row (some 56) 5 (List.map (v56 1) (av.set ((rd aj (wrap64 ((aj.length:Int) - 1))):Int).toNat (⟨(aa av (rd aj (wrap64 ((aj.length:Int) - 1)))).f0,(aa av (rd aj (wrap64 ((aj.length:Int) - 1)))).f1,(aa av (rd aj (wrap64 ((aj.length:Int) - 1)))).f2,(aa av (rd aj (wrap64 ((aj.length:Int) - 1)))).f3,(((aa av (rd aj (wrap64 ((aj.length:Int) - 1)))).f4)++[(av.length:Int)])⟩:af)))),.v (.row (some 79) 1 (List.map Cx bu)),.v (.row (some 3) 1 (List.map I aj))],.cells [.v (I fH),.v (I eO),.v (B cZ),.v (I fI)]] (by kernel_rfl) (by kernel_rfl)<|Sw<|Rg hN<|Sw<|Sw<|Rg hN ?_
 rcases (ak H).symm with ⟨Mf,H⟩ | ⟨Mf,H⟩
 ·refine Cf (bf Mf)<|Rg hN<|Sw ?_
  obtain ⟨agT,H⟩:=ax H
  refine Rd hm hN (.i 0 (.q 1 [[4,3,2],[]] (.q 2 [[4,3],[]] (.q 3 [[4],[]] (.q 4 [[],[]] (.q 5 [[6],[]] (.e 6 (.e 7 (.i 8 (.i 9 (.e 10 .z))))))))))) [(0,some (.pt [S aK,.row none 5 (List.map (v56 0) (av.set ((rd aj (wrap64 ((aj.length:Int) - 1))):Int).toNat (⟨(aa av (rd aj (wrap64 ((aj.length:Int) - 1)))).f0,(aa av (rd aj (wrap64 ((aj.length:Int) - 1)))).f1,(aa av (rd aj (wrap64 ((aj.length:Int) - 1)))).f2,(aa av (rd aj (wrap64 ((aj.length:Int) - 1)))).f3,(((aa av (rd aj (wrap64 ((aj.length:Int) - 1)))).f4)++[(av.length:Int)])⟩:af))),.row none 1 (List.map Cx bu),.row none 1 (List.map I aj)])),(10,some (.pt [I fH,I eO,B cZ,S a2,.nil 3 1]))] (.cons (bV (aA (rfl:(V.shr (S aK))=S aK) (aA (aP (some 56) 5 (v56 1) (v56 0) (av.set ((rd aj (wrap64 ((aj.length:Int) - 1))):Int).toNat (⟨(aa av (rd aj (wrap64 ((aj.length:Int) - 1)))).f0,(aa av (rd aj (wrap64 ((aj.length:Int) - 1)))).f1,(aa av (rd aj (wrap64 ((aj.length:Int) - 1)))).f2,(aa av (rd aj (wrap64 ((aj.length:Int) - 1)))).f3,(((aa av (rd aj (wrap64 ((aj.length:Int) - 1)))).f4)++[(av.length:Int)])⟩:af)) (v56.shr _)) (aA (aP (some 79) 1 Cx Cx bu (fun _=>rfl)) (aA (aP (some 3) 1 I I aj (fun _=>rfl)) (rfl:aZ []=[])))))) (.cons (bV (aA (rfl:(V.shr (I fH))=I fH) (aA (rfl:(V.shr (I eO))=I eO) (aA (rfl:(V.shr (B cZ))=B cZ) (aA (rfl:(V.shr (S a2))=S a2) (aA (rfl:(V.shr (.nil 3 1))=.nil 3 1) (rfl:aZ []=[]))))))) .nil)) [.kb true,.row (some 56) 5 (List.map (v56 1) ((av.set ((rd aj (wrap64 ((aj.length:Int) - 1))):Int).toNat (⟨(aa av (rd aj (wrap64 ((aj.length:Int) - 1)))).f0,(aa av (rd aj (wrap64 ((aj.length:Int) - 1)))).f1,(aa av (rd aj (wrap64 ((aj.length:Int) - 1)))).f2,(aa av (rd aj (wrap64 ((aj.length:Int) - 1)))).f3,(((aa av (rd aj (wrap64 ((aj.length:Int) - 1)))).f4)++[(av.length:Int)])⟩:af))++[(⟨fH,eO,cZ,a2,([]:List Int)⟩:af)]))] [] (.cons (dL (v56 1) (av.set ((rd aj (wrap64 ((aj.length:Int) - 1))):Int).toNat (⟨(aa av (rd aj (wrap64 ((aj.length:Int) - 1)))).f0,(aa av (rd aj (wrap64 ((aj.length:Int) - 1)))).f1,(aa av (rd aj (wrap64 ((aj.length:Int) - 1)))).f2,(aa av (rd aj (wrap64 ((aj.length:Int) - 1)))).f3,(((aa av (rd aj (wrap64 ((aj.length:Int) - 1)))).f4)++[(av.length:Int)])⟩:af)) [(⟨fH,eO,cZ,a2,([]:List Int)⟩:af)] (.cons (.agg (.cons (.refl _) (.cons (.refl _) (.cons (.refl _) (.cons (.refl _) (.cons (.fP 3 1) .nil)))))) .nil)) (.cons (dZ (v56 1) agT) .nil)) .nil [] [] ?_
  obtain ⟨agU,H⟩:=ax H
  refine Rh hN [.kb true,.row (some 79) 1 (List.map Cx (bu++[a3]))] (.cons (dL Cx bu [a3] (.refl _)) (.cons (dZ Cx agU) .nil)) ?_
  cases H
  exact xJ (.refl _) (dF.refl _) (by kernel_rfl) rfl
 refine Ct Mf ?_
 obtain ⟨agV,H⟩:=ax H
 refine Rh hN [.kb true,.row (some 3) 1 (List.map I (aj++[(av.length:Int)]))] (.cons (dL I aj [(av.length:Int)] (.refl _)) (.cons (dZ I agV) .nil))<|Sw ?_
 obtain ⟨agW,H⟩:=ax H
 refine Rd hm hN (.i 0 (.q 1 [[4,3,2],[]] (.q 2 [[4,3],[]] (.q 3 [[4],[]] (.q 4 [[],[]] (.q 5 [[6],[]] (.e 6 (.e 7 (.i 8 (.i 9 (.e 10 .z))))))))))) [(0,some (.pt [S aK,.row none 5 (List.map (v56 0) (av.set ((rd aj (wrap64 ((aj.length:Int) - 1))):Int).toNat (⟨(aa av (rd aj (wrap64 ((aj.length:Int) - 1)))).f0,(aa av (rd aj (wrap64 ((aj.length:Int) - 1)))).f1,(aa av (rd aj (wrap64 ((aj.length:Int) - 1)))).f2,(aa av (rd aj (wrap64 ((aj.length:Int) - 1)))).f3,(((aa av (rd aj (wrap64 ((aj.length:Int) - 1)))).f4)++[(av.length:Int)])⟩:af))),.row none 1 (List.map Cx bu),.row none 1 (List.map I (aj++[(av.length:Int)]))])),(10,some (.pt [I fH,I eO,B cZ,S (⟨#[]⟩:ByteArray),.nil 3 1]))] (.cons (bV (aA (rfl:(V.shr (S aK))=S aK) (aA (aP (some 56) 5 (v56 1) (v56 0) (av.set ((rd aj (wrap64 ((aj.length:Int) - 1))):Int).toNat (⟨(aa av (rd aj (wrap64 ((aj.length:Int) - 1)))).f0,(aa av (rd aj (wrap64 ((aj.length:Int) - 1)))).f1,(aa av (rd aj (wrap64 ((aj.length:Int) - 1)))).f2,(aa av (rd aj (wrap64 ((aj.length:Int) - 1)))).f3,(((aa av (rd aj (wrap64 ((aj.length:Int) - 1)))).f4)++[(av.length:Int)])⟩:af)) (v56.shr _)) (aA (aP (some 79) 1 Cx Cx bu (fun _=>rfl)) (aA (aP (some 3) 1 I I (aj++[(av.length:Int)]) (fun _=>rfl)) (rfl:aZ []=[])))))) (.cons (bV (aA (rfl:(V.shr (I fH))=I fH) (aA (rfl:(V.shr (I eO))=I eO) (aA (rfl:(V.shr (B cZ))=B cZ) (aA (rfl:(V.shr (S (⟨#[]⟩:ByteArray)))=S (⟨#[]⟩:ByteArray)) (aA (rfl:(V.shr (.nil 3 1))=.nil 3 1) (rfl:aZ []=[]))))))) .nil)) [.kb true,.row (some 56) 5 (List.map (v56 1) ((av.set ((rd aj (wrap64 ((aj.length:Int) - 1))):Int).toNat (⟨(aa av (rd aj (wrap64 ((aj.length:Int) - 1)))).f0,(aa av (rd aj (wrap64 ((aj.length:Int) - 1)))).f1,(aa av (rd aj (wrap64 ((aj.length:Int) - 1)))).f2,(aa av (rd aj (wrap64 ((aj.length:Int) - 1)))).f3,(((aa av (rd aj (wrap64 ((aj.length:Int) - 1)))).f4)++[(av.length:Int)])⟩:af))++[(⟨fH,eO,cZ,(⟨#[]⟩:ByteArray),([]:List Int)⟩:af)]))] [] (.cons (dL (v56 1) (av.set ((rd aj (wrap64 ((aj.length:Int) - 1))):Int).toNat (⟨(aa av (rd aj (wrap64 ((aj.length:Int) - 1)))).f0,(aa av (rd aj (wrap64 ((aj.length:Int) - 1)))).f1,(aa av (rd aj (wrap64 ((aj.length:Int) - 1)))).f2,(aa av (rd aj (wrap64 ((aj.length:Int) - 1)))).f3,(((aa av (rd aj (wrap64 ((aj.length:Int) - 1)))).f4)++[(av.length:Int)])⟩:af)) [(⟨fH,eO,cZ,(⟨#[]⟩:ByteArray),([]:List Int)⟩:af)] (.cons (.agg (.cons (.refl _) (.cons (.refl _) (.cons (.refl _) (.cons (.refl _) (.cons (.fP 3 1) .nil)))))) .nil)) (.cons (dZ (v56 1) agW) .nil)) .nil [] [] ?_
 obtain ⟨agX,H⟩:=ax H
 refine Rh hN [.kb true,.row (some 79) 1 (List.map Cx (bu++[a3]))] (.cons (dL Cx bu [a3] (.refl _)) (.cons (dZ Cx agX) .nil)) ?_
 cases H
 exact xJ (.refl _) (dF.refl _) (by kernel_rfl) rfl
def pG.f (a0:Int) (a1:Int):Option ((Nat × Nat)):=if (mn a0 a1) < 0 then (some (0,0)) else (if (mx a0 a1) > 65552 then (some (0,0)) else ((qg.f (floatOfInt .f64 a0,floatOfInt .f64 a1)).bind fun Mg=>(some Mg)))
theorem pG.az {a0:Int} {a1:Int} {r:((Nat × Nat))} (H:pG.f a0 a1=some r):aW Tryz.prog 65 [I a0,I a1] (Cx r):=by
 refine Cg Tryz.func65 rfl fun C hN hL=>?_
 unfold pG.f at H
 refine Sw<|Rg hN<|Sw<|Sw ?_
 rcases ak H with ⟨Mh,H⟩ | ⟨Mh,H⟩
 ·refine Rh hN [B true] (.cons (dt Mh) .nil)<|Good.cond true (by kernel_rfl)<|Sw<|Rg hN ?_
  cases H
  exact Rt dR
 refine Rh hN [B false] (.cons (df Mh) .nil) ?_
 rcases ak H with ⟨Mi,H⟩ | ⟨Mi,H⟩
 ·refine Ct (dt Mi)<|Sw<|Rg hN ?_
  cases H
  exact Rt dR
 refine Cf (df Mi)<|Sk<|Sw ?_
 obtain ⟨Mg,agY,H⟩:=aF H
 refine Rh hN [Cx Mg] (.cons (qg.az agY).c .nil) ?_
 cases H
 exact Rt dR
def iO.l0:Nat→Int→ByteArray→List af→List (Nat × Nat)→List Int→Option (Bool × ByteArray × List af × List (Nat × Nat) × List Int)
 | 0,_,_,_,_,_=>none
 | k+1,x1,x1000,ah,ay,au=>if (au.length:Int) > 0 then ((oo.f x1000 ah ay au).bind fun Mj=>(if Mj=x1 then (if 0≤(wrap64 ((au.length:Int) - 1)) then (if (wrap64 ((au.length:Int) - 1))≤(au.length:Int) then (iO.l0 k x1 x1000 ah ay (au.take ((wrap64 ((au.length:Int) - 1)):Int).toNat)) else (none)) else (none)) else (some (((au.length:Int) == 0),x1000,ah,ay,au)))) else (some (((au.length:Int) == 0),x1000,ah,ay,au))
def iO.f (k:Nat) (aK:ByteArray) (av:List af) (bu:List (Nat × Nat)) (aj:List Int) (a1:Int):Option (Bool × ByteArray × List af × List (Nat × Nat) × List Int):=iO.l0 k a1 aK av bu aj
theorem iO.az {k:Nat} {aK:ByteArray} {av:List af} {bu:List (Nat × Nat)} {aj:List Int} {a1:Int} {r:(Bool × ByteArray × List af × List (Nat × Nat) × List Int)} (H:iO.f k aK av bu aj a1=some r):kI Tryz.prog 66 [.ptr 0 0,.v (I a1)] [[S aK,.row (some 56) 5 (List.map (v56 1) av),.row (some 79) 1 (List.map Cx bu),.row (some 3) 1 (List.map I aj)]] (.v (B r.1)) [[S r.2.1,.row (some 56) 5 (List.map (v56 1) r.2.2.1),.row (some 79) 1 (List.map Cx r.2.2.2.1),.row (some 3) 1 (List.map I r.2.2.2.2)]]:=by
 refine qQ Tryz.func66 rfl (by kernel_rfl) (by kernel_rfl) fun C hN hL=>?_
 unfold iO.f at H
 refine Sw<|Rg hN<|Sw<|Bl<|Good.dK (fun k' st=>∃ (x1:Int) (x1000:ByteArray) (ah:List af) (ay:List (Nat × Nat)) (au:List Int),k'≤k∧Wk C st ⟨[(0,.d (.ptr 0 0)),(1,.w (I x1))],[.cells [.v (S x1000),.v (.row (some 56) 5 (List.map (v56 1) ah)),.v (.row (some 79) 1 (List.map Cx ay)),.v (.row (some 3) 1 (List.map I au))]]⟩∧iO.l0 k' x1 x1000 ah ay au=some r) k ⟨a1,aK,av,bu,aj,Nat.le_refl _,Wo [(0,0),(1,0)],H⟩ fun k=>⟨fun st h=>(by obtain ⟨_,_,_,_,_,_,_,H⟩:=h;cases H),?_⟩
 clear H
 rintro st ⟨x1,x1000,ah,ay,au,hk,W,H⟩
 refine W.good ?_
 rw [iO.l0] at H
 refine Sw<|Sw ?_
 rcases (ak H).symm with ⟨Mk,H⟩ | ⟨Mk,H⟩
 ·refine Rh hN [I (au.length:Int),B false] (.cons (aR I au) (.cons (df Mk) .nil))<|Good.cond false (by kernel_rfl)<|Ex<|Sw<|Rh hN [I (au.length:Int)] (.cons (aR I au) .nil) ?_
  cases H
  exact Good.ret (fU (.refl _) (dF.refl _) (by kernel_rfl) rfl)
 obtain ⟨Mj,agZ,H⟩:=aF H
 refine Rh hN [I (au.length:Int),B true,I Mj,.aC [.agg [S x1000,.row (some 56) 5 (List.map (v56 1) ah),.row (some 79) 1 (List.map Cx ay),.row (some 3) 1 (List.map I au)]]] (.cons (aR I au) (.cons (dt Mk) (.cons (oo.az agZ).c .nil))) ?_
 rcases (ak H).symm with ⟨Ml,H⟩ | ⟨Ml,H⟩
 ·refine Cf (bn Ml)<|Ex<|Sw<|Rh hN [I (au.length:Int)] (.cons (aR I au) .nil) ?_
  cases H
  exact Good.ret (fU (.refl _) (dF.refl _) (by kernel_rfl) rfl)
 refine Ct (bq Ml)<|Sk<|Bl ?_
 obtain ⟨ag0,H⟩:=ax H
 obtain ⟨ag1,H⟩:=ax H
 exact Rd hm hN (.q 0 [[]] (.q 1 [[]] (.q 2 [[]] (.q 3 [[]] (.q 4 [[]] (.q 5 [[]] (.q 6 [[]] (.q 7 [[]] (.q 8 [[]] (.q 9 [[]] (.q 10 [[]] (.e 11 (.q 12 [[13]] (.q 13 [[]] (.e 14 .z))))))))))))))) [(0,some (.pt [S x1000,.row none 5 (List.map (v56 0) ah),.row none 1 (List.map Cx ay),.row none 1 (List.map I au)]))] (.cons (bV (aA (rfl:(V.shr (S x1000))=S x1000) (aA (aP (some 56) 5 (v56 1) (v56 0) ah (v56.shr _)) (aA (aP (some 79) 1 Cx Cx ay (fun _=>rfl)) (aA (aP (some 3) 1 I I au (fun _=>rfl)) (rfl:aZ []=[])))))) .nil) [I (au.length:Int),.row (some 3) 1 (List.map I (au.take ((wrap64 ((au.length:Int) - 1)):Int).toNat))] [I (au.length:Int)] (.cons (aR I au) (.cons ag0 (.cons (uI I ag1) (.cons (VF I (l:=au) (n:=((wrap64 ((au.length:Int) - 1)):Int).toNat)) .nil)))) (.cons (aR I au) .nil) [] []<|⟨k,by omega,x1,x1000,ah,ay,au.take ((wrap64 ((au.length:Int) - 1)):Int).toNat,by omega,Wo [(0,0),(1,0)],H⟩
def bK.fQ:Nat→Int→Int→ByteArray→List af→List (Nat × Nat)→List Int→Option (Int × Int × ByteArray × List af × List (Nat × Nat) × List Int)
 | 0,_,_,_,_,_,_=>none
 | k+1,x5,x8,x1000,ah,ay,au=>if x8=0 then (some (0,0,x1000,ah,ay,au)) else (some (x8,x5,x1000,ah,ay,au))
mutual
def bK.iy:Nat→Int→ByteArray→List af→List (Nat × Nat)→List Int→Option (Int × Int × ByteArray × List af × List (Nat × Nat) × List Int)
 | 0,_,_,_,_,_=>none
 | k+1,x5,x1000,ah,ay,au=>(oo.f x1000 ah ay au).bind fun wh=>((jE.f x1000 x5 (wrap64 (wh - x5))).bind fun kM=>((bz.f k kM).bind fun bP=>(if bP.2.2.2.2.2=0 then (if bP.2.2.2.1 > (wrap64 ((wrap64 (wh - x5)) - bP.2.2.2.2.1)) then (bK.fQ k x5 5 x1000 ah ay au) else ((jE.f x1000 (wrap64 (x5+bP.2.2.2.2.1)) bP.2.2.2.1).bind fun DT=>((fZ.f k x1000 ah ay au bP.1 bP.2.1 bP.2.2.1 bP.2.2.2.1 DT).bind fun eZ=>(if eZ.1=0 then ((pG.f x5 (wrap64 ((wrap64 (x5+bP.2.2.2.2.1))+bP.2.2.2.1))).bind fun Mm=>((pq.f eZ.2.1 eZ.2.2.1 eZ.2.2.2.1 eZ.2.2.2.2 bP.1 bP.2.1 bP.2.2.1 bP.2.2.2.1 DT Mm).bind fun lQ=>(if bP.2.2.1=true then (bK.j3 k (wrap64 (x5+bP.2.2.2.2.1)) eZ.1 eZ.2.1 lQ.1 lQ.2.1 lQ.2.2) else (bK.j3 k (wrap64 ((wrap64 (x5+bP.2.2.2.2.1))+bP.2.2.2.1)) eZ.1 eZ.2.1 lQ.1 lQ.2.1 lQ.2.2)))) else (bK.fQ k x5 eZ.1 eZ.2.1 eZ.2.2.1 eZ.2.2.2.1 eZ.2.2.2.2))))) else (bK.fQ k x5 bP.2.2.2.2.2 x1000 ah ay au))))
def bK.j3:Nat→Int→Int→ByteArray→List af→List (Nat × Nat)→List Int→Option (Int × Int × ByteArray × List af × List (Nat × Nat) × List Int)
 | 0,_,_,_,_,_,_=>none
 | k+1,x5,x8,x1000,ah,ay,au=>(iO.f k x1000 ah ay au x5).bind fun gB=>(if gB.1=true then (if x5 < (gB.2.1.size:Int) then (some (5,x5,gB.2.1,gB.2.2.1,gB.2.2.2.1,gB.2.2.2.2)) else (if x8=0 then (some (0,0,gB.2.1,gB.2.2.1,gB.2.2.2.1,gB.2.2.2.2)) else (some (x8,x5,gB.2.1,gB.2.2.1,gB.2.2.2.1,gB.2.2.2.2)))) else (bK.iy k x5 gB.2.1 gB.2.2.1 gB.2.2.2.1 gB.2.2.2.2))
end
def bK.j0:Nat→Int→Int→ByteArray→List af→List (Nat × Nat)→List Int→Option (Int × Int × ByteArray × List af × List (Nat × Nat) × List Int)
 | 0,_,_,_,_,_,_=>none
 | k+1,x5,x8,x1000,ah,ay,au=>(iO.f k x1000 ah ay au x5).bind fun gW=>(if gW.1=true then (if x5 < (gW.2.1.size:Int) then (some (5,x5,gW.2.1,gW.2.2.1,gW.2.2.2.1,gW.2.2.2.2)) else (if x8=0 then (some (0,0,gW.2.1,gW.2.2.1,gW.2.2.2.1,gW.2.2.2.2)) else (some (x8,x5,gW.2.1,gW.2.2.1,gW.2.2.2.1,gW.2.2.2.2)))) else (bK.iy k x5 gW.2.1 gW.2.2.1 gW.2.2.2.1 gW.2.2.2.2))
def bK.f (k:Nat) (aK:ByteArray) (av:List af) (bu:List (Nat × Nat)) (aj:List Int):Option (Int × Int × ByteArray × List af × List (Nat × Nat) × List Int):=if aK.toList=([]:List UInt8) then (bK.fQ k 0 3 aK av bu aj) else (if (aK.size:Int) > 65535 then (bK.fQ k 0 4 aK av bu aj) else ((oo.f aK av bu aj).bind fun DU=>((jE.f aK 0 (wrap64 (DU - 0))).bind fun Mo=>((bz.f k Mo).bind fun bN=>(if bN.2.2.2.2.2=0 then (if bN.2.2.2.1 > (wrap64 ((wrap64 (DU - 0)) - bN.2.2.2.2.1)) then (bK.fQ k 0 5 aK av bu aj) else ((jE.f aK (wrap64 (0+bN.2.2.2.2.1)) bN.2.2.2.1).bind fun DV=>((fZ.f k aK av bu aj bN.1 bN.2.1 bN.2.2.1 bN.2.2.2.1 DV).bind fun fe=>(if fe.1=0 then ((pG.f 0 (wrap64 ((wrap64 (0+bN.2.2.2.2.1))+bN.2.2.2.1))).bind fun Mq=>((pq.f fe.2.1 fe.2.2.1 fe.2.2.2.1 fe.2.2.2.2 bN.1 bN.2.1 bN.2.2.1 bN.2.2.2.1 DV Mq).bind fun lS=>(if bN.2.2.1=true then (bK.j0 k (wrap64 (0+bN.2.2.2.2.1)) fe.1 fe.2.1 lS.1 lS.2.1 lS.2.2) else (bK.j0 k (wrap64 ((wrap64 (0+bN.2.2.2.2.1))+bN.2.2.2.1)) fe.1 fe.2.1 lS.1 lS.2.1 lS.2.2)))) else (bK.fQ k 0 fe.1 fe.2.1 fe.2.2.1 fe.2.2.2.1 fe.2.2.2.2))))) else (bK.fQ k 0 bN.2.2.2.2.2 aK av bu aj))))))
theorem bK.az {k:Nat} {aK:ByteArray} {av:List af} {bu:List (Nat × Nat)} {aj:List Int} {r:(Int × Int × ByteArray × List af × List (Nat × Nat) × List Int)} (H:bK.f k aK av bu aj=some r):kI Tryz.prog 41 [.ptr 0 0] [[S aK,.row (some 56) 5 (List.map (v56 1) av),.row (some 79) 1 (List.map Cx bu),.row (some 3) 1 (List.map I aj)]] (.v (.agg [I r.1,I r.2.1])) [[S r.2.2.1,.row (some 56) 5 (List.map (v56 1) r.2.2.2.1),.row (some 79) 1 (List.map Cx r.2.2.2.2.1),.row (some 3) 1 (List.map I r.2.2.2.2.2)]]:=by
 refine qQ Tryz.func41 rfl (by kernel_rfl) (by kernel_rfl) fun C hN hL=>?_
 unfold bK.f at H
 refine Sw<|Rg hN<|Good.scope [(0,_,fun n st=>∃ (x5:Int) (x8:Int) (x1000:ByteArray) (ah:List af) (ay:List (Nat × Nat)) (au:List Int) (x2000:Int) (aB:Int) (x3000:Int) (bW:Int) (bE:Bool) (bQ:Int),n≤k∧Wk C st ⟨[(2,.d (.ptr 1 0)),(5,.w (I x5)),(8,.w (I x8))],[.cells [.v (S x1000),.v (.row (some 56) 5 (List.map (v56 1) ah)),.v (.row (some 79) 1 (List.map Cx ay)),.v (.row (some 3) 1 (List.map I au))],.cells [.v (I x2000),.v (I aB)],.cells [.v (I x3000),.v (I bW),.v (B bE),.v (I bQ)]]⟩∧bK.fQ n x5 x8 x1000 ah ay au=some r),(1,_,fun n st=>∃ (x5:Int) (x1000:ByteArray) (ah:List af) (ay:List (Nat × Nat)) (au:List Int) (x2000:Int) (aB:Int) (x3000:Int) (bW:Int) (bE:Bool) (bQ:Int),n≤k∧Wk C st ⟨[(0,.d (.ptr 0 0)),(2,.d (.ptr 1 0)),(3,.d (.ptr 2 0)),(5,.w (I x5))],[.cells [.v (S x1000),.v (.row (some 56) 5 (List.map (v56 1) ah)),.v (.row (some 79) 1 (List.map Cx ay)),.v (.row (some 3) 1 (List.map I au))],.cells [.v (I x2000),.v (I aB)],.cells [.v (I x3000),.v (I bW),.v (B bE),.v (I bQ)]]⟩∧bK.iy n x5 x1000 ah ay au=some r)] (.cons rfl (.cons rfl .nil)) ?_ (.cons ?_ (.cons ?_ .nil))
 ·refine Sw<|Rg hN<|Sw<|Rg hN<|Sw<|Rg hN<|Sw<|Rg hN<|Sw<|Sw<|Ri hN [] (.cons (fA (rfl:aK.toList=aK.toList) (eU ([]:List UInt8))) .nil) [(13,.bool (aK.toList == ([]:List UInt8)))] ?_
  rcases ak H with ⟨Mr,H⟩ | ⟨Mr,H⟩
  ·exact Ct (bq Mr)<|Sw<|Rg hN<|Good.goto<|⟨k,(by first | trivial | omega),0,3,aK,av,bu,aj,0,0,0,0,false,0,by omega,Wo [(2,0),(5,0),(8,0)],H⟩
  refine Cf (bn Mr)<|Sk<|Sw<|Sw<|Rg hN ?_
  rcases ak H with ⟨Ms,H⟩ | ⟨Ms,H⟩
  ·exact Ct (dt Ms)<|Sw<|Rg hN<|Good.goto<|⟨k,(by first | trivial | omega),0,4,aK,av,bu,aj,0,0,0,0,false,0,by omega,Wo [(2,0),(5,0),(8,0)],H⟩
  refine Cf (df Ms)<|Sk<|Sw<|Good.label<|Sw ?_
  obtain ⟨DU,ag2,H⟩:=aF H
  refine Rh hN [I DU,.aC [.agg [S aK,.row (some 56) 5 (List.map (v56 1) av),.row (some 79) 1 (List.map Cx bu),.row (some 3) 1 (List.map I aj)]]] (.cons (oo.az ag2).c .nil)<|Sw ?_
  obtain ⟨Mo,ag3,H⟩:=aF H
  obtain ⟨bN,ag4,H⟩:=aF H
  refine Rh hN [S Mo,.aC [.agg [I bN.1,I bN.2.1,B bN.2.2.1,I bN.2.2.2.1],I bN.2.2.2.2.1,I bN.2.2.2.2.2]] (.cons (jE.az ag3).c (.cons (bz.az ag4).c .nil))<|Sw<|Sw<|Rg hN ?_
  rcases (ak H).symm with ⟨Mt,H⟩ | ⟨Mt,H⟩
  ·exact Ct (nq Mt)<|Good.goto<|⟨k,(by first | trivial | omega),0,bN.2.2.2.2.2,aK,av,bu,aj,0,0,bN.1,bN.2.1,bN.2.2.1,bN.2.2.2.1,by omega,Wo [(2,0),(5,0),(8,0)],H⟩
  refine Cf (dE Mt)<|Sk<|Sw<|Sw<|Rg hN ?_
  rcases ak H with ⟨Mv,H⟩ | ⟨Mv,H⟩
  ·exact Ct (dt Mv)<|Sw<|Rg hN<|Good.goto<|⟨k,(by first | trivial | omega),0,5,aK,av,bu,aj,0,0,bN.1,bN.2.1,bN.2.2.1,bN.2.2.2.1,by omega,Wo [(2,0),(5,0),(8,0)],H⟩
  refine Cf (df Mv)<|Sk<|Sw ?_
  obtain ⟨DV,ag5,H⟩:=aF H
  refine Rd hm hN (.qs 9 0 (.e 9 (.q 10 [] .z))) [(0,some (.pt [S aK,.row none 5 (List.map (v56 0) av),.row none 1 (List.map Cx bu),.row none 1 (List.map I aj)])),(3,some (.pt [I bN.1,I bN.2.1,B bN.2.2.1,I bN.2.2.2.1])),(4,none),(5,none)] (.cons (bV (aA (rfl:(V.shr (S aK))=S aK) (aA (aP (some 56) 5 (v56 1) (v56 0) av (v56.shr _)) (aA (aP (some 79) 1 Cx Cx bu (fun _=>rfl)) (aA (aP (some 3) 1 I I aj (fun _=>rfl)) (rfl:aZ []=[])))))) (.cons (bV (aA (rfl:(V.shr (I bN.1))=I bN.1) (aA (rfl:(V.shr (I bN.2.1))=I bN.2.1) (aA (rfl:(V.shr (B bN.2.2.1))=B bN.2.2.1) (aA (rfl:(V.shr (I bN.2.2.2.1))=I bN.2.2.2.1) (rfl:aZ []=[])))))) .nil)) [S DV] [] (.cons (jE.az ag5).c .nil) .nil [] []<|Sw<|Sw ?_
  obtain ⟨fe,ag6,H⟩:=aF H
  refine Rh hN [I fe.1,.aC [.agg [S fe.2.1,.row (some 56) 5 (List.map (v56 1) fe.2.2.1),.row (some 79) 1 (List.map Cx fe.2.2.2.1),.row (some 3) 1 (List.map I fe.2.2.2.2)]]] (.cons (fZ.az ag6).c .nil)<|Sw<|Rg hN ?_
  rcases (ak H).symm with ⟨Mw,H⟩ | ⟨Mw,H⟩
  ·exact Ct (nq Mw)<|Good.goto<|⟨k,(by first | trivial | omega),0,fe.1,fe.2.1,fe.2.2.1,fe.2.2.2.1,fe.2.2.2.2,0,0,bN.1,bN.2.1,bN.2.2.1,bN.2.2.2.1,by omega,Wo [(2,0),(5,0),(8,0)],H⟩
  refine Cf (dE Mw)<|Sk<|Sw ?_
  obtain ⟨Mq,ag7,H⟩:=aF H
  obtain ⟨lS,ag8,H⟩:=aF H
  refine Rd hm hN (.q 0 [[]] (.q 1 [[]] (.q 2 [[]] (.q 3 [[10]] (.q 4 [[10,9,6]] (.q 5 [[10,9,6]] (.q 6 [[10,9]] (.q 7 [[10,9,8]] (.q 8 [[10,9]] (.q 9 [[10]] (.e 10 (.e 11 .z)))))))))))) [(0,some (.pt [S fe.2.1,.row none 5 (List.map (v56 0) fe.2.2.1),.row none 1 (List.map Cx fe.2.2.2.1),.row none 1 (List.map I fe.2.2.2.2)])),(3,some (.pt [I bN.1,I bN.2.1,B bN.2.2.1,I bN.2.2.2.1])),(4,none),(5,none),(7,none)] (.cons (bV (aA (rfl:(V.shr (S fe.2.1))=S fe.2.1) (aA (aP (some 56) 5 (v56 1) (v56 0) fe.2.2.1 (v56.shr _)) (aA (aP (some 79) 1 Cx Cx fe.2.2.2.1 (fun _=>rfl)) (aA (aP (some 3) 1 I I fe.2.2.2.2 (fun _=>rfl)) (rfl:aZ []=[])))))) (.cons (bV (aA (rfl:(V.shr (I bN.1))=I bN.1) (aA (rfl:(V.shr (I bN.2.1))=I bN.2.1) (aA (rfl:(V.shr (B bN.2.2.1))=B bN.2.2.1) (aA (rfl:(V.shr (I bN.2.2.2.1))=I bN.2.2.2.1) (rfl:aZ []=[])))))) .nil)) [Cx Mq,.aC [],.aC [.agg [S fe.2.1,.row (some 56) 5 (List.map (v56 1) lS.1),.row (some 79) 1 (List.map Cx lS.2.1),.row (some 3) 1 (List.map I lS.2.2)]]] [] (.cons (pG.az ag7).c (.cons (pq.az ag8).c .nil)) .nil [] []<|Sw<|Rg hN<|Sw<|Sw<|Rg hN<|Good.cut (fun st=>∃ n':Nat,n'≤k∧∃ (x5:Int) (x8:Int) (x1000:ByteArray) (ah:List af) (ay:List (Nat × Nat)) (au:List Int) (x2000:Int) (aB:Int) (x3000:Int) (bW:Int) (bE:Bool) (bQ:Int),Wk C st ⟨[(0,.d (.ptr 0 0)),(2,.d (.ptr 1 0)),(3,.d (.ptr 2 0)),(5,.w (I x5)),(8,.w (I x8))],[.cells [.v (S x1000),.v (.row (some 56) 5 (List.map (v56 1) ah)),.v (.row (some 79) 1 (List.map Cx ay)),.v (.row (some 3) 1 (List.map I au))],.cells [.v (I x2000),.v (I aB)],.cells [.v (I x3000),.v (I bW),.v (B bE),.v (I bQ)]]⟩∧bK.j0 n' x5 x8 x1000 ah ay au=some r) ?_ ?_
  ·rcases ak H with ⟨Mx,H⟩ | ⟨Mx,H⟩
   ·exact Cf (eH Mx)<|Sk<|⟨k,by omega,wrap64 (0+bN.2.2.2.2.1),fe.1,fe.2.1,lS.1,lS.2.1,lS.2.2,0,0,bN.1,bN.2.1,bN.2.2.1,bN.2.2.2.1,Wo [(0,0),(2,0),(3,0),(5,0),(8,0)],H⟩
   exact Ct (ed (bf Mx))<|Rg hN<|⟨k,by omega,wrap64 ((wrap64 (0+bN.2.2.2.2.1))+bN.2.2.2.1),fe.1,fe.2.1,lS.1,lS.2.1,lS.2.2,0,0,bN.1,bN.2.1,bN.2.2.1,bN.2.2.2.1,Wo [(0,0),(2,0),(3,0),(5,0),(8,0)],H⟩
  clear H
  rintro st ⟨n',hn',x5,x8,x1000,ah,ay,au,x2000,aB,x3000,bW,bE,bQ,W,H⟩
  rcases n' with _ | k
  ·cases H
  refine W.good ?_
  rw [bK.j0] at H
  refine Sw<|Sw ?_
  obtain ⟨gW,ag9,H⟩:=aF H
  refine Rh hN [B gW.1,.aC [.agg [S gW.2.1,.row (some 56) 5 (List.map (v56 1) gW.2.2.1),.row (some 79) 1 (List.map Cx gW.2.2.2.1),.row (some 3) 1 (List.map I gW.2.2.2.2)]]] (.cons (iO.az ag9).c .nil) ?_
  rcases (ak H).symm with ⟨MB,H⟩ | ⟨MB,H⟩
  ·exact Ct (ed (bf MB))<|Good.goto<|⟨k,(by first | trivial | omega),x5,gW.2.1,gW.2.2.1,gW.2.2.2.1,gW.2.2.2.2,x2000,aB,x3000,bW,bE,bQ,by omega,Wo [(0,0),(2,0),(3,0),(5,0)],H⟩
  refine Cf (eH MB)<|Sk<|Sw<|Sw<|Rg hN ?_
  rcases ak H with ⟨MC,H⟩ | ⟨MC,H⟩
  ·refine Ct (dt MC)<|Rg hN<|Sw<|Good.label<|Sw<|Sw<|Rg hN<|Cf (bn (show ¬ ((5:Int)=0) by decide))<|Sk<|Sw<|Rg hN ?_
   cases H
   exact Good.ret (fU (.refl _) (dF.refl _) (by kernel_rfl) rfl)
  refine Cf (df MC)<|Sk<|Sw<|Good.label<|Sw<|Sw<|Rg hN ?_
  rcases ak H with ⟨ME,H⟩ | ⟨ME,H⟩
  ·refine Ct (bq ME)<|Sw<|Rg hN ?_
   cases H
   exact Good.ret (fU (.refl _) (dF.refl _) (by kernel_rfl) rfl)
  refine Cf (bn ME)<|Sk<|Sw<|Rg hN ?_
  cases H
  exact Good.ret (fU (.refl _) (dF.refl _) (by kernel_rfl) rfl)
 ·clear H
  rintro n st ⟨x5,x8,x1000,ah,ay,au,x2000,aB,x3000,bW,bE,bQ,hn,W,H⟩
  rcases n with _ | k
  ·cases H
  refine W.good ?_
  rw [bK.fQ] at H
  refine Sw<|Sk<|Sw<|Sw<|Rg hN ?_
  rcases ak H with ⟨MF,H⟩ | ⟨MF,H⟩
  ·refine Ct (bq MF)<|Sw<|Rg hN ?_
   cases H
   exact Good.ret (fU (.refl _) (dF.refl _) (by kernel_rfl) rfl)
  refine Cf (bn MF)<|Sk<|Sw<|Rg hN ?_
  cases H
  exact Good.ret (fU (.refl _) (dF.refl _) (by kernel_rfl) rfl)
 ·clear H
  rintro n st ⟨x5,x1000,ah,ay,au,x2000,aB,x3000,bW,bE,bQ,hn,W,H⟩
  rcases n with _ | k
  ·cases H
  refine W.good ?_
  rw [bK.iy] at H
  refine Sw<|Sk<|Sw ?_
  obtain ⟨wh,aha,H⟩:=aF H
  refine Rh hN [I wh,.aC [.agg [S x1000,.row (some 56) 5 (List.map (v56 1) ah),.row (some 79) 1 (List.map Cx ay),.row (some 3) 1 (List.map I au)]]] (.cons (oo.az aha).c .nil)<|Sw ?_
  obtain ⟨kM,ahb,H⟩:=aF H
  obtain ⟨bP,ahc,H⟩:=aF H
  refine Rh hN [S kM,.aC [.agg [I bP.1,I bP.2.1,B bP.2.2.1,I bP.2.2.2.1],I bP.2.2.2.2.1,I bP.2.2.2.2.2]] (.cons (jE.az ahb).c (.cons (bz.az ahc).c .nil))<|Sw<|Sw<|Rg hN ?_
  rcases (ak H).symm with ⟨MG,H⟩ | ⟨MG,H⟩
  ·exact Ct (nq MG)<|Good.goto<|⟨k,(by first | trivial | omega),x5,bP.2.2.2.2.2,x1000,ah,ay,au,x2000,aB,bP.1,bP.2.1,bP.2.2.1,bP.2.2.2.1,by omega,Wo [(2,0),(5,0),(8,0)],H⟩
  refine Cf (dE MG)<|Sk<|Sw<|Sw<|Rg hN ?_
  rcases ak H with ⟨MH,H⟩ | ⟨MH,H⟩
  ·exact Ct (dt MH)<|Sw<|Rg hN<|Good.goto<|⟨k,(by first | trivial | omega),x5,5,x1000,ah,ay,au,x2000,aB,bP.1,bP.2.1,bP.2.2.1,bP.2.2.2.1,by omega,Wo [(2,0),(5,0),(8,0)],H⟩
  refine Cf (df MH)<|Sk<|Sw ?_
  obtain ⟨DT,ahd,H⟩:=aF H
  refine Rd hm hN (.qs 9 0 (.e 9 (.q 10 [] .z))) [(0,some (.pt [S x1000,.row none 5 (List.map (v56 0) ah),.row none 1 (List.map Cx ay),.row none 1 (List.map I au)])),(3,some (.pt [I bP.1,I bP.2.1,B bP.2.2.1,I bP.2.2.2.1])),(4,none),(5,none)] (.cons (bV (aA (rfl:(V.shr (S x1000))=S x1000) (aA (aP (some 56) 5 (v56 1) (v56 0) ah (v56.shr _)) (aA (aP (some 79) 1 Cx Cx ay (fun _=>rfl)) (aA (aP (some 3) 1 I I au (fun _=>rfl)) (rfl:aZ []=[])))))) (.cons (bV (aA (rfl:(V.shr (I bP.1))=I bP.1) (aA (rfl:(V.shr (I bP.2.1))=I bP.2.1) (aA (rfl:(V.shr (B bP.2.2.1))=B bP.2.2.1) (aA (rfl:(V.shr (I bP.2.2.2.1))=I bP.2.2.2.1) (rfl:aZ []=[])))))) .nil)) [S DT] [] (.cons (jE.az ahd).c .nil) .nil [] []<|Sw<|Sw ?_
  obtain ⟨eZ,ahe,H⟩:=aF H
  refine Rh hN [I eZ.1,.aC [.agg [S eZ.2.1,.row (some 56) 5 (List.map (v56 1) eZ.2.2.1),.row (some 79) 1 (List.map Cx eZ.2.2.2.1),.row (some 3) 1 (List.map I eZ.2.2.2.2)]]] (.cons (fZ.az ahe).c .nil)<|Sw<|Rg hN ?_
  rcases (ak H).symm with ⟨MI,H⟩ | ⟨MI,H⟩
  ·exact Ct (nq MI)<|Good.goto<|⟨k,(by first | trivial | omega),x5,eZ.1,eZ.2.1,eZ.2.2.1,eZ.2.2.2.1,eZ.2.2.2.2,x2000,aB,bP.1,bP.2.1,bP.2.2.1,bP.2.2.2.1,by omega,Wo [(2,0),(5,0),(8,0)],H⟩
  refine Cf (dE MI)<|Sk<|Sw ?_
  obtain ⟨Mm,ahf,H⟩:=aF H
  obtain ⟨lQ,ahg,H⟩:=aF H
  refine Rd hm hN (.q 0 [[]] (.q 1 [[]] (.q 2 [[]] (.q 3 [[10]] (.q 4 [[10,9,6]] (.q 5 [[10,9,6]] (.q 6 [[10,9]] (.q 7 [[10,9,8]] (.q 8 [[10,9]] (.q 9 [[10]] (.e 10 (.e 11 .z)))))))))))) [(0,some (.pt [S eZ.2.1,.row none 5 (List.map (v56 0) eZ.2.2.1),.row none 1 (List.map Cx eZ.2.2.2.1),.row none 1 (List.map I eZ.2.2.2.2)])),(3,some (.pt [I bP.1,I bP.2.1,B bP.2.2.1,I bP.2.2.2.1])),(4,none),(5,none),(7,none)] (.cons (bV (aA (rfl:(V.shr (S eZ.2.1))=S eZ.2.1) (aA (aP (some 56) 5 (v56 1) (v56 0) eZ.2.2.1 (v56.shr _)) (aA (aP (some 79) 1 Cx Cx eZ.2.2.2.1 (fun _=>rfl)) (aA (aP (some 3) 1 I I eZ.2.2.2.2 (fun _=>rfl)) (rfl:aZ []=[])))))) (.cons (bV (aA (rfl:(V.shr (I bP.1))=I bP.1) (aA (rfl:(V.shr (I bP.2.1))=I bP.2.1) (aA (rfl:(V.shr (B bP.2.2.1))=B bP.2.2.1) (aA (rfl:(V.shr (I bP.2.2.2.1))=I bP.2.2.2.1) (rfl:aZ []=[])))))) .nil)) [Cx Mm,.aC [],.aC [.agg [S eZ.2.1,.row (some 56) 5 (List.map (v56 1) lQ.1),.row (some 79) 1 (List.map Cx lQ.2.1),.row (some 3) 1 (List.map I lQ.2.2)]]] [] (.cons (pG.az ahf).c (.cons (pq.az ahg).c .nil)) .nil [] []<|Sw<|Rg hN<|Sw<|Sw<|Rg hN<|Good.cut (fun st=>∃ n':Nat,n'≤k∧∃ (x5:Int) (x8:Int) (x1000:ByteArray) (ah:List af) (ay:List (Nat × Nat)) (au:List Int) (x2000:Int) (aB:Int) (x3000:Int) (bW:Int) (bE:Bool) (bQ:Int),Wk C st ⟨[(0,.d (.ptr 0 0)),(2,.d (.ptr 1 0)),(3,.d (.ptr 2 0)),(5,.w (I x5)),(8,.w (I x8))],[.cells [.v (S x1000),.v (.row (some 56) 5 (List.map (v56 1) ah)),.v (.row (some 79) 1 (List.map Cx ay)),.v (.row (some 3) 1 (List.map I au))],.cells [.v (I x2000),.v (I aB)],.cells [.v (I x3000),.v (I bW),.v (B bE),.v (I bQ)]]⟩∧bK.j3 n' x5 x8 x1000 ah ay au=some r) ?_ ?_
  ·rcases ak H with ⟨MJ,H⟩ | ⟨MJ,H⟩
   ·exact Cf (eH MJ)<|Sk<|⟨k,by omega,wrap64 (x5+bP.2.2.2.2.1),eZ.1,eZ.2.1,lQ.1,lQ.2.1,lQ.2.2,x2000,aB,bP.1,bP.2.1,bP.2.2.1,bP.2.2.2.1,Wo [(0,0),(2,0),(3,0),(5,0),(8,0)],H⟩
   exact Ct (ed (bf MJ))<|Rg hN<|⟨k,by omega,wrap64 ((wrap64 (x5+bP.2.2.2.2.1))+bP.2.2.2.1),eZ.1,eZ.2.1,lQ.1,lQ.2.1,lQ.2.2,x2000,aB,bP.1,bP.2.1,bP.2.2.1,bP.2.2.2.1,Wo [(0,0),(2,0),(3,0),(5,0),(8,0)],H⟩
  clear H
  rintro st ⟨n',hn',x5,x8,x1000,ah,ay,au,x2000,aB,x3000,bW,bE,bQ,W,H⟩
  rcases n' with _ | k
  ·cases H
  refine W.good ?_
  rw [bK.j3] at H
  refine Sw<|Sw ?_
  obtain ⟨gB,ahh,H⟩:=aF H
  refine Rh hN [B gB.1,.aC [.agg [S gB.2.1,.row (some 56) 5 (List.map (v56 1) gB.2.2.1),.row (some 79) 1 (List.map Cx gB.2.2.2.1),.row (some 3) 1 (List.map I gB.2.2.2.2)]]] (.cons (iO.az ahh).c .nil) ?_
  rcases (ak H).symm with ⟨MK,H⟩ | ⟨MK,H⟩
  ·exact Ct (ed (bf MK))<|Good.goto<|⟨k,(by first | trivial | omega),x5,gB.2.1,gB.2.2.1,gB.2.2.2.1,gB.2.2.2.2,x2000,aB,x3000,bW,bE,bQ,by omega,Wo [(0,0),(2,0),(3,0),(5,0)],H⟩
  refine Cf (eH MK)<|Sk<|Sw<|Sw<|Rg hN ?_
  rcases ak H with ⟨ML,H⟩ | ⟨ML,H⟩
  ·refine Ct (dt ML)<|Rg hN<|Sw<|Good.label<|Sw<|Sw<|Rg hN<|Cf (bn (show ¬ ((5:Int)=0) by decide))<|Sk<|Sw<|Rg hN ?_
   cases H
   exact Good.ret (fU (.refl _) (dF.refl _) (by kernel_rfl) rfl)
  refine Cf (df ML)<|Sk<|Sw<|Good.label<|Sw<|Sw<|Rg hN ?_
  rcases ak H with ⟨MM,H⟩ | ⟨MM,H⟩
  ·refine Ct (bq MM)<|Sw<|Rg hN ?_
   cases H
   exact Good.ret (fU (.refl _) (dF.refl _) (by kernel_rfl) rfl)
  refine Cf (bn MM)<|Sk<|Sw<|Rg hN ?_
  cases H
  exact Good.ret (fU (.refl _) (dF.refl _) (by kernel_rfl) rfl)
def kF.f (k:Nat) (a0:ByteArray):Option (List af × Int × Int):=(bK.f k a0 ([]:List af) ([]:List (Nat × Nat)) ([]:List Int)).bind fun ky=>(if ky.1=0 then (some (ky.2.2.2.1,0,0)) else (some (([]:List af),ky.1,ky.2.1)))
theorem kF.az {k:Nat} {a0:ByteArray} {r:(List af × Int × Int)} (H:kF.f k a0=some r):aW Tryz.prog 18 [S a0] (.aC [.row (some 56) 5 (List.map (v56 1) r.1),.agg [I r.2.1,I r.2.2]]):=by
 refine Cg Tryz.func18 rfl fun C hN hL=>?_
 unfold kF.f at H
 refine Sw<|Rg hN<|Sw<|Rg hN<|Sw<|Sw ?_
 obtain ⟨ky,ahi,H⟩:=aF H
 refine Rh hN [.agg [I ky.1,I ky.2.1],.aC [.agg [S ky.2.2.1,.row (some 56) 5 (List.map (v56 1) ky.2.2.2.1),.row (some 79) 1 (List.map Cx ky.2.2.2.2.1),.row (some 3) 1 (List.map I ky.2.2.2.2.2)]]] (.cons (kI.n (bK.az ahi) (.cons (.refl _) .nil) (.cons (.cons (.refl _) (.cons (.fP 56 5) (.cons (.fP 79 1) (.cons (.fP 3 1) .nil)))) .nil)) .nil)<|Sw<|Rg hN ?_
 rcases (ak H).symm with ⟨MN,H⟩ | ⟨MN,H⟩
 ·refine Ct (nq MN)<|Sw<|Rd hm hN (.q 0 [[]] (.q 1 [[]] (.e 2 .z))) [(3,some (.pt [I 0,I 0])),(5,some (.pt [I ky.1,I ky.2.1]))] (.cons (bV (aA (rfl:(V.shr (I 0))=I 0) (aA (rfl:(V.shr (I 0))=I 0) (rfl:aZ []=[])))) (.cons (bV (aA (rfl:(V.shr (I ky.1))=I ky.1) (aA (rfl:(V.shr (I ky.2.1))=I ky.2.1) (rfl:aZ []=[])))) .nil)) [] [] .nil .nil [] [] ?_
  cases H
  exact Good.ret (eY (u:=.aC [.nil 56 5,.agg [I ky.1,I ky.2.1]]) (.aC (.cons (.fP 56 5) (.cons (.refl _) .nil))) (by kernel_rfl))
 refine Cf (dE MN)<|Sk<|Sw<|Rg hN ?_
 cases H
 exact Rt dR
def iK.l0:Nat→ByteArray→List ByteArray→Int→Int→Int→Option (List ByteArray × Int × Int)
 | 0,_,_,_,_,_=>none
 | k+1,x0,x2,x4,x1000,ah=>if x4 < (x0.size:Int) then (if 0≤x4 then (if x4≤(x0.size:Int) then ((bz.f k (x0.extract (x4:Int).toNat x0.size)).bind fun kN=>(if kN.2.2.2.2.2=0 then (if kN.2.2.2.1 > (wrap64 ((wrap64 ((x0.size:Int) - x4)) - kN.2.2.2.2.1)) then (some (([]:List ByteArray),5,x4)) else ((jE.f x0 x4 (wrap64 (kN.2.2.2.2.1+kN.2.2.2.1))).bind fun wm=>(if x2.length < 8796093022208 then (iK.l0 k x0 (x2++[wm]) (wrap64 (x4+(wrap64 (kN.2.2.2.2.1+kN.2.2.2.1)))) x1000 ah) else (none)))) else (some (([]:List ByteArray),kN.2.2.2.2.2,x4)))) else (none)) else (none)) else (some (x2,x1000,ah))
def iK.f (k:Nat) (a0:ByteArray):Option (List ByteArray × Int × Int):=if (a0.size:Int) > 65535 then (some (([]:List ByteArray),4,0)) else (iK.l0 k a0 ([]:List ByteArray) 0 0 0)
theorem iK.az {k:Nat} {a0:ByteArray} {r:(List ByteArray × Int × Int)} (H:iK.f k a0=some r):aW Tryz.prog 28 [S a0] (.aC [.row (some 9) 1 (List.map S r.1),.agg [I r.2.1,I r.2.2]]):=by
 refine Cg Tryz.func28 rfl fun C hN hL=>?_
 unfold iK.f at H
 refine Sw<|Rg hN<|Sw<|Sw<|Rg hN ?_
 rcases ak H with ⟨MO,H⟩ | ⟨MO,H⟩
 ·refine Ct (dt MO)<|Sw<|Rg hN ?_
  cases H
  exact Good.ret (eY (u:=.aC [.nil 9 1,.agg [I 4,I 0]]) (.aC (.cons (.fP 9 1) (.cons (.refl _) .nil))) (by kernel_rfl))
 refine Cf (df MO)<|Sk<|Sw<|Sw<|Rg hN<|Bl<|Good.dK (fun k' st=>∃ (x0:ByteArray) (x2:List ByteArray) (x4:Int) (x1000:Int) (ah:Int),k'≤k∧Wk C st ⟨[(0,.w (S x0)),(2,.w (.row (some 9) 1 (List.map S x2))),(3,.d (.ptr 0 0)),(4,.w (I x4))],[.cells [.v (I x1000),.v (I ah)]]⟩∧iK.l0 k' x0 x2 x4 x1000 ah=some r) k ⟨a0,([]:List ByteArray),0,0,0,Nat.le_refl _,Wo [(0,0),(2,1),(3,0),(4,0)],H⟩ fun k=>⟨fun st h=>(by obtain ⟨_,_,_,_,_,_,_,H⟩:=h;cases H),?_⟩
 clear H
 rintro st ⟨x0,x2,x4,x1000,ah,hk,W,H⟩
 refine W.good ?_
 rw [iK.l0] at H
 refine Sw<|Sw<|Rg hN ?_
 rcases (ak H).symm with ⟨MP,H⟩ | ⟨MP,H⟩
 ·refine Cf (df MP)<|Ex<|Sw<|Rd hm hN (.q 0 [[]] (.q 1 [[]] (.q 2 [[]] (.e 3 .z)))) [(2,some (.row none 1 (List.map S x2))),(3,some (.pt [I x1000,I ah]))] (.cons (aP (some 9) 1 S S x2 (fun _=>rfl)) (.cons (bV (aA (rfl:(V.shr (I x1000))=I x1000) (aA (rfl:(V.shr (I ah))=I ah) (rfl:aZ []=[])))) .nil)) [] [] .nil .nil [] [] ?_
  cases H
  exact Rt dR
 refine Ct (dt MP)<|Sk<|Bl<|Sw ?_
 obtain ⟨ahj,H⟩:=ax H
 obtain ⟨ahk,H⟩:=ax H
 obtain ⟨kN,ahl,H⟩:=aF H
 refine Rh hN [.aC [.agg [I kN.1,I kN.2.1,B kN.2.2.1,I kN.2.2.2.1],I kN.2.2.2.2.1,I kN.2.2.2.2.2]] (.cons ahj (.cons ahk (.cons (bz.az ahl).c .nil)))<|Sw<|Bl<|Sw<|Rg hN ?_
 rcases (ak H).symm with ⟨MQ,H⟩ | ⟨MQ,H⟩
 ·refine Ct (nq MQ)<|Sw<|Rg hN ?_
  cases H
  exact Good.ret (eY (u:=.aC [.nil 9 1,.agg [I kN.2.2.2.2.2,I x4]]) (.aC (.cons (.fP 9 1) (.cons (.refl _) .nil))) (by kernel_rfl))
 refine Cf (dE MQ)<|Sw<|Rg hN ?_
 rcases ak H with ⟨MR,H⟩ | ⟨MR,H⟩
 ·refine Ct (dt MR)<|Sw<|Rg hN ?_
  cases H
  exact Good.ret (eY (u:=.aC [.nil 9 1,.agg [I 5,I x4]]) (.aC (.cons (.fP 9 1) (.cons (.refl _) .nil))) (by kernel_rfl))
 refine Cf (df MR)<|Sk<|Sw ?_
 obtain ⟨wm,ahm,H⟩:=aF H
 obtain ⟨ahn,H⟩:=ax H
 exact Rh hN [S wm,.kb true,.row (some 9) 1 (List.map S (x2++[wm]))] (.cons (jE.az ahm).c (.cons (dL S x2 [wm] (.refl _)) (.cons (dZ S ahn) .nil)))<|Rg hN<|⟨k,by omega,x0,(x2++[wm]),wrap64 (x4+(wrap64 (kN.2.2.2.2.1+kN.2.2.2.1))),x1000,ah,by omega,Wk.mq hL 1 [(0,0),(2,0),(3,0),(4,0)] (by kernel_rfl) (by kernel_rfl) (by kernel_rfl),H⟩
def gN.l0:Nat→List ByteArray→List (List af)→Int→Int→Option (List (List af) × Bool)
 | 0,_,_,_,_=>none
 | k+1,x4,x6,x20,bI=>if bI < x20 then (if 0≤bI then (if bI < (x4.length:Int) then ((kF.f k (gI ByteArray.empty x4 bI)).bind fun oM=>(if oM.2.1=0 then (if x6.length < 5864062014805 then (gN.l0 k x4 (x6++[oM.1]) x20 (wrap64 (bI+1))) else (none)) else (some (([]:List (List af)),false)))) else (none)) else (none)) else (some (x6,true))
def gN.f (k:Nat) (a0:ByteArray):Option (List (List af) × Bool):=(iK.f k a0).bind fun lT=>(if lT.2.1=0 then (gN.l0 k lT.1 ([]:List (List af)) (lT.1.length:Int) 0) else (some (([]:List (List af)),false)))
theorem gN.az {k:Nat} {a0:ByteArray} {r:(List (List af) × Bool)} (H:gN.f k a0=some r):aW Tryz.prog 11 [S a0] (.aC [.row (some 38) 1 (List.map (aQ 0) r.1),B r.2]):=by
 refine Cg Tryz.func11 rfl fun C hN hL=>?_
 unfold gN.f at H
 refine Sw<|Rg hN<|Sw ?_
 obtain ⟨lT,aho,H⟩:=aF H
 refine Rh hN [.aC [.row (some 9) 1 (List.map S lT.1),.agg [I lT.2.1,I lT.2.2]]] (.cons (iK.az aho).c .nil)<|Sw<|Sw<|Rg hN ?_
 rcases (ak H).symm with ⟨MS,H⟩ | ⟨MS,H⟩
 ·refine Ct (nq MS)<|Sw<|Rg hN ?_
  cases H
  exact Good.ret (eY (u:=.aC [.nil 38 1,B false]) (.aC (.cons (.fP 38 1) (.cons (.refl _) .nil))) (by kernel_rfl))
 refine Cf (dE MS)<|Sk<|Sw<|Rg hN<|Sw<|Sw<|Rh hN [I (lT.1.length:Int)] (.cons (aR S lT.1) .nil)<|Bl<|Good.dK (fun k' st=>∃ (x4:List ByteArray) (x6:List (List af)) (x20:Int) (bI:Int) (x1000:Int) (ah:Int),k'≤k∧Wk C st ⟨[(4,.w (.row (some 9) 1 (List.map S x4))),(6,.w (.row (some 38) 1 (List.map (aQ 0) x6))),(19,.al (.top (.t 4))),(20,.w (I x20)),(21,.w (I bI))],[.cells [.v (I x1000),.v (I ah)]]⟩∧gN.l0 k' x4 x6 x20 bI=some r) k ⟨lT.1,([]:List (List af)),(lT.1.length:Int),0,lT.2.1,lT.2.2,Nat.le_refl _,Wo [(4,0),(6,1),(19,0),(20,0),(21,0)],H⟩ fun k=>⟨fun st h=>(by obtain ⟨_,_,_,_,_,_,_,_,H⟩:=h;cases H),?_⟩
 clear H
 rintro st ⟨x4,x6,x20,bI,x1000,ah,hk,W,H⟩
 refine W.good ?_
 rw [gN.l0] at H
 refine Sw<|Rg hN<|Sw ?_
 rcases (ak H).symm with ⟨MU,H⟩ | ⟨MU,H⟩
 ·refine Cf (df MU)<|Ex<|Sw<|Rg hN ?_
  cases H
  exact Rt dR
 refine Ct (dt MU)<|Sk<|Sw<|Bl<|Sw ?_
 obtain ⟨Xl,H⟩:=ax H
 obtain ⟨Xm,H⟩:=ax H
 refine Rh hN [S (gI ByteArray.empty x4 bI)] (.cons Xl (.cons (eF S Xm) (.cons (aG S ByteArray.empty Xl Xm) .nil)))<|Sw ?_
 obtain ⟨oM,ahp,H⟩:=aF H
 refine Rh hN [.aC [.row (some 56) 5 (List.map (v56 1) oM.1),.agg [I oM.2.1,I oM.2.2]]] (.cons (kF.az ahp).c .nil)<|Sw<|Sw<|Rg hN ?_
 rcases (ak H).symm with ⟨MV,H⟩ | ⟨MV,H⟩
 ·refine Ct (nq MV)<|Sw<|Rg hN ?_
  cases H
  exact Good.ret (eY (u:=.aC [.nil 38 1,B false]) (.aC (.cons (.fP 38 1) (.cons (.refl _) .nil))) (by kernel_rfl))
 refine Cf (dE MV)<|Sk ?_
 obtain ⟨ahq,H⟩:=ax H
 exact Rh hN [.row none 5 (List.map (v56 0) oM.1),.kb true,.row (some 38) 1 (List.map (aQ 0) (x6++[oM.1]))] (.cons (aP (some 56) 5 (v56 1) (v56 0) oM.1 (v56.shr _)) (.cons (dL (aQ 0) x6 [oM.1] (.refl _)) (.cons (dZ (aQ 0) ahq) .nil)))<|Rg hN<|⟨k,by omega,x4,(x6++[oM.1]),x20,wrap64 (bI+1),x1000,ah,by omega,Wk.mq hL 1 [(4,0),(6,0),(19,0),(20,0),(21,0)] (by kernel_rfl) (by kernel_rfl) (by kernel_rfl),H⟩
def BJ (n:Int):List Int:=[n / 72057594037927936 % 256,n / 281474976710656 % 256,n / 1099511627776 % 256,n / 4294967296 % 256,n / 16777216 % 256,n / 65536 % 256,n / 256 % 256,n % 256]
def iZ.f (a0:Int) (a1:Int):Option ByteArray:=if a1 < 1 then some (⟨#[]⟩:ByteArray) else if a1 > 8 then some (⟨#[]⟩:ByteArray) else some (strOfNums ((BJ a0).drop (8 - a1.toNat)))
theorem iZ.cells (w:World) (x0 x1 x2 x3 x4 x5 x6 x7:Int) (i:Nat) (hi:i < 8) :
 (w.alloc (.cells #[.int .u8 x0,.int .u8 x1,.int .u8 x2,.int .u8 x3,.int .u8 x4,.int .u8 x5,.int .u8 x6,.int .u8 x7] 105)).cell? ⟨w.heap.size,i,none⟩=some (.int .u8 ([x0,x1,x2,x3,x4,x5,x6,x7].getD i 0)):=by
 rw [World.cell?_alloc_new]
 match i,hi with
 | 0,_=>rfl
 | 1,_=>rfl
 | 2,_=>rfl
 | 3,_=>rfl
 | 4,_=>rfl
 | 5,_=>rfl
 | 6,_=>rfl
 | 7,_=>rfl
theorem iZ.conv (w:World) (k:Nat) (hk:k < 8) (x0 x1 x2 x3 x4 x5 x6 x7:Int) :
 (convert 76 9 (.slice (some ⟨w.heap.size,k,none⟩) (8 - k) (8 - k))).run Tryz.prog (w.alloc (.cells #[.int .u8 x0,.int .u8 x1,.int .u8 x2,.int .u8 x3,.int .u8 x4,.int .u8 x5,.int .u8 x6,.int .u8 x7] 105))=.ok (.string (strOfNums ([x0,x1,x2,x3,x4,x5,x6,x7].drop k))) (w.alloc (.cells #[.int .u8 x0,.int .u8 x1,.int .u8 x2,.int .u8 x3,.int .u8 x4,.int .u8 x5,.int .u8 x6,.int .u8 x7] 105)):=by
 refine run_convert_bytes_arg _ 76 5 Tryz.underlying76 Tryz.underlying5 w.heap.size k (8 - k) (8 - k) _ (by simp) (fun i hi=>?_) 9 Tryz.underlying9
 have:=iZ.cells w x0 x1 x2 x3 x4 x5 x6 x7 (k+i) (by omega)
 rw [this]
 simp [List.getD_eq_getElem?_getD]
set_option maxHeartbeats 8000000 in
set_option maxRecDepth 100000 in
theorem iZ.calls (a0:Int) (a1:Int) (r:ByteArray) (w:World) (h:iZ.f a0 a1=some r) :
 Calls Tryz.prog 29 #[.int .u64 a0,.int .i64 a1] w fun e w'=>e=.returned (.string r)∧Below w.heap.size w w':=by
 by_cases h1:a1 < 1
 ·have hr:r=(⟨#[]⟩:ByteArray):=by unfold iZ.f at h;rw [if_pos h1] at h;exact (Option.some.inj h).symm
  subst hr
  clear h
  go_enter Tryz.func29,Tryz.ntmps29
  go_wp2
  go_ret
  exact ⟨rfl,Below.refl _ _⟩
 by_cases h2:8 < a1
 ·have hr:r=(⟨#[]⟩:ByteArray):=by unfold iZ.f at h;rw [if_neg h1,if_pos h2] at h;exact (Option.some.inj h).symm
  subst hr
  clear h
  go_enter Tryz.func29,Tryz.ntmps29
  go_wp2
  go_ret
  exact ⟨rfl,Below.refl _ _⟩
 have hr:r=strOfNums ((BJ a0).drop (8 - a1.toNat)):=by unfold iZ.f at h;rw [if_neg h1,if_neg (by omega)] at h;exact (Option.some.inj h).symm
 subst hr
 clear h
 rcases (by omega:a1=1∨a1=2∨a1=3∨a1=4∨a1=5∨a1=6∨a1=7∨a1=8) with rfl | rfl | rfl | rfl | rfl | rfl | rfl | rfl
 ·have hcv:=iZ.conv w 7 (by omega)
  clear h1 h2
  go_enter Tryz.func29,Tryz.ntmps29
  go_wp2
  refine wp_loop_rounds 9 ?_
  repeat any_goals (rw [rounds_succ];go_wp2)
  go_ret
  exact ⟨rfl,by repeat (first | exact Below.refl _ _ | apply qW)⟩
 ·have hcv:=iZ.conv w 6 (by omega)
  clear h1 h2
  go_enter Tryz.func29,Tryz.ntmps29
  go_wp2
  refine wp_loop_rounds 9 ?_
  repeat any_goals (rw [rounds_succ];go_wp2)
  go_ret
  exact ⟨rfl,by repeat (first | exact Below.refl _ _ | apply qW)⟩
 ·have hcv:=iZ.conv w 5 (by omega)
  clear h1 h2
  go_enter Tryz.func29,Tryz.ntmps29
  go_wp2
  refine wp_loop_rounds 9 ?_
  repeat any_goals (rw [rounds_succ];go_wp2)
  go_ret
  exact ⟨rfl,by repeat (first | exact Below.refl _ _ | apply qW)⟩
 ·have hcv:=iZ.conv w 4 (by omega)
  clear h1 h2
  go_enter Tryz.func29,Tryz.ntmps29
  go_wp2
  refine wp_loop_rounds 9 ?_
  repeat any_goals (rw [rounds_succ];go_wp2)
  go_ret
  exact ⟨rfl,by repeat (first | exact Below.refl _ _ | apply qW)⟩
 ·have hcv:=iZ.conv w 3 (by omega)
  clear h1 h2
  go_enter Tryz.func29,Tryz.ntmps29
  go_wp2
  refine wp_loop_rounds 9 ?_
  repeat any_goals (rw [rounds_succ];go_wp2)
  go_ret
  exact ⟨rfl,by repeat (first | exact Below.refl _ _ | apply qW)⟩
 ·have hcv:=iZ.conv w 2 (by omega)
  clear h1 h2
  go_enter Tryz.func29,Tryz.ntmps29
  go_wp2
  refine wp_loop_rounds 9 ?_
  repeat any_goals (rw [rounds_succ];go_wp2)
  go_ret
  exact ⟨rfl,by repeat (first | exact Below.refl _ _ | apply qW)⟩
 ·have hcv:=iZ.conv w 1 (by omega)
  clear h1 h2
  go_enter Tryz.func29,Tryz.ntmps29
  go_wp2
  refine wp_loop_rounds 9 ?_
  repeat any_goals (rw [rounds_succ];go_wp2)
  go_ret
  exact ⟨rfl,by repeat (first | exact Below.refl _ _ | apply qW)⟩
 ·have hcv:=iZ.conv w 0 (by omega)
  clear h1 h2
  go_enter Tryz.func29,Tryz.ntmps29
  go_wp2
  refine wp_loop_rounds 9 ?_
  repeat any_goals (rw [rounds_succ];go_wp2)
  go_ret
  exact ⟨rfl,by repeat (first | exact Below.refl _ _ | apply qW)⟩
theorem iZ.az {a0:Int} {a1:Int} {r:ByteArray} (H:iZ.f a0 a1=some r):aW Tryz.prog 29 [K .u64 a0,I a1] (S r) :=
 GZ Tryz.func29 rfl (by kernel_rfl) rfl fun p w ht=>iZ.calls a0 a1 r w H
def jR.l0:Nat→ByteArray→Option (ByteArray)
 | 0,_=>none
 | k+1,x3=>if (x3.size:Int) > 1 then ((qd.f x3).bind fun MW=>(if MW=true then (some x3) else (if 1≤(x3.size:Int) then (jR.l0 k (x3.extract 1 x3.size)) else (none)))) else (some x3)
def jR.f (k:Nat) (a0:Int):Option (ByteArray):=(iZ.f (IntKind.u64.wrap (a0)) 8).bind fun DW=>(jR.l0 k DW)
theorem jR.az {k:Nat} {a0:Int} {r:(ByteArray)} (H:jR.f k a0=some r):aW Tryz.prog 13 [I a0] (S r):=by
 refine Cg Tryz.func13 rfl fun C hN hL=>?_
 unfold jR.f at H
 refine Sw<|Rg hN<|Sw ?_
 obtain ⟨DW,ahr,H⟩:=aF H
 refine Rh hN [S DW] (.cons (iZ.az ahr).c .nil)<|Sw<|Bl<|Good.dK (fun k' st=>∃ (x3:ByteArray),k'≤k∧Wk C st ⟨[(3,.w (S x3))],[]⟩∧jR.l0 k' x3=some r) k ⟨DW,Nat.le_refl _,Wo [(3,0)],H⟩ fun k=>⟨fun st h=>(by obtain ⟨_,_,_,H⟩:=h;cases H),?_⟩
 clear H
 rintro st ⟨x3,hk,W,H⟩
 refine W.good ?_
 rw [jR.l0] at H
 refine Sw<|Sw ?_
 rcases (ak H).symm with ⟨MX,H⟩ | ⟨MX,H⟩
 ·refine Rh hN [B false] (.cons (df MX) .nil)<|Good.cond false (by kernel_rfl)<|Ex<|Sw<|Rg hN ?_
  cases H
  exact Rt dR
 obtain ⟨MW,ahs,H⟩:=aF H
 refine Rh hN [B true,B MW] (.cons (dt MX) (.cons (qd.az ahs).c .nil)) ?_
 rcases ak H with ⟨MZ,H⟩ | ⟨MZ,H⟩
 ·refine Cf (eH MZ)<|Ex<|Sw<|Rg hN ?_
  cases H
  exact Rt dR
 refine Ct (ed (bf MZ))<|Sk<|Bl ?_
 obtain ⟨aht,H⟩:=ax H
 exact Rh hN [] (.cons (show (0:Int)≤1 by decide) (.cons aht .nil))<|⟨k,by omega,x3.extract 1 x3.size,by omega,Wo [(3,0)],H⟩
def uS.f (l0:List Int):Option (List Int):=if ([]:List Int).length+l0.length < 17592186044416 then (some (([]:List Int)++l0)) else (none)
theorem uS.az {l0:List Int} {r:(List Int)} (H:uS.f l0=some r):aW Tryz.prog 53 [.row none 1 (List.map I l0)] (.row (some 3) 1 (List.map I r)):=by
 refine Cg Tryz.func53 rfl fun C hN hL=>?_
 unfold uS.f at H
 refine Sw<|Rg hN<|Sw<|Sw<|Good.adm 1 4 0 (List.map I l0) hN [] .nil (by kernel_rfl) (by kernel_rfl) (fun hes=>?_) ?_
 ·refine Good.cond true (by kernel_rfl)<|Sw<|Rg hN ?_
  obtain rfl:l0=[]:=List.map_eq_nil_iff.1 hes
  obtain ⟨_,H⟩:=ax H
  cases H
  exact Good.ret (eY (u:=.nil 3 1) (.fP 3 1) (by kernel_rfl))
 refine Good.cond false (by kernel_rfl)<|Sk<|Sw ?_
 obtain ⟨ahu,H⟩:=ax H
 refine Rh hN [.kb false,.row (some 3) 1 (List.map I (([]:List Int)++l0))] (.cons (dL I ([]:List Int) l0 (.refl _)) (.cons (yo I I ahu) .nil)) ?_
 cases H
 exact Rt dR
def kQ.l0:Nat→Int→Int→Int→Int→Int→Bool→ByteArray→List Int→Option (Int × Int × Bool × ByteArray × List Int)
 | 0,_,_,_,_,_,_,_,_=>none
 | k+1,x1,dI,bF,x1000,ah,ay,au,dO=>if bF < dI then (if 0≤bF then (if bF < (dO.length:Int) then (kQ.l0 k x1 dI (wrap64 (bF+1)) x1000 ah ay au (dO.set (bF:Int).toNat (wrap64 ((rd dO bF)+x1)))) else (none)) else (none)) else (some (x1000,ah,ay,au,dO))
def kQ.f (k:Nat) (aK:Int) (cu:Int) (bA:Bool) (bg:ByteArray) (iE:List Int) (a1:Int):Option (Int × Int × Bool × ByteArray × List Int):=(uS.f iE).bind fun rV=>(kQ.l0 k a1 (rV.length:Int) 0 aK cu bA bg rV)
theorem kQ.az {k:Nat} {aK:Int} {cu:Int} {bA:Bool} {bg:ByteArray} {iE:List Int} {a1:Int} {r:(Int × Int × Bool × ByteArray × List Int)} (H:kQ.f k aK cu bA bg iE a1=some r):aW Tryz.prog 31 [.agg [I aK,I cu,B bA,S bg,.row none 1 (List.map I iE)],I a1] (.agg [I r.1,I r.2.1,B r.2.2.1,S r.2.2.2.1,.row (some 3) 1 (List.map I r.2.2.2.2)]):=by
 refine Cg Tryz.func31 rfl fun C hN hL=>?_
 unfold kQ.f at H
 refine Sw<|Rg hN<|Sw ?_
 obtain ⟨rV,ahv,H⟩:=aF H
 refine Rh hN [.row (some 3) 1 (List.map I rV)] (.cons (uS.az ahv).c .nil)<|Sw<|Sw<|Rh hN [I (rV.length:Int)] (.cons (aR I rV) .nil)<|Bl<|Good.dK (fun k' st=>∃ (x1:Int) (dI:Int) (bF:Int) (x1000:Int) (ah:Int) (ay:Bool) (au:ByteArray) (dO:List Int) (x2000:Int) (aB:Int) (aJ:Bool) (aL:ByteArray),k'≤k∧Wk C st ⟨[(1,.w (I x1)),(2,.d (.ptr 0 0)),(4,.d (.ptr 1 0)),(12,.w (I dI)),(13,.w (I bF))],[.cells [.v (I x1000),.v (I ah),.v (B ay),.v (S au),.v (.row (some 3) 1 (List.map I dO))],.cells [.v (I x2000),.v (I aB),.v (B aJ),.v (S aL),.v (.nil 3 1)]]⟩∧kQ.l0 k' x1 dI bF x1000 ah ay au dO=some r) k ⟨a1,(rV.length:Int),0,aK,cu,bA,bg,rV,0,0,false,(⟨#[]⟩:ByteArray),Nat.le_refl _,Wo [(1,0),(2,0),(4,0),(12,0),(13,0)],H⟩ fun k=>⟨fun st h=>(by obtain ⟨_,_,_,_,_,_,_,_,_,_,_,_,_,_,H⟩:=h;cases H),?_⟩
 clear H
 rintro st ⟨x1,dI,bF,x1000,ah,ay,au,dO,x2000,aB,aJ,aL,hk,W,H⟩
 refine W.good ?_
 rw [kQ.l0] at H
 refine Sw<|Rg hN<|Sw ?_
 rcases (ak H).symm with ⟨M0,H⟩ | ⟨M0,H⟩
 ·refine Cf (df M0)<|Ex<|Sw<|Rg hN ?_
  cases H
  exact Rt dR
 refine Ct (dt M0)<|Sk<|Sw<|Bl<|Sw<|Rg hN ?_
 obtain ⟨DX,H⟩:=ax H
 obtain ⟨DY,H⟩:=ax H
 exact Rh hN [I (rd dO bF),I (rd dO bF),I (wrap64 ((rd dO bF)+x1)),.row (some 3) 1 (List.map I (dO.set (bF:Int).toNat (wrap64 ((rd dO bF)+x1))))] (.cons DX (.cons (eF I DY) (.cons (aG I (0:Int) DX DY) (.cons DX (.cons (eF I DY) (.cons (aG I (0:Int) DX DY) (.cons (Fit.refl (I (wrap64 ((rd dO bF)+x1)))) (.cons (Dr I (l:=dO) (n:=(bF:Int).toNat) (x:=wrap64 ((rd dO bF)+x1))) .nil))))))))<|Rg hN<|⟨k,by omega,x1,dI,wrap64 (bF+1),x1000,ah,ay,au,(dO.set (bF:Int).toNat (wrap64 ((rd dO bF)+x1))),x2000,aB,aJ,aL,by omega,Wo [(1,0),(2,0),(4,0),(12,0),(13,0)],H⟩
mutual
def fu.l0:Nat→List af→List (List af)→Int→Int→Option (List af)
 | 0,_,_,_,_=>none
 | k+1,x7,dS,bH,dm=>if dm < bH then (if 0≤dm then (if dm < (dS.length:Int) then (if ((bC dS dm).length:Int) > 0 then (if 0 < (x7.length:Int) then (if ((aa x7 0).f4).length < 17592186044416 then (fu.j1 k (x7.set (0:Int).toNat (⟨(aa x7 0).f0,(aa x7 0).f1,(aa x7 0).f2,(aa x7 0).f3,(((aa x7 0).f4)++[(x7.length:Int)])⟩:af)) (bC dS dm) (x7.length:Int) dS bH dm) else (none)) else (none)) else (fu.j1 k x7 (bC dS dm) (x7.length:Int) dS bH dm)) else (none)) else (none)) else (some x7)
def fu.j1:Nat→List af→List af→Int→List (List af)→Int→Int→Option (List af)
 | 0,_,_,_,_,_,_=>none
 | k+1,x7,x9,aX,dS,bH,dm=>fu.l1 k x7 aX dS bH dm x9 (x9.length:Int) 0
def fu.l1:Nat→List af→Int→List (List af)→Int→Int→List af→Int→Int→Option (List af)
 | 0,_,_,_,_,_,_,_,_=>none
 | k+1,x7,aX,dS,bH,dm,x38,x39,x40=>if x40 < x39 then (if 0≤x40 then (if x40 < (x38.length:Int) then ((kQ.f k ((aa x38 x40).f0) ((aa x38 x40).f1) ((aa x38 x40).f2) ((aa x38 x40).f3) ((aa x38 x40).f4) aX).bind fun iF=>(if x7.length < 2199023255552 then (fu.l1 k (x7++[(⟨iF.1,iF.2.1,iF.2.2.1,iF.2.2.2.1,iF.2.2.2.2⟩:af)]) aX dS bH dm x38 x39 (wrap64 (x40+1))) else (none))) else (none)) else (none)) else (fu.l0 k x7 dS bH (wrap64 (dm+1)))
end
def fu.f (k:Nat) (a0:Int) (a1:Int) (l2:List (List af)):Option (List af):=fu.l0 k ([(⟨a0,a1,true,(⟨#[]⟩:ByteArray),([]:List Int)⟩:af)]:List af) l2 (l2.length:Int) 0
theorem fu.az {k:Nat} {a0:Int} {a1:Int} {l2:List (List af)} {r:(List af)} (H:fu.f k a0 a1 l2=some r):aW Tryz.prog 14 [I a0,I a1,.row none 1 (List.map (aQ 0) l2)] (.row (some 56) 5 (List.map (v56 1) r)):=by
 refine Cg Tryz.func14 rfl fun C hN hL=>?_
 unfold fu.f at H
 refine Sw<|Rg hN<|Sw<|Rj hN [] (.cons (Dv (o:=some 56) (sz:=5) (n:=[.agg [I a0,I a1,B true,S (⟨#[]⟩:ByteArray),.row (some 3) 1 (List.map I ([]:List Int))]]) (.cons (.agg (.cons (.refl _) (.cons (.refl _) (.cons (.refl _) (.cons (.refl _) (.cons (.fP 3 1) .nil)))))) .nil)) .nil) [] [(16,.row (some 56) 5 (List.map (v56 1) ([(⟨a0,a1,true,(⟨#[]⟩:ByteArray),([]:List Int)⟩:af)]:List af)))]<|Sw<|Sw<|Rh hN [I (l2.length:Int)] (.cons (aR (aQ 0) l2) .nil)<|Bl<|Good.dK (fun k' st=>∃ (x7:List af) (dS:List (List af)) (bH:Int) (dm:Int),k'≤k∧Wk C st ⟨[(7,.w (.row (some 56) 5 (List.map (v56 1) x7))),(17,.w (.row none 1 (List.map (aQ 0) dS))),(18,.w (I bH)),(19,.w (I dm))],[]⟩∧fu.l0 k' x7 dS bH dm=some r) k ⟨([(⟨a0,a1,true,(⟨#[]⟩:ByteArray),([]:List Int)⟩:af)]:List af),l2,(l2.length:Int),0,Nat.le_refl _,Wo [(7,0),(17,0),(18,0),(19,0)],H⟩ fun k=>⟨fun st h=>(by obtain ⟨_,_,_,_,_,_,H⟩:=h;cases H),?_⟩
 clear H
 rintro st ⟨x7,dS,bH,dm,hk,W,H⟩
 refine W.good ?_
 rw [fu.l0] at H
 refine Sw<|Rg hN<|Sw ?_
 rcases (ak H).symm with ⟨M3,H⟩ | ⟨M3,H⟩
 ·refine Cf (df M3)<|Ex<|Sw<|Rg hN ?_
  cases H
  exact Rt dR
 refine Ct (dt M3)<|Sk<|Sw<|Bl<|Sw ?_
 obtain ⟨Xn,H⟩:=ax H
 obtain ⟨ahw,H⟩:=ax H
 refine Rh hN [(aQ 0) (bC dS dm)] (.cons Xn (.cons (aG (aQ 0) ([]:List af) Xn ahw) .nil))<|Sw<|Rh hN [I (x7.length:Int)] (.cons (aR (v56 1) x7) .nil)<|Sw<|Sw<|Rh hN [I ((bC dS dm).length:Int)] (.cons (aR (v56 0) (bC dS dm)) .nil)<|Good.cut (fun st=>∃ n':Nat,n'≤k∧∃ (x7:List af) (x9:List af) (aX:Int) (dS:List (List af)) (bH:Int) (dm:Int),Wk C st ⟨[(7,.w (.row (some 56) 5 (List.map (v56 1) x7))),(9,.w (.row none 5 (List.map (v56 0) x9))),(10,.w (I aX)),(17,.w (.row none 1 (List.map (aQ 0) dS))),(18,.w (I bH)),(19,.w (I dm))],[]⟩∧fu.j1 n' x7 x9 aX dS bH dm=some r) ?_ ?_
 ·rcases (ak H).symm with ⟨M4,H⟩ | ⟨M4,H⟩
  ·exact Cf (df M4)<|Sk<|⟨k,by omega,x7,bC dS dm,(x7.length:Int),dS,bH,dm,Wo [(7,0),(9,0),(10,0),(17,0),(18,0),(19,0)],H⟩
  refine Ct (dt M4) ?_
  obtain ⟨zG,H⟩:=ax H
  obtain ⟨ahx,H⟩:=ax H
  exact Rh hN [(v56 1) (aa x7 0),.kb true,(v56 1) (aa x7 0),.row (some 3) 1 (List.map I (((aa x7 0).f4)++[(x7.length:Int)])),dX ((v56 1) (aa x7 0)) 4 [.any],(v56 1) (⟨(aa x7 0).f0,(aa x7 0).f1,(aa x7 0).f2,(aa x7 0).f3,(((aa x7 0).f4)++[(x7.length:Int)])⟩:af),.row (some 56) 5 (List.map (v56 1) (x7.set (0:Int).toNat (⟨(aa x7 0).f0,(aa x7 0).f1,(aa x7 0).f2,(aa x7 0).f3,(((aa x7 0).f4)++[(x7.length:Int)])⟩:af)))] (.cons (show (0:Int)≤0 by decide) (.cons (eF (v56 1) zG) (.cons (aG (v56 1) z56 (show (0:Int)≤0 by decide) zG) (.cons (aG (v56 1) z56 (show (0:Int)≤0 by decide) zG) (.cons (dL I ((aa x7 0).f4) [(x7.length:Int)] (.refl _)) (.cons (dZ I ahx) (.cons (show (0:Int)≤0 by decide) (.cons (sF (v56 1) (m:=(0:Int).toNat) (X:=dX ((v56 1) (aa x7 0)) 4 [.any]) zG) (.cons (sG (v56 1) (X:=dX ((v56 1) (aa x7 0)) 4 [.any]) (show (0:Int)≤0 by decide) zG) (.cons (Fit.refl ((v56 1) (⟨(aa x7 0).f0,(aa x7 0).f1,(aa x7 0).f2,(aa x7 0).f3,(((aa x7 0).f4)++[(x7.length:Int)])⟩:af))) (.cons (setH (v56 1) (l:=x7) (n:=(0:Int).toNat) (x:=(⟨(aa x7 0).f0,(aa x7 0).f1,(aa x7 0).f2,(aa x7 0).f3,(((aa x7 0).f4)++[(x7.length:Int)])⟩:af)) (X:=dX ((v56 1) (aa x7 0)) 4 [.any])) .nil)))))))))))<|⟨k,by omega,(x7.set (0:Int).toNat (⟨(aa x7 0).f0,(aa x7 0).f1,(aa x7 0).f2,(aa x7 0).f3,(((aa x7 0).f4)++[(x7.length:Int)])⟩:af)),bC dS dm,(x7.length:Int),dS,bH,dm,Wo [(7,0),(9,0),(10,0),(17,0),(18,0),(19,0)],H⟩
 clear H
 rintro st ⟨n',hn',x7,x9,aX,dS,bH,dm,W,H⟩
 rcases n' with _ | k
 ·cases H
 refine W.good ?_
 rw [fu.j1] at H
 refine Sw<|Rh hN [I (x9.length:Int)] (.cons (aR (v56 0) x9) .nil)<|Bl<|Good.dK (fun k' st=>∃ (x7:List af) (aX:Int) (dS:List (List af)) (bH:Int) (dm:Int) (x38:List af) (x39:Int) (x40:Int),k'≤k∧Wk C st ⟨[(7,.w (.row (some 56) 5 (List.map (v56 1) x7))),(10,.w (I aX)),(17,.w (.row none 1 (List.map (aQ 0) dS))),(18,.w (I bH)),(19,.w (I dm)),(38,.w (.row none 5 (List.map (v56 0) x38))),(39,.w (I x39)),(40,.w (I x40))],[]⟩∧fu.l1 k' x7 aX dS bH dm x38 x39 x40=some r) k ⟨x7,aX,dS,bH,dm,x9,(x9.length:Int),0,Nat.le_refl _,Wo [(7,0),(10,0),(17,0),(18,0),(19,0),(38,0),(39,0),(40,0)],H⟩ fun k=>⟨fun st h=>(by obtain ⟨_,_,_,_,_,_,_,_,_,_,H⟩:=h;cases H),?_⟩
 clear H
 rintro st ⟨x7,aX,dS,bH,dm,x38,x39,x40,hk,W,H⟩
 refine W.good ?_
 rw [fu.l1] at H
 refine Sw<|Rg hN<|Sw ?_
 rcases (ak H).symm with ⟨M5,H⟩ | ⟨M5,H⟩
 ·exact Cf (df M5)<|Ex<|Rg hN<|⟨k,by omega,x7,dS,bH,wrap64 (dm+1),by omega,Wo [(7,0),(17,0),(18,0),(19,0)],H⟩
 refine Ct (dt M5)<|Sk<|Sw<|Bl<|Sw ?_
 obtain ⟨Xo,H⟩:=ax H
 obtain ⟨ahy,H⟩:=ax H
 refine Rh hN [(v56 0) (aa x38 x40)] (.cons Xo (.cons (aG (v56 0) z56 Xo ahy) .nil)) ?_
 obtain ⟨iF,ahz,H⟩:=aF H
 obtain ⟨ahA,H⟩:=ax H
 exact Rh hN [.agg [I iF.1,I iF.2.1,B iF.2.2.1,S iF.2.2.2.1,.row (some 3) 1 (List.map I iF.2.2.2.2)],.aC [],.kb true,.row (some 56) 5 (List.map (v56 1) (x7++[(⟨iF.1,iF.2.1,iF.2.2.1,iF.2.2.2.1,iF.2.2.2.2⟩:af)]))] (.cons (kQ.az ahz).c (.cons (dL (v56 1) x7 [(⟨iF.1,iF.2.1,iF.2.2.1,iF.2.2.2.1,iF.2.2.2.2⟩:af)] (.refl _)) (.cons (dZ (v56 1) ahA) .nil)))<|Rg hN<|⟨k,by omega,(x7++[(⟨iF.1,iF.2.1,iF.2.2.1,iF.2.2.2.1,iF.2.2.2.2⟩:af)]),aX,dS,bH,dm,x38,x39,wrap64 (x40+1),by omega,Wk.mq hL 0 [(7,0),(10,0),(17,0),(18,0),(19,0),(38,0),(39,0),(40,0)] (by kernel_rfl) (by kernel_rfl) (by kernel_rfl),H⟩
def iD.j0:Nat→Bool→Int→Int→Bool→ByteArray→List Int→Option (Bool)
 | 0,_,_,_,_,_,_=>none
 | k+1,bH,x1000,ah,ay,au,dO=>if bH=true then (some false) else (if ay=true then (if au.toList=([]:List UInt8) then (if x1000=0 then (if ah=16 then (some true) else (some (ah == 17))) else (some true)) else (some false)) else (if (dO.length:Int)=0 then (if x1000=0 then ((jV.f k ah au).bind fun M6=>(some M6)) else (some true)) else (some false)))
def iD.f (k:Nat) (aK:Int) (cu:Int) (bA:Bool) (bg:ByteArray) (iE:List Int):Option (Bool):=if (mn aK cu) < 0 then (iD.j0 k true aK cu bA bg iE) else (if aK > 3 then (iD.j0 k true aK cu bA bg iE) else (iD.j0 k (decide (cu > 2097151)) aK cu bA bg iE))
theorem iD.az {k:Nat} {aK:Int} {cu:Int} {bA:Bool} {bg:ByteArray} {iE:List Int} {r:(Bool)} (H:iD.f k aK cu bA bg iE=some r):aW Tryz.prog 74 [.agg [I aK,I cu,B bA,S bg,.row none 1 (List.map I iE)]] (B r):=by
 refine Cg Tryz.func74 rfl fun C hN hL=>?_
 unfold iD.f at H
 refine Sw<|Rg hN<|Sw<|Sw<|Good.cut (fun st=>∃ n':Nat,n'≤k∧∃ (bH:Bool) (x1000:Int) (ah:Int) (ay:Bool) (au:ByteArray) (dO:List Int),Wk C st ⟨[(1,.d (.ptr 0 0)),(18,.w (B bH))],[.cells [.v (I x1000),.v (I ah),.v (B ay),.v (S au),.v (.row none 1 (List.map I dO))]]⟩∧iD.j0 n' bH x1000 ah ay au dO=some r) ?_ ?_
 ·rcases ak H with ⟨DZ,H⟩ | ⟨DZ,H⟩
  ·exact Rh hN [B true,B true] (.cons (dt DZ) (.cons (rfl:true=true) .nil))<|⟨k,by omega,true,aK,cu,bA,bg,iE,Wo [(1,0),(18,0)],H⟩
  rcases ak H with ⟨M7,H⟩ | ⟨M7,H⟩
  ·exact Rh hN [B false,B true] (.cons (df DZ) (.cons (dt M7) .nil))<|⟨k,by omega,true,aK,cu,bA,bg,iE,Wo [(1,0),(18,0)],H⟩
  exact Rh hN [B false,B false] (.cons (df DZ) (.cons (df M7) .nil))<|⟨k,by omega,decide (cu > 2097151),aK,cu,bA,bg,iE,Wo [(1,0),(18,0)],H⟩
 clear H
 rintro st ⟨n',hn',bH,x1000,ah,ay,au,dO,W,H⟩
 rcases n' with _ | k
 ·cases H
 refine W.good ?_
 rw [iD.j0] at H
 rcases ak H with ⟨M8,H⟩ | ⟨M8,H⟩
 ·refine Ct M8<|Sw<|Rg hN ?_
  cases H
  exact Rt dR
 refine Cf (bf M8)<|Sk<|Sw<|Sw<|Rg hN ?_
 rcases (ak H).symm with ⟨M9,H⟩ | ⟨M9,H⟩
 ·refine Cf (bf M9)<|Sk<|Sw ?_
  rcases (ak H).symm with ⟨D5,H⟩ | ⟨D5,H⟩
  ·refine Rh hN [I (dO.length:Int),B false] (.cons (aR I dO) (.cons (bn D5) .nil)) ?_
   cases H
   exact Rt dR
  rcases (ak H).symm with ⟨Na,H⟩ | ⟨Na,H⟩
  ·refine Rh hN [I (dO.length:Int),B true,B true] (.cons (aR I dO) (.cons (bq D5) (.cons (nq Na) .nil))) ?_
   cases H
   exact Rt dR
  obtain ⟨M6,ahB,H⟩:=aF H
  refine Rh hN [I (dO.length:Int),B true,B false,B M6] (.cons (aR I dO) (.cons (bq D5) (.cons (dE Na) (.cons (jV.az ahB).c .nil)))) ?_
  cases H
  exact Rt dR
 refine Ct M9<|Sw ?_
 rcases (ak H).symm with ⟨zH,H⟩ | ⟨zH,H⟩
 ·refine Ri hN [B false] (.cons (fA (rfl:au.toList=au.toList) (eU ([]:List UInt8))) (.cons (bn zH) .nil)) [(23,.bool (au.toList == ([]:List UInt8)))] ?_
  cases H
  exact Rt dR
 rcases (ak H).symm with ⟨D6,H⟩ | ⟨D6,H⟩
 ·refine Ri hN [B true,B true,B true] (.cons (fA (rfl:au.toList=au.toList) (eU ([]:List UInt8))) (.cons (bq zH) (.cons (nq D6) (.cons (rfl:true=true) .nil)))) [(23,.bool (au.toList == ([]:List UInt8)))] ?_
  cases H
  exact Rt dR
 rcases ak H with ⟨Nb,H⟩ | ⟨Nb,H⟩
 ·refine Ri hN [B true,B false,B true] (.cons (fA (rfl:au.toList=au.toList) (eU ([]:List UInt8))) (.cons (bq zH) (.cons (dE D6) (.cons (bq Nb) .nil)))) [(23,.bool (au.toList == ([]:List UInt8)))] ?_
  cases H
  exact Rt dR
 refine Ri hN [B true,B false,B false] (.cons (fA (rfl:au.toList=au.toList) (eU ([]:List UInt8))) (.cons (bq zH) (.cons (dE D6) (.cons (bn Nb) .nil)))) [(23,.bool (au.toList == ([]:List UInt8)))] ?_
 cases H
 exact Rt dR
def bR.l2:Nat→List af→List bZ→Int→Int→Int→Option (Int)
 | 0,_,_,_,_,_=>none
 | k+1,x0,x3,x4,x102,x103=>if x103 < x102 then (if 0≤x103 then (if x103 < (x3.length:Int) then (if 0≤((bG x3 x103).f0) then (if ((bG x3 x103).f0) < (x0.length:Int) then (if ((bG x3 x103).f1)=(((aa x0 ((bG x3 x103).f0)).f4).length:Int) then (bR.l2 k x0 x3 x4 x102 (wrap64 (x103+1))) else (some 0)) else (none)) else (none)) else (none)) else (none)) else (if x4 > 16 then (some 0) else (some x4))
mutual
def bR.l0:Nat→List af→List bZ→Int→List af→Int→Int→Option (Int)
 | 0,_,_,_,_,_,_=>none
 | k+1,x0,x3,x4,bH,dm,x20=>if x20 < dm then (if 0≤x20 then (if x20 < (bH.length:Int) then ((iD.f k ((aa bH x20).f0) ((aa bH x20).f1) ((aa bH x20).f2) ((aa bH x20).f3) ((aa bH x20).f4)).bind fun Nc=>(if Nc=true then (bR.l1 k x0 x3 x4 x20 bH dm x20) else (some 0))) else (none)) else (none)) else (bR.l2 k x0 x3 x4 (x3.length:Int) 0)
def bR.l1:Nat→List af→List bZ→Int→Int→List af→Int→Int→Option (Int)
 | 0,_,_,_,_,_,_,_=>none
 | k+1,x0,x3,x4,x5,bH,dm,x20=>if (x3.length:Int) > 0 then (if 0≤(wrap64 ((x3.length:Int) - 1)) then (if (wrap64 ((x3.length:Int) - 1)) < (x3.length:Int) then (if 0≤((bG x3 (wrap64 ((x3.length:Int) - 1))).f0) then (if ((bG x3 (wrap64 ((x3.length:Int) - 1))).f0) < (x0.length:Int) then (if ((bG x3 (wrap64 ((x3.length:Int) - 1))).f1)=(((aa x0 ((bG x3 (wrap64 ((x3.length:Int) - 1))).f0)).f4).length:Int) then (if (wrap64 ((x3.length:Int) - 1))≤(x3.length:Int) then (bR.l1 k x0 (x3.take ((wrap64 ((x3.length:Int) - 1)):Int).toNat) x4 x5 bH dm x20) else (none)) else (bR.j3 k x0 x3 x4 x5 bH dm x20)) else (none)) else (none)) else (none)) else (none)) else (bR.j3 k x0 x3 x4 x5 bH dm x20)
def bR.j3:Nat→List af→List bZ→Int→Int→List af→Int→Int→Option (Int)
 | 0,_,_,_,_,_,_,_=>none
 | k+1,x0,x3,x4,x5,bH,dm,x20=>if x5 > 0 then (if (x3.length:Int)=0 then (some 0) else (if 0≤(wrap64 ((x3.length:Int) - 1)) then (if (wrap64 ((x3.length:Int) - 1)) < (x3.length:Int) then (if 0≤((bG x3 (wrap64 ((x3.length:Int) - 1))).f0) then (if ((bG x3 (wrap64 ((x3.length:Int) - 1))).f0) < (x0.length:Int) then (if 0≤((bG x3 (wrap64 ((x3.length:Int) - 1))).f1) then (if ((bG x3 (wrap64 ((x3.length:Int) - 1))).f1) < (((aa x0 ((bG x3 (wrap64 ((x3.length:Int) - 1))).f0)).f4).length:Int) then (if (rd ((aa x0 ((bG x3 (wrap64 ((x3.length:Int) - 1))).f0)).f4) ((bG x3 (wrap64 ((x3.length:Int) - 1))).f1))=x5 then ((some (x3.set ((wrap64 ((x3.length:Int) - 1)):Int).toNat (⟨(bG x3 (wrap64 ((x3.length:Int) - 1))).f0,wrap64 (((bG x3 (wrap64 ((x3.length:Int) - 1))).f1)+1)⟩:bZ):List bZ)).bind fun Xp=>(if Xp.length < 8796093022208 then ((some (Xp++[(⟨x5,0⟩:bZ)]:List bZ)).bind fun Xq=>(bR.l0 k x0 Xq (mx x4 (Xq.length:Int)) bH dm (wrap64 (x20+1)))) else (none))) else (some 0)) else (none)) else (none)) else (none)) else (none)) else (none)) else (none))) else (if x3.length < 8796093022208 then ((some (x3++[(⟨x5,0⟩:bZ)]:List bZ)).bind fun Xr=>(bR.l0 k x0 Xr (mx x4 (Xr.length:Int)) bH dm (wrap64 (x20+1)))) else (none))
end
def bR.j0:Nat→List af→Bool→Option (Int)
 | 0,_,_=>none
 | k+1,x0,dS=>if dS=true then (some 0) else (bR.l0 k x0 ([]:List bZ) 0 x0 (x0.length:Int) 0)
def bR.f (k:Nat) (l0:List af):Option (Int):=if (l0.length:Int)=0 then (bR.j0 k l0 true) else (bR.j0 k l0 (decide ((l0.length:Int) > 1000)))
theorem bR.az {k:Nat} {l0:List af} {r:(Int)} (H:bR.f k l0=some r):aW Tryz.prog 54 [.row none 5 (List.map (v56 0) l0)] (I r):=by
 refine Cg Tryz.func54 rfl fun C hN hL=>?_
 unfold bR.f at H
 refine Sw<|Rg hN<|Sw<|Sw<|Good.cut (fun st=>∃ n':Nat,n'≤k∧∃ (x0:List af) (dS:Bool),Wk C st ⟨[(0,.w (.row none 5 (List.map (v56 0) x0))),(17,.w (B dS))],[]⟩∧bR.j0 n' x0 dS=some r) ?_ ?_
 ·rcases ak H with ⟨Nf,H⟩ | ⟨Nf,H⟩
  ·exact Rh hN [I (l0.length:Int),B true] (.cons (aR (v56 0) l0) (.cons (bq Nf) .nil))<|⟨k,by omega,l0,true,Wo [(0,0),(17,0)],H⟩
  exact Rh hN [I (l0.length:Int),B false,I (l0.length:Int)] (.cons (aR (v56 0) l0) (.cons (bn Nf) (.cons (aR (v56 0) l0) .nil)))<|⟨k,by omega,l0,decide ((l0.length:Int) > 1000),Wo [(0,0),(17,0)],H⟩
 clear H
 rintro st ⟨n',hn',x0,dS,W,H⟩
 rcases n' with _ | k
 ·cases H
 refine W.good ?_
 rw [bR.j0] at H
 rcases ak H with ⟨Ng,H⟩ | ⟨Ng,H⟩
 ·refine Ct Ng<|Sw<|Rg hN ?_
  cases H
  exact Rt dR
 refine Cf (bf Ng)<|Sk<|Sw<|Rg hN<|Sw<|Rg hN<|Sw<|Sw<|Rh hN [I (x0.length:Int)] (.cons (aR (v56 0) x0) .nil)<|Bl<|Good.dK (fun k' st=>∃ (x0:List af) (x3:List bZ) (x4:Int) (bH:List af) (dm:Int) (x20:Int),k'≤k∧Wk C st ⟨[(0,.w (.row none 5 (List.map (v56 0) x0))),(3,.w (.row (some 127) 2 (List.map v127 x3))),(4,.w (I x4)),(18,.w (.row none 5 (List.map (v56 0) bH))),(19,.w (I dm)),(20,.w (I x20))],[]⟩∧bR.l0 k' x0 x3 x4 bH dm x20=some r) k ⟨x0,([]:List bZ),0,x0,(x0.length:Int),0,Nat.le_refl _,Wo [(0,0),(3,1),(4,0),(18,0),(19,0),(20,0)],H⟩ fun k=>⟨fun st h=>(by obtain ⟨_,_,_,_,_,_,_,_,H⟩:=h;cases H),?_⟩
 clear H
 rintro st ⟨x0,x3,x4,bH,dm,x20,hk,W,H⟩
 refine W.good ?_
 rw [bR.l0] at H
 refine Sw<|Rg hN<|Sw ?_
 rcases (ak H).symm with ⟨Nh,H⟩ | ⟨Nh,H⟩
 ·refine Cf (df Nh)<|Ex<|Sw<|Sw<|Rh hN [I (x3.length:Int)] (.cons (aR v127 x3) .nil)<|Bl<|Good.dK (fun k' st=>∃ (x0:List af) (x3:List bZ) (x4:Int) (x102:Int) (x103:Int),k'≤k∧Wk C st ⟨[(0,.w (.row none 5 (List.map (v56 0) x0))),(3,.w (.row (some 127) 2 (List.map v127 x3))),(4,.w (I x4)),(101,.al (.top (.t 3))),(102,.w (I x102)),(103,.w (I x103))],[]⟩∧bR.l2 k' x0 x3 x4 x102 x103=some r) k ⟨x0,x3,x4,(x3.length:Int),0,Nat.le_refl _,Wo [(0,0),(3,0),(4,0),(101,0),(102,0),(103,0)],H⟩ fun k=>⟨fun st h=>(by obtain ⟨_,_,_,_,_,_,_,H⟩:=h;cases H),?_⟩
  clear H
  rintro st ⟨x0,x3,x4,x102,x103,hk,W,H⟩
  refine W.good ?_
  rw [bR.l2] at H
  refine Sw<|Rg hN<|Sw ?_
  rcases (ak H).symm with ⟨Ni,H⟩ | ⟨Ni,H⟩
  ·refine Cf (df Ni)<|Ex<|Sw<|Sw<|Rg hN ?_
   rcases ak H with ⟨Nj,H⟩ | ⟨Nj,H⟩
   ·refine Ct (dt Nj)<|Sw<|Rg hN ?_
    cases H
    exact Rt dR
   refine Cf (df Nj)<|Sk<|Sw<|Rg hN ?_
   cases H
   exact Rt dR
  refine Ct (dt Ni)<|Sk<|Sw<|Bl<|Sw ?_
  obtain ⟨Xt,H⟩:=ax H
  obtain ⟨Xu,H⟩:=ax H
  refine Rh hN [v127 (bG x3 x103)] (.cons Xt (.cons (eF v127 Xu) (.cons (aG v127 z127 Xt Xu) .nil)))<|Sw ?_
  obtain ⟨D7,H⟩:=ax H
  obtain ⟨Xv,H⟩:=ax H
  refine Rd hm hN (.qs 9 0 (.q 9 [] .z)) [(0,none),(9,some (.pt [I ((bG x3 x103).f0),I ((bG x3 x103).f1)]))] (.cons (bV (aA (rfl:(V.shr (I ((bG x3 x103).f0)))=I ((bG x3 x103).f0)) (aA (rfl:(V.shr (I ((bG x3 x103).f1)))=I ((bG x3 x103).f1)) (rfl:aZ []=[])))) .nil) [(v56 0) (aa x0 ((bG x3 x103).f0)),I (((aa x0 ((bG x3 x103).f0)).f4).length:Int)] [(v56 0) (aa x0 ((bG x3 x103).f0)),I (((aa x0 ((bG x3 x103).f0)).f4).length:Int)] (.cons D7 (.cons (aG (v56 0) z56 D7 Xv) (.cons (aR I ((aa x0 ((bG x3 x103).f0)).f4)) .nil))) (.cons D7 (.cons (aG (v56 0) z56 D7 Xv) (.cons (aR I ((aa x0 ((bG x3 x103).f0)).f4)) .nil))) [] [] ?_
  rcases ak H with ⟨Nk,H⟩ | ⟨Nk,H⟩
  ·exact Cf (dE Nk)<|Sk<|Rg hN<|⟨k,by omega,x0,x3,x4,x102,wrap64 (x103+1),by omega,Wk.mq hL 0 [(0,0),(3,0),(4,0),(101,0),(102,0),(103,0)] (by kernel_rfl) (by kernel_rfl) (by kernel_rfl),H⟩
  refine Ct (nq Nk)<|Sw<|Rg hN ?_
  cases H
  exact Rt dR
 refine Ct (dt Nh)<|Sk<|Sw<|Bl<|Sw ?_
 obtain ⟨Xw,H⟩:=ax H
 obtain ⟨ahC,H⟩:=ax H
 refine Rh hN [(v56 0) (aa bH x20)] (.cons Xw (.cons (aG (v56 0) z56 Xw ahC) .nil))<|Sw<|Sw ?_
 obtain ⟨Nc,ahD,H⟩:=aF H
 refine Rh hN [B Nc] (.cons (iD.az ahD).c .nil) ?_
 rcases (ak H).symm with ⟨Nl,H⟩ | ⟨Nl,H⟩
 ·refine Ct (ed (bf Nl))<|Sw<|Rg hN ?_
  cases H
  exact Rt dR
 refine Cf (eH Nl)<|Sk<|Sw<|Good.cut (fun st=>∃ n':Nat,n'≤k∧∃ (x0:List af) (x3:List bZ) (x4:Int) (x5:Int) (bH:List af) (dm:Int) (x20:Int) (x1000:Int) (ah:Int) (ay:Bool) (au:ByteArray) (dO:List Int),Wk C st ⟨[(0,.w (.row none 5 (List.map (v56 0) x0))),(3,.w (.row (some 127) 2 (List.map v127 x3))),(4,.w (I x4)),(5,.w (I x5)),(18,.w (.row none 5 (List.map (v56 0) bH))),(19,.w (I dm)),(20,.w (I x20))],[.cells [.v (I x1000),.v (I ah),.v (B ay),.v (S au),.v (.row none 1 (List.map I dO))]]⟩∧bR.j3 n' x0 x3 x4 x5 bH dm x20=some r) ?_ ?_
 ·refine Bl<|Good.dK (fun k' st=>∃ (x0:List af) (x3:List bZ) (x4:Int) (x5:Int) (bH:List af) (dm:Int) (x20:Int) (x1000:Int) (ah:Int) (ay:Bool) (au:ByteArray) (dO:List Int),k'≤k∧Wk C st ⟨[(0,.w (.row none 5 (List.map (v56 0) x0))),(3,.w (.row (some 127) 2 (List.map v127 x3))),(4,.w (I x4)),(5,.w (I x5)),(18,.w (.row none 5 (List.map (v56 0) bH))),(19,.w (I dm)),(20,.w (I x20))],[.cells [.v (I x1000),.v (I ah),.v (B ay),.v (S au),.v (.row none 1 (List.map I dO))]]⟩∧bR.l1 k' x0 x3 x4 x5 bH dm x20=some r) k ⟨x0,x3,x4,x20,bH,dm,x20,(aa bH x20).f0,(aa bH x20).f1,(aa bH x20).f2,(aa bH x20).f3,(aa bH x20).f4,Nat.le_refl _,Wo [(0,0),(3,0),(4,0),(5,0),(18,0),(19,0),(20,0)],H⟩ fun k=>⟨fun st h=>(by obtain ⟨_,_,_,_,_,_,_,_,_,_,_,_,_,_,H⟩:=h;cases H),?_⟩
  clear H
  rintro st ⟨x0,x3,x4,x5,bH,dm,x20,x1000,ah,ay,au,dO,hk,W,H⟩
  refine W.good ?_
  rw [bR.l1] at H
  refine Sw<|Sw ?_
  rcases (ak H).symm with ⟨zI,H⟩ | ⟨zI,H⟩
  ·exact Rd hm hN (.qs 4 0 (.k 31 (.is 20 4 (.q 24 [] .z)))) [(0,none),(3,some (.row none 2 (List.map v127 x3)))] (.cons (aP (some 127) 2 v127 v127 x3 (fun _=>rfl)) .nil) [I (x3.length:Int),B false] [I (x3.length:Int)] (.cons (aR v127 x3) (.cons (df zI) .nil)) (.cons (aR v127 x3) (.cons (df zI) .nil)) [] []<|Good.cond false (by kernel_rfl)<|Ex<|⟨k,by omega,x0,x3,x4,x5,bH,dm,x20,x1000,ah,ay,au,dO,Wo [(0,0),(3,0),(4,0),(5,0),(18,0),(19,0),(20,0)],H⟩
  obtain ⟨qF,H⟩:=ax H
  obtain ⟨wo,H⟩:=ax H
  obtain ⟨D8,H⟩:=ax H
  obtain ⟨Xx,H⟩:=ax H
  refine Rd hm hN (.qs 4 0 (.k 31 (.qs 20 4 (.q 24 [] .z)))) [(0,none),(3,some (.row none 2 (List.map v127 x3)))] (.cons (aP (some 127) 2 v127 v127 x3 (fun _=>rfl)) .nil) [I (x3.length:Int),B true,I (x3.length:Int),v127 (bG x3 (wrap64 ((x3.length:Int) - 1))),I (x3.length:Int),v127 (bG x3 (wrap64 ((x3.length:Int) - 1))),(v56 0) (aa x0 ((bG x3 (wrap64 ((x3.length:Int) - 1))).f0)),I (((aa x0 ((bG x3 (wrap64 ((x3.length:Int) - 1))).f0)).f4).length:Int)] [I (x3.length:Int),I (x3.length:Int),v127 (bG x3 (wrap64 ((x3.length:Int) - 1))),I (x3.length:Int),v127 (bG x3 (wrap64 ((x3.length:Int) - 1))),(v56 0) (aa x0 ((bG x3 (wrap64 ((x3.length:Int) - 1))).f0)),I (((aa x0 ((bG x3 (wrap64 ((x3.length:Int) - 1))).f0)).f4).length:Int)] (.cons (aR v127 x3) (.cons (dt zI) (.cons (aR v127 x3) (.cons qF (.cons (eF v127 wo) (.cons (aG v127 z127 qF wo) (.cons (aR v127 x3) (.cons qF (.cons (eF v127 wo) (.cons (aG v127 z127 qF wo) (.cons D8 (.cons (aG (v56 0) z56 D8 Xx) (.cons (aR I ((aa x0 ((bG x3 (wrap64 ((x3.length:Int) - 1))).f0)).f4)) .nil))))))))))))) (.cons (aR v127 x3) (.cons (dt zI) (.cons (aR v127 x3) (.cons qF (.cons (aG v127 z127 qF wo) (.cons (aR v127 x3) (.cons qF (.cons (aG v127 z127 qF wo) (.cons D8 (.cons (aG (v56 0) z56 D8 Xx) (.cons (aR I ((aa x0 ((bG x3 (wrap64 ((x3.length:Int) - 1))).f0)).f4)) .nil))))))))))) [] [] ?_
  rcases (ak H).symm with ⟨Nn,H⟩ | ⟨Nn,H⟩
  ·exact Cf (bn Nn)<|Ex<|⟨k,by omega,x0,x3,x4,x5,bH,dm,x20,x1000,ah,ay,au,dO,Wo [(0,0),(3,0),(4,0),(5,0),(18,0),(19,0),(20,0)],H⟩
  refine Ct (bq Nn)<|Sk<|Bl ?_
  obtain ⟨ahE,H⟩:=ax H
  exact Rh hN [I (x3.length:Int),.row (some 127) 2 (List.map v127 (x3.take ((wrap64 ((x3.length:Int) - 1)):Int).toNat))] (.cons (aR v127 x3) (.cons qF (.cons (uI v127 ahE) (.cons (VF v127 (l:=x3) (n:=((wrap64 ((x3.length:Int) - 1)):Int).toNat)) .nil))))<|⟨k,by omega,x0,x3.take ((wrap64 ((x3.length:Int) - 1)):Int).toNat,x4,x5,bH,dm,x20,x1000,ah,ay,au,dO,by omega,Wo [(0,0),(3,0),(4,0),(5,0),(18,0),(19,0),(20,0)],H⟩
 clear H
 rintro st ⟨n',hn',x0,x3,x4,x5,bH,dm,x20,x1000,ah,ay,au,dO,W,H⟩
 rcases n' with _ | k
 ·cases H
 refine W.good ?_
 rw [bR.j3] at H
 refine Sw<|Sw<|Rg hN ?_
 rcases (ak H).symm with ⟨Np,H⟩ | ⟨Np,H⟩
 ·refine Cf (df Np)<|Sk<|Sw ?_
  obtain ⟨ahF,H⟩:=ax H
  replace H:=oH H
  exact Rh hN [.kb true,.row (some 127) 2 (List.map v127 (x3++[(⟨x5,0⟩:bZ)]))] (.cons (dL v127 x3 [(⟨x5,0⟩:bZ)] (.refl _)) (.cons (dZ v127 ahF) .nil))<|Rh hN [I ((x3++[(⟨x5,0⟩:bZ)]).length:Int)] (.cons (aR v127 (x3++[(⟨x5,0⟩:bZ)])) .nil)<|Rg hN<|⟨k,by omega,x0,(x3++[(⟨x5,0⟩:bZ)]),mx x4 ((x3++[(⟨x5,0⟩:bZ)]).length:Int),bH,dm,wrap64 (x20+1),by omega,Wk.mq hL 0 [(0,0),(3,0),(4,0),(18,0),(19,0),(20,0)] (by kernel_rfl) (by kernel_rfl) (by kernel_rfl),H⟩
 refine Ct (dt Np)<|Sw<|Sw<|Rh hN [I (x3.length:Int)] (.cons (aR v127 x3) .nil) ?_
 rcases ak H with ⟨Nq,H⟩ | ⟨Nq,H⟩
 ·refine Ct (bq Nq)<|Sw<|Rg hN ?_
  cases H
  exact Rt dR
 refine Cf (bn Nq)<|Sk<|Sw ?_
 obtain ⟨wu,H⟩:=ax H
 obtain ⟨wy,H⟩:=ax H
 refine Rh hN [I (x3.length:Int)] (.cons (aR v127 x3) (.cons wu (.cons (eF v127 wy) .nil)))<|Sw<|Sw ?_
 obtain ⟨D9,H⟩:=ax H
 obtain ⟨Xy,H⟩:=ax H
 obtain ⟨Ea,H⟩:=ax H
 obtain ⟨Xz,H⟩:=ax H
 refine Rd hm hN (.qs 15 0 (.q 15 [] .z)) [(0,none),(5,none),(7,some (.aC [v127 (bG x3 (wrap64 ((x3.length:Int) - 1))),.pt [I ((bG x3 (wrap64 ((x3.length:Int) - 1))).f0),I ((bG x3 (wrap64 ((x3.length:Int) - 1))).f1)]]))] (.cons (aG v127 z127 wu wy) (.cons (bV (aA (rfl:(V.shr (I ((bG x3 (wrap64 ((x3.length:Int) - 1))).f0)))=I ((bG x3 (wrap64 ((x3.length:Int) - 1))).f0)) (aA (rfl:(V.shr (I ((bG x3 (wrap64 ((x3.length:Int) - 1))).f1)))=I ((bG x3 (wrap64 ((x3.length:Int) - 1))).f1)) (rfl:aZ []=[])))) .nil)) [v127 (bG x3 (wrap64 ((x3.length:Int) - 1))),(v56 0) (aa x0 ((bG x3 (wrap64 ((x3.length:Int) - 1))).f0)),v127 (bG x3 (wrap64 ((x3.length:Int) - 1))),I (rd ((aa x0 ((bG x3 (wrap64 ((x3.length:Int) - 1))).f0)).f4) ((bG x3 (wrap64 ((x3.length:Int) - 1))).f1))] [(v56 0) (aa x0 ((bG x3 (wrap64 ((x3.length:Int) - 1))).f0)),I (rd ((aa x0 ((bG x3 (wrap64 ((x3.length:Int) - 1))).f0)).f4) ((bG x3 (wrap64 ((x3.length:Int) - 1))).f1))] (.cons (aG v127 z127 wu wy) (.cons D9 (.cons (aG (v56 0) z56 D9 Xy) (.cons (aG v127 z127 wu wy) (.cons Ea (.cons (aG I (0:Int) Ea Xz) .nil)))))) (.cons D9 (.cons (aG (v56 0) z56 D9 Xy) (.cons Ea (.cons (aG I (0:Int) Ea Xz) .nil)))) [] [] ?_
 rcases (ak H).symm with ⟨Nr,H⟩ | ⟨Nr,H⟩
 ·refine Ct (nq Nr)<|Sw<|Rg hN ?_
  cases H
  exact Rt dR
 refine Cf (dE Nr)<|Sk ?_
 replace H:=oH H
 refine Rh hN [v127 (bG x3 (wrap64 ((x3.length:Int) - 1))),v127 (bG x3 (wrap64 ((x3.length:Int) - 1))),v127 (⟨(bG x3 (wrap64 ((x3.length:Int) - 1))).f0,wrap64 (((bG x3 (wrap64 ((x3.length:Int) - 1))).f1)+1)⟩:bZ),.row (some 127) 2 (List.map v127 (x3.set ((wrap64 ((x3.length:Int) - 1)):Int).toNat (⟨(bG x3 (wrap64 ((x3.length:Int) - 1))).f0,wrap64 (((bG x3 (wrap64 ((x3.length:Int) - 1))).f1)+1)⟩:bZ)))] (.cons (aG v127 z127 wu wy) (.cons (aG v127 z127 wu wy) (.cons (Fit.refl (v127 (⟨(bG x3 (wrap64 ((x3.length:Int) - 1))).f0,wrap64 (((bG x3 (wrap64 ((x3.length:Int) - 1))).f1)+1)⟩:bZ))) (.cons (Dr v127 (l:=x3) (n:=((wrap64 ((x3.length:Int) - 1)):Int).toNat) (x:=(⟨(bG x3 (wrap64 ((x3.length:Int) - 1))).f0,wrap64 (((bG x3 (wrap64 ((x3.length:Int) - 1))).f1)+1)⟩:bZ))) .nil))))<|Sw ?_
 obtain ⟨ahG,H⟩:=ax H
 replace H:=oH H
 exact Rh hN [.kb true,.row (some 127) 2 (List.map v127 ((x3.set ((wrap64 ((x3.length:Int) - 1)):Int).toNat (⟨(bG x3 (wrap64 ((x3.length:Int) - 1))).f0,wrap64 (((bG x3 (wrap64 ((x3.length:Int) - 1))).f1)+1)⟩:bZ))++[(⟨x5,0⟩:bZ)]))] (.cons (dL v127 (x3.set ((wrap64 ((x3.length:Int) - 1)):Int).toNat (⟨(bG x3 (wrap64 ((x3.length:Int) - 1))).f0,wrap64 (((bG x3 (wrap64 ((x3.length:Int) - 1))).f1)+1)⟩:bZ)) [(⟨x5,0⟩:bZ)] (.refl _)) (.cons (dZ v127 ahG) .nil))<|Rh hN [I (((x3.set ((wrap64 ((x3.length:Int) - 1)):Int).toNat (⟨(bG x3 (wrap64 ((x3.length:Int) - 1))).f0,wrap64 (((bG x3 (wrap64 ((x3.length:Int) - 1))).f1)+1)⟩:bZ))++[(⟨x5,0⟩:bZ)]).length:Int)] (.cons (aR v127 ((x3.set ((wrap64 ((x3.length:Int) - 1)):Int).toNat (⟨(bG x3 (wrap64 ((x3.length:Int) - 1))).f0,wrap64 (((bG x3 (wrap64 ((x3.length:Int) - 1))).f1)+1)⟩:bZ))++[(⟨x5,0⟩:bZ)])) .nil)<|Rg hN<|⟨k,by omega,x0,((x3.set ((wrap64 ((x3.length:Int) - 1)):Int).toNat (⟨(bG x3 (wrap64 ((x3.length:Int) - 1))).f0,wrap64 (((bG x3 (wrap64 ((x3.length:Int) - 1))).f1)+1)⟩:bZ))++[(⟨x5,0⟩:bZ)]),mx x4 (((x3.set ((wrap64 ((x3.length:Int) - 1)):Int).toNat (⟨(bG x3 (wrap64 ((x3.length:Int) - 1))).f0,wrap64 (((bG x3 (wrap64 ((x3.length:Int) - 1))).f1)+1)⟩:bZ))++[(⟨x5,0⟩:bZ)]).length:Int),bH,dm,wrap64 (x20+1),by omega,Wk.mq hL 0 [(0,0),(3,0),(4,0),(18,0),(19,0),(20,0)] (by kernel_rfl) (by kernel_rfl) (by kernel_rfl),H⟩
def lH.f (k:Nat) (l0:List af):Option (Bool):=(bR.f k l0).bind fun Ns=>(some (decide (Ns > 0)))
theorem lH.az {k:Nat} {l0:List af} {r:(Bool)} (H:lH.f k l0=some r):aW Tryz.prog 32 [.row none 5 (List.map (v56 0) l0)] (B r):=by
 refine Cg Tryz.func32 rfl fun C hN hL=>?_
 unfold lH.f at H
 refine Sw<|Rg hN<|Sw ?_
 obtain ⟨Ns,ahH,H⟩:=aF H
 refine Rh hN [I Ns] (.cons (bR.az ahH).c .nil) ?_
 cases H
 exact Rt dR
def sN.f (aK:Int) (cu:Int) (bA:Bool) (bg:Int):Option (Bool):=if (mn (mn aK cu) bg)≥0 then (if aK≤3 then (if cu≤2097151 then (some (decide (bg≤65535))) else (some false)) else (some false)) else (some false)
theorem sN.az {aK:Int} {cu:Int} {bA:Bool} {bg:Int} {r:(Bool)} (H:sN.f aK cu bA bg=some r):aW Tryz.prog 56 [.agg [I aK,I cu,B bA,I bg]] (B r):=by
 refine Cg Tryz.func56 rfl fun C hN hL=>?_
 unfold sN.f at H
 refine Sw<|Rg hN<|Sw ?_
 rcases (ak H).symm with ⟨zJ,H⟩ | ⟨zJ,H⟩
 ·refine Rh hN [B false,B false,B false] (.cons (df zJ) (.cons (rfl:false=false) (.cons (rfl:false=false) .nil))) ?_
  cases H
  exact Rt dR
 rcases (ak H).symm with ⟨Eb,H⟩ | ⟨Eb,H⟩
 ·refine Rh hN [B true,B false,B false] (.cons (dt zJ) (.cons (df Eb) (.cons (rfl:false=false) .nil))) ?_
  cases H
  exact Rt dR
 rcases ak H with ⟨Nt,H⟩ | ⟨Nt,H⟩
 ·refine Rh hN [B true,B true,B true] (.cons (dt zJ) (.cons (dt Eb) (.cons (dt Nt) .nil))) ?_
  cases H
  exact Rt dR
 refine Rh hN [B true,B true,B false] (.cons (dt zJ) (.cons (dt Eb) (.cons (df Nt) .nil))) ?_
 cases H
 exact Rt dR
def fq.j2:Nat→List Int→Int→Option (ByteArray × Int)
 | 0,_,_=>none
 | k+1,x4,au=>if au < 128 then (if x4.length < 140737488355328 then (some (strOfNums (x4++[(au) % 256]),0)) else (none)) else (if au < 256 then (if x4.length+2 < 140737488355328 then (some (strOfNums (x4++[129,(au) % 256]),0)) else (none)) else (if x4.length+3 < 140737488355328 then (some (strOfNums (x4++[130,(au / 256) % 256,(au) % 256]),0)) else (none)))
def fq.l0:Nat→List Int→Int→Int→Int→Option (ByteArray × Int)
 | 0,_,_,_,_=>none
 | k+1,x4,x6,ah,au=>if x6≥0 then (if 0≤x6 then (if (shr .i64 ah x6)=0 then (fq.l0 k x4 (wrap64 (x6 - 7)) ah au) else (if x4.length < 140737488355328 then (fq.l0 k (x4++[(Go.bits .or .i64 (Go.bits .and .i64 (shr .i64 ah x6) 127) 128) % 256]) (wrap64 (x6 - 7)) ah au) else (none))) else (none)) else (if 0≤(wrap64 ((x4.length:Int) - 1)) then (if (wrap64 ((x4.length:Int) - 1)) < (x4.length:Int) then (fq.j2 k (x4.set ((wrap64 ((x4.length:Int) - 1)):Int).toNat (Go.bits .and .u8 (rd x4 (wrap64 ((x4.length:Int) - 1))) 127)) au) else (none)) else (none))
def fq.j0:Nat→List Int→Int→Int→Int→Option (ByteArray × Int)
 | 0,_,_,_,_=>none
 | k+1,x4,x5,ah,au=>if ah < 31 then (if x4.length < 140737488355328 then (fq.j2 k (x4++[Go.bits .or .u8 x5 ((ah) % 256)]) au) else (none)) else (if x4.length < 140737488355328 then (fq.l0 k (x4++[Go.bits .or .u8 x5 31]) 14 ah au) else (none))
def fq.f (k:Nat) (aK:Int) (cu:Int) (bA:Bool) (bg:Int):Option (ByteArray × Int):=(sN.f aK cu bA bg).bind fun Nu=>(if Nu=true then (if bA=true then (fq.j0 k (List.replicate 0 0) (Go.bits .or .u8 ((wrap64 (aK*64)) % 256) 32) cu bg) else (fq.j0 k (List.replicate 0 0) ((wrap64 (aK*64)) % 256) cu bg)) else (some ((⟨#[]⟩:ByteArray),1)))
theorem fq.az {k:Nat} {aK:Int} {cu:Int} {bA:Bool} {bg:Int} {r:(ByteArray × Int)} (H:fq.f k aK cu bA bg=some r):aW Tryz.prog 34 [.agg [I aK,I cu,B bA,I bg]] (.aC [S r.1,I r.2]):=by
 refine Cg Tryz.func34 rfl fun C hN hL=>?_
 unfold fq.f at H
 refine Sw<|Rg hN<|Sw<|Sw ?_
 obtain ⟨Nu,ahI,H⟩:=aF H
 refine Rh hN [B Nu] (.cons (sN.az ahI).c .nil) ?_
 rcases (ak H).symm with ⟨Nv,H⟩ | ⟨Nv,H⟩
 ·refine Ct (ed (bf Nv))<|Sw<|Rg hN ?_
  cases H
  exact Rt dR
 refine Cf (eH Nv)<|Sk<|Sw<|Rh hN [.row (some 5) 1 (List.map (K .u8) (List.replicate 0 0))] (.cons (show (0:Int)≤0 by decide) (.cons (show (0:Int)≤7 by decide) (.cons (show (7:Int)≤281474976710656 by decide) (.cons (VG (K .u8) 0 0) .nil))))<|Sw<|Rh hN [] (.cons (show (0:Int)≤6 by decide) .nil)<|Sw<|Sw<|Rg hN<|Good.cut (fun st=>∃ n':Nat,n'≤k∧∃ (x4:List Int) (x5:Int) (x1000:Int) (ah:Int) (ay:Bool) (au:Int),Wk C st ⟨[(1,.d (.ptr 0 0)),(4,.w (.row (some 5) 1 (List.map (K .u8) x4))),(5,.w (K .u8 x5))],[.cells [.v (I x1000),.v (I ah),.v (B ay),.v (I au)]]⟩∧fq.j0 n' x4 x5 ah au=some r) ?_ ?_
 ·rcases ak H with ⟨Nw,H⟩ | ⟨Nw,H⟩
  ·exact Ct Nw<|Rg hN<|⟨k,by omega,List.replicate 0 0,Go.bits .or .u8 ((wrap64 (aK*64)) % 256) 32,aK,cu,bA,bg,Wo [(1,0),(4,0),(5,0)],H⟩
  exact Cf (bf Nw)<|Sk<|⟨k,by omega,List.replicate 0 0,(wrap64 (aK*64)) % 256,aK,cu,bA,bg,Wo [(1,0),(4,0),(5,0)],H⟩
 clear H
 rintro st ⟨n',hn',x4,x5,x1000,ah,ay,au,W,H⟩
 rcases n' with _ | k
 ·cases H
 refine W.good ?_
 rw [fq.j0] at H
 refine Sw<|Good.cut (fun st=>∃ n':Nat,n'≤k∧∃ (x4:List Int) (x1000:Int) (ah:Int) (ay:Bool) (au:Int),Wk C st ⟨[(1,.d (.ptr 0 0)),(4,.w (.row (some 5) 1 (List.map (K .u8) x4)))],[.cells [.v (I x1000),.v (I ah),.v (B ay),.v (I au)]]⟩∧fq.j2 n' x4 au=some r) ?_ ?_
 ·refine Bl<|Sw<|Rg hN ?_
  rcases ak H with ⟨Ny,H⟩ | ⟨Ny,H⟩
  ·refine Ct (dt Ny) ?_
   obtain ⟨ahJ,H⟩:=ax H
   exact Rh hN [.kb true,.row (some 5) 1 (List.map (K .u8) (x4++[Go.bits .or .u8 x5 ((ah) % 256)]))] (.cons (dL (K .u8) x4 [Go.bits .or .u8 x5 ((ah) % 256)] (.refl _)) (.cons (dZ (K .u8) ahJ) .nil))<|⟨k,by omega,(x4++[Go.bits .or .u8 x5 ((ah) % 256)]),x1000,ah,ay,au,Wo [(1,0),(4,0)],H⟩
  refine Cf (df Ny)<|Sw ?_
  obtain ⟨ahK,H⟩:=ax H
  refine Rh hN [.kb true,.row (some 5) 1 (List.map (K .u8) (x4++[Go.bits .or .u8 x5 31]))] (.cons (dL (K .u8) x4 [Go.bits .or .u8 x5 31] (.refl _)) (.cons (dZ (K .u8) ahK) .nil))<|Sw<|Sw<|Rg hN<|Bl<|Good.dK (fun k' st=>∃ (x4:List Int) (x6:Int) (x1000:Int) (ah:Int) (ay:Bool) (au:Int),k'≤k∧Wk C st ⟨[(1,.d (.ptr 0 0)),(4,.w (.row (some 5) 1 (List.map (K .u8) x4))),(6,.w (I x6))],[.cells [.v (I x1000),.v (I ah),.v (B ay),.v (I au)]]⟩∧fq.l0 k' x4 x6 ah au=some r) k ⟨(x4++[Go.bits .or .u8 x5 31]),14,x1000,ah,ay,au,Nat.le_refl _,Wo [(1,0),(4,0),(6,0)],H⟩ fun k=>⟨fun st h=>(by obtain ⟨_,_,_,_,_,_,_,_,H⟩:=h;cases H),?_⟩
  clear H
  rintro st ⟨x4,x6,x1000,ah,ay,au,hk,W,H⟩
  refine W.good ?_
  rw [fq.l0] at H
  refine Sw<|Sw<|Rg hN ?_
  rcases (ak H).symm with ⟨Nz,H⟩ | ⟨Nz,H⟩
  ·refine Cf (df Nz)<|Ex ?_
   obtain ⟨Ec,H⟩:=ax H
   obtain ⟨Ed,H⟩:=ax H
   exact Rh hN [I (x4.length:Int),(K .u8) (rd x4 (wrap64 ((x4.length:Int) - 1))),(K .u8) (rd x4 (wrap64 ((x4.length:Int) - 1))),(K .u8) (Go.bits .and .u8 (rd x4 (wrap64 ((x4.length:Int) - 1))) 127),.row (some 5) 1 (List.map (K .u8) (x4.set ((wrap64 ((x4.length:Int) - 1)):Int).toNat (Go.bits .and .u8 (rd x4 (wrap64 ((x4.length:Int) - 1))) 127)))] (.cons (aR (K .u8) x4) (.cons Ec (.cons (eF (K .u8) Ed) (.cons (aG (K .u8) (0:Int) Ec Ed) (.cons Ec (.cons (eF (K .u8) Ed) (.cons (aG (K .u8) (0:Int) Ec Ed) (.cons (Fit.refl ((K .u8) (Go.bits .and .u8 (rd x4 (wrap64 ((x4.length:Int) - 1))) 127))) (.cons (Dr (K .u8) (l:=x4) (n:=((wrap64 ((x4.length:Int) - 1)):Int).toNat) (x:=Go.bits .and .u8 (rd x4 (wrap64 ((x4.length:Int) - 1))) 127)) .nil)))))))))<|⟨k,by omega,(x4.set ((wrap64 ((x4.length:Int) - 1)):Int).toNat (Go.bits .and .u8 (rd x4 (wrap64 ((x4.length:Int) - 1))) 127)),x1000,ah,ay,au,Wo [(1,0),(4,0)],H⟩
  refine Ct (dt Nz)<|Sk<|Sw<|Bl<|Sw ?_
  obtain ⟨ahL,H⟩:=ax H
  refine Rh hN [] (.cons ahL .nil)<|Sw<|Sw<|Rg hN ?_
  rcases ak H with ⟨NA,H⟩ | ⟨NA,H⟩
  ·exact Ct (bq NA)<|Ex<|Rg hN<|⟨k,by omega,x4,wrap64 (x6 - 7),x1000,ah,ay,au,by omega,Wo [(1,0),(4,0),(6,0)],H⟩
  refine Cf (bn NA)<|Sk ?_
  obtain ⟨ahM,H⟩:=ax H
  exact Rh hN [.kb true,.row (some 5) 1 (List.map (K .u8) (x4++[(Go.bits .or .i64 (Go.bits .and .i64 (shr .i64 ah x6) 127) 128) % 256]))] (.cons (dL (K .u8) x4 [(Go.bits .or .i64 (Go.bits .and .i64 (shr .i64 ah x6) 127) 128) % 256] (.refl _)) (.cons (dZ (K .u8) ahM) .nil))<|Rg hN<|⟨k,by omega,(x4++[(Go.bits .or .i64 (Go.bits .and .i64 (shr .i64 ah x6) 127) 128) % 256]),wrap64 (x6 - 7),x1000,ah,ay,au,by omega,Wo [(1,0),(4,0),(6,0)],H⟩
 clear H
 rintro st ⟨n',hn',x4,x1000,ah,ay,au,W,H⟩
 rcases n' with _ | k
 ·cases H
 refine W.good ?_
 rw [fq.j2] at H
 refine Sw<|Bl<|Sw<|Rg hN ?_
 rcases ak H with ⟨NB,H⟩ | ⟨NB,H⟩
 ·refine Ct (dt NB) ?_
  obtain ⟨ahN,H⟩:=ax H
  refine Rh hN [.kb true,.row (some 5) 1 (List.map (K .u8) (x4++[(au) % 256]))] (.cons (dL (K .u8) x4 [(au) % 256] (.refl _)) (.cons (dZ (K .u8) ahN) .nil))<|Sw<|Rh hN [S (strOfNums (x4++[(au) % 256]))] (.cons (mO (x4++[(au) % 256])) .nil) ?_
  cases H
  exact Rt dR
 refine Cf (df NB)<|Sw<|Rg hN ?_
 rcases ak H with ⟨NC,H⟩ | ⟨NC,H⟩
 ·refine Ct (dt NC) ?_
  obtain ⟨ahO,H⟩:=ax H
  refine Rh hN [.kb true,.row (some 5) 1 (List.map (K .u8) (x4++[129,(au) % 256]))] (.cons (dL (K .u8) x4 [129,(au) % 256] (.refl _)) (.cons (VH (K .u8) ahO) .nil))<|Sw<|Rh hN [S (strOfNums (x4++[129,(au) % 256]))] (.cons (mO (x4++[129,(au) % 256])) .nil) ?_
  cases H
  exact Rt dR
 refine Cf (df NC) ?_
 obtain ⟨ahP,H⟩:=ax H
 refine Rh hN [.kb true,.row (some 5) 1 (List.map (K .u8) (x4++[130,(au / 256) % 256,(au) % 256]))] (.cons (show (0:Int)≤8 by decide) (.cons (dL (K .u8) x4 [130,(au / 256) % 256,(au) % 256] (.refl _)) (.cons (VH (K .u8) ahP) .nil)))<|Sw<|Rh hN [S (strOfNums (x4++[130,(au / 256) % 256,(au) % 256]))] (.cons (mO (x4++[130,(au / 256) % 256,(au) % 256])) .nil) ?_
 cases H
 exact Rt dR
def sW.f (k:Nat) (aK:Int) (cu:Int) (bA:Bool) (bg:Int):Option (Int):=(fq.f k aK cu bA bg).bind fun Ee=>(some (Ee.1.size:Int))
theorem sW.az {k:Nat} {aK:Int} {cu:Int} {bA:Bool} {bg:Int} {r:(Int)} (H:sW.f k aK cu bA bg=some r):aW Tryz.prog 55 [.agg [I aK,I cu,B bA,I bg]] (I r):=by
 refine Cg Tryz.func55 rfl fun C hN hL=>?_
 unfold sW.f at H
 refine Sw<|Rg hN<|Sw ?_
 obtain ⟨Ee,ahQ,H⟩:=aF H
 refine Rh hN [.aC [S Ee.1,I Ee.2]] (.cons (fq.az ahQ).c .nil)<|Sw<|Rg hN ?_
 cases H
 exact Rt dR
mutual
def gP.l0:Nat→List af→List (Nat × Nat)→Int→Option (List (Nat × Nat) × Bool)
 | 0,_,_,_=>none
 | k+1,x0,x4,x5=>if x5≥0 then (if 0≤x5 then (if x5 < (x0.length:Int) then (gP.l1 k x0 x4 x5 (((aa x0 x5).f3).size:Int) ((aa x0 x5).f4) (((aa x0 x5).f4).length:Int) 0) else (none)) else (none)) else (some (x4,true))
def gP.l1:Nat→List af→List (Nat × Nat)→Int→Int→List Int→Int→Int→Option (List (Nat × Nat) × Bool)
 | 0,_,_,_,_,_,_,_=>none
 | k+1,x0,x4,x5,x6,x30,x31,x32=>if x32 < x31 then (if 0≤x32 then (if x32 < (x30.length:Int) then (if 0≤(rd x30 x32) then (if (rd x30 x32) < (x4.length:Int) then (if sD ((gI ((0,0):Nat × Nat) x4 (rd x30 x32)).1) ((gI ((0,0):Nat × Nat) x4 (rd x30 x32)).2)=true then (if uw (nV ((gI ((0,0):Nat × Nat) x4 (rd x30 x32)).1) ((gI ((0,0):Nat × Nat) x4 (rd x30 x32)).2))=true then (gP.l1 k x0 x4 x5 (wrap64 (x6+(fint (nV ((gI ((0,0):Nat × Nat) x4 (rd x30 x32)).1) ((gI ((0,0):Nat × Nat) x4 (rd x30 x32)).2))))) x30 x31 (wrap64 (x32+1))) else (none)) else (none)) else (none)) else (none)) else (none)) else (none)) else (if 0≤x5 then (if x5 < (x0.length:Int) then ((sW.f k ((aa x0 x5).f0) ((aa x0 x5).f1) ((aa x0 x5).f2) x6).bind fun pU=>(if pU=0 then (some (([]:List (Nat × Nat)),false)) else (if (wrap64 (pU+x6)) > 65535 then (some (([]:List (Nat × Nat)),false)) else (if x5 < (x4.length:Int) then (gP.l0 k x0 (x4.set (x5:Int).toNat (floatOfInt .f64 pU,floatOfInt .f64 x6)) (wrap64 (x5 - 1))) else (none))))) else (none)) else (none))
end
def gP.f (k:Nat) (l0:List af):Option (List (Nat × Nat) × Bool):=if 0≤(l0.length:Int) then (if ((l0.length:Int):Int).toNat≤17592186044416 then (gP.l0 k l0 (List.replicate ((l0.length:Int):Int).toNat ((0,0):Nat × Nat)) (wrap64 ((l0.length:Int) - 1))) else (none)) else (none)
theorem gP.az {k:Nat} {l0:List af} {r:(List (Nat × Nat) × Bool)} (H:gP.f k l0=some r):aW Tryz.prog 33 [.row none 5 (List.map (v56 0) l0)] (.aC [.row (some 79) 1 (List.map Cx r.1),B r.2]):=by
 refine Cg Tryz.func33 rfl fun C hN hL=>?_
 unfold gP.f at H
 refine Sw<|Rg hN<|Sw ?_
 obtain ⟨ahR,H⟩:=ax H
 obtain ⟨ahS,H⟩:=ax H
 refine Rh hN [I (l0.length:Int),.row (some 79) 1 (List.map Cx (List.replicate ((l0.length:Int):Int).toNat ((0,0):Nat × Nat)))] (.cons (aR (v56 0) l0) (.cons ahR (.cons (Int.le_refl (l0.length:Int)) (.cons (aed ahS) (.cons (VG Cx (((l0.length:Int):Int).toNat) ((0,0):Nat × Nat)) .nil)))))<|Sw<|Sw<|Rh hN [I (l0.length:Int)] (.cons (aR (v56 0) l0) .nil)<|Bl<|Good.dK (fun k' st=>∃ (x0:List af) (x4:List (Nat × Nat)) (x5:Int),k'≤k∧Wk C st ⟨[(0,.w (.row none 5 (List.map (v56 0) x0))),(4,.w (.row (some 79) 1 (List.map Cx x4))),(5,.w (I x5))],[]⟩∧gP.l0 k' x0 x4 x5=some r) k ⟨l0,List.replicate ((l0.length:Int):Int).toNat ((0,0):Nat × Nat),wrap64 ((l0.length:Int) - 1),Nat.le_refl _,Wo [(0,0),(4,0),(5,0)],H⟩ fun k=>⟨fun st h=>(by obtain ⟨_,_,_,_,_,H⟩:=h;cases H),?_⟩
 clear H
 rintro st ⟨x0,x4,x5,hk,W,H⟩
 refine W.good ?_
 rw [gP.l0] at H
 refine Sw<|Sw<|Rg hN ?_
 rcases (ak H).symm with ⟨ND,H⟩ | ⟨ND,H⟩
 ·refine Cf (df ND)<|Ex<|Sw<|Rg hN ?_
  cases H
  exact Rt dR
 refine Ct (dt ND)<|Sk<|Sw<|Bl<|Sw ?_
 obtain ⟨Ef,H⟩:=ax H
 obtain ⟨XA,H⟩:=ax H
 refine Rh hN [(v56 0) (aa x0 x5)] (.cons Ef (.cons (aG (v56 0) z56 Ef XA) .nil))<|Sw<|Sw<|Rh hN [(v56 0) (aa x0 x5),I (((aa x0 x5).f4).length:Int)] (.cons Ef (.cons (aG (v56 0) z56 Ef XA) (.cons (aR I ((aa x0 x5).f4)) .nil)))<|Bl<|Good.dK (fun k' st=>∃ (x0:List af) (x4:List (Nat × Nat)) (x5:Int) (x6:Int) (x30:List Int) (x31:Int) (x32:Int),k'≤k∧Wk C st ⟨[(0,.w (.row none 5 (List.map (v56 0) x0))),(4,.w (.row (some 79) 1 (List.map Cx x4))),(5,.w (I x5)),(6,.w (I x6)),(30,.w (.row none 1 (List.map I x30))),(31,.w (I x31)),(32,.w (I x32))],[]⟩∧gP.l1 k' x0 x4 x5 x6 x30 x31 x32=some r) k ⟨x0,x4,x5,(((aa x0 x5).f3).size:Int),(aa x0 x5).f4,(((aa x0 x5).f4).length:Int),0,Nat.le_refl _,Wo [(0,0),(4,0),(5,0),(6,0),(30,0),(31,0),(32,0)],H⟩ fun k=>⟨fun st h=>(by obtain ⟨_,_,_,_,_,_,_,_,_,H⟩:=h;cases H),?_⟩
 clear H
 rintro st ⟨x0,x4,x5,x6,x30,x31,x32,hk,W,H⟩
 refine W.good ?_
 rw [gP.l1] at H
 refine Sw<|Rg hN<|Sw ?_
 rcases ak H with ⟨NF,H⟩ | ⟨NF,H⟩
 ·refine Ct (dt NF)<|Sk<|Sw<|Bl<|Sw ?_
  obtain ⟨XB,H⟩:=ax H
  obtain ⟨ahT,H⟩:=ax H
  refine Rh hN [I (rd x30 x32)] (.cons XB (.cons (aG I (0:Int) XB ahT) .nil)) ?_
  obtain ⟨rW,H⟩:=ax H
  obtain ⟨wz,H⟩:=ax H
  obtain ⟨XC,H⟩:=ax H
  obtain ⟨XD,H⟩:=ax H
  exact Rd hm hN (.qs 14 0 (.q 14 [] .z)) [(4,some (.row none 1 (List.map Cx x4))),(6,none),(8,none)] (.cons (aP (some 79) 1 Cx Cx x4 (fun _=>rfl)) .nil) [Cx (gI ((0,0):Nat × Nat) x4 (rd x30 x32)),Cx (gI ((0,0):Nat × Nat) x4 (rd x30 x32))] [Cx (gI ((0,0):Nat × Nat) x4 (rd x30 x32)),Cx (gI ((0,0):Nat × Nat) x4 (rd x30 x32))] (.cons rW (.cons (eF Cx wz) (.cons (aG Cx ((0,0):Nat × Nat) rW wz) (.cons rW (.cons (eF Cx wz) (.cons (aG Cx ((0,0):Nat × Nat) rW wz) (.cons XC (.cons XD .nil)))))))) (.cons rW (.cons (aG Cx ((0,0):Nat × Nat) rW wz) (.cons rW (.cons (aG Cx ((0,0):Nat × Nat) rW wz) (.cons XC (.cons XD .nil)))))) [] []<|Rg hN<|⟨k,by omega,x0,x4,x5,wrap64 (x6+(fint (nV ((gI ((0,0):Nat × Nat) x4 (rd x30 x32)).1) ((gI ((0,0):Nat × Nat) x4 (rd x30 x32)).2)))),x30,x31,wrap64 (x32+1),by omega,Wo [(0,0),(4,0),(5,0),(6,0),(30,0),(31,0),(32,0)],H⟩
 refine Cf (df NF)<|Ex<|Sw ?_
 obtain ⟨mP,H⟩:=ax H
 obtain ⟨wB,H⟩:=ax H
 obtain ⟨pU,ahU,H⟩:=aF H
 refine Rd hm hN (.qs 17 0 (.e 17 (.q 18 [] .z))) [(0,none),(5,none),(6,none)] .nil [(v56 0) (aa x0 x5),(v56 0) (aa x0 x5),(v56 0) (aa x0 x5),I pU] [(v56 0) (aa x0 x5),(v56 0) (aa x0 x5),(v56 0) (aa x0 x5)] (.cons mP (.cons (aG (v56 0) z56 mP wB) (.cons mP (.cons (aG (v56 0) z56 mP wB) (.cons mP (.cons (aG (v56 0) z56 mP wB) (.cons (sW.az ahU).c .nil))))))) (.cons mP (.cons (aG (v56 0) z56 mP wB) (.cons mP (.cons (aG (v56 0) z56 mP wB) (.cons mP (.cons (aG (v56 0) z56 mP wB) .nil)))))) [] []<|Sw<|Sw ?_
 rcases ak H with ⟨NG,H⟩ | ⟨NG,H⟩
 ·refine Rh hN [B true] (.cons (bq NG) .nil)<|Good.cond true (by kernel_rfl)<|Sw<|Rg hN ?_
  cases H
  exact Good.ret (eY (u:=.aC [.nil 79 1,B false]) (.aC (.cons (.fP 79 1) (.cons (.refl _) .nil))) (by kernel_rfl))
 refine Rh hN [B false] (.cons (bn NG) .nil) ?_
 rcases ak H with ⟨NH,H⟩ | ⟨NH,H⟩
 ·refine Ct (dt NH)<|Sw<|Rg hN ?_
  cases H
  exact Good.ret (eY (u:=.aC [.nil 79 1,B false]) (.aC (.cons (.fP 79 1) (.cons (.refl _) .nil))) (by kernel_rfl))
 refine Cf (df NH)<|Sk ?_
 obtain ⟨XE,H⟩:=ax H
 exact Rh hN [Cx (gI ((0,0):Nat × Nat) x4 x5),Cx (floatOfInt .f64 pU,floatOfInt .f64 x6),.row (some 79) 1 (List.map Cx (x4.set (x5:Int).toNat (floatOfInt .f64 pU,floatOfInt .f64 x6)))] (.cons mP (.cons (eF Cx XE) (.cons (aG Cx ((0,0):Nat × Nat) mP XE) (.cons (Fit.refl (Cx (floatOfInt .f64 pU,floatOfInt .f64 x6))) (.cons (Dr Cx (l:=x4) (n:=(x5:Int).toNat) (x:=(floatOfInt .f64 pU,floatOfInt .f64 x6))) .nil)))))<|Rg hN<|⟨k,by omega,x0,(x4.set (x5:Int).toNat (floatOfInt .f64 pU,floatOfInt .f64 x6)),wrap64 (x5 - 1),by omega,Wo [(0,0),(4,0),(5,0)],H⟩
def ic.l0:Nat→List (Nat × Nat)→List Int→List af→Int→Int→Option (ByteArray × Int)
 | 0,_,_,_,_,_=>none
 | k+1,x4,x6,bI,sM,dz=>if dz < sM then (if 0≤dz then (if dz < (bI.length:Int) then (if dz < (x4.length:Int) then (if uw ((gI ((0,0):Nat × Nat) x4 dz).2)=true then ((fq.f k ((aa bI dz).f0) ((aa bI dz).f1) ((aa bI dz).f2) (fint ((gI ((0,0):Nat × Nat) x4 dz).2))).bind fun mi=>(if x6.length+mi.1.size < 140737488355328 then ((some (x6++bytesOf mi.1:List Int)).bind fun XF=>(if XF.length+((aa bI dz).f3).size < 140737488355328 then (ic.l0 k x4 (XF++bytesOf ((aa bI dz).f3)) bI sM (wrap64 (dz+1))) else (none))) else (none))) else (none)) else (none)) else (none)) else (none)) else (some (strOfNums x6,0))
def ic.f (k:Nat) (l0:List af):Option (ByteArray × Int):=(lH.f k l0).bind fun NI=>(if NI=true then ((gP.f k l0).bind fun wC=>(if wC.2=true then (ic.l0 k wC.1 ([]:List Int) l0 (l0.length:Int) 0) else (some ((⟨#[]⟩:ByteArray),4)))) else (some ((⟨#[]⟩:ByteArray),1)))
theorem ic.az {k:Nat} {l0:List af} {r:(ByteArray × Int)} (H:ic.f k l0=some r):aW Tryz.prog 15 [.row none 5 (List.map (v56 0) l0)] (.aC [S r.1,I r.2]):=by
 refine Cg Tryz.func15 rfl fun C hN hL=>?_
 unfold ic.f at H
 refine Sw<|Rg hN<|Sw<|Sw ?_
 obtain ⟨NI,ahV,H⟩:=aF H
 refine Rh hN [B NI] (.cons (lH.az ahV).c .nil) ?_
 rcases (ak H).symm with ⟨NJ,H⟩ | ⟨NJ,H⟩
 ·refine Ct (ed (bf NJ))<|Sw<|Rg hN ?_
  cases H
  exact Rt dR
 refine Cf (eH NJ)<|Sk<|Sw ?_
 obtain ⟨wC,ahW,H⟩:=aF H
 refine Rh hN [.aC [.row (some 79) 1 (List.map Cx wC.1),B wC.2]] (.cons (gP.az ahW).c .nil)<|Sw<|Sw<|Rg hN ?_
 rcases (ak H).symm with ⟨NK,H⟩ | ⟨NK,H⟩
 ·refine Ct (ed (bf NK))<|Sw<|Rg hN ?_
  cases H
  exact Rt dR
 refine Cf (eH NK)<|Sk<|Sw<|Rg hN<|Sw<|Sw<|Rh hN [I (l0.length:Int)] (.cons (aR (v56 0) l0) .nil)<|Bl<|Good.dK (fun k' st=>∃ (x4:List (Nat × Nat)) (x6:List Int) (bI:List af) (sM:Int) (dz:Int),k'≤k∧Wk C st ⟨[(4,.w (.row (some 79) 1 (List.map Cx x4))),(6,.w (.row (some 5) 1 (List.map (K .u8) x6))),(21,.w (.row none 5 (List.map (v56 0) bI))),(22,.w (I sM)),(23,.w (I dz))],[]⟩∧ic.l0 k' x4 x6 bI sM dz=some r) k ⟨wC.1,([]:List Int),l0,(l0.length:Int),0,Nat.le_refl _,Wo [(4,0),(6,1),(21,0),(22,0),(23,0)],H⟩ fun k=>⟨fun st h=>(by obtain ⟨_,_,_,_,_,_,_,H⟩:=h;cases H),?_⟩
 clear H
 rintro st ⟨x4,x6,bI,sM,dz,hk,W,H⟩
 refine W.good ?_
 rw [ic.l0] at H
 refine Sw<|Rg hN<|Sw ?_
 rcases (ak H).symm with ⟨NL,H⟩ | ⟨NL,H⟩
 ·refine Cf (df NL)<|Ex<|Sw<|Rh hN [S (strOfNums x6)] (.cons (mO x6) .nil) ?_
  cases H
  exact Rt dR
 refine Ct (dt NL)<|Sk<|Sw<|Bl<|Sw ?_
 obtain ⟨wD,H⟩:=ax H
 obtain ⟨ahX,H⟩:=ax H
 refine Rh hN [(v56 0) (aa bI dz)] (.cons wD (.cons (aG (v56 0) z56 wD ahX) .nil))<|Sw ?_
 obtain ⟨NM,H⟩:=ax H
 obtain ⟨XG,H⟩:=ax H
 obtain ⟨mi,ahY,H⟩:=aF H
 refine Rd hm hN (.qs 13 0 (.e 13 (.qs 4 14 (.q 18 [] .z)))) [(4,some (.row none 1 (List.map Cx x4))),(7,none),(8,some (.pt [I ((aa bI dz).f0),I ((aa bI dz).f1),B ((aa bI dz).f2),S ((aa bI dz).f3),.row none 1 (List.map I ((aa bI dz).f4))]))] (.cons (aP (some 79) 1 Cx Cx x4 (fun _=>rfl)) (.cons (bV (aA (rfl:(V.shr (I ((aa bI dz).f0)))=I ((aa bI dz).f0)) (aA (rfl:(V.shr (I ((aa bI dz).f1)))=I ((aa bI dz).f1)) (aA (rfl:(V.shr (B ((aa bI dz).f2)))=B ((aa bI dz).f2)) (aA (rfl:(V.shr (S ((aa bI dz).f3)))=S ((aa bI dz).f3)) (aA (aP none 1 I I ((aa bI dz).f4) (fun _=>rfl)) (rfl:aZ []=[]))))))) .nil)) [Cx (gI ((0,0):Nat × Nat) x4 dz),.aC [S mi.1,I mi.2]] [Cx (gI ((0,0):Nat × Nat) x4 dz)] (.cons wD (.cons (eF Cx NM) (.cons (aG Cx ((0,0):Nat × Nat) wD NM) (.cons XG (.cons (fq.az ahY).c .nil))))) (.cons wD (.cons (aG Cx ((0,0):Nat × Nat) wD NM) (.cons XG .nil))) [] [] ?_
 obtain ⟨XH,H⟩:=ax H
 replace H:=oH H
 obtain ⟨XI,H⟩:=ax H
 exact Good.qp (n:=2) hm hN hL (.q 0 [[],[2]] (.q 1 [[],[2]] (.i 3 (.b 2 [.kb false,.row (some 5) 1 (List.map (K .u8) (x6++bytesOf mi.1)),.kb false,.row (some 5) 1 (List.map (K .u8) ((x6++bytesOf mi.1)++bytesOf ((aa bI dz).f3)))] [] (.e 4 (.e 5 (.e 6 .z))) [.kb false,.row (some 5) 1 (List.map (K .u8) (x6++bytesOf mi.1)),.kb false,.row (some 5) 1 (List.map (K .u8) ((x6++bytesOf mi.1)++bytesOf ((aa bI dz).f3)))] [] (.e 4 (.e 2 (.e 5 (.e 6 .z)))))))) [(6,some (.row none 1 (List.map (K .u8) x6))),(8,some (.pt [I ((aa bI dz).f0),I ((aa bI dz).f1),B ((aa bI dz).f2),S ((aa bI dz).f3),.row none 1 (List.map I ((aa bI dz).f4))])),(9,none)] (by kernel_rfl) (.cons (aP (some 5) 1 (K .u8) (K .u8) x6 (fun _=>rfl)) (.cons (bV (aA (rfl:(V.shr (I ((aa bI dz).f0)))=I ((aa bI dz).f0)) (aA (rfl:(V.shr (I ((aa bI dz).f1)))=I ((aa bI dz).f1)) (aA (rfl:(V.shr (B ((aa bI dz).f2)))=B ((aa bI dz).f2)) (aA (rfl:(V.shr (S ((aa bI dz).f3)))=S ((aa bI dz).f3)) (aA (aP none 1 I I ((aa bI dz).f4) (fun _=>rfl)) (rfl:aZ []=[]))))))) .nil)) [] [] (.cons (.cons (Dt x6 mi.1) (.cons (Du (K .u8) XH) (.cons (Dt (x6++bytesOf mi.1) ((aa bI dz).f3)) (.cons (Du (K .u8) XI) .nil)))) .nil (.cons (.cons (Dt x6 mi.1) (.cons (Du (K .u8) XH) (.cons (Dt (x6++bytesOf mi.1) ((aa bI dz).f3)) (.cons (Du (K .u8) XI) .nil)))) .nil .nil)) [] [] (by kernel_rfl) (by kernel_rfl) [[],[]] [(4,0),(6,0),(21,0),(22,0),(23,0)] [(4,.w (.row (some 79) 1 (List.map Cx x4))),(6,.w (.row (some 5) 1 (List.map (K .u8) ((x6++bytesOf mi.1)++bytesOf ((aa bI dz).f3))))),(21,.w (.row none 5 (List.map (v56 0) bI))),(22,.w (I sM)),(23,.w (I dz))] [.cells [.v (I ((aa bI dz).f0)),.v (I ((aa bI dz).f1)),.v (B ((aa bI dz).f2)),.v (S ((aa bI dz).f3)),.v (.row none 1 (List.map I ((aa bI dz).f4)))]] (by kernel_rfl) (by kernel_rfl)<|Rg hN<|⟨k,by omega,x4,((x6++bytesOf mi.1)++bytesOf ((aa bI dz).f3)),bI,sM,wrap64 (dz+1),by omega,Wk.mq hL 0 [(4,0),(6,0),(21,0),(22,0),(23,0)] (by kernel_rfl) (by kernel_rfl) (by kernel_rfl),H⟩
def iY.j0:Nat→List af→List af→List (List af)→Bool→ByteArray→Option (ByteArray × Int)
 | 0,_,_,_,_,_=>none
 | k+1,x4,x6,x8,A7,ay=>if A7=true then (some ((⟨#[]⟩:ByteArray),1)) else ((jR.f k 0).bind fun Eg=>((l6.f 0 2 Eg).bind fun jJ=>((fu.f k 0 16 ([x4,x6]:List (List af))).bind fun jK=>((l6.f 0 4 ay).bind fun jL=>(if (x8.length:Int) > 0 then ((fu.f k 2 0 x8).bind fun qG=>(if ([jJ,jK,jL]:List (List af)).length < 5864062014805 then ((fu.f k 0 16 (([jJ,jK,jL]:List (List af))++[qG])).bind fun zK=>((ic.f k zK).bind fun zL=>(some (zL.1,zL.2)))) else (none))) else ((fu.f k 0 16 ([jJ,jK,jL]:List (List af))).bind fun zM=>((ic.f k zM).bind fun zN=>(some (zN.1,zN.2)))))))))
def iY.f (k:Nat) (dU:List Int) (av:List Int) (bA:ByteArray) (bg:ByteArray):Option (ByteArray × Int):=(jS.f k dU false).bind fun pV=>((jS.f k av true).bind fun pW=>((gN.f k bg).bind fun oN=>(if pV.2=true then (if pW.2=true then (iY.j0 k pV.1 pW.1 oN.1 (!oN.2) bA) else (iY.j0 k pV.1 pW.1 oN.1 (!false) bA)) else (iY.j0 k pV.1 pW.1 oN.1 (!false) bA))))
theorem iY.az {k:Nat} {dU:List Int} {av:List Int} {bA:ByteArray} {bg:ByteArray} {r:(ByteArray × Int)} (H:iY.f k dU av bA bg=some r):aW Tryz.prog 5 [.agg [.row none 1 (List.map I dU),.row none 1 (List.map I av),S bA,S bg]] (.aC [S r.1,I r.2]):=by
 refine Cg Tryz.func5 rfl fun C hN hL=>?_
 unfold iY.f at H
 refine Sw<|Rg hN<|Sw ?_
 obtain ⟨pV,ahZ,H⟩:=aF H
 refine Rh hN [.aC [.row (some 56) 5 (List.map (v56 0) pV.1),B pV.2]] (.cons (jS.az ahZ).c .nil)<|Sw ?_
 obtain ⟨pW,ah0,H⟩:=aF H
 refine Rh hN [.aC [.row (some 56) 5 (List.map (v56 0) pW.1),B pW.2]] (.cons (jS.az ah0).c .nil)<|Sw ?_
 obtain ⟨oN,ah1,H⟩:=aF H
 refine Rh hN [.aC [.row (some 38) 1 (List.map (aQ 0) oN.1),B oN.2]] (.cons (gN.az ah1).c .nil)<|Sw<|Sw<|Good.cut (fun st=>∃ n':Nat,n'≤k∧∃ (x4:List af) (x6:List af) (x8:List (List af)) (A7:Bool) (x1000:List Int) (ah:List Int) (ay:ByteArray) (au:ByteArray),Wk C st ⟨[(1,.d (.ptr 0 0)),(4,.w (.row (some 56) 5 (List.map (v56 0) x4))),(6,.w (.row (some 56) 5 (List.map (v56 0) x6))),(8,.w (.row (some 38) 1 (List.map (aQ 0) x8))),(36,.w (B A7))],[.cells [.v (.row none 1 (List.map I x1000)),.v (.row none 1 (List.map I ah)),.v (S ay),.v (S au)]]⟩∧iY.j0 n' x4 x6 x8 A7 ay=some r) ?_ ?_
 ·rcases (ak H).symm with ⟨Eh,H⟩ | ⟨Eh,H⟩
  ·exact Rh hN [B false,B false] (.cons (bf Eh) (.cons (rfl:false=false) .nil))<|⟨k,by omega,pV.1,pW.1,oN.1,!false,dU,av,bA,bg,Wo [(1,0),(4,0),(6,0),(8,0),(36,0)],H⟩
  rcases ak H with ⟨NN,H⟩ | ⟨NN,H⟩
  ·exact Rh hN [B true,B true] (.cons Eh (.cons NN .nil))<|⟨k,by omega,pV.1,pW.1,oN.1,!oN.2,dU,av,bA,bg,Wo [(1,0),(4,0),(6,0),(8,0),(36,0)],H⟩
  exact Rh hN [B true,B false] (.cons Eh (.cons (bf NN) .nil))<|⟨k,by omega,pV.1,pW.1,oN.1,!false,dU,av,bA,bg,Wo [(1,0),(4,0),(6,0),(8,0),(36,0)],H⟩
 clear H
 rintro st ⟨n',hn',x4,x6,x8,A7,x1000,ah,ay,au,W,H⟩
 rcases n' with _ | k
 ·cases H
 refine W.good ?_
 rw [iY.j0] at H
 rcases ak H with ⟨NP,H⟩ | ⟨NP,H⟩
 ·refine Ct NP<|Sw<|Rg hN ?_
  cases H
  exact Rt dR
 refine Cf (bf NP)<|Sk<|Sw ?_
 obtain ⟨Eg,NQ,H⟩:=aF H
 obtain ⟨jJ,NR,H⟩:=aF H
 obtain ⟨jK,NS,H⟩:=aF H
 obtain ⟨jL,NT,H⟩:=aF H
 refine Good.qp (n:=3) hm hN hL (.q 2 [] (.q 3 [] (.q 6 [] (.q 7 [] (.b 0 [S Eg] [] (.b 1 [.row (some 56) 5 (List.map (v56 0) jJ),.row none 5 (List.map (v56 0) x4),.row none 5 (List.map (v56 0) x6),.row none 1 (List.map (aQ 0) ([x4,x6]:List (List af))),.row (some 56) 5 (List.map (v56 1) jK),.row (some 56) 5 (List.map (v56 0) jL),.row none 5 (List.map (v56 0) jJ),.row none 5 (List.map (v56 0) jK),.row none 5 (List.map (v56 0) jL)] [] (.e 4 (.e 5 (.e 8 (.e 9 (.e 10 .z))))) [.row none 5 (List.map (v56 0) x4),.row none 5 (List.map (v56 0) x6),.row (some 56) 5 (List.map (v56 0) jJ),.row none 1 (List.map (aQ 0) ([x4,x6]:List (List af))),.row (some 56) 5 (List.map (v56 1) jK),.row (some 56) 5 (List.map (v56 0) jL),.row none 5 (List.map (v56 0) jJ),.row none 5 (List.map (v56 0) jK),.row none 5 (List.map (v56 0) jL)] [] (.e 4 (.e 1 (.e 5 (.e 8 (.e 9 (.e 10 .z))))))) [.row none 5 (List.map (v56 0) x4),.row none 5 (List.map (v56 0) x6),S Eg,.row (some 56) 5 (List.map (v56 0) jJ),.row none 1 (List.map (aQ 0) ([x4,x6]:List (List af))),.row (some 56) 5 (List.map (v56 1) jK),.row (some 56) 5 (List.map (v56 0) jL),.row none 5 (List.map (v56 0) jJ),.row none 5 (List.map (v56 0) jK),.row none 5 (List.map (v56 0) jL)] [] (.e 4 (.e 0 (.e 1 (.e 5 (.e 8 (.e 9 (.e 10 .z)))))))))))) [(1,some (.pt [.row none 1 (List.map I x1000),.row none 1 (List.map I ah),S ay,S au])),(4,some (.row none 5 (List.map (v56 0) x4))),(6,some (.row none 5 (List.map (v56 0) x6)))] (by kernel_rfl) (.cons (bV (aA (aP none 1 I I x1000 (fun _=>rfl)) (aA (aP none 1 I I ah (fun _=>rfl)) (aA (rfl:(V.shr (S ay))=S ay) (aA (rfl:(V.shr (S au))=S au) (rfl:aZ []=[])))))) (.cons (aP (some 56) 5 (v56 0) (v56 0) x4 (v56.shr _)) (.cons (aP (some 56) 5 (v56 0) (v56 0) x6 (v56.shr _)) .nil))) [] [] (.cons (.cons (jR.az NQ).c (.cons (l6.az NR).c (.cons (aP (some 56) 5 (v56 0) (v56 0) x4 (v56.shr _)) (.cons (aP (some 56) 5 (v56 0) (v56 0) x6 (v56.shr _)) (.cons (aP (some 38) 1 (aQ 0) (aQ 0) ([x4,x6]:List (List af)) (aQ.shr _)) (.cons (fu.az NS).c (.cons (l6.az NT).c (.cons (aP (some 56) 5 (v56 0) (v56 0) jJ (v56.shr _)) (.cons (aP (some 56) 5 (v56 1) (v56 0) jK (v56.shr _)) (.cons (aP (some 56) 5 (v56 0) (v56 0) jL (v56.shr _)) .nil)))))))))) .nil (.cons (.cons (jR.az NQ).c (.cons (aP (some 56) 5 (v56 0) (v56 0) x4 (v56.shr _)) (.cons (aP (some 56) 5 (v56 0) (v56 0) x6 (v56.shr _)) (.cons (l6.az NR).c (.cons (aP (some 38) 1 (aQ 0) (aQ 0) ([x4,x6]:List (List af)) (aQ.shr _)) (.cons (fu.az NS).c (.cons (l6.az NT).c (.cons (aP (some 56) 5 (v56 0) (v56 0) jJ (v56.shr _)) (.cons (aP (some 56) 5 (v56 1) (v56 0) jK (v56.shr _)) (.cons (aP (some 56) 5 (v56 0) (v56 0) jL (v56.shr _)) .nil)))))))))) .nil (.cons (.cons (aP (some 56) 5 (v56 0) (v56 0) x4 (v56.shr _)) (.cons (aP (some 56) 5 (v56 0) (v56 0) x6 (v56.shr _)) (.cons (jR.az NQ).c (.cons (l6.az NR).c (.cons (aP (some 38) 1 (aQ 0) (aQ 0) ([x4,x6]:List (List af)) (aQ.shr _)) (.cons (fu.az NS).c (.cons (l6.az NT).c (.cons (aP (some 56) 5 (v56 0) (v56 0) jJ (v56.shr _)) (.cons (aP (some 56) 5 (v56 1) (v56 0) jK (v56.shr _)) (.cons (aP (some 56) 5 (v56 0) (v56 0) jL (v56.shr _)) .nil)))))))))) .nil .nil))) [] [] (by kernel_rfl) (by kernel_rfl) [[],[],[]] [(8,0),(10,0)] [(8,.w (.row (some 38) 1 (List.map (aQ 0) x8))),(10,.w (.row (some 38) 1 (List.map (aQ 0) ([jJ,jK,jL]:List (List af)))))] [.cells [.v (.row none 1 (List.map I x1000)),.v (.row none 1 (List.map I ah)),.v (S ay),.v (S au)]] (by kernel_rfl) (by kernel_rfl)<|Sw<|Sw<|Rh hN [I (x8.length:Int)] (.cons (aR (aQ 0) x8) .nil) ?_
 rcases (ak H).symm with ⟨NU,H⟩ | ⟨NU,H⟩
 ·refine Cf (df NU)<|Sk<|Sw ?_
  obtain ⟨zM,ah2,H⟩:=aF H
  obtain ⟨zN,ah3,H⟩:=aF H
  refine Rh hN [.row none 1 (List.map (aQ 0) ([jJ,jK,jL]:List (List af))),.row (some 56) 5 (List.map (v56 1) zM),.row none 5 (List.map (v56 0) zM),.aC [S zN.1,I zN.2]] (.cons (aP (some 38) 1 (aQ 0) (aQ 0) ([jJ,jK,jL]:List (List af)) (aQ.shr _)) (.cons (fu.az ah2).c (.cons (aP (some 56) 5 (v56 1) (v56 0) zM (v56.shr _)) (.cons (ic.az ah3).c .nil)))) ?_
  cases H
  exact Rt dR
 refine Ct (dt NU) ?_
 obtain ⟨qG,ah4,H⟩:=aF H
 obtain ⟨ah5,H⟩:=ax H
 refine Rh hN [.row none 1 (List.map (aQ 0) x8),.row (some 56) 5 (List.map (v56 1) qG),.row none 5 (List.map (v56 0) qG),.kb true,.row (some 38) 1 (List.map (aQ 0) (([jJ,jK,jL]:List (List af))++[qG]))] (.cons (aP (some 38) 1 (aQ 0) (aQ 0) x8 (aQ.shr _)) (.cons (fu.az ah4).c (.cons (aP (some 56) 5 (v56 1) (v56 0) qG (v56.shr _)) (.cons (dL (aQ 0) ([jJ,jK,jL]:List (List af)) [qG] (.refl _)) (.cons (dZ (aQ 0) ah5) .nil)))))<|Sw ?_
 obtain ⟨zK,ah6,H⟩:=aF H
 obtain ⟨zL,ah7,H⟩:=aF H
 refine Rh hN [.row none 1 (List.map (aQ 0) (([jJ,jK,jL]:List (List af))++[qG])),.row (some 56) 5 (List.map (v56 1) zK),.row none 5 (List.map (v56 0) zK),.aC [S zL.1,I zL.2]] (.cons (aP (some 38) 1 (aQ 0) (aQ 0) (([jJ,jK,jL]:List (List af))++[qG]) (aQ.shr _)) (.cons (fu.az ah6).c (.cons (aP (some 56) 5 (v56 1) (v56 0) zK (v56.shr _)) (.cons (ic.az ah7).c .nil)))) ?_
 cases H
 exact Rt dR
end Go.Rf.T
