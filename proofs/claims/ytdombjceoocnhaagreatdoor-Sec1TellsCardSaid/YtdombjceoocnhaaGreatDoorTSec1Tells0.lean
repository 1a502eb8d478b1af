import Derived.Test.YtdombjceoocnhaaGreatDoorRSec1Tells3
import Derived.Test.YtdombjceoocnhaaGreatDoorProg
import Derived.Test.YtdombjceoocnhaaGreatDoorSSec1Tells0
import Derived.Test.YtdombjceoocnhaaGreatDoorRows
import Derived.Shelf.Unicode.ValidAny
import Derived.Lib.LaidU8T
import Derived.MakeChecks
import Derived.Deep.Cut
import Derived.RangeFuncNested
import Derived.RangeFuncBound
import Derived.RangeFuncCalls
import Derived.RangeFuncLeaves
import Derived.RangeFuncBox
import Derived.Shelf.Abstract
import Derived.Shelf.RegionOpen
import Derived.WalkKit
import Derived.OwnWalkIn
import Derived.TacticsInMore
import Derived.LoopNIn
import Derived.LoopIn
import Derived.Maps.AppendAt
import Derived.Shelf.SlicesE.Reverse
import Derived.Lib.LaidU8
import Derived.Lib.LaidTab
import Derived.Lib.AppendIntMem
import Derived.LaidLaws
import Derived.Lib.AtoiAllCases
import Derived.Lib.AtoiErrMem
import Derived.RangeFuncWrites
import Derived.Laws.BytesArg
set_option linter.unusedSectionVars false
set_option linter.unusedSimpArgs false
set_option linter.unusedVariables false
namespace Go.Rf.T
open Go Go.Rf Go.Proofs Go.RowKit Go.Proofs.YtdombjceoocnhaaGreatDoor
def nR:=Rows.sec1TellsRow.laid
instance:gp:=⟨fun p w=>∃ W,laidMetH Tryz.prog nR W∧∀ b,b < W.heap.size→p b∧w.heap[b]? = W.heap[b]?,fun k h=>let ⟨W,h1,h2⟩:=h;⟨W,h1,fun b hb=>⟨k.aL b (h2 b hb).1,(k.same b (h2 b hb).1).trans (h2 b hb).2⟩⟩⟩
def Z6:ByteArray:=⟨#[70,70,70,70,70,70,70,70,70,70,70,70,70,70,70,70,70,70,70,70,70,70,70,70,70,70,70,70,49,54,65,50,69,48,66,56,70,48,51,69,49,51,68,68,50,57,52,53,53,67,53,67,50,65,51,68]⟩
def Z7:ByteArray:=⟨#[70,70,70,70,70,70,70,70,48,48,48,48,48,48,48,48,70,70,70,70,70,70,70,70,70,70,70,70,70,70,70,70,66,67,69,54,70,65,65,68,65,55,49,55,57,69,56,52,70,51,66,57,67,65,67,50,70,67,54,51,50,53,53,49]⟩
def Z8:ByteArray:=⟨#[70,70,70,70,70,70,70,70,70,70,70,70,70,70,70,70,70,70,70,70,70,70,70,70,70,70,70,70,70,70,70,70,70,70,70,70,70,70,70,70,70,70,70,70,70,70,70,70,67,55,54,51,52,68,56,49,70,52,51,55,50,68,68,70,53,56,49,65,48,68,66,50,52,56,66,48,65,55,55,65,69,67,69,67,49,57,54,65,67,67,67,53,50,57,55,51]⟩
def Z9:ByteArray:=⟨#[48,49,70,70,70,70,70,70,70,70,70,70,70,70,70,70,70,70,70,70,70,70,70,70,70,70,70,70,70,70,70,70,70,70,70,70,70,70,70,70,70,70,70,70,70,70,70,70,70,70,70,70,70,70,70,70,70,70,70,70,70,70,70,70,70,70,70,65,53,49,56,54,56,55,56,51,66,70,50,70,57,54,54,66,55,70,67,67,48,49,52,56,70,55,48,57,65,53,68,48,51,66,66,53,67,57,66,56,56,57,57,67,52,55,65,69,66,66,54,70,66,55,49,69,57,49,51,56,54,52,48,57]⟩
theorem hm:Tryz.prog.follows .mixedOrders=true:=by kernel_rfl
structure af where
 f0:Int
 f1:Int
 f2:Bool
 f3:ByteArray
 f4:List Int
 deriving Inhabited,DecidableEq
def z55:af:=⟨0,0,false,(⟨#[]⟩:ByteArray),[]⟩
def v55 (o:Nat) (s:af):V:=.agg [I s.f0,I s.f1,B s.f2,S s.f3,.row (Gq o 3) 1 (List.map I s.f4)]
theorem v55.shr (o:Nat) (s:af):(v55 o s).shr=v55 0 s:=aiX (ay (rfl:V.shr (I s.f0)=I s.f0) (ay (rfl:V.shr (I s.f1)=I s.f1) (ay (rfl:V.shr (B s.f2)=B s.f2) (ay (rfl:V.shr (S s.f3)=S s.f3) (ay (aS (Gq o 3) 1 I I s.f4 (fun _=>rfl)) (rfl:aX []=[]))))))
def aa (l:List af) (i:Int):af:=l.getD i.toNat z55
structure fE where
 f0:ByteArray
 f1:ByteArray
 f2:ByteArray
 f3:Int
 deriving Inhabited,DecidableEq
def z85:fE:=⟨(⟨#[]⟩:ByteArray),(⟨#[]⟩:ByteArray),(⟨#[]⟩:ByteArray),0⟩
def v85 (s:fE):V:=.agg [S s.f0,S s.f1,S s.f2,I s.f3]
def ji (l:List fE) (i:Int):fE:=l.getD i.toNat z85
structure bX where
 f0:Int
 f1:Int
 deriving Inhabited,DecidableEq
def oN:bX:=⟨0,0⟩
def dz (s:bX):V:=.agg [I s.f0,I s.f1]
def bE (l:List bX) (i:Int):bX:=l.getD i.toNat oN
def dw (o:Nat) (l:List af):V:=.row (Gq o 55) 5 (List.map (v55 (o - 1)) l)
theorem dw.shr (o:Nat) (l:List af):(dw o l).shr=dw 0 l:=aS (Gq o 55) 5 (v55 (o - 1)) (v55 0) l (v55.shr _)
def bz (l:List (List af)) (i:Int):List af:=l.getD i.toNat []
def pz.f  : Option (ByteArray × ByteArray × ByteArray × Int × ByteArray × ByteArray × ByteArray × Int × ByteArray × ByteArray × ByteArray × Int × ByteArray × ByteArray × ByteArray × Int):=some ((⟨#[80,45,50,50,52]⟩:ByteArray),(⟨#[49,46,51,46,49,51,50,46,48,46,51,51]⟩:ByteArray),Z6,28,(⟨#[80,45,50,53,54]⟩:ByteArray),(⟨#[49,46,50,46,56,52,48,46,49,48,48,52,53,46,51,46,49,46,55]⟩:ByteArray),Z7,32,(⟨#[80,45,51,56,52]⟩:ByteArray),(⟨#[49,46,51,46,49,51,50,46,48,46,51,52]⟩:ByteArray),Z8,48,(⟨#[80,45,53,50,49]⟩:ByteArray),(⟨#[49,46,51,46,49,51,50,46,48,46,51,53]⟩:ByteArray),Z9,66)
theorem pz.au {r:(ByteArray × ByteArray × ByteArray × Int × ByteArray × ByteArray × ByteArray × Int × ByteArray × ByteArray × ByteArray × Int × ByteArray × ByteArray × ByteArray × Int)} (H:pz.f  = some r):aQ Tryz.prog 92 [] (.agg [S r.1,S r.2.1,S r.2.2.1,I r.2.2.2.1,S r.2.2.2.2.1,S r.2.2.2.2.2.1,S r.2.2.2.2.2.2.1,I r.2.2.2.2.2.2.2.1,S r.2.2.2.2.2.2.2.2.1,S r.2.2.2.2.2.2.2.2.2.1,S r.2.2.2.2.2.2.2.2.2.2.1,I r.2.2.2.2.2.2.2.2.2.2.2.1,S r.2.2.2.2.2.2.2.2.2.2.2.2.1,S r.2.2.2.2.2.2.2.2.2.2.2.2.2.1,S r.2.2.2.2.2.2.2.2.2.2.2.2.2.2.1,I r.2.2.2.2.2.2.2.2.2.2.2.2.2.2.2]):=by
 refine Cg Tryz.func92 rfl fun C hN hL=>?_
 unfold pz.f at H
 refine Sw<|Rg hN<|Sw<|Rg hN ?_
 cases H
 exact Rt dR
def jD.f (a0:Int):Option (ByteArray × ByteArray × ByteArray × Int):=(pz.f).bind fun t1=>(if a0 < 1 then (some ((⟨#[]⟩:ByteArray),(⟨#[]⟩:ByteArray),(⟨#[]⟩:ByteArray),0)) else (if a0 > 4 then (some ((⟨#[]⟩:ByteArray),(⟨#[]⟩:ByteArray),(⟨#[]⟩:ByteArray),0)) else (if (wrap64 (a0 - 1))=0 then (some (t1.1,t1.2.1,t1.2.2.1,t1.2.2.2.1)) else (if (wrap64 (a0 - 1))=1 then (some (t1.2.2.2.2.1,t1.2.2.2.2.2.1,t1.2.2.2.2.2.2.1,t1.2.2.2.2.2.2.2.1)) else (if (wrap64 (a0 - 1))=2 then (some (t1.2.2.2.2.2.2.2.2.1,t1.2.2.2.2.2.2.2.2.2.1,t1.2.2.2.2.2.2.2.2.2.2.1,t1.2.2.2.2.2.2.2.2.2.2.2.1)) else (if (wrap64 (a0 - 1))=3 then (some (t1.2.2.2.2.2.2.2.2.2.2.2.2.1,t1.2.2.2.2.2.2.2.2.2.2.2.2.2.1,t1.2.2.2.2.2.2.2.2.2.2.2.2.2.2.1,t1.2.2.2.2.2.2.2.2.2.2.2.2.2.2.2)) else (none)))))))
theorem jD.au {a0:Int} {r:(ByteArray × ByteArray × ByteArray × Int)} (H:jD.f a0=some r):aQ Tryz.prog 59 [I a0] (.agg [S r.1,S r.2.1,S r.2.2.1,I r.2.2.2]):=by
 refine Cg Tryz.func59 rfl fun C hN hL=>?_
 unfold jD.f at H
 refine Sw<|Rg hN<|Sw ?_
 obtain ⟨t1,h2,H⟩:=aC H
 refine Rh hN [.agg [S t1.1,S t1.2.1,S t1.2.2.1,I t1.2.2.2.1,S t1.2.2.2.2.1,S t1.2.2.2.2.2.1,S t1.2.2.2.2.2.2.1,I t1.2.2.2.2.2.2.2.1,S t1.2.2.2.2.2.2.2.2.1,S t1.2.2.2.2.2.2.2.2.2.1,S t1.2.2.2.2.2.2.2.2.2.2.1,I t1.2.2.2.2.2.2.2.2.2.2.2.1,S t1.2.2.2.2.2.2.2.2.2.2.2.2.1,S t1.2.2.2.2.2.2.2.2.2.2.2.2.2.1,S t1.2.2.2.2.2.2.2.2.2.2.2.2.2.2.1,I t1.2.2.2.2.2.2.2.2.2.2.2.2.2.2.2]] (.c1 (pz.au h2).c)<|Sw<|Sw ?_
 rcases aj H with ⟨c3,H⟩ | ⟨c3,H⟩
 ·refine Rh hN [B true] (.c1 (dt c3))<|Good.cond true (by kernel_rfl)<|Sw<|Rg hN ?_
  cases H
  exact Rt dR
 refine Rh hN [B false] (.c1 (df c3)) ?_
 rcases aj H with ⟨c4,H⟩ | ⟨c4,H⟩
 ·refine Ct (dt c4)<|Sw<|Rg hN ?_
  cases H
  exact Rt dR
 refine Cf (df c4)<|Sk<|Sw ?_
 rcases aj H with ⟨c5,H⟩ | ⟨c5,H⟩
 ·refine Rj hN [] (.c3 (Ec c5) (show (0:Int)≤0 by decide) (show (0:Int) < ((4:Nat):Int) by decide)) [] [(13,I 0)] ?_
  cases H
  exact Rt dR
 rcases aj H with ⟨c6,H⟩ | ⟨c6,H⟩
 ·refine Rj hN [] (.c3 (Ec c6) (show (0:Int)≤1 by decide) (show (1:Int) < ((4:Nat):Int) by decide)) [] [(13,I 1)] ?_
  cases H
  exact Rt dR
 rcases aj H with ⟨c7,H⟩ | ⟨c7,H⟩
 ·refine Rj hN [] (.c3 (Ec c7) (show (0:Int)≤2 by decide) (show (2:Int) < ((4:Nat):Int) by decide)) [] [(13,I 2)] ?_
  cases H
  exact Rt dR
 obtain ⟨c8,H⟩:=ax H
 refine Rj hN [] (.c3 (Ec c8) (show (0:Int)≤3 by decide) (show (3:Int) < ((4:Nat):Int) by decide)) [] [(13,I 3)] ?_
 cases H
 exact Rt dR
def qf.f (a0:Int):Option (Int):=(jD.f a0).bind fun t9=>(some t9.2.2.2)
theorem qf.au {a0:Int} {r:(Int)} (H:qf.f a0=some r):aQ Tryz.prog 30 [I a0] (I r):=by
 refine Cg Tryz.func30 rfl fun C hN hL=>?_
 unfold qf.f at H
 refine Sw<|Rg hN<|Sw ?_
 obtain ⟨t9,h10,H⟩:=aC H
 refine Rh hN [.agg [S t9.1,S t9.2.1,S t9.2.2.1,I t9.2.2.2]] (.c1 (jD.au h10).c) ?_
 cases H
 exact Rt dR
theorem qd.one {a:ByteArray} (h:a.size=1):∃ c:UInt8,a=⟨#[c]⟩:=by
 obtain ⟨d⟩:=a
 obtain ⟨c,hc⟩:=Array.size_eq_one_iff.1 h
 exact ⟨c,by rw [hc]⟩
def qd.f (a0:ByteArray) (a1:ByteArray):Option ByteArray:=if a1.size=1∧a0.size≤9223372036854775807 then (if bt a1 0 < 128 then some ⟨(Lib.trimB a0.data.toList (UInt8.ofNat (bt a1 0).toNat)).toArray⟩ else none) else none
theorem qd.au {a0 a1 r:ByteArray} (H:qd.f a0 a1=some r):aQ Tryz.prog 66 [S a0,S a1] (S r):=by
 unfold qd.f at H
 obtain ⟨⟨h1,h3⟩,H⟩:=ax H
 obtain ⟨c,rfl⟩:=qd.one h1
 have e:bt (⟨#[c]⟩:ByteArray) 0=(c.toNat:Int):=rfl
 rw [e] at H
 obtain ⟨h2,H⟩:=ax H
 cases H
 exact uf Tryz.func66 rfl (by kernel_rfl) rfl fun p w ht=>(Tryz.strings_Trim_one a0 c (by omega) w h3).mono (by
  rintro e w' ⟨rfl,hw⟩
  refine ⟨by simp,?_⟩
  rcases hw with rfl | rfl
  ·exact Below.refl _ _
  ·exact Below.drew (Below.refl _ _))
def strings_Compare.f (a0:ByteArray) (a1:ByteArray):Option Int:=some (Lib.compareBytes a0.data.toList a1.data.toList)
theorem strings_Compare.au {a0 a1:ByteArray} {r:Int} (H:strings_Compare.f a0 a1=some r):aQ Tryz.prog 67 [S a0,S a1] (I r):=by
 cases H
 exact uf Tryz.func67 rfl (by kernel_rfl) rfl fun p w ht=>(Tryz.strings_Compare a0 a1 w).mono (by rintro e w' ⟨rfl,rfl⟩;exact ⟨rfl,Below.refl _ _⟩)
def strings_IndexByte.f (a0:ByteArray) (a1:Int):Option Int:=some (Lib.indexByte a0.data.toList a1.toNat.toUInt8)
theorem strings_IndexByte.au {a0:ByteArray} {a1:Int} {r:Int} (H:strings_IndexByte.f a0 a1=some r):aQ Tryz.prog 153 [S a0,K .u8 a1] (I r):=by
 cases H
 exact uf Tryz.func153 rfl (by kernel_rfl) rfl fun p w ht=>(Tryz.strings_IndexByte a0 a1 w).mono (by rintro e w' ⟨rfl,hw⟩;exact ⟨rfl,by first | (subst hw;exact Below.refl _ _) | exact hw⟩)
def oz.f (a0:Int):Option (Int):=(strings_IndexByte.f (⟨#[48,49,50,51,52,53,54,55,56,57,65,66,67,68,69,70]⟩:ByteArray) a0).bind fun t11=>(some t11)
theorem oz.au {a0:Int} {r:(Int)} (H:oz.f a0=some r):aQ Tryz.prog 134 [K .u8 a0] (I r):=by
 refine Cg Tryz.func134 rfl fun C hN hL=>?_
 unfold oz.f at H
 refine Sw<|Rg hN<|Sw ?_
 obtain ⟨t11,h12,H⟩:=aC H
 refine Rh hN [I t11] (.c1 (strings_IndexByte.au h12).c) ?_
 cases H
 exact Rt dR
def pq.l0:Nat→ByteArray→List Int→Int→Int→Option (ByteArray × Bool)
 | 0,_,_,_,_=>none
 | k+1,x0,x4,jA,bQ=>if bQ < jA then (if 0≤(wrap64 (2*bQ)) then (if (wrap64 (2*bQ)) < (x0.size:Int) then (if 0≤(wrap64 ((wrap64 (2*bQ))+1)) then (if (wrap64 ((wrap64 (2*bQ))+1)) < (x0.size:Int) then ((oz.f (bt x0 (wrap64 (2*bQ)))).bind fun t23=>((oz.f (bt x0 (wrap64 ((wrap64 (2*bQ))+1)))).bind fun t25=>(if (mn t23 t25) < 0 then (some ((⟨#[]⟩:ByteArray),false)) else (if 0≤bQ then (if bQ < (x4.length:Int) then (pq.l0 k x0 (x4.set (bQ:Int).toNat ((Go.bits .or .i64 (wrap64 (t23*16)) t25) % 256)) jA (wrap64 (bQ+1))) else (none)) else (none))))) else (none)) else (none)) else (none)) else (none)) else (some (strOfNums x4,true))
def pq.f (k:Nat) (a0:ByteArray):Option (ByteArray × Bool):=if (Go.bits .and .i64 (a0.size:Int) 1)=1 then (some ((⟨#[]⟩:ByteArray),false)) else (if 0≤(wrap64 (Int.tdiv (a0.size:Int) 2)) then (if ((wrap64 (Int.tdiv (a0.size:Int) 2)):Int).toNat≤281474976710656 then (((some (List.replicate ((wrap64 (Int.tdiv (a0.size:Int) 2)):Int).toNat 0:List Int))).bind fun sZ=>(pq.l0 k a0 sZ (sZ.length:Int) 0)) else (none)) else (none))
theorem pq.au {k:Nat} {a0:ByteArray} {r:(ByteArray × Bool)} (H:pq.f k a0=some r):aQ Tryz.prog 109 [S a0] (.aD [S r.1,B r.2]):=by
 refine Cg Tryz.func109 rfl fun C hN hL=>?_
 unfold pq.f at H
 refine Sw<|Rg hN<|Sw<|Sw<|Rg hN ?_
 rcases aj H with ⟨c13,H⟩ | ⟨c13,H⟩
 ·refine Ct (bq c13)<|Sw<|Rg hN ?_
  cases H
  exact Rt dR
 refine Cf (bn c13)<|Sk<|Sw ?_
 obtain ⟨c14,H⟩:=ax H
 obtain ⟨c15,H⟩:=ax H
 obtain ⟨sZ,Gr,H⟩:=aC H
 refine Rh hN [.row (some 5) 1 (List.map (K .u8) sZ)] (.c5 (show (2:Int)≠0 by decide) c14 (Int.le_refl (wrap64 (Int.tdiv (a0.size:Int) 2))) (Kg c15) ((Dc (K .u8) (((wrap64 (Int.tdiv (a0.size:Int) 2)):Int).toNat) 0).trans (congrArg (List.map (K .u8)) (Option.some.inj Gr))))<|Sw<|Sw<|Rh hN [I (sZ.length:Int)] (.c1 (aT (K .u8) sZ))<|Bl<|Good.dN (fun k' st=>∃ (x0:ByteArray) (x4:List Int) (jA:Int) (bQ:Int),k'≤k∧Wk C st ⟨[(0,.w (S x0)),(4,.w (.row (some 5) 1 (List.map (K .u8) x4))),(16,.w (I jA)),(17,.w (I bQ))],[]⟩∧pq.l0 k' x0 x4 jA bQ=some r) k ⟨a0,sZ,(sZ.length:Int),0,Nat.le_refl _,Wo [(0,0),(4,0),(16,0),(17,0)],H⟩ fun k=>⟨fun st h=>(by obtain ⟨_,_,_,_,_,_,H⟩:=h;cases H),?_⟩
 clear H
 rintro st ⟨x0,x4,jA,bQ,hk,W,H⟩
 refine W.good ?_
 rw [pq.l0] at H
 refine Sw<|Rg hN<|Sw ?_
 rcases (aj H).symm with ⟨c18,H⟩ | ⟨c18,H⟩
 ·refine Cf (df c18)<|Ex<|Sw<|Rh hN [S (strOfNums x4)] (.c1 (lg x4)) ?_
  cases H
  exact Rt dR
 refine Ct (dt c18)<|Sk<|Sw<|Bl<|Sw<|Rg hN<|Sw ?_
 obtain ⟨c19,H⟩:=ax H
 obtain ⟨c20,H⟩:=ax H
 obtain ⟨c21,H⟩:=ax H
 obtain ⟨oo,H⟩:=ax H
 obtain ⟨t23,Tx,H⟩:=aC H
 obtain ⟨t25,Ty,H⟩:=aC H
 refine Rb 3 hm hN hL (.q 0 [[]] (.q 1 [[]] (.q 2 [[]] (.q 3 [[]] (.q 5 [[]] (.q 6 [[]] (.q 7 [[]] (.q 8 [[]] (.q 9 [[]] (.b 4 [I t23] [] (.b 10 [I t25] [] (.q 11 [[]] (.e 12 (.e 13 .z))) [I t25] [] (.e 12 (.e 10 (.q 11 [[]] (.e 13 .z))))) [I t23,I t25] [] (.e 12 (.e 4 (.e 10 (.q 11 [[]] (.e 13 .z))))))))))))))) [(0,none),(5,none)] .nil [] [] (.cons (.c6 c19 c20 c21 oo (oz.au Tx).c (oz.au Ty).c) (.c4 c19 c20 c21 oo) (.cons (.c6 c19 c20 c21 oo (oz.au Tx).c (oz.au Ty).c) (.c4 c19 c20 c21 oo) (.cons (.c6 c19 c20 c21 oo (oz.au Tx).c (oz.au Ty).c) (.c4 c19 c20 c21 oo) .nil))) [] [] [[],[],[]] [(0,0),(4,0),(5,0),(6,0),(16,0),(17,0)] [(0,.w (S x0)),(4,.w (.row (some 5) 1 (List.map (K .u8) x4))),(5,.w (I bQ)),(6,.d (.ptr 0 0)),(16,.w (I jA)),(17,.w (I bQ))] [.cells [.v (I t23),.v (I t25)]]<|Sw<|Sw<|Rh hN [] (.c4 (show (0:Int)≤0 by decide) (show (0:Int) < ((2:Nat):Int) by decide) (show (0:Int)≤1 by decide) (show (1:Int) < ((2:Nat):Int) by decide)) ?_
 rcases aj H with ⟨Tz,H⟩ | ⟨Tz,H⟩
 ·refine Ct (dt Tz)<|Sw<|Rg hN ?_
  cases H
  exact Rt dR
 refine Cf (df Tz)<|Sk ?_
 obtain ⟨c28,H⟩:=ax H
 obtain ⟨c29,H⟩:=ax H
 exact Rh hN [(K .u8) (rd x4 bQ),(K .u8) ((Go.bits .or .i64 (wrap64 (t23*16)) t25) % 256),.row (some 5) 1 (List.map (K .u8) (x4.set (bQ:Int).toNat ((Go.bits .or .i64 (wrap64 (t23*16)) t25) % 256)))] (.cons (show (0:Int)≤0 by decide) (.cons (show (0:Int) < ((2:Nat):Int) by decide) (.c8 (show (0:Int)≤4 by decide) (show (0:Int)≤1 by decide) (show (1:Int) < ((2:Nat):Int) by decide) c28 (gz (K .u8) c29) (aF (K .u8) (0:Int) c28 c29) (Fit.refl ((K .u8) ((Go.bits .or .i64 (wrap64 (t23*16)) t25) % 256))) (wX (K .u8) (l:=x4) (n:=(bQ:Int).toNat) (x:=(Go.bits .or .i64 (wrap64 (t23*16)) t25) % 256)))))<|Rg hN<|⟨k,by omega,x0,(x4.set (bQ:Int).toNat ((Go.bits .or .i64 (wrap64 (t23*16)) t25) % 256)),jA,wrap64 (bQ+1),by omega,Wk.oV hL 0 [(0,0),(4,0),(16,0),(17,0)] (by kernel_rfl) (by kernel_rfl) (by kernel_rfl),H⟩
def tJ.f (k:Nat) (a0:Int):Option (ByteArray):=(jD.f a0).bind fun t31=>((pq.f k t31.2.2.1).bind fun t33=>(some t33.1))
theorem tJ.au {k:Nat} {a0:Int} {r:(ByteArray)} (H:tJ.f k a0=some r):aQ Tryz.prog 68 [I a0] (S r):=by
 refine Cg Tryz.func68 rfl fun C hN hL=>?_
 unfold tJ.f at H
 refine Sw<|Rg hN<|Sw ?_
 obtain ⟨t31,h32,H⟩:=aC H
 obtain ⟨t33,h34,H⟩:=aC H
 refine Rh hN [.agg [S t31.1,S t31.2.1,S t31.2.2.1,I t31.2.2.2],.aD [S t33.1,B t33.2]] (.c2 (jD.au h32).c (pq.au h34).c)<|Sw<|Rg hN ?_
 cases H
 exact Rt dR
def jB.j0:Nat→Int→ByteArray→Bool→Option (Bool)
 | 0,_,_,_=>none
 | k+1,x0,x1,jA=>if jA=true then (some false) else ((qd.f x1 (⟨#[0]⟩:ByteArray)).bind fun t39=>(if t39.toList=([]:List UInt8) then (some false) else ((tJ.f k x0).bind fun t42=>((strings_Compare.f x1 t42).bind fun t44=>(some (decide (t44 < 0)))))))
def jB.f (k:Nat) (a0:Int) (a1:ByteArray):Option (Bool):=(jD.f a0).bind fun t35=>(if t35.2.2.2=0 then (jB.j0 k a0 a1 true) else (jB.j0 k a0 a1 ((a1.size:Int) != t35.2.2.2)))
theorem jB.au {k:Nat} {a0:Int} {a1:ByteArray} {r:(Bool)} (H:jB.f k a0 a1=some r):aQ Tryz.prog 33 [I a0,S a1] (B r):=by
 refine Cg Tryz.func33 rfl fun C hN hL=>?_
 unfold jB.f at H
 refine Sw<|Rg hN<|Sw<|Sw<|Good.cut (fun st=>∃ n':Nat,n'≤k∧∃ (x0:Int) (x1:ByteArray) (jA:Bool),Wk C st ⟨[(0,.w (I x0)),(1,.w (S x1)),(16,.w (B jA))],[]⟩∧jB.j0 n' x0 x1 jA=some r) ?_ ?_
 ·obtain ⟨t35,TA,H⟩:=aC H
  rcases aj H with ⟨c37,H⟩ | ⟨c37,H⟩
  ·exact Rh hN [.agg [S t35.1,S t35.2.1,S t35.2.2.1,I t35.2.2.2],B true] (.c2 (jD.au TA).c (bq c37))<|⟨k,by omega,a0,a1,true,Wo [(0,0),(1,0),(16,0)],H⟩
  exact Rh hN [.agg [S t35.1,S t35.2.1,S t35.2.2.1,I t35.2.2.2],B false,.agg [S t35.1,S t35.2.1,S t35.2.2.1,I t35.2.2.2]] (.c3 (jD.au TA).c (bn c37) (jD.au TA).c)<|⟨k,by omega,a0,a1,((a1.size:Int) != t35.2.2.2),Wo [(0,0),(1,0),(16,0)],H⟩
 clear H
 rintro st ⟨n',hn',x0,x1,jA,W,H⟩
 rcases n' with _ | k
 ·cases H
 refine W.good ?_
 rw [jB.j0] at H
 rcases aj H with ⟨TC,H⟩ | ⟨TC,H⟩
 ·refine Ct TC<|Sw<|Rg hN ?_
  cases H
  exact Rt dR
 refine Cf (bf TC)<|Sk<|Sw ?_
 obtain ⟨t39,h40,H⟩:=aC H
 rcases aj H with ⟨TD,H⟩ | ⟨TD,H⟩
 ·refine Ri hN [S t39,B false] (.c3 (qd.au h40).c (uD (rfl:t39.toList=t39.toList) (dV ([]:List UInt8))) (bM TD)) [(19,.bool (t39.toList != ([]:List UInt8)))] ?_
  cases H
  exact Rt dR
 obtain ⟨t42,h43,H⟩:=aC H
 obtain ⟨t44,h45,H⟩:=aC H
 refine Ri hN [S t39,B true,S t42,I t44] (.c5 (qd.au h40).c (uD (rfl:t39.toList=t39.toList) (dV ([]:List UInt8))) (nq TD) (tJ.au h43).c (strings_Compare.au h45).c) [(19,.bool (t39.toList != ([]:List UInt8)))] ?_
 cases H
 exact Rt dR
def qw.f (k:Nat) (a0:Int) (a1:ByteArray):Option (Int):=(qf.f a0).bind fun t46=>(if t46=0 then (some 8) else (if t46=(a1.size:Int) then ((jB.f k a0 a1).bind fun t50=>(if t50=true then (some 0) else (some 10))) else (some 9)))
theorem qw.au {k:Nat} {a0:Int} {a1:ByteArray} {r:(Int)} (H:qw.f k a0 a1=some r):aQ Tryz.prog 12 [I a0,S a1] (I r):=by
 refine Cg Tryz.func12 rfl fun C hN hL=>?_
 unfold qw.f at H
 refine Sw<|Rg hN<|Sw<|Sw ?_
 obtain ⟨t46,h47,H⟩:=aC H
 refine Rh hN [I t46] (.c1 (qf.au h47).c)<|Bl<|Sw<|Rg hN ?_
 rcases aj H with ⟨TF,H⟩ | ⟨TF,H⟩
 ·refine Ct (bq TF)<|Sw<|Rg hN ?_
  cases H
  exact Rt dR
 refine Cf (bn TF)<|Sw<|Rg hN ?_
 rcases (aj H).symm with ⟨c49,H⟩ | ⟨c49,H⟩
 ·refine Ct (nq c49)<|Sw<|Rg hN ?_
  cases H
  exact Rt dR
 refine Cf (bM c49)<|Sw ?_
 obtain ⟨t50,h51,H⟩:=aC H
 refine Rh hN [B t50] (.c1 (jB.au h51).c) ?_
 rcases (aj H).symm with ⟨TG,H⟩ | ⟨TG,H⟩
 ·refine Ct (eB (bf TG))<|Sw<|Rg hN ?_
  cases H
  exact Rt dR
 refine Cf (fw TG)<|Sk<|Sw<|Rg hN ?_
 cases H
 exact Rt dR
mutual
def iq.l0:Nat→ByteArray→List Int→Int→Bool→Int→Int→Option (List Int × Bool)
 | 0,_,_,_,_,_,_=>none
 | k+1,x0,x4,x5,x6,x9,bg=>if bg < x9 then (if x6=true then (iq.j1 k x0 x4 x5 bg x9 bg (decide (x5 > 2147483647))) else (if 0≤bg then (if bg < (x0.size:Int) then (if (bt x0 bg)=128 then (iq.j1 k x0 x4 x5 bg x9 bg true) else (iq.j1 k x0 x4 x5 bg x9 bg (decide (x5 > 2147483647)))) else (none)) else (none))) else (if x6=true then (some (x4,false)) else (if (x4.length:Int) > 0 then (some (x4,decide ((x4.length:Int) < 20))) else (some (x4,false))))
def iq.j1:Nat→ByteArray→List Int→Int→Int→Int→Int→Bool→Option (List Int × Bool)
 | 0,_,_,_,_,_,_,_=>none
 | k+1,x0,x4,x5,x7,x9,bg,x24=>if x24=true then (some (([]:List Int),false)) else (if 0≤x7 then (if x7 < (x0.size:Int) then (if (bt x0 x7)≥128 then (iq.l0 k x0 x4 (Go.bits .or .i64 (wrap64 (x5*128)) (wrap64 (Go.bits .and .u8 (bt x0 x7) 127))) (decide ((bt x0 x7)≥128)) x9 (wrap64 (bg+1))) else (if x4.length < 17592186044416 then (iq.l0 k x0 (x4++[Go.bits .or .i64 (wrap64 (x5*128)) (wrap64 (Go.bits .and .u8 (bt x0 x7) 127))]) 0 (decide ((bt x0 x7)≥128)) x9 (wrap64 (bg+1))) else (none))) else (none)) else (none))
end
def iq.f (k:Nat) (a0:ByteArray):Option (List Int × Bool):=iq.l0 k a0 ([]:List Int) 0 false (a0.size:Int) 0
theorem iq.au {k:Nat} {a0:ByteArray} {r:(List Int × Bool)} (H:iq.f k a0=some r):aQ Tryz.prog 52 [S a0] (.aD [.row (some 3) 1 (List.map I r.1),B r.2]):=by
 refine Cg Tryz.func52 rfl fun C hN hL=>?_
 unfold iq.f at H
 refine Sw<|Rg hN<|Sw<|Rg hN<|Sw<|Rg hN<|Sw<|Sw<|Rg hN<|Bl<|Good.dN (fun k' st=>∃ (x0:ByteArray) (x4:List Int) (x5:Int) (x6:Bool) (x9:Int) (bg:Int),k'≤k∧Wk C st ⟨[(0,.w (S x0)),(4,.w (.row (some 3) 1 (List.map I x4))),(5,.w (I x5)),(6,.w (B x6)),(9,.w (I x9)),(10,.w (I bg))],[]⟩∧iq.l0 k' x0 x4 x5 x6 x9 bg=some r) k ⟨a0,([]:List Int),0,false,(a0.size:Int),0,Nat.le_refl _,Wo [(0,0),(4,1),(5,0),(6,0),(9,0),(10,0)],H⟩ fun k=>⟨fun st h=>(by obtain ⟨_,_,_,_,_,_,_,_,H⟩:=h;cases H),?_⟩
 clear H
 rintro st ⟨x0,x4,x5,x6,x9,bg,hk,W,H⟩
 refine W.good ?_
 rw [iq.l0] at H
 refine Sw<|Rg hN<|Sw ?_
 rcases (aj H).symm with ⟨TH,H⟩ | ⟨TH,H⟩
 ·refine Cf (df TH)<|Ex<|Sw ?_
  rcases aj H with ⟨Gt,H⟩ | ⟨Gt,H⟩
  ·refine Rh hN [B false,B false] (.c2 (fw Gt) (rfl:false=false)) ?_
   cases H
   exact Rt dR
  rcases aj H with ⟨TI,H⟩ | ⟨TI,H⟩
  ·refine Rh hN [B true,I (x4.length:Int),B true,I (x4.length:Int)] (.c4 (eB (bf Gt)) (aT I x4) (dt TI) (aT I x4)) ?_
   cases H
   exact Rt dR
  refine Rh hN [B true,I (x4.length:Int),B false] (.c3 (eB (bf Gt)) (aT I x4) (df TI)) ?_
  cases H
  exact Rt dR
 refine Ct (dt TH)<|Sk<|Sw<|Bl<|Sw<|Rg hN<|Sw<|Sw<|Good.cut (fun st=>∃ n':Nat,n'≤k∧∃ (x0:ByteArray) (x4:List Int) (x5:Int) (x7:Int) (x9:Int) (bg:Int) (x24:Bool),Wk C st ⟨[(0,.w (S x0)),(4,.w (.row (some 3) 1 (List.map I x4))),(5,.w (I x5)),(7,.w (I x7)),(9,.w (I x9)),(10,.w (I bg)),(24,.w (B x24))],[]⟩∧iq.j1 n' x0 x4 x5 x7 x9 bg x24=some r) ?_ ?_
 ·rcases aj H with ⟨Gu,H⟩ | ⟨Gu,H⟩
  ·exact Rh hN [B false,B false] (.c2 (fw Gu) (rfl:false=false))<|⟨k,by omega,x0,x4,x5,bg,x9,bg,decide (x5 > 2147483647),Wo [(0,0),(4,0),(5,0),(7,0),(9,0),(10,0),(24,0)],H⟩
  obtain ⟨c69,H⟩:=ax H
  obtain ⟨c70,H⟩:=ax H
  rcases aj H with ⟨TJ,H⟩ | ⟨TJ,H⟩
  ·exact Rh hN [B true,B true] (.c4 (eB (bf Gu)) c69 c70 (bq TJ))<|⟨k,by omega,x0,x4,x5,bg,x9,bg,true,Wo [(0,0),(4,0),(5,0),(7,0),(9,0),(10,0),(24,0)],H⟩
  exact Rh hN [B true,B false] (.c4 (eB (bf Gu)) c69 c70 (bn TJ))<|⟨k,by omega,x0,x4,x5,bg,x9,bg,decide (x5 > 2147483647),Wo [(0,0),(4,0),(5,0),(7,0),(9,0),(10,0),(24,0)],H⟩
 clear H
 rintro st ⟨n',hn',x0,x4,x5,x7,x9,bg,x24,W,H⟩
 rcases n' with _ | k
 ·cases H
 refine W.good ?_
 rw [iq.j1] at H
 rcases aj H with ⟨c72,H⟩ | ⟨c72,H⟩
 ·refine Ct c72<|Sw<|Rg hN ?_
  cases H
  exact Good.ret (jY (u:=.aD [.nil 3 1,B false]) (.aD (.c2 (.iA 3 1) (.refl _))) (by kernel_rfl))
 refine Cf (bf c72)<|Sk<|Sw ?_
 obtain ⟨c73,H⟩:=ax H
 obtain ⟨c74,H⟩:=ax H
 refine Rh hN [] (.c3 (show (0:Int)≤7 by decide) c73 c74)<|Sw<|Rh hN [] (.c2 c73 c74)<|Sw<|Rg hN ?_
 rcases aj H with ⟨c75,H⟩ | ⟨c75,H⟩
 ·exact Cf (fw (dt c75))<|Sk<|Rg hN<|⟨k,by omega,x0,x4,Go.bits .or .i64 (wrap64 (x5*128)) (wrap64 (Go.bits .and .u8 (bt x0 x7) 127)),decide ((bt x0 x7)≥128),x9,wrap64 (bg+1),by omega,Wo [(0,0),(4,0),(5,0),(6,0),(9,0),(10,0)],H⟩
 refine Ct (eB (df c75))<|Sw ?_
 obtain ⟨c76,H⟩:=ax H
 exact Rh hN [.kb true,.row (some 3) 1 (List.map I (x4++[Go.bits .or .i64 (wrap64 (x5*128)) (wrap64 (Go.bits .and .u8 (bt x0 x7) 127))]))] (.c2 (dY I x4 [Go.bits .or .i64 (wrap64 (x5*128)) (wrap64 (Go.bits .and .u8 (bt x0 x7) 127))] (.refl _)) (eZ I c76))<|Rg hN<|Rg hN<|⟨k,by omega,x0,(x4++[Go.bits .or .i64 (wrap64 (x5*128)) (wrap64 (Go.bits .and .u8 (bt x0 x7) 127))]),0,decide ((bt x0 x7)≥128),x9,wrap64 (bg+1),by omega,Wo [(0,0),(4,0),(5,0),(6,0),(9,0),(10,0)],H⟩
def rf.f (l0:List Int) (a1:Int):Option (Int):=if a1=0 then (some 2) else (if a1 > 1 then (some 2147483647) else (if 0 < (l0.length:Int) then (if (rd l0 0) < 2 then (some 39) else (some 2147483567)) else (none)))
theorem rf.au {l0:List Int} {a1:Int} {r:(Int)} (H:rf.f l0 a1=some r):aQ Tryz.prog 89 [.row none 1 (List.map I l0),I a1] (I r):=by
 refine Cg Tryz.func89 rfl fun C hN hL=>?_
 unfold rf.f at H
 refine Sw<|Rg hN<|Sw<|Bl<|Sw<|Rg hN ?_
 rcases aj H with ⟨TK,H⟩ | ⟨TK,H⟩
 ·refine Ct (bq TK)<|Sw<|Rg hN ?_
  cases H
  exact Rt dR
 refine Cf (bn TK)<|Sw<|Rg hN ?_
 rcases aj H with ⟨TL,H⟩ | ⟨TL,H⟩
 ·refine Ct (dt TL)<|Sw<|Rg hN ?_
  cases H
  exact Rt dR
 refine Cf (df TL)<|Sw ?_
 obtain ⟨c80,H⟩:=ax H
 refine Rh hN [I (rd l0 0)] (.c2 (show (0:Int)≤0 by decide) (aF I (0:Int) (show (0:Int)≤0 by decide) c80)) ?_
 rcases aj H with ⟨TM,H⟩ | ⟨TM,H⟩
 ·refine Ct (dt TM)<|Sw<|Rg hN ?_
  cases H
  exact Rt dR
 refine Cf (df TM)<|Sk<|Sw<|Rg hN ?_
 cases H
 exact Rt dR
def fP.l0:Nat→List Int→List Int→Int→Int→Option (Bool)
 | 0,_,_,_,_=>none
 | k+1,x0,bB,bD,aR=>if aR < bD then (if 0≤aR then (if aR < (bB.length:Int) then (if (rd bB aR) < 0 then (some false) else ((rf.f x0 aR).bind fun t88=>(if (rd bB aR) > t88 then (some false) else (fP.l0 k x0 bB bD (wrap64 (aR+1)))))) else (none)) else (none)) else (some true)
def fP.j0:Nat→List Int→Bool→Option (Bool)
 | 0,_,_=>none
 | k+1,x0,dO=>if dO=true then (some false) else (fP.l0 k x0 x0 (x0.length:Int) 0)
def fP.f (k:Nat) (l0:List Int):Option (Bool):=if (l0.length:Int) < 2 then (fP.j0 k l0 true) else (fP.j0 k l0 (decide ((l0.length:Int) > 20)))
theorem fP.au {k:Nat} {l0:List Int} {r:(Bool)} (H:fP.f k l0=some r):aQ Tryz.prog 53 [.row none 1 (List.map I l0)] (B r):=by
 refine Cg Tryz.func53 rfl fun C hN hL=>?_
 unfold fP.f at H
 refine Sw<|Rg hN<|Sw<|Sw<|Good.cut (fun st=>∃ n':Nat,n'≤k∧∃ (x0:List Int) (dO:Bool),Wk C st ⟨[(0,.w (.row none 1 (List.map I x0))),(12,.w (B dO))],[]⟩∧fP.j0 n' x0 dO=some r) ?_ ?_
 ·rcases aj H with ⟨TN,H⟩ | ⟨TN,H⟩
  ·exact Rh hN [I (l0.length:Int),B true] (.c2 (aT I l0) (dt TN))<|⟨k,by omega,l0,true,Wo [(0,0),(12,0)],H⟩
  exact Rh hN [I (l0.length:Int),B false,I (l0.length:Int)] (.c3 (aT I l0) (df TN) (aT I l0))<|⟨k,by omega,l0,decide ((l0.length:Int) > 20),Wo [(0,0),(12,0)],H⟩
 clear H
 rintro st ⟨n',hn',x0,dO,W,H⟩
 rcases n' with _ | k
 ·cases H
 refine W.good ?_
 rw [fP.j0] at H
 rcases aj H with ⟨TP,H⟩ | ⟨TP,H⟩
 ·refine Ct TP<|Sw<|Rg hN ?_
  cases H
  exact Rt dR
 refine Cf (bf TP)<|Sk<|Sw<|Sw<|Rh hN [I (x0.length:Int)] (.c1 (aT I x0))<|Bl<|Good.dN (fun k' st=>∃ (x0:List Int) (bB:List Int) (bD:Int) (aR:Int),k'≤k∧Wk C st ⟨[(0,.w (.row none 1 (List.map I x0))),(13,.w (.row none 1 (List.map I bB))),(14,.w (I bD)),(15,.w (I aR))],[]⟩∧fP.l0 k' x0 bB bD aR=some r) k ⟨x0,x0,(x0.length:Int),0,Nat.le_refl _,Wo [(0,0),(13,0),(14,0),(15,0)],H⟩ fun k=>⟨fun st h=>(by obtain ⟨_,_,_,_,_,_,H⟩:=h;cases H),?_⟩
 clear H
 rintro st ⟨x0,bB,bD,aR,hk,W,H⟩
 refine W.good ?_
 rw [fP.l0] at H
 refine Sw<|Rg hN<|Sw ?_
 rcases (aj H).symm with ⟨TQ,H⟩ | ⟨TQ,H⟩
 ·refine Cf (df TQ)<|Ex<|Sw<|Rg hN ?_
  cases H
  exact Rt dR
 refine Ct (dt TQ)<|Sk<|Sw<|Bl<|Sw ?_
 obtain ⟨c85,H⟩:=ax H
 obtain ⟨c86,H⟩:=ax H
 refine Rh hN [I (rd bB aR)] (.c2 c85 (aF I (0:Int) c85 c86))<|Sw ?_
 rcases aj H with ⟨c87,H⟩ | ⟨c87,H⟩
 ·refine Rh hN [B true] (.c1 (dt c87))<|Good.cond true (by kernel_rfl)<|Sw<|Rg hN ?_
  cases H
  exact Rt dR
 obtain ⟨t88,h89,H⟩:=aC H
 refine Rh hN [B false,I t88] (.c2 (df c87) (rf.au h89).c) ?_
 rcases (aj H).symm with ⟨TR,H⟩ | ⟨TR,H⟩
 ·exact Cf (df TR)<|Sk<|Rg hN<|⟨k,by omega,x0,bB,bD,wrap64 (aR+1),by omega,Wo [(0,0),(13,0),(14,0),(15,0)],H⟩
 refine Ct (dt TR)<|Sw<|Rg hN ?_
 cases H
 exact Rt dR
def qg.f (k:Nat) (a0:ByteArray):Option (List Int × Bool):=(iq.f k a0).bind fun t91=>(if t91.2=true then (if 0 < (t91.1.length:Int) then (if 1≤(t91.1.length:Int) then (if ([mn 2 (wrap64 (Int.tdiv (rd t91.1 0) 40)),wrap64 ((rd t91.1 0) - (wrap64 (40*(mn 2 (wrap64 (Int.tdiv (rd t91.1 0) 40))))))]:List Int).length+(t91.1.drop 1).length < 17592186044416 then ((some (([mn 2 (wrap64 (Int.tdiv (rd t91.1 0) 40)),wrap64 ((rd t91.1 0) - (wrap64 (40*(mn 2 (wrap64 (Int.tdiv (rd t91.1 0) 40))))))]:List Int)++(t91.1.drop 1):List Int)).bind fun y97=>((fP.f k y97).bind fun t98=>(if t98=true then (some (y97,true)) else (some (([]:List Int),false))))) else (none)) else (none)) else (none)) else (some (([]:List Int),false)))
theorem qg.au {k:Nat} {a0:ByteArray} {r:(List Int × Bool)} (H:qg.f k a0=some r):aQ Tryz.prog 25 [S a0] (.aD [.row none 1 (List.map I r.1),B r.2]):=by
 refine Cg Tryz.func25 rfl fun C hN hL=>?_
 unfold qg.f at H
 refine Sw<|Rg hN<|Sw ?_
 obtain ⟨t91,h92,H⟩:=aC H
 refine Rh hN [.aD [.row (some 3) 1 (List.map I t91.1),B t91.2]] (.c1 (iq.au h92).c)<|Sw<|Sw<|Rg hN ?_
 rcases (aj H).symm with ⟨c93,H⟩ | ⟨c93,H⟩
 ·refine Ct (eB (bf c93))<|Sw<|Rg hN ?_
  cases H
  exact Good.ret (jY (u:=.aD [.nil 3 1,B false]) (.aD (.c2 (.jf 3 1 _) (.refl _))) (by kernel_rfl))
 refine Cf (fw c93)<|Sk<|Sw ?_
 obtain ⟨tq,H⟩:=ax H
 refine Rh hN [I (rd t91.1 0)] (.c4 (show (0:Int)≤0 by decide) (gz I tq) (aF I (0:Int) (show (0:Int)≤0 by decide) tq) (show (40:Int)≠0 by decide))<|Sw ?_
 obtain ⟨c95,H⟩:=ax H
 obtain ⟨c96,H⟩:=ax H
 replace H:=oK H
 refine Rb 2 hm hN hL (.q 0 [[7]] (.q 1 [[7,6,3,2]] (.q 2 [[7,6,3]] (.q 3 [[7,6]] (.q 4 [[7,6,5]] (.q 5 [[7,6]] (.q 6 [[7]] (.q 8 [[9]] (.b 7 [.row none 1 (List.map I (t91.1.drop 1)),.row none 1 (List.map I t91.1),.kb false,.row (some 3) 1 (List.map I (([mn 2 (wrap64 (Int.tdiv (rd t91.1 0) 40)),wrap64 ((rd t91.1 0) - (wrap64 (40*(mn 2 (wrap64 (Int.tdiv (rd t91.1 0) 40))))))]:List Int)++(t91.1.drop 1)))] [] (.e 9 (.e 10 (.e 11 .z))) [.row none 1 (List.map I (t91.1.drop 1)),.row none 1 (List.map I t91.1),.kb false,.row (some 3) 1 (List.map I (([mn 2 (wrap64 (Int.tdiv (rd t91.1 0) 40)),wrap64 ((rd t91.1 0) - (wrap64 (40*(mn 2 (wrap64 (Int.tdiv (rd t91.1 0) 40))))))]:List Int)++(t91.1.drop 1)))] [] (.e 9 (.e 7 (.e 10 (.e 11 .z))))))))))))) [(4,some (.row none 1 (List.map I t91.1))),(6,none)] (.c1 (aS (some 3) 1 I I t91.1 (fun _=>rfl))) [I (rd t91.1 0)] [I (rd t91.1 0)] (.cons (.cons (show (0:Int)≤0 by decide) (.c8 (gz I tq) (aF I (0:Int) (show (0:Int)≤0 by decide) tq) (aS (some 3) 1 I I t91.1 (fun _=>rfl)) (show (0:Int)≤1 by decide) (sV I c95) (yG I (l:=t91.1) (n:=1)) (dY I ([mn 2 (wrap64 (Int.tdiv (rd t91.1 0) 40)),wrap64 ((rd t91.1 0) - (wrap64 (40*(mn 2 (wrap64 (Int.tdiv (rd t91.1 0) 40))))))]:List Int) (t91.1.drop 1) (.refl _)) (yR I I c96))) (.c2 (show (0:Int)≤0 by decide) (aF I (0:Int) (show (0:Int)≤0 by decide) tq)) (.cons (.cons (show (0:Int)≤0 by decide) (.c8 (gz I tq) (aF I (0:Int) (show (0:Int)≤0 by decide) tq) (aS (some 3) 1 I I t91.1 (fun _=>rfl)) (show (0:Int)≤1 by decide) (sV I c95) (yG I (l:=t91.1) (n:=1)) (dY I ([mn 2 (wrap64 (Int.tdiv (rd t91.1 0) 40)),wrap64 ((rd t91.1 0) - (wrap64 (40*(mn 2 (wrap64 (Int.tdiv (rd t91.1 0) 40))))))]:List Int) (t91.1.drop 1) (.refl _)) (yR I I c96))) (.c2 (show (0:Int)≤0 by decide) (aF I (0:Int) (show (0:Int)≤0 by decide) tq)) .nil)) [] [] [[],[]] [(7,0)] [(7,.w (.row (some 3) 1 (List.map I (([mn 2 (wrap64 (Int.tdiv (rd t91.1 0) 40)),wrap64 ((rd t91.1 0) - (wrap64 (40*(mn 2 (wrap64 (Int.tdiv (rd t91.1 0) 40))))))]:List Int)++(t91.1.drop 1)))))] []<|Sw<|Sw ?_
 obtain ⟨t98,h99,H⟩:=aC H
 refine Rh hN [.row none 1 (List.map I (([mn 2 (wrap64 (Int.tdiv (rd t91.1 0) 40)),wrap64 ((rd t91.1 0) - (wrap64 (40*(mn 2 (wrap64 (Int.tdiv (rd t91.1 0) 40))))))]:List Int)++(t91.1.drop 1))),B t98] (.c2 (aS (some 3) 1 I I (([mn 2 (wrap64 (Int.tdiv (rd t91.1 0) 40)),wrap64 ((rd t91.1 0) - (wrap64 (40*(mn 2 (wrap64 (Int.tdiv (rd t91.1 0) 40))))))]:List Int)++(t91.1.drop 1)) (fun _=>rfl)) (fP.au h99).c) ?_
 rcases (aj H).symm with ⟨M0,H⟩ | ⟨M0,H⟩
 ·refine Ct (eB (bf M0))<|Sw<|Rg hN ?_
  cases H
  exact Good.ret (jY (u:=.aD [.nil 3 1,B false]) (.aD (.c2 (.jf 3 1 _) (.refl _))) (by kernel_rfl))
 refine Cf (fw M0)<|Sk<|Sw<|Rg hN ?_
 cases H
 exact Rt dR
def oD.f (a0:ByteArray):Option (Bool):=if a0.toList=([]:List UInt8) then (some false) else (if (a0.size:Int)=1 then (some true) else (if 0 < (a0.size:Int) then (if 1 < (a0.size:Int) then (if (Go.bits .or .i64 (wrap64 ((wrap64 (bt a0 0))*2)) (wrap64 ((bt a0 1) / 128)))=0 then (some false) else (some ((Go.bits .or .i64 (wrap64 ((wrap64 (bt a0 0))*2)) (wrap64 ((bt a0 1) / 128))) != 511))) else (none)) else (none)))
theorem oD.au {a0:ByteArray} {r:(Bool)} (H:oD.f a0=some r):aQ Tryz.prog 76 [S a0] (B r):=by
 refine Cg Tryz.func76 rfl fun C hN hL=>?_
 unfold oD.f at H
 refine Sw<|Rg hN<|Sw<|Bl<|Sw<|Ri hN [] (.c1 (eP (rfl:a0.toList=a0.toList) (dV ([]:List UInt8)))) [(6,.bool (a0.toList == ([]:List UInt8)))] ?_
 rcases aj H with ⟨M3,H⟩ | ⟨M3,H⟩
 ·refine Ct (bq M3)<|Sw<|Rg hN ?_
  cases H
  exact Rt dR
 refine Cf (bn M3)<|Sw<|Rg hN ?_
 rcases aj H with ⟨M4,H⟩ | ⟨M4,H⟩
 ·refine Ct (bq M4)<|Sw<|Rg hN ?_
  cases H
  exact Rt dR
 refine Cf (bn M4)<|Sk<|Sw ?_
 obtain ⟨YF,H⟩:=ax H
 obtain ⟨YG,H⟩:=ax H
 refine Rd hm hN (.qs 9 0 (.q 9 [] .z)) [(0,none)] .nil [] [] (.c6 (show (0:Int)≤0 by decide) YF (show (0:Int)≤1 by decide) (show (0:Int)≤1 by decide) YG (show (0:Int)≤7 by decide)) (.c6 (show (0:Int)≤0 by decide) YF (show (0:Int)≤1 by decide) (show (0:Int)≤1 by decide) YG (show (0:Int)≤7 by decide)) [] []<|Sw ?_
 rcases aj H with ⟨c105,H⟩ | ⟨c105,H⟩
 ·refine Rh hN [B false] (.c1 (bM c105)) ?_
  cases H
  exact Rt dR
 refine Rh hN [B true] (.c1 (nq c105)) ?_
 cases H
 exact Rt dR
def tK.f (a0:ByteArray):Option (Bool × Bool):=if a0.toList=([255]:List UInt8) then (some ((a0.toList == ([255]:List UInt8)),true)) else (some ((a0.toList == ([255]:List UInt8)),(a0.toList == ([0]:List UInt8))))
theorem tK.au {a0:ByteArray} {r:(Bool × Bool)} (H:tK.f a0=some r):aQ Tryz.prog 137 [S a0] (.aD [B r.1,B r.2]):=by
 refine Cg Tryz.func137 rfl fun C hN hL=>?_
 unfold tK.f at H
 refine Sw<|Rg hN<|Sw ?_
 rcases aj H with ⟨M5,H⟩ | ⟨M5,H⟩
 ·refine Ri hN [B true] (.c3 (eP (rfl:a0.toList=a0.toList) (dV ([255]:List UInt8))) (eP (rfl:a0.toList=a0.toList) (dV ([255]:List UInt8))) (bq M5)) [(5,.bool (a0.toList == ([255]:List UInt8))),(7,.bool (a0.toList == ([255]:List UInt8)))] ?_
  cases H
  exact Rt dR
 refine Ri hN [B false] (.c4 (eP (rfl:a0.toList=a0.toList) (dV ([255]:List UInt8))) (eP (rfl:a0.toList=a0.toList) (dV ([255]:List UInt8))) (bn M5) (eP (rfl:a0.toList=a0.toList) (dV ([0]:List UInt8)))) [(5,.bool (a0.toList == ([255]:List UInt8))),(7,.bool (a0.toList == ([255]:List UInt8))),(10,.bool (a0.toList == ([0]:List UInt8)))] ?_
 cases H
 exact Rt dR
def jU.j0:Nat→ByteArray→Bool→Option (ByteArray × Int × Bool)
 | 0,_,_=>none
 | k+1,x0,cZ=>if cZ=true then (some ((⟨#[]⟩:ByteArray),0,false)) else (if 0≤(wrap64 ((x0.size:Int) - 1)) then (if (wrap64 ((x0.size:Int) - 1)) < (x0.size:Int) then (if 0 < (x0.size:Int) then (if 0≤(bt x0 0) then (if (Go.bits .and .u8 (bt x0 (wrap64 ((x0.size:Int) - 1))) (((shl .u8 1 (bt x0 0)) - 1) % 256))=0 then (if 1≤(x0.size:Int) then (some (x0.extract 1 x0.size,wrap64 (bt x0 0),true)) else (none)) else (if (x0.size:Int) > 1 then (some ((⟨#[]⟩:ByteArray),0,false)) else (if 1≤(x0.size:Int) then (some (x0.extract 1 x0.size,wrap64 (bt x0 0),true)) else (none)))) else (none)) else (none)) else (none)) else (none))
def jU.f (k:Nat) (a0:ByteArray):Option (ByteArray × Int × Bool):=if a0.toList=([]:List UInt8) then (jU.j0 k a0 true) else (if 0 < (a0.size:Int) then (if (bt a0 0) > 7 then (jU.j0 k a0 true) else (if (bt a0 0) > 0 then (jU.j0 k a0 ((a0.size:Int) == 1)) else (jU.j0 k a0 false))) else (none))
theorem jU.au {k:Nat} {a0:ByteArray} {r:(ByteArray × Int × Bool)} (H:jU.f k a0=some r):aQ Tryz.prog 138 [S a0] (.aD [S r.1,I r.2.1,B r.2.2]):=by
 refine Cg Tryz.func138 rfl fun C hN hL=>?_
 unfold jU.f at H
 refine Sw<|Rg hN<|Sw<|Sw<|Good.cut (fun st=>∃ n':Nat,n'≤k∧∃ (x0:ByteArray) (cZ:Bool),Wk C st ⟨[(0,.w (S x0)),(21,.w (B cZ))],[]⟩∧jU.j0 n' x0 cZ=some r) ?_ ?_
 ·rcases aj H with ⟨c107,H⟩ | ⟨c107,H⟩
  ·exact Ri hN [B true,B true] (.c3 (eP (rfl:a0.toList=a0.toList) (dV ([]:List UInt8))) (bq c107) (rfl:true=true)) [(6,.bool (a0.toList == ([]:List UInt8)))]<|⟨k,by omega,a0,true,Wo [(0,0),(21,0)],H⟩
  obtain ⟨Ak,H⟩:=ax H
  rcases aj H with ⟨c109,H⟩ | ⟨c109,H⟩
  ·exact Ri hN [B false,B true] (.c5 (eP (rfl:a0.toList=a0.toList) (dV ([]:List UInt8))) (bn c107) (show (0:Int)≤0 by decide) Ak (dt c109)) [(6,.bool (a0.toList == ([]:List UInt8)))]<|⟨k,by omega,a0,true,Wo [(0,0),(21,0)],H⟩
  rcases aj H with ⟨M6,H⟩ | ⟨M6,H⟩
  ·exact Ri hN [B false,B false,B true] (.c8 (eP (rfl:a0.toList=a0.toList) (dV ([]:List UInt8))) (bn c107) (show (0:Int)≤0 by decide) Ak (df c109) (show (0:Int)≤0 by decide) Ak (dt M6)) [(6,.bool (a0.toList == ([]:List UInt8)))]<|⟨k,by omega,a0,((a0.size:Int) == 1),Wo [(0,0),(21,0)],H⟩
  exact Ri hN [B false,B false,B false] (.c8 (eP (rfl:a0.toList=a0.toList) (dV ([]:List UInt8))) (bn c107) (show (0:Int)≤0 by decide) Ak (df c109) (show (0:Int)≤0 by decide) Ak (df M6)) [(6,.bool (a0.toList == ([]:List UInt8)))]<|⟨k,by omega,a0,false,Wo [(0,0),(21,0)],H⟩
 clear H
 rintro st ⟨n',hn',x0,cZ,W,H⟩
 rcases n' with _ | k
 ·cases H
 refine W.good ?_
 rw [jU.j0] at H
 rcases aj H with ⟨M7,H⟩ | ⟨M7,H⟩
 ·refine Ct M7<|Sw<|Rg hN ?_
  cases H
  exact Rt dR
 refine Cf (bf M7)<|Sk<|Sw<|Sw ?_
 obtain ⟨Ed,H⟩:=ax H
 obtain ⟨Ee,H⟩:=ax H
 obtain ⟨sj,H⟩:=ax H
 obtain ⟨Ef,H⟩:=ax H
 rcases aj H with ⟨c116,H⟩ | ⟨c116,H⟩
 ·refine Rd hm hN (.qs 12 0 (.k 33 (.is 3 12 (.q 15 [] .z)))) [(0,none)] .nil [B false] [] (.c6 Ed Ee (show (0:Int)≤0 by decide) sj Ef (bM c116)) (.c6 Ed Ee (show (0:Int)≤0 by decide) sj Ef (bM c116)) [] []<|Good.cond false (by kernel_rfl)<|Sk<|Sw ?_
  obtain ⟨c117,H⟩:=ax H
  refine Rd hm hN (.qs 7 0 (.q 7 [] .z)) [(0,none)] .nil [] [] (.c4 (show (0:Int)≤1 by decide) c117 (show (0:Int)≤0 by decide) sj) (.c4 (show (0:Int)≤1 by decide) c117 (show (0:Int)≤0 by decide) sj) [] [] ?_
  cases H
  exact Rt dR
 refine Rd hm hN (.qs 12 0 (.k 33 (.qs 3 12 (.q 15 [] .z)))) [(0,none)] .nil [B true] [] (.c6 Ed Ee (show (0:Int)≤0 by decide) sj Ef (nq c116)) (.c6 Ed Ee (show (0:Int)≤0 by decide) sj Ef (nq c116)) [] [] ?_
 rcases aj H with ⟨M8,H⟩ | ⟨M8,H⟩
 ·refine Ct (dt M8)<|Sw<|Rg hN ?_
  cases H
  exact Rt dR
 refine Cf (df M8)<|Sk<|Sw ?_
 obtain ⟨c119,H⟩:=ax H
 refine Rd hm hN (.qs 7 0 (.q 7 [] .z)) [(0,none)] .nil [] [] (.c4 (show (0:Int)≤1 by decide) c119 (show (0:Int)≤0 by decide) sj) (.c4 (show (0:Int)≤1 by decide) c119 (show (0:Int)≤0 by decide) sj) [] [] ?_
 cases H
 exact Rt dR
def utf8_ValidString.f (a0:ByteArray):Option Bool:=if a0.size≤9223372036854775807 then some (Lib.validD a0.data.toList) else none
theorem utf8_ValidString.tab {p:aW} {w:World} (h:gp.t p w):Lib.Utf8Tabs 1 2 w:=by
 obtain ⟨W,hW,hB⟩:=h
 rw [MakeChecks.laidMetH_plain _ _ _ (by kernel_rfl)] at hW
 have hm1:("unicode/utf8.first",Lib.firstData)∈nR:=by
  have e:Lib.firstData=Rows.laid_unicode_utf8_first:=by kernel_rfl
  rw [e];unfold nR
  repeat (first | exact List.mem_cons_self | apply List.mem_cons_of_mem)
 have hm2:("unicode/utf8.acceptRanges",Lib.acceptData)∈nR:=by
  have e:Lib.acceptData=Rows.laid_unicode_utf8_acceptRanges:=by kernel_rfl
  rw [e];unfold nR
  repeat (first | exact List.mem_cons_self | apply List.mem_cons_of_mem)
 have h1:Lib.Utf8Tabs 1 2 W:=utf8Tabs_of_readsT (U8Types.of196 Tryz.Vg) ⟨by kernel_rfl,by kernel_rfl,by kernel_rfl,by kernel_rfl,by kernel_rfl,by kernel_rfl,by kernel_rfl⟩ (Lib.laidMet.reads hW hm1) (Lib.laidMet.reads hW hm2)
 have mv:∀ q v,W.cell? q=some v→w.cell? q=some v:=fun q v hp=>by
  have hlt:=World.block_lt_of_cell? W _ hp
  unfold World.cell? at hp ⊢
  rw [(hB _ hlt).2]
  exact hp
 exact ⟨fun c hc=>mv _ _ (h1.1 c hc),fun i hi=>⟨mv _ _ (h1.2 i hi).1,mv _ _ (h1.2 i hi).2⟩⟩
theorem utf8_ValidString.au {a0:ByteArray} {r:Bool} (H:utf8_ValidString.f a0=some r):aQ Tryz.prog 158 [S a0] (B r):=by
 unfold utf8_ValidString.f at H
 obtain ⟨c,H⟩:=ax H
 cases H
 exact uf Tryz.func158 rfl (by kernel_rfl) rfl fun p w ht=>(Any.utf8_ValidString Tryz.Vg a0 w c (utf8_ValidString.tab ht)).mono (by rintro e w' ⟨rfl,hw⟩;exact ⟨rfl,by first | (subst hw;exact Below.refl _ _) | exact hw⟩)
def ug.f (a0:ByteArray):Option (Bool):=(utf8_ValidString.f a0).bind fun t120=>(some t120)
theorem ug.au {a0:ByteArray} {r:(Bool)} (H:ug.f a0=some r):aQ Tryz.prog 139 [S a0] (B r):=by
 refine Cg Tryz.func139 rfl fun C hN hL=>?_
 unfold ug.f at H
 refine Sw<|Rg hN<|Sw ?_
 obtain ⟨t120,ai2,H⟩:=aC H
 refine Rh hN [B t120] (.c1 (utf8_ValidString.au ai2).c) ?_
 cases H
 exact Rt dR
def utf8_ValidRune.j0:Nat→Int→Bool→Option (Bool)
 | 0,_,_=>none
 | k+1,x0,x3=>if x3=true then (some true) else (if 57343 < x0 then (if x0≤1114111 then (some true) else (some false)) else (some false))
def utf8_ValidRune.f (k:Nat) (a0:Int):Option (Bool):=if 0≤a0 then (utf8_ValidRune.j0 k a0 (decide (a0 < 55296))) else (utf8_ValidRune.j0 k a0 false)
theorem utf8_ValidRune.au {k:Nat} {a0:Int} {r:(Bool)} (H:utf8_ValidRune.f k a0=some r):aQ Tryz.prog 165 [K .i32 a0] (B r):=by
 refine Cg Tryz.func165 rfl fun C hN hL=>?_
 unfold utf8_ValidRune.f at H
 refine Sw<|Rg hN<|Sw<|Bl<|Sw<|Good.cut (fun st=>∃ n':Nat,n'≤k∧∃ (x0:Int) (x3:Bool),Wk C st ⟨[(0,.w (K .i32 x0)),(3,.w (B x3))],[]⟩∧utf8_ValidRune.j0 n' x0 x3=some r) ?_ ?_
 ·rcases aj H with ⟨M9,H⟩ | ⟨M9,H⟩
  ·exact Rh hN [B true] (.c1 (dt M9))<|⟨k,by omega,a0,decide (a0 < 55296),Wo [(0,0),(3,0)],H⟩
  exact Rh hN [B false] (.c1 (df M9))<|⟨k,by omega,a0,false,Wo [(0,0),(3,0)],H⟩
 clear H
 rintro st ⟨n',hn',x0,x3,W,H⟩
 rcases n' with _ | k
 ·cases H
 refine W.good ?_
 rw [utf8_ValidRune.j0] at H
 rcases aj H with ⟨Na,H⟩ | ⟨Na,H⟩
 ·refine Ct Na<|Sw<|Rg hN ?_
  cases H
  exact Rt dR
 refine Cf (bf Na)<|Sw ?_
 rcases (aj H).symm with ⟨c124,H⟩ | ⟨c124,H⟩
 ·refine Rh hN [B false] (.c1 (df c124))<|Good.cond false (by kernel_rfl)<|Sk<|Sw<|Rg hN ?_
  cases H
  exact Rt dR
 refine Rh hN [B true] (.c1 (dt c124)) ?_
 rcases aj H with ⟨Nb,H⟩ | ⟨Nb,H⟩
 ·refine Ct (dt Nb)<|Sw<|Rg hN ?_
  cases H
  exact Rt dR
 refine Cf (df Nb)<|Sk<|Sw<|Rg hN ?_
 cases H
 exact Rt dR
def bytealg_Cutover.f (a0:Int):Option (Int):=some (wrap64 (Int.tdiv (wrap64 (a0+16)) 8))
theorem bytealg_Cutover.au {a0:Int} {r:(Int)} (H:bytealg_Cutover.f a0=some r):aQ Tryz.prog 166 [I a0] (I r):=by
 refine Cg Tryz.func166 rfl fun C hN hL=>?_
 unfold bytealg_Cutover.f at H
 refine Sw<|Rg hN<|Sw<|Rh hN [] (.c1 (show (8:Int)≠0 by decide)) ?_
 cases H
 exact Rt dR
def dZ.l0:Nat→ByteArray→Nat→Option (Int)
 | 0,_,_=>none
 | k+1,x1000,ah=>if ah < x1000.size then (if ((Utf8.decode x1000 ah).1:Int)=65533 then (some ((ah:Nat):Int)) else (dZ.l0 k x1000 (ah+(Utf8.decode x1000 ah).2))) else (some (-1))
def dZ.ik:Nat→ByteArray→Int→Int→Option (Int)
 | 0,_,_,_=>none
 | k+1,x0,x8,x9=>if 0≤(wrap64 (x9 - x8)) then (if (wrap64 (x9 - x8))≤(x0.size:Int) then (none) else (none)) else (none)
mutual
def dZ.l1:Nat→ByteArray→ByteArray→Int→Int→Int→Option (Int)
 | 0,_,_,_,_,_=>none
 | k+1,x0,x7,x8,x9,bg=>if x9 < (x0.size:Int) then (if 0≤x9 then (if 0≤x8 then (if x8 < (x7.size:Int) then (if (bt x0 x9)=(bt x7 x8) then (dZ.j3 k x0 x7 x8 x9 bg) else (if 0≤(wrap64 (x9+1)) then (if (wrap64 (x9+1))≤(x0.size:Int) then ((strings_IndexByte.f (x0.extract ((wrap64 (x9+1)):Int).toNat x0.size) (bt x7 x8)).bind fun t143=>(if t143 < 0 then (some (-1)) else (dZ.j3 k x0 x7 x8 (wrap64 (x9+(wrap64 (t143+1)))) bg))) else (none)) else (none))) else (none)) else (none)) else (none)) else (some (-1))
def dZ.j3:Nat→ByteArray→ByteArray→Int→Int→Int→Option (Int)
 | 0,_,_,_,_,_=>none
 | k+1,x0,x7,x8,x9,bg=>dZ.l2 k x0 x7 x8 x9 bg 1
def dZ.l2:Nat→ByteArray→ByteArray→Int→Int→Int→Int→Option (Int)
 | 0,_,_,_,_,_,_=>none
 | k+1,x0,x7,x8,x9,bg,dO=>if dO < (x7.size:Int) then (if 0≤(wrap64 (x9 - dO)) then (if (wrap64 (x9 - dO)) < (x0.size:Int) then (if 0≤(wrap64 (x8 - dO)) then (if (wrap64 (x8 - dO)) < (x7.size:Int) then (if (bt x0 (wrap64 (x9 - dO)))=(bt x7 (wrap64 (x8 - dO))) then (dZ.l2 k x0 x7 x8 x9 bg (wrap64 (dO+1))) else (dZ.Nc k x0 x7 x8 x9 bg)) else (none)) else (none)) else (none)) else (none)) else (some (wrap64 (x9 - x8)))
def dZ.Nc:Nat→ByteArray→ByteArray→Int→Int→Int→Option (Int)
 | 0,_,_,_,_,_=>none
 | k+1,x0,x7,x8,x9,bg=>(bytealg_Cutover.f (wrap64 (x9+1))).bind fun t152=>(if (wrap64 (bg+1)) > t152 then (if (wrap64 (x9+1)) < (x0.size:Int) then (dZ.ik k x0 x8 (wrap64 (x9+1))) else (dZ.l1 k x0 x7 x8 (wrap64 (x9+1)) (wrap64 (bg+1)))) else (dZ.l1 k x0 x7 x8 (wrap64 (x9+1)) (wrap64 (bg+1))))
end
def dZ.j0:Nat→ByteArray→Int→Bool→Option (Int)
 | 0,_,_,_=>none
 | k+1,x0,x1,x160=>if x160=true then ((strings_IndexByte.f x0 ((x1) % 256)).bind fun t128=>(some t128)) else (if x1=65533 then (dZ.l0 k x0 0) else ((utf8_ValidRune.f k x1).bind fun t133=>(if t133=true then (dZ.l1 k x0 (Utf8.encode x1) (wrap64 (((Utf8.encode x1).size:Int) - 1)) (wrap64 (((Utf8.encode x1).size:Int) - 1)) 0) else (some (-1)))))
def dZ.f (k:Nat) (a0:ByteArray) (a1:Int):Option (Int):=if 0≤a1 then (dZ.j0 k a0 a1 (decide (a1 < 128))) else (dZ.j0 k a0 a1 false)
theorem dZ.au {k:Nat} {a0:ByteArray} {a1:Int} {r:(Int)} (H:dZ.f k a0 a1=some r):aQ Tryz.prog 151 [S a0,K .i32 a1] (I r):=by
 refine Cg Tryz.func151 rfl fun C hN hL=>?_
 unfold dZ.f at H
 refine Sw<|Rg hN<|Bl<|Sw<|Good.cut (fun st=>∃ n':Nat,n'≤k∧∃ (x0:ByteArray) (x1:Int) (x160:Bool),Wk C st ⟨[(0,.w (S x0)),(1,.w (K .i32 x1)),(160,.w (B x160))],[]⟩∧dZ.j0 n' x0 x1 x160=some r) ?_ ?_
 ·rcases aj H with ⟨Nf,H⟩ | ⟨Nf,H⟩
  ·exact Rh hN [B true] (.c1 (dt Nf))<|⟨k,by omega,a0,a1,decide (a1 < 128),Wo [(0,0),(1,0),(160,0)],H⟩
  exact Rh hN [B false] (.c1 (df Nf))<|⟨k,by omega,a0,a1,false,Wo [(0,0),(1,0),(160,0)],H⟩
 clear H
 rintro st ⟨n',hn',x0,x1,x160,W,H⟩
 rcases n' with _ | k
 ·cases H
 refine W.good ?_
 rw [dZ.j0] at H
 rcases aj H with ⟨c127,H⟩ | ⟨c127,H⟩
 ·refine Ct c127<|Sw ?_
  obtain ⟨t128,ai3,H⟩:=aC H
  refine Rh hN [I t128] (.c1 (strings_IndexByte.au ai3).c) ?_
  cases H
  exact Rt dR
 refine Cf (bf c127)<|Sw<|Rg hN ?_
 rcases aj H with ⟨c130,H⟩ | ⟨c130,H⟩
 ·refine Ct (bq c130)<|Sw<|Sw<|Rg hN<|Bl<|Good.dN (fun k' st=>∃ (x1000:ByteArray) (ah:Nat),k'≤k∧Wk C st ⟨[(175,.d (.ptr 0 0))],[.iter x1000 ah]⟩∧dZ.l0 k' x1000 ah=some r) k ⟨x0,0,Nat.le_refl _,Wo [(175,0)],H⟩ fun k=>⟨fun st h=>(by obtain ⟨_,_,_,_,H⟩:=h;cases H),?_⟩
  clear H
  rintro st ⟨x1000,ah,hk,W,H⟩
  refine W.good ?_
  rw [dZ.l0] at H
  refine Sw ?_
  rcases (aj H).symm with ⟨c131,H⟩ | ⟨c131,H⟩
  ·refine Rh hN [.kb false] (.c1 c131)<|Sw<|Good.cond false (by kernel_rfl)<|Ex<|Sw<|Rg hN ?_
   cases H
   exact Rt dR
  refine Rh hN [.kb true] (.c1 c131)<|Sw<|Good.cond true (by kernel_rfl)<|Sk<|Bl<|Sw<|Rg hN<|Sw<|Rg hN ?_
  rcases (aj H).symm with ⟨Ng,H⟩ | ⟨Ng,H⟩
  ·exact Cf (bn Ng)<|Sk<|⟨k,by omega,x1000,ah+(Utf8.decode x1000 ah).2,by omega,Wo [(175,0)],H⟩
  refine Ct (bq Ng)<|Sw<|Rg hN ?_
  cases H
  exact Rt dR
 refine Cf (bn c130)<|Sw ?_
 obtain ⟨t133,ai4,H⟩:=aC H
 refine Rh hN [B t133] (.c1 (utf8_ValidRune.au ai4).c) ?_
 rcases (aj H).symm with ⟨Nh,H⟩ | ⟨Nh,H⟩
 ·refine Ct (eB (bf Nh))<|Sw<|Rg hN ?_
  cases H
  exact Rt dR
 refine Cf (fw Nh)<|Good.scope [(1,_,fun n st=>∃ (x0:ByteArray) (x1:Int) (x7:ByteArray) (x8:Int) (x9:Int),n≤k∧Wk C st ⟨[(0,.w (S x0)),(1,.w (K .i32 x1)),(7,.w (S x7)),(8,.w (I x8)),(9,.w (I x9))],[]⟩∧dZ.ik n x0 x8 x9=some r)] (.c1 rfl) ?_ (.c1 ?_)
 ·refine Sw<|Rg hN<|Sw<|Rg hN<|Sw<|Rg hN<|Sw<|Rg hN<|Sw<|Bl<|Good.dN (fun k' st=>∃ (x0:ByteArray) (x1:Int) (x7:ByteArray) (x8:Int) (x9:Int) (bg:Int),k'≤k∧Wk C st ⟨[(0,.w (S x0)),(1,.w (K .i32 x1)),(7,.w (S x7)),(8,.w (I x8)),(9,.w (I x9)),(10,.w (I bg))],[]⟩∧dZ.l1 k' x0 x7 x8 x9 bg=some r) k ⟨x0,x1,Utf8.encode x1,wrap64 (((Utf8.encode x1).size:Int) - 1),wrap64 (((Utf8.encode x1).size:Int) - 1),0,Nat.le_refl _,Wo [(0,0),(1,0),(7,0),(8,0),(9,0),(10,0)],H⟩ fun k=>⟨fun st h=>(by obtain ⟨_,_,_,_,_,_,_,_,H⟩:=h;cases H),?_⟩
  clear H
  rintro st ⟨x0,x1,x7,x8,x9,bg,hk,W,H⟩
  refine W.good ?_
  rw [dZ.l1] at H
  refine Sw<|Sw<|Rg hN ?_
  rcases (aj H).symm with ⟨Al,H⟩ | ⟨Al,H⟩
  ·refine Cf (df Al)<|Ex<|Sw<|Sw<|Rg hN ?_
   cases H
   exact Rt dR
  refine Ct (dt Al)<|Sk<|Bl<|Good.scope [(0,_,fun n st=>∃ (x0:ByteArray) (x1:Int) (x7:ByteArray) (x8:Int) (x9:Int) (bg:Int),n≤k∧Wk C st ⟨[(0,.w (S x0)),(1,.w (K .i32 x1)),(7,.w (S x7)),(8,.w (I x8)),(9,.w (I x9)),(10,.w (I bg))],[]⟩∧dZ.Nc n x0 x7 x8 x9 bg=some r)] (.c1 rfl) ?_ (.c1 ?_)
  ·refine Sw<|Sw ?_
   obtain ⟨YH,H⟩:=ax H
   obtain ⟨c138,H⟩:=ax H
   obtain ⟨c139,H⟩:=ax H
   refine Rd hm hN (.qs 6 0 (.q 6 [] .z)) [(0,none),(7,none),(8,none),(9,none)] .nil [] [] (.c4 YH Al c138 c139) (.c4 YH Al c138 c139) [] []<|Good.cut (fun st=>∃ n':Nat,n'≤k∧∃ (x0:ByteArray) (x1:Int) (x7:ByteArray) (x8:Int) (x9:Int) (bg:Int),Wk C st ⟨[(0,.w (S x0)),(1,.w (K .i32 x1)),(7,.w (S x7)),(8,.w (I x8)),(9,.w (I x9)),(10,.w (I bg))],[]⟩∧dZ.j3 n' x0 x7 x8 x9 bg=some r) ?_ ?_
   ·rcases aj H with ⟨Ni,H⟩ | ⟨Ni,H⟩
    ·exact Cf (bM Ni)<|Sk<|⟨k,by omega,x0,x1,x7,x8,x9,bg,Wo [(0,0),(1,0),(7,0),(8,0),(9,0),(10,0)],H⟩
    refine Ct (nq Ni)<|Sw ?_
    obtain ⟨c141,H⟩:=ax H
    obtain ⟨YI,H⟩:=ax H
    obtain ⟨t143,ai5,H⟩:=aC H
    refine Rd hm hN (.qs 7 0 (.e 7 (.q 8 [] .z))) [(0,none),(7,none),(8,none),(9,none)] .nil [I t143] [] (.c5 c141 YI c138 c139 (strings_IndexByte.au ai5).c) (.c4 c141 YI c138 c139) [] []<|Sw<|Sw<|Rg hN ?_
    rcases (aj H).symm with ⟨c145,H⟩ | ⟨c145,H⟩
    ·exact Cf (df c145)<|Sk<|Rg hN<|⟨k,by omega,x0,x1,x7,x8,wrap64 (x9+(wrap64 (t143+1))),bg,Wo [(0,0),(1,0),(7,0),(8,0),(9,0),(10,0)],H⟩
    refine Ct (dt c145)<|Sw<|Rg hN ?_
    cases H
    exact Rt dR
   clear H
   rintro st ⟨n',hn',x0,x1,x7,x8,x9,bg,W,H⟩
   rcases n' with _ | k
   ·cases H
   refine W.good ?_
   rw [dZ.j3] at H
   refine Sw<|Sw<|Rg hN<|Bl<|Good.dN (fun k' st=>∃ (x0:ByteArray) (x1:Int) (x7:ByteArray) (x8:Int) (x9:Int) (bg:Int) (dO:Int),k'≤k∧Wk C st ⟨[(0,.w (S x0)),(1,.w (K .i32 x1)),(7,.w (S x7)),(8,.w (I x8)),(9,.w (I x9)),(10,.w (I bg)),(12,.w (I dO))],[]⟩∧dZ.l2 k' x0 x7 x8 x9 bg dO=some r) k ⟨x0,x1,x7,x8,x9,bg,1,Nat.le_refl _,Wo [(0,0),(1,0),(7,0),(8,0),(9,0),(10,0),(12,0)],H⟩ fun k=>⟨fun st h=>(by obtain ⟨_,_,_,_,_,_,_,_,_,H⟩:=h;cases H),?_⟩
   clear H
   rintro st ⟨x0,x1,x7,x8,x9,bg,dO,hk,W,H⟩
   refine W.good ?_
   rw [dZ.l2] at H
   refine Sw<|Sw<|Rg hN ?_
   rcases (aj H).symm with ⟨c146,H⟩ | ⟨c146,H⟩
   ·refine Cf (df c146)<|Ex<|Sw<|Sw<|Rg hN ?_
    cases H
    exact Rt dR
   refine Ct (dt c146)<|Sk<|Sw<|Bl<|Sw ?_
   obtain ⟨YJ,H⟩:=ax H
   obtain ⟨c148,H⟩:=ax H
   obtain ⟨YK,H⟩:=ax H
   obtain ⟨YL,H⟩:=ax H
   refine Rd hm hN (.qs 10 0 (.q 10 [] .z)) [(0,none),(7,none),(8,none),(9,none),(12,none)] .nil [] [] (.c4 YJ c148 YK YL) (.c4 YJ c148 YK YL) [] [] ?_
   rcases (aj H).symm with ⟨Nj,H⟩ | ⟨Nj,H⟩
   ·exact Ct (nq Nj)<|Good.goto<|⟨k,(by first | trivial | omega),x0,x1,x7,x8,x9,bg,by omega,Wo [(0,0),(1,0),(7,0),(8,0),(9,0),(10,0)],H⟩
   exact Cf (bM Nj)<|Sk<|Rg hN<|⟨k,by omega,x0,x1,x7,x8,x9,bg,wrap64 (dO+1),by omega,Wo [(0,0),(1,0),(7,0),(8,0),(9,0),(10,0),(12,0)],H⟩
  ·clear H
   rintro n st ⟨x0,x1,x7,x8,x9,bg,hn,W,H⟩
   rcases n with _ | k
   ·cases H
   refine W.good ?_
   rw [dZ.Nc] at H
   refine Sw<|Sk<|Sw<|Rg hN<|Sw<|Rg hN<|Sw ?_
   obtain ⟨t152,Nk,H⟩:=aC H
   rcases (aj H).symm with ⟨c154,H⟩ | ⟨c154,H⟩
   ·exact Rh hN [B true,I t152,B false,B false,B false,B false] (.c6 (rfl:true=true) (bytealg_Cutover.au Nk).c (df c154) (rfl:false=false) (rfl:false=false) (rfl:false=false))<|Good.cond false (by kernel_rfl)<|Sk<|⟨k,by omega,x0,x1,x7,x8,wrap64 (x9+1),wrap64 (bg+1),by omega,Wo [(0,0),(1,0),(7,0),(8,0),(9,0),(10,0)],H⟩
   rcases aj H with ⟨Nl,H⟩ | ⟨Nl,H⟩
   ·exact Rh hN [B true,I t152,B true,B true] (.c4 (rfl:true=true) (bytealg_Cutover.au Nk).c (dt c154) (dt Nl))<|Good.cond true (by kernel_rfl)<|Good.goto<|⟨by kernel_rfl,⟨k,(by first | trivial | omega),x0,x1,x7,x8,wrap64 (x9+1),by omega,Wo [(0,0),(1,0),(7,0),(8,0),(9,0)],H⟩⟩
   exact Rh hN [B true,I t152,B true,B false,B false,B false] (.c6 (rfl:true=true) (bytealg_Cutover.au Nk).c (dt c154) (df Nl) (rfl:false=false) (rfl:false=false))<|Good.cond false (by kernel_rfl)<|Sk<|⟨k,by omega,x0,x1,x7,x8,wrap64 (x9+1),wrap64 (bg+1),by omega,Wo [(0,0),(1,0),(7,0),(8,0),(9,0),(10,0)],H⟩
 ·clear H
  rintro n st ⟨x0,x1,x7,x8,x9,hn,W,H⟩
  rcases n with _ | k
  ·cases H
  refine W.good ?_
  rw [dZ.ik] at H
  refine Sw<|Sk<|Sw<|Good.cond true (by kernel_rfl)<|Sw ?_
  obtain ⟨c156,H⟩:=ax H
  obtain ⟨c157,H⟩:=ax H
  cases H
def qQ.f (k:Nat) (a0:ByteArray) (a1:Int):Option (Bool):=(dZ.f k a0 a1).bind fun t158=>(some (decide (t158≥0)))
theorem qQ.au {k:Nat} {a0:ByteArray} {a1:Int} {r:(Bool)} (H:qQ.f k a0 a1=some r):aQ Tryz.prog 131 [S a0,K .i32 a1] (B r):=by
 refine Cg Tryz.func131 rfl fun C hN hL=>?_
 unfold qQ.f at H
 refine Sw<|Rg hN<|Sw ?_
 obtain ⟨t158,ai6,H⟩:=aC H
 refine Rh hN [I t158] (.c1 (dZ.au ai6).c) ?_
 cases H
 exact Rt dR
def il.j1:Nat→Int→Bool→Option (Bool)
 | 0,_,_=>none
 | k+1,x0,x3=>if x3=true then (some false) else (if x0≥48 then (if x0≤57 then (some false) else ((qQ.f k (⟨#[32,39,40,41,43,44,45,46,47,58,61,63]⟩:ByteArray) x0).bind fun t166=>(some (!t166)))) else ((qQ.f k (⟨#[32,39,40,41,43,44,45,46,47,58,61,63]⟩:ByteArray) x0).bind fun t168=>(some (!t168))))
def il.j0:Nat→Int→Bool→Option (Bool)
 | 0,_,_=>none
 | k+1,x0,x3=>if x3=true then (some false) else (if x0≥97 then (il.j1 k x0 (decide (x0≤122))) else (il.j1 k x0 false))
def il.f (k:Nat) (a0:Int):Option (Bool):=if a0≥65 then (il.j0 k a0 (decide (a0≤90))) else (il.j0 k a0 false)
theorem il.au {k:Nat} {a0:Int} {r:(Bool)} (H:il.f k a0=some r):aQ Tryz.prog 159 [K .i32 a0] (B r):=by
 refine Cg Tryz.func159 rfl fun C hN hL=>?_
 unfold il.f at H
 refine Sw<|Rg hN<|Sw<|Bl<|Sw<|Sw<|Good.cut (fun st=>∃ n':Nat,n'≤k∧∃ (x0:Int) (x3:Bool),Wk C st ⟨[(0,.w (K .i32 x0)),(3,.w (B x3))],[]⟩∧il.j0 n' x0 x3=some r) ?_ ?_
 ·rcases aj H with ⟨c160,H⟩ | ⟨c160,H⟩
  ·exact Rh hN [B true] (.c1 (dt c160))<|⟨k,by omega,a0,decide (a0≤90),Wo [(0,0),(3,0)],H⟩
  exact Rh hN [B false] (.c1 (df c160))<|⟨k,by omega,a0,false,Wo [(0,0),(3,0)],H⟩
 clear H
 rintro st ⟨n',hn',x0,x3,W,H⟩
 rcases n' with _ | k
 ·cases H
 refine W.good ?_
 rw [il.j0] at H
 rcases aj H with ⟨Eg,H⟩ | ⟨Eg,H⟩
 ·refine Ct Eg<|Sk<|Ct Eg<|Sw<|Rg hN ?_
  cases H
  exact Rt dR
 refine Cf (bf Eg)<|Sw<|Good.cut (fun st=>∃ n':Nat,n'≤k∧∃ (x0:Int) (x3:Bool),Wk C st ⟨[(0,.w (K .i32 x0)),(3,.w (B x3))],[]⟩∧il.j1 n' x0 x3=some r) ?_ ?_
 ·rcases aj H with ⟨c162,H⟩ | ⟨c162,H⟩
  ·exact Rh hN [B true] (.c1 (dt c162))<|⟨k,by omega,x0,decide (x0≤122),Wo [(0,0),(3,0)],H⟩
  exact Rh hN [B false] (.c1 (df c162))<|⟨k,by omega,x0,false,Wo [(0,0),(3,0)],H⟩
 clear H
 rintro st ⟨n',hn',x0,x3,W,H⟩
 rcases n' with _ | k
 ·cases H
 refine W.good ?_
 rw [il.j1] at H
 rcases aj H with ⟨Eh,H⟩ | ⟨Eh,H⟩
 ·refine Ct Eh<|Sk<|Ct Eh<|Sw<|Rg hN ?_
  cases H
  exact Rt dR
 refine Cf (bf Eh) ?_
 rcases (aj H).symm with ⟨c164,H⟩ | ⟨c164,H⟩
 ·refine Rh hN [B false] (.c1 (df c164))<|Good.cond false (by kernel_rfl)<|Sk<|Sw ?_
  obtain ⟨t168,ai7,H⟩:=aC H
  refine Rh hN [B t168] (.c1 (qQ.au ai7).c) ?_
  cases H
  exact Rt dR
 refine Rh hN [B true] (.c1 (dt c164)) ?_
 rcases aj H with ⟨Nn,H⟩ | ⟨Nn,H⟩
 ·refine Ct (dt Nn)<|Sw<|Rg hN ?_
  cases H
  exact Rt dR
 refine Cf (df Nn)<|Sk<|Sw ?_
 obtain ⟨t166,ai8,H⟩:=aC H
 refine Rh hN [B t166] (.c1 (qQ.au ai8).c) ?_
 cases H
 exact Rt dR
def strings_indexFunc.l0:Nat→(Int→Option (Bool))→Bool→ByteArray→Nat→Option (Int)
 | 0,_,_,_,_=>none
 | k+1,g1,x2,x1000,ah=>if ah < x1000.size then ((g1 ((Utf8.decode x1000 ah).1:Int)).bind fun t171=>(if (t171 == x2)=true then (some ((ah:Nat):Int)) else (strings_indexFunc.l0 k g1 x2 x1000 (ah+(Utf8.decode x1000 ah).2)))) else (some (-1))
def strings_indexFunc.f (k:Nat) (a0:ByteArray) (g1:Int→Option (Bool)) (a2:Bool):Option (Int):=strings_indexFunc.l0 k g1 a2 a0 0
theorem strings_indexFunc.au {k:Nat} {a0:ByteArray} {g1:Int→Option (Bool)} {a2:Bool} {f1:FuncId} {c1:List V} (hg1:∀ (tu:Int) r,g1 tu=some r→aQ Tryz.prog f1 ([K .i32 tu]++c1) (B r)) {r:(Int)} (H:strings_indexFunc.f k a0 g1 a2=some r):aQ Tryz.prog 186 [S a0,.gq f1 c1,B a2] (I r):=by
 refine Cg Tryz.func186 rfl fun C hN hL=>?_
 unfold strings_indexFunc.f at H
 refine Sw<|Rg hN<|Sw<|Sw<|Rg hN<|Bl<|Good.dN (fun k' st=>∃ (x2:Bool) (x1000:ByteArray) (ah:Nat),k'≤k∧Wk C st ⟨[(1,.w (.gq f1 c1)),(2,.w (B x2)),(10,.d (.ptr 0 0))],[.iter x1000 ah]⟩∧strings_indexFunc.l0 k' g1 x2 x1000 ah=some r) k ⟨a2,a0,0,Nat.le_refl _,Wo [(1,0),(2,0),(10,0)],H⟩ fun k=>⟨fun st h=>(by obtain ⟨_,_,_,_,_,H⟩:=h;cases H),?_⟩
 clear H
 rintro st ⟨x2,x1000,ah,hk,W,H⟩
 refine W.good ?_
 rw [strings_indexFunc.l0] at H
 refine Sw ?_
 rcases (aj H).symm with ⟨Np,H⟩ | ⟨Np,H⟩
 ·refine Rh hN [.kb false] (.c1 Np)<|Sw<|Good.cond false (by kernel_rfl)<|Ex<|Sw<|Rg hN ?_
  cases H
  exact Rt dR
 refine Rh hN [.kb true] (.c1 Np)<|Sw<|Good.cond true (by kernel_rfl)<|Sk<|Bl<|Sw<|Rg hN<|Sw ?_
 obtain ⟨t171,ai9,H⟩:=aC H
 refine Rh hN [B t171] (.c1 (hg1 _ _ ai9).c) ?_
 rcases (aj H).symm with ⟨c173,H⟩ | ⟨c173,H⟩
 ·exact Cf (bf c173)<|Sk<|⟨k,by omega,x2,x1000,ah+(Utf8.decode x1000 ah).2,by omega,Wo [(1,0),(2,0),(10,0)],H⟩
 refine Ct c173<|Sw<|Rg hN ?_
 cases H
 exact Rt dR
def strings_IndexFunc.f (k:Nat) (a0:ByteArray) (g1:Int→Option (Bool)):Option (Int):=(strings_indexFunc.f k a0 g1 true).bind fun t174=>(some t174)
theorem strings_IndexFunc.au {k:Nat} {a0:ByteArray} {g1:Int→Option (Bool)} {f1:FuncId} {c1:List V} (hg1:∀ (tu:Int) r,g1 tu=some r→aQ Tryz.prog f1 ([K .i32 tu]++c1) (B r)) {r:(Int)} (H:strings_IndexFunc.f k a0 g1=some r):aQ Tryz.prog 176 [S a0,.gq f1 c1] (I r):=by
 refine Cg Tryz.func176 rfl fun C hN hL=>?_
 unfold strings_IndexFunc.f at H
 refine Sw<|Rg hN<|Sw ?_
 obtain ⟨t174,aja,H⟩:=aC H
 refine Rh hN [I t174] (.c1 (strings_indexFunc.au (f1:=f1) (c1:=c1) hg1 aja).c) ?_
 cases H
 exact Rt dR
def strings_ContainsFunc.f (k:Nat) (a0:ByteArray) (g1:Int→Option (Bool)):Option (Bool):=(strings_IndexFunc.f k a0 g1).bind fun t176=>(some (decide (t176≥0)))
theorem strings_ContainsFunc.au {k:Nat} {a0:ByteArray} {g1:Int→Option (Bool)} {f1:FuncId} {c1:List V} (hg1:∀ (tu:Int) r,g1 tu=some r→aQ Tryz.prog f1 ([K .i32 tu]++c1) (B r)) {r:(Bool)} (H:strings_ContainsFunc.f k a0 g1=some r):aQ Tryz.prog 160 [S a0,.gq f1 c1] (B r):=by
 refine Cg Tryz.func160 rfl fun C hN hL=>?_
 unfold strings_ContainsFunc.f at H
 refine Sw<|Rg hN<|Sw ?_
 obtain ⟨t176,ajb,H⟩:=aC H
 refine Rh hN [I t176] (.c1 (strings_IndexFunc.au (f1:=f1) (c1:=c1) hg1 ajb).c) ?_
 cases H
 exact Rt dR
def vK.f (k:Nat) (a0:ByteArray):Option (Bool):=(strings_ContainsFunc.f k a0 (fun z0=>il.f k z0)).bind fun t178=>(some (!t178))
theorem vK.au {k:Nat} {a0:ByteArray} {r:(Bool)} (H:vK.f k a0=some r):aQ Tryz.prog 140 [S a0] (B r):=by
 refine Cg Tryz.func140 rfl fun C hN hL=>?_
 unfold vK.f at H
 refine Sw<|Rg hN<|Sw<|Rg hN<|Sw ?_
 obtain ⟨t178,ajc,H⟩:=aC H
 refine Rh hN [B t178] (.c1 (strings_ContainsFunc.au (f1:=159) (c1:=[]) (fun _ _ h=>il.au h) ajc).c) ?_
 cases H
 exact Rt dR
def jE.f (k:Nat) (a0:Int) (a1:ByteArray):Option (Bool):=if a0=1 then ((tK.f a1).bind fun t181=>(some t181.2)) else (if a0=2 then ((oD.f a1).bind fun t184=>(some t184)) else (if a0=3 then ((jU.f k a1).bind fun t187=>(some t187.2.2)) else (if a0=4 then (some true) else (if a0=5 then (some (a1.toList == ([]:List UInt8))) else (if a0=6 then ((qg.f k a1).bind fun t192=>(some t192.2)) else (if a0=12 then ((ug.f a1).bind fun t195=>(some t195)) else (if a0=19 then ((vK.f k a1).bind fun t198=>(some t198)) else (some false))))))))
theorem jE.au {k:Nat} {a0:Int} {a1:ByteArray} {r:(Bool)} (H:jE.f k a0 a1=some r):aQ Tryz.prog 121 [I a0,S a1] (B r):=by
 refine Cg Tryz.func121 rfl fun C hN hL=>?_
 unfold jE.f at H
 refine Sw<|Rg hN<|Sw<|Rg hN<|Sw<|Sw<|Rg hN<|Bl<|Sw<|Rg hN ?_
 rcases aj H with ⟨Nq,H⟩ | ⟨Nq,H⟩
 ·refine Ct (bq Nq) ?_
  obtain ⟨t181,ajd,H⟩:=aC H
  refine Rh hN [.aD [B t181.1,B t181.2]] (.c1 (tK.au ajd).c)<|Sw<|Rg hN ?_
  cases H
  exact Rt dR
 refine Cf (bn Nq)<|Sw<|Rg hN ?_
 rcases aj H with ⟨c183,H⟩ | ⟨c183,H⟩
 ·refine Ct (bq c183) ?_
  obtain ⟨t184,aje,H⟩:=aC H
  refine Rh hN [B t184] (.c1 (oD.au aje).c)<|Sw<|Rg hN ?_
  cases H
  exact Rt dR
 refine Cf (bn c183)<|Sw<|Rg hN ?_
 rcases aj H with ⟨Nr,H⟩ | ⟨Nr,H⟩
 ·refine Ct (bq Nr) ?_
  obtain ⟨t187,ajf,H⟩:=aC H
  refine Rh hN [.aD [S t187.1,I t187.2.1,B t187.2.2]] (.c1 (jU.au ajf).c)<|Sw<|Rg hN ?_
  cases H
  exact Rt dR
 refine Cf (bn Nr)<|Sw<|Rg hN ?_
 rcases aj H with ⟨Ns,H⟩ | ⟨Ns,H⟩
 ·refine Ct (bq Ns)<|Rg hN<|Sw<|Rg hN ?_
  cases H
  exact Rt dR
 refine Cf (bn Ns)<|Sw<|Rg hN ?_
 rcases aj H with ⟨Nt,H⟩ | ⟨Nt,H⟩
 ·refine Ct (bq Nt)<|Ri hN [] (.c1 (eP (rfl:a1.toList=a1.toList) (dV ([]:List UInt8)))) [(31,.bool (a1.toList == ([]:List UInt8)))]<|Sw<|Rg hN ?_
  cases H
  exact Rt dR
 refine Cf (bn Nt)<|Sw<|Rg hN ?_
 rcases aj H with ⟨Nu,H⟩ | ⟨Nu,H⟩
 ·refine Ct (bq Nu) ?_
  obtain ⟨t192,ajg,H⟩:=aC H
  refine Rh hN [.aD [.row none 1 (List.map I t192.1),B t192.2]] (.c1 (qg.au ajg).c)<|Sw<|Rg hN ?_
  cases H
  exact Rt dR
 refine Cf (bn Nu)<|Sw<|Rg hN ?_
 rcases aj H with ⟨c194,H⟩ | ⟨c194,H⟩
 ·refine Ct (bq c194) ?_
  obtain ⟨t195,ajh,H⟩:=aC H
  refine Rh hN [B t195] (.c1 (ug.au ajh).c)<|Sw<|Rg hN ?_
  cases H
  exact Rt dR
 refine Cf (bn c194)<|Sw<|Rg hN ?_
 rcases (aj H).symm with ⟨Nv,H⟩ | ⟨Nv,H⟩
 ·refine Cf (bn Nv)<|Sk<|Sw<|Rg hN ?_
  cases H
  exact Rt dR
 refine Ct (bq Nv) ?_
 obtain ⟨t198,aji,H⟩:=aC H
 refine Rh hN [B t198] (.c1 (vK.au aji).c)<|Sw<|Rg hN ?_
 cases H
 exact Rt dR
def iy.j0:Nat→Bool→Int→Int→Bool→ByteArray→List Int→Option (Bool)
 | 0,_,_,_,_,_,_=>none
 | k+1,bF,x1000,ah,aA,av,dQ=>if bF=true then (some false) else (if aA=true then (if av.toList=([]:List UInt8) then (if x1000=0 then (if ah=16 then (some true) else (some (ah == 17))) else (some true)) else (some false)) else (if (dQ.length:Int)=0 then (if x1000=0 then ((jE.f k ah av).bind fun t209=>(some t209)) else (some true)) else (some false)))
def iy.f (k:Nat) (aJ:Int) (bN:Int) (dB:Bool) (cB:ByteArray) (iB:List Int):Option (Bool):=if (mn aJ bN) < 0 then (iy.j0 k true aJ bN dB cB iB) else (if aJ > 3 then (iy.j0 k true aJ bN dB cB iB) else (iy.j0 k (decide (bN > 2097151)) aJ bN dB cB iB))
theorem iy.au {k:Nat} {aJ:Int} {bN:Int} {dB:Bool} {cB:ByteArray} {iB:List Int} {r:(Bool)} (H:iy.f k aJ bN dB cB iB=some r):aQ Tryz.prog 110 [.agg [I aJ,I bN,B dB,S cB,.row none 1 (List.map I iB)]] (B r):=by
 refine Cg Tryz.func110 rfl fun C hN hL=>?_
 unfold iy.f at H
 refine Sw<|Rg hN<|Sw<|Sw<|Good.cut (fun st=>∃ n':Nat,n'≤k∧∃ (bF:Bool) (x1000:Int) (ah:Int) (aA:Bool) (av:ByteArray) (dQ:List Int),Wk C st ⟨[(1,.d (.ptr 0 0)),(18,.w (B bF))],[.cells [.v (I x1000),.v (I ah),.v (B aA),.v (S av),.v (.row none 1 (List.map I dQ))]]⟩∧iy.j0 n' bF x1000 ah aA av dQ=some r) ?_ ?_
 ·rcases aj H with ⟨Ei,H⟩ | ⟨Ei,H⟩
  ·exact Rh hN [B true,B true] (.c2 (dt Ei) (rfl:true=true))<|⟨k,by omega,true,aJ,bN,dB,cB,iB,Wo [(1,0),(18,0)],H⟩
  rcases aj H with ⟨c201,H⟩ | ⟨c201,H⟩
  ·exact Rh hN [B false,B true] (.c2 (df Ei) (dt c201))<|⟨k,by omega,true,aJ,bN,dB,cB,iB,Wo [(1,0),(18,0)],H⟩
  exact Rh hN [B false,B false] (.c2 (df Ei) (df c201))<|⟨k,by omega,decide (bN > 2097151),aJ,bN,dB,cB,iB,Wo [(1,0),(18,0)],H⟩
 clear H
 rintro st ⟨n',hn',bF,x1000,ah,aA,av,dQ,W,H⟩
 rcases n' with _ | k
 ·cases H
 refine W.good ?_
 rw [iy.j0] at H
 rcases aj H with ⟨Nw,H⟩ | ⟨Nw,H⟩
 ·refine Ct Nw<|Sw<|Rg hN ?_
  cases H
  exact Rt dR
 refine Cf (bf Nw)<|Sk<|Sw<|Sw<|Rg hN ?_
 rcases (aj H).symm with ⟨c203,H⟩ | ⟨c203,H⟩
 ·refine Cf (bf c203)<|Sk<|Sw ?_
  rcases (aj H).symm with ⟨Ej,H⟩ | ⟨Ej,H⟩
  ·refine Rh hN [I (dQ.length:Int),B false] (.c2 (aT I dQ) (bn Ej)) ?_
   cases H
   exact Rt dR
  rcases (aj H).symm with ⟨c208,H⟩ | ⟨c208,H⟩
  ·refine Rh hN [I (dQ.length:Int),B true,B true] (.c3 (aT I dQ) (bq Ej) (nq c208)) ?_
   cases H
   exact Rt dR
  obtain ⟨t209,ajj,H⟩:=aC H
  refine Rh hN [I (dQ.length:Int),B true,B false,B t209] (.c4 (aT I dQ) (bq Ej) (bM c208) (jE.au ajj).c) ?_
  cases H
  exact Rt dR
 refine Ct c203<|Sw ?_
 rcases (aj H).symm with ⟨Am,H⟩ | ⟨Am,H⟩
 ·refine Ri hN [B false] (.c2 (eP (rfl:av.toList=av.toList) (dV ([]:List UInt8))) (bn Am)) [(23,.bool (av.toList == ([]:List UInt8)))] ?_
  cases H
  exact Rt dR
 rcases (aj H).symm with ⟨El,H⟩ | ⟨El,H⟩
 ·refine Ri hN [B true,B true,B true] (.c4 (eP (rfl:av.toList=av.toList) (dV ([]:List UInt8))) (bq Am) (nq El) (rfl:true=true)) [(23,.bool (av.toList == ([]:List UInt8)))] ?_
  cases H
  exact Rt dR
 rcases aj H with ⟨c206,H⟩ | ⟨c206,H⟩
 ·refine Ri hN [B true,B false,B true] (.c4 (eP (rfl:av.toList=av.toList) (dV ([]:List UInt8))) (bq Am) (bM El) (bq c206)) [(23,.bool (av.toList == ([]:List UInt8)))] ?_
  cases H
  exact Rt dR
 refine Ri hN [B true,B false,B false] (.c4 (eP (rfl:av.toList=av.toList) (dV ([]:List UInt8))) (bq Am) (bM El) (bn c206)) [(23,.bool (av.toList == ([]:List UInt8)))] ?_
 cases H
 exact Rt dR
def bR.l2:Nat→List af→List bX→Int→Int→Int→Option (Int)
 | 0,_,_,_,_,_=>none
 | k+1,x0,x3,x4,x102,x103=>if x103 < x102 then (if 0≤x103 then (if x103 < (x3.length:Int) then (if 0≤((bE x3 x103).f0) then (if ((bE x3 x103).f0) < (x0.length:Int) then (if ((bE x3 x103).f1)=(((aa x0 ((bE x3 x103).f0)).f4).length:Int) then (bR.l2 k x0 x3 x4 x102 (wrap64 (x103+1))) else (some 0)) else (none)) else (none)) else (none)) else (none)) else (if x4 > 16 then (some 0) else (some x4))
mutual
def bR.l0:Nat→List af→List bX→Int→List af→Int→Int→Option (Int)
 | 0,_,_,_,_,_,_=>none
 | k+1,x0,x3,x4,bF,cO,x20=>if x20 < cO then (if 0≤x20 then (if x20 < (bF.length:Int) then ((iy.f k ((aa bF x20).f0) ((aa bF x20).f1) ((aa bF x20).f2) ((aa bF x20).f3) ((aa bF x20).f4)).bind fun t227=>(if t227=true then (bR.l1 k x0 x3 x4 x20 bF cO x20) else (some 0))) else (none)) else (none)) else (bR.l2 k x0 x3 x4 (x3.length:Int) 0)
def bR.l1:Nat→List af→List bX→Int→Int→List af→Int→Int→Option (Int)
 | 0,_,_,_,_,_,_,_=>none
 | k+1,x0,x3,x4,x5,bF,cO,x20=>if (x3.length:Int) > 0 then (if 0≤(wrap64 ((x3.length:Int) - 1)) then (if (wrap64 ((x3.length:Int) - 1)) < (x3.length:Int) then (if 0≤((bE x3 (wrap64 ((x3.length:Int) - 1))).f0) then (if ((bE x3 (wrap64 ((x3.length:Int) - 1))).f0) < (x0.length:Int) then (if ((bE x3 (wrap64 ((x3.length:Int) - 1))).f1)=(((aa x0 ((bE x3 (wrap64 ((x3.length:Int) - 1))).f0)).f4).length:Int) then (if (wrap64 ((x3.length:Int) - 1))≤(x3.length:Int) then (bR.l1 k x0 (x3.take ((wrap64 ((x3.length:Int) - 1)):Int).toNat) x4 x5 bF cO x20) else (none)) else (bR.j3 k x0 x3 x4 x5 bF cO x20)) else (none)) else (none)) else (none)) else (none)) else (bR.j3 k x0 x3 x4 x5 bF cO x20)
def bR.j3:Nat→List af→List bX→Int→Int→List af→Int→Int→Option (Int)
 | 0,_,_,_,_,_,_,_=>none
 | k+1,x0,x3,x4,x5,bF,cO,x20=>if x5 > 0 then (if (x3.length:Int)=0 then (some 0) else (if 0≤(wrap64 ((x3.length:Int) - 1)) then (if (wrap64 ((x3.length:Int) - 1)) < (x3.length:Int) then (if 0≤((bE x3 (wrap64 ((x3.length:Int) - 1))).f0) then (if ((bE x3 (wrap64 ((x3.length:Int) - 1))).f0) < (x0.length:Int) then (if 0≤((bE x3 (wrap64 ((x3.length:Int) - 1))).f1) then (if ((bE x3 (wrap64 ((x3.length:Int) - 1))).f1) < (((aa x0 ((bE x3 (wrap64 ((x3.length:Int) - 1))).f0)).f4).length:Int) then (if (rd ((aa x0 ((bE x3 (wrap64 ((x3.length:Int) - 1))).f0)).f4) ((bE x3 (wrap64 ((x3.length:Int) - 1))).f1))=x5 then ((some (x3.set ((wrap64 ((x3.length:Int) - 1)):Int).toNat (⟨(bE x3 (wrap64 ((x3.length:Int) - 1))).f0,wrap64 (((bE x3 (wrap64 ((x3.length:Int) - 1))).f1)+1)⟩:bX):List bX)).bind fun YM=>(if YM.length < 8796093022208 then ((some (YM++[(⟨x5,0⟩:bX)]:List bX)).bind fun YN=>(bR.l0 k x0 YN (mx x4 (YN.length:Int)) bF cO (wrap64 (x20+1)))) else (none))) else (some 0)) else (none)) else (none)) else (none)) else (none)) else (none)) else (none))) else (if x3.length < 8796093022208 then ((some (x3++[(⟨x5,0⟩:bX)]:List bX)).bind fun YO=>(bR.l0 k x0 YO (mx x4 (YO.length:Int)) bF cO (wrap64 (x20+1)))) else (none))
end
def bR.j0:Nat→List af→Bool→Option (Int)
 | 0,_,_=>none
 | k+1,x0,bQ=>if bQ=true then (some 0) else (bR.l0 k x0 ([]:List bX) 0 x0 (x0.length:Int) 0)
def bR.f (k:Nat) (l0:List af):Option (Int):=if (l0.length:Int)=0 then (bR.j0 k l0 true) else (bR.j0 k l0 (decide ((l0.length:Int) > 1000)))
theorem bR.au {k:Nat} {l0:List af} {r:(Int)} (H:bR.f k l0=some r):aQ Tryz.prog 69 [.row none 5 (List.map (v55 0) l0)] (I r):=by
 refine Cg Tryz.func69 rfl fun C hN hL=>?_
 unfold bR.f at H
 refine Sw<|Rg hN<|Sw<|Sw<|Good.cut (fun st=>∃ n':Nat,n'≤k∧∃ (x0:List af) (bQ:Bool),Wk C st ⟨[(0,.w (.row none 5 (List.map (v55 0) x0))),(17,.w (B bQ))],[]⟩∧bR.j0 n' x0 bQ=some r) ?_ ?_
 ·rcases aj H with ⟨c222,H⟩ | ⟨c222,H⟩
  ·exact Rh hN [I (l0.length:Int),B true] (.c2 (aT (v55 0) l0) (bq c222))<|⟨k,by omega,l0,true,Wo [(0,0),(17,0)],H⟩
  exact Rh hN [I (l0.length:Int),B false,I (l0.length:Int)] (.c3 (aT (v55 0) l0) (bn c222) (aT (v55 0) l0))<|⟨k,by omega,l0,decide ((l0.length:Int) > 1000),Wo [(0,0),(17,0)],H⟩
 clear H
 rintro st ⟨n',hn',x0,bQ,W,H⟩
 rcases n' with _ | k
 ·cases H
 refine W.good ?_
 rw [bR.j0] at H
 rcases aj H with ⟨Ny,H⟩ | ⟨Ny,H⟩
 ·refine Ct Ny<|Sw<|Rg hN ?_
  cases H
  exact Rt dR
 refine Cf (bf Ny)<|Sk<|Sw<|Rg hN<|Sw<|Rg hN<|Sw<|Sw<|Rh hN [I (x0.length:Int)] (.c1 (aT (v55 0) x0))<|Bl<|Good.dN (fun k' st=>∃ (x0:List af) (x3:List bX) (x4:Int) (bF:List af) (cO:Int) (x20:Int),k'≤k∧Wk C st ⟨[(0,.w (.row none 5 (List.map (v55 0) x0))),(3,.w (.row (some 158) 2 (List.map dz x3))),(4,.w (I x4)),(18,.w (.row none 5 (List.map (v55 0) bF))),(19,.w (I cO)),(20,.w (I x20))],[]⟩∧bR.l0 k' x0 x3 x4 bF cO x20=some r) k ⟨x0,([]:List bX),0,x0,(x0.length:Int),0,Nat.le_refl _,Wo [(0,0),(3,1),(4,0),(18,0),(19,0),(20,0)],H⟩ fun k=>⟨fun st h=>(by obtain ⟨_,_,_,_,_,_,_,_,H⟩:=h;cases H),?_⟩
 clear H
 rintro st ⟨x0,x3,x4,bF,cO,x20,hk,W,H⟩
 refine W.good ?_
 rw [bR.l0] at H
 refine Sw<|Rg hN<|Sw ?_
 rcases (aj H).symm with ⟨Nz,H⟩ | ⟨Nz,H⟩
 ·refine Cf (df Nz)<|Ex<|Sw<|Sw<|Rh hN [I (x3.length:Int)] (.c1 (aT dz x3))<|Bl<|Good.dN (fun k' st=>∃ (x0:List af) (x3:List bX) (x4:Int) (x102:Int) (x103:Int),k'≤k∧Wk C st ⟨[(0,.w (.row none 5 (List.map (v55 0) x0))),(3,.w (.row (some 158) 2 (List.map dz x3))),(4,.w (I x4)),(101,.al (.top (.t 3))),(102,.w (I x102)),(103,.w (I x103))],[]⟩∧bR.l2 k' x0 x3 x4 x102 x103=some r) k ⟨x0,x3,x4,(x3.length:Int),0,Nat.le_refl _,Wo [(0,0),(3,0),(4,0),(101,0),(102,0),(103,0)],H⟩ fun k=>⟨fun st h=>(by obtain ⟨_,_,_,_,_,_,_,H⟩:=h;cases H),?_⟩
  clear H
  rintro st ⟨x0,x3,x4,x102,x103,hk,W,H⟩
  refine W.good ?_
  rw [bR.l2] at H
  refine Sw<|Rg hN<|Sw ?_
  rcases (aj H).symm with ⟨NA,H⟩ | ⟨NA,H⟩
  ·refine Cf (df NA)<|Ex<|Sw<|Sw<|Rg hN ?_
   rcases aj H with ⟨NB,H⟩ | ⟨NB,H⟩
   ·refine Ct (dt NB)<|Sw<|Rg hN ?_
    cases H
    exact Rt dR
   refine Cf (df NB)<|Sk<|Sw<|Rg hN ?_
   cases H
   exact Rt dR
  refine Ct (dt NA)<|Sk<|Sw<|Bl<|Sw ?_
  obtain ⟨YP,H⟩:=ax H
  obtain ⟨YQ,H⟩:=ax H
  refine Rh hN [dz (bE x3 x103)] (.c3 YP (gz dz YQ) (aF dz oN YP YQ))<|Sw ?_
  obtain ⟨Em,H⟩:=ax H
  obtain ⟨YR,H⟩:=ax H
  refine Rd hm hN (.qs 9 0 (.q 9 [] .z)) [(0,none),(9,some (.pt [I ((bE x3 x103).f0),I ((bE x3 x103).f1)]))] (.c1 (bJ (ay (rfl:(V.shr (I ((bE x3 x103).f0)))=I ((bE x3 x103).f0)) (ay (rfl:(V.shr (I ((bE x3 x103).f1)))=I ((bE x3 x103).f1)) (rfl:aX []=[]))))) [(v55 0) (aa x0 ((bE x3 x103).f0)),I (((aa x0 ((bE x3 x103).f0)).f4).length:Int)] [(v55 0) (aa x0 ((bE x3 x103).f0)),I (((aa x0 ((bE x3 x103).f0)).f4).length:Int)] (.c3 Em (aF (v55 0) z55 Em YR) (aT I ((aa x0 ((bE x3 x103).f0)).f4))) (.c3 Em (aF (v55 0) z55 Em YR) (aT I ((aa x0 ((bE x3 x103).f0)).f4))) [] [] ?_
  rcases aj H with ⟨NC,H⟩ | ⟨NC,H⟩
  ·exact Cf (bM NC)<|Sk<|Rg hN<|⟨k,by omega,x0,x3,x4,x102,wrap64 (x103+1),by omega,Wk.oV hL 0 [(0,0),(3,0),(4,0),(101,0),(102,0),(103,0)] (by kernel_rfl) (by kernel_rfl) (by kernel_rfl),H⟩
  refine Ct (nq NC)<|Sw<|Rg hN ?_
  cases H
  exact Rt dR
 refine Ct (dt Nz)<|Sk<|Sw<|Bl<|Sw ?_
 obtain ⟨YS,H⟩:=ax H
 obtain ⟨c226,H⟩:=ax H
 refine Rh hN [(v55 0) (aa bF x20)] (.c2 YS (aF (v55 0) z55 YS c226))<|Sw<|Sw ?_
 obtain ⟨t227,ajk,H⟩:=aC H
 refine Rh hN [B t227] (.c1 (iy.au ajk).c) ?_
 rcases (aj H).symm with ⟨c229,H⟩ | ⟨c229,H⟩
 ·refine Ct (eB (bf c229))<|Sw<|Rg hN ?_
  cases H
  exact Rt dR
 refine Cf (fw c229)<|Sk<|Sw<|Good.cut (fun st=>∃ n':Nat,n'≤k∧∃ (x0:List af) (x3:List bX) (x4:Int) (x5:Int) (bF:List af) (cO:Int) (x20:Int) (x1000:Int) (ah:Int) (aA:Bool) (av:ByteArray) (dQ:List Int),Wk C st ⟨[(0,.w (.row none 5 (List.map (v55 0) x0))),(3,.w (.row (some 158) 2 (List.map dz x3))),(4,.w (I x4)),(5,.w (I x5)),(18,.w (.row none 5 (List.map (v55 0) bF))),(19,.w (I cO)),(20,.w (I x20))],[.cells [.v (I x1000),.v (I ah),.v (B aA),.v (S av),.v (.row none 1 (List.map I dQ))]]⟩∧bR.j3 n' x0 x3 x4 x5 bF cO x20=some r) ?_ ?_
 ·refine Bl<|Good.dN (fun k' st=>∃ (x0:List af) (x3:List bX) (x4:Int) (x5:Int) (bF:List af) (cO:Int) (x20:Int) (x1000:Int) (ah:Int) (aA:Bool) (av:ByteArray) (dQ:List Int),k'≤k∧Wk C st ⟨[(0,.w (.row none 5 (List.map (v55 0) x0))),(3,.w (.row (some 158) 2 (List.map dz x3))),(4,.w (I x4)),(5,.w (I x5)),(18,.w (.row none 5 (List.map (v55 0) bF))),(19,.w (I cO)),(20,.w (I x20))],[.cells [.v (I x1000),.v (I ah),.v (B aA),.v (S av),.v (.row none 1 (List.map I dQ))]]⟩∧bR.l1 k' x0 x3 x4 x5 bF cO x20=some r) k ⟨x0,x3,x4,x20,bF,cO,x20,(aa bF x20).f0,(aa bF x20).f1,(aa bF x20).f2,(aa bF x20).f3,(aa bF x20).f4,Nat.le_refl _,Wo [(0,0),(3,0),(4,0),(5,0),(18,0),(19,0),(20,0)],H⟩ fun k=>⟨fun st h=>(by obtain ⟨_,_,_,_,_,_,_,_,_,_,_,_,_,_,H⟩:=h;cases H),?_⟩
  clear H
  rintro st ⟨x0,x3,x4,x5,bF,cO,x20,x1000,ah,aA,av,dQ,hk,W,H⟩
  refine W.good ?_
  rw [bR.l1] at H
  refine Sw<|Sw ?_
  rcases (aj H).symm with ⟨Ao,H⟩ | ⟨Ao,H⟩
  ·exact Rd hm hN (.qs 4 0 (.k 31 (.is 20 4 (.q 24 [] .z)))) [(0,none),(3,some (.row none 2 (List.map dz x3)))] (.c1 (aS (some 158) 2 dz dz x3 (fun _=>rfl))) [I (x3.length:Int),B false] [I (x3.length:Int)] (.c2 (aT dz x3) (df Ao)) (.c2 (aT dz x3) (df Ao)) [] []<|Good.cond false (by kernel_rfl)<|Ex<|⟨k,by omega,x0,x3,x4,x5,bF,cO,x20,x1000,ah,aA,av,dQ,Wo [(0,0),(3,0),(4,0),(5,0),(18,0),(19,0),(20,0)],H⟩
  obtain ⟨qK,H⟩:=ax H
  obtain ⟨c232,H⟩:=ax H
  obtain ⟨c233,H⟩:=ax H
  obtain ⟨c234,H⟩:=ax H
  refine Rd hm hN (.qs 4 0 (.k 31 (.qs 20 4 (.q 24 [] .z)))) [(0,none),(3,some (.row none 2 (List.map dz x3)))] (.c1 (aS (some 158) 2 dz dz x3 (fun _=>rfl))) [I (x3.length:Int),B true,I (x3.length:Int),dz (bE x3 (wrap64 ((x3.length:Int) - 1))),I (x3.length:Int),dz (bE x3 (wrap64 ((x3.length:Int) - 1))),(v55 0) (aa x0 ((bE x3 (wrap64 ((x3.length:Int) - 1))).f0)),I (((aa x0 ((bE x3 (wrap64 ((x3.length:Int) - 1))).f0)).f4).length:Int)] [I (x3.length:Int),I (x3.length:Int),dz (bE x3 (wrap64 ((x3.length:Int) - 1))),I (x3.length:Int),dz (bE x3 (wrap64 ((x3.length:Int) - 1))),(v55 0) (aa x0 ((bE x3 (wrap64 ((x3.length:Int) - 1))).f0)),I (((aa x0 ((bE x3 (wrap64 ((x3.length:Int) - 1))).f0)).f4).length:Int)] (.cons (aT dz x3) (.cons (dt Ao) (.cons (aT dz x3) (.cons qK (.cons (gz dz c232) (.c8 (aF dz oN qK c232) (aT dz x3) qK (gz dz c232) (aF dz oN qK c232) c233 (aF (v55 0) z55 c233 c234) (aT I ((aa x0 ((bE x3 (wrap64 ((x3.length:Int) - 1))).f0)).f4)))))))) (.cons (aT dz x3) (.cons (dt Ao) (.cons (aT dz x3) (.c8 qK (aF dz oN qK c232) (aT dz x3) qK (aF dz oN qK c232) c233 (aF (v55 0) z55 c233 c234) (aT I ((aa x0 ((bE x3 (wrap64 ((x3.length:Int) - 1))).f0)).f4)))))) [] [] ?_
  rcases (aj H).symm with ⟨ND,H⟩ | ⟨ND,H⟩
  ·exact Cf (bn ND)<|Ex<|⟨k,by omega,x0,x3,x4,x5,bF,cO,x20,x1000,ah,aA,av,dQ,Wo [(0,0),(3,0),(4,0),(5,0),(18,0),(19,0),(20,0)],H⟩
  refine Ct (bq ND)<|Sk<|Bl ?_
  obtain ⟨c236,H⟩:=ax H
  exact Rh hN [I (x3.length:Int),.row (some 158) 2 (List.map dz (x3.take ((wrap64 ((x3.length:Int) - 1)):Int).toNat))] (.c4 (aT dz x3) qK (sV dz c236) (XO dz (l:=x3) (n:=((wrap64 ((x3.length:Int) - 1)):Int).toNat)))<|⟨k,by omega,x0,x3.take ((wrap64 ((x3.length:Int) - 1)):Int).toNat,x4,x5,bF,cO,x20,x1000,ah,aA,av,dQ,by omega,Wo [(0,0),(3,0),(4,0),(5,0),(18,0),(19,0),(20,0)],H⟩
 clear H
 rintro st ⟨n',hn',x0,x3,x4,x5,bF,cO,x20,x1000,ah,aA,av,dQ,W,H⟩
 rcases n' with _ | k
 ·cases H
 refine W.good ?_
 rw [bR.j3] at H
 refine Sw<|Sw<|Rg hN ?_
 rcases (aj H).symm with ⟨NF,H⟩ | ⟨NF,H⟩
 ·refine Cf (df NF)<|Sk<|Sw ?_
  obtain ⟨ajl,H⟩:=ax H
  replace H:=oK H
  exact Rh hN [.kb true,.row (some 158) 2 (List.map dz (x3++[(⟨x5,0⟩:bX)]))] (.c2 (dY dz x3 [(⟨x5,0⟩:bX)] (.refl _)) (eZ dz ajl))<|Rh hN [I ((x3++[(⟨x5,0⟩:bX)]).length:Int)] (.c1 (aT dz (x3++[(⟨x5,0⟩:bX)])))<|Rg hN<|⟨k,by omega,x0,(x3++[(⟨x5,0⟩:bX)]),mx x4 ((x3++[(⟨x5,0⟩:bX)]).length:Int),bF,cO,wrap64 (x20+1),by omega,Wk.oV hL 0 [(0,0),(3,0),(4,0),(18,0),(19,0),(20,0)] (by kernel_rfl) (by kernel_rfl) (by kernel_rfl),H⟩
 refine Ct (dt NF)<|Sw<|Sw<|Rh hN [I (x3.length:Int)] (.c1 (aT dz x3)) ?_
 rcases aj H with ⟨NG,H⟩ | ⟨NG,H⟩
 ·refine Ct (bq NG)<|Sw<|Rg hN ?_
  cases H
  exact Rt dR
 refine Cf (bn NG)<|Sk<|Sw ?_
 obtain ⟨wY,H⟩:=ax H
 obtain ⟨wZ,H⟩:=ax H
 refine Rh hN [I (x3.length:Int)] (.c3 (aT dz x3) wY (gz dz wZ))<|Sw<|Sw ?_
 obtain ⟨Eo,H⟩:=ax H
 obtain ⟨YT,H⟩:=ax H
 obtain ⟨Ep,H⟩:=ax H
 obtain ⟨YU,H⟩:=ax H
 refine Rd hm hN (.qs 15 0 (.q 15 [] .z)) [(0,none),(5,none),(7,some (.aD [dz (bE x3 (wrap64 ((x3.length:Int) - 1))),.pt [I ((bE x3 (wrap64 ((x3.length:Int) - 1))).f0),I ((bE x3 (wrap64 ((x3.length:Int) - 1))).f1)]]))] (.c2 (aF dz oN wY wZ) (bJ (ay (rfl:(V.shr (I ((bE x3 (wrap64 ((x3.length:Int) - 1))).f0)))=I ((bE x3 (wrap64 ((x3.length:Int) - 1))).f0)) (ay (rfl:(V.shr (I ((bE x3 (wrap64 ((x3.length:Int) - 1))).f1)))=I ((bE x3 (wrap64 ((x3.length:Int) - 1))).f1)) (rfl:aX []=[]))))) [dz (bE x3 (wrap64 ((x3.length:Int) - 1))),(v55 0) (aa x0 ((bE x3 (wrap64 ((x3.length:Int) - 1))).f0)),dz (bE x3 (wrap64 ((x3.length:Int) - 1))),I (rd ((aa x0 ((bE x3 (wrap64 ((x3.length:Int) - 1))).f0)).f4) ((bE x3 (wrap64 ((x3.length:Int) - 1))).f1))] [(v55 0) (aa x0 ((bE x3 (wrap64 ((x3.length:Int) - 1))).f0)),I (rd ((aa x0 ((bE x3 (wrap64 ((x3.length:Int) - 1))).f0)).f4) ((bE x3 (wrap64 ((x3.length:Int) - 1))).f1))] (.c6 (aF dz oN wY wZ) Eo (aF (v55 0) z55 Eo YT) (aF dz oN wY wZ) Ep (aF I (0:Int) Ep YU)) (.c4 Eo (aF (v55 0) z55 Eo YT) Ep (aF I (0:Int) Ep YU)) [] [] ?_
 rcases (aj H).symm with ⟨NH,H⟩ | ⟨NH,H⟩
 ·refine Ct (nq NH)<|Sw<|Rg hN ?_
  cases H
  exact Rt dR
 refine Cf (bM NH)<|Sk ?_
 replace H:=oK H
 refine Rh hN [dz (bE x3 (wrap64 ((x3.length:Int) - 1))),dz (bE x3 (wrap64 ((x3.length:Int) - 1))),dz (⟨(bE x3 (wrap64 ((x3.length:Int) - 1))).f0,wrap64 (((bE x3 (wrap64 ((x3.length:Int) - 1))).f1)+1)⟩:bX),.row (some 158) 2 (List.map dz (x3.set ((wrap64 ((x3.length:Int) - 1)):Int).toNat (⟨(bE x3 (wrap64 ((x3.length:Int) - 1))).f0,wrap64 (((bE x3 (wrap64 ((x3.length:Int) - 1))).f1)+1)⟩:bX)))] (.c4 (aF dz oN wY wZ) (aF dz oN wY wZ) (Fit.refl (dz (⟨(bE x3 (wrap64 ((x3.length:Int) - 1))).f0,wrap64 (((bE x3 (wrap64 ((x3.length:Int) - 1))).f1)+1)⟩:bX))) (wX dz (l:=x3) (n:=((wrap64 ((x3.length:Int) - 1)):Int).toNat) (x:=(⟨(bE x3 (wrap64 ((x3.length:Int) - 1))).f0,wrap64 (((bE x3 (wrap64 ((x3.length:Int) - 1))).f1)+1)⟩:bX))))<|Sw ?_
 obtain ⟨ajm,H⟩:=ax H
 replace H:=oK H
 exact Rh hN [.kb true,.row (some 158) 2 (List.map dz ((x3.set ((wrap64 ((x3.length:Int) - 1)):Int).toNat (⟨(bE x3 (wrap64 ((x3.length:Int) - 1))).f0,wrap64 (((bE x3 (wrap64 ((x3.length:Int) - 1))).f1)+1)⟩:bX))++[(⟨x5,0⟩:bX)]))] (.c2 (dY dz (x3.set ((wrap64 ((x3.length:Int) - 1)):Int).toNat (⟨(bE x3 (wrap64 ((x3.length:Int) - 1))).f0,wrap64 (((bE x3 (wrap64 ((x3.length:Int) - 1))).f1)+1)⟩:bX)) [(⟨x5,0⟩:bX)] (.refl _)) (eZ dz ajm))<|Rh hN [I (((x3.set ((wrap64 ((x3.length:Int) - 1)):Int).toNat (⟨(bE x3 (wrap64 ((x3.length:Int) - 1))).f0,wrap64 (((bE x3 (wrap64 ((x3.length:Int) - 1))).f1)+1)⟩:bX))++[(⟨x5,0⟩:bX)]).length:Int)] (.c1 (aT dz ((x3.set ((wrap64 ((x3.length:Int) - 1)):Int).toNat (⟨(bE x3 (wrap64 ((x3.length:Int) - 1))).f0,wrap64 (((bE x3 (wrap64 ((x3.length:Int) - 1))).f1)+1)⟩:bX))++[(⟨x5,0⟩:bX)])))<|Rg hN<|⟨k,by omega,x0,((x3.set ((wrap64 ((x3.length:Int) - 1)):Int).toNat (⟨(bE x3 (wrap64 ((x3.length:Int) - 1))).f0,wrap64 (((bE x3 (wrap64 ((x3.length:Int) - 1))).f1)+1)⟩:bX))++[(⟨x5,0⟩:bX)]),mx x4 (((x3.set ((wrap64 ((x3.length:Int) - 1)):Int).toNat (⟨(bE x3 (wrap64 ((x3.length:Int) - 1))).f0,wrap64 (((bE x3 (wrap64 ((x3.length:Int) - 1))).f1)+1)⟩:bX))++[(⟨x5,0⟩:bX)]).length:Int),bF,cO,wrap64 (x20+1),by omega,Wk.oV hL 0 [(0,0),(3,0),(4,0),(18,0),(19,0),(20,0)] (by kernel_rfl) (by kernel_rfl) (by kernel_rfl),H⟩
def mf.f (k:Nat) (l0:List af):Option (Bool):=(bR.f k l0).bind fun NI=>(some (decide (NI > 0)))
theorem mf.au {k:Nat} {l0:List af} {r:(Bool)} (H:mf.f k l0=some r):aQ Tryz.prog 34 [.row none 5 (List.map (v55 0) l0)] (B r):=by
 refine Cg Tryz.func34 rfl fun C hN hL=>?_
 unfold mf.f at H
 refine Sw<|Rg hN<|Sw ?_
 obtain ⟨NI,ajn,H⟩:=aC H
 refine Rh hN [I NI] (.c1 (bR.au ajn).c) ?_
 cases H
 exact Rt dR
def tH.f (aJ:Int) (bN:Int) (dB:Bool) (cB:Int):Option (Bool):=if (mn (mn aJ bN) cB)≥0 then (if aJ≤3 then (if bN≤2097151 then (some (decide (cB≤65535))) else (some false)) else (some false)) else (some false)
theorem tH.au {aJ:Int} {bN:Int} {dB:Bool} {cB:Int} {r:(Bool)} (H:tH.f aJ bN dB cB=some r):aQ Tryz.prog 71 [.agg [I aJ,I bN,B dB,I cB]] (B r):=by
 refine Cg Tryz.func71 rfl fun C hN hL=>?_
 unfold tH.f at H
 refine Sw<|Rg hN<|Sw ?_
 rcases (aj H).symm with ⟨Ap,H⟩ | ⟨Ap,H⟩
 ·refine Rh hN [B false,B false,B false] (.c3 (df Ap) (rfl:false=false) (rfl:false=false)) ?_
  cases H
  exact Rt dR
 rcases (aj H).symm with ⟨Er,H⟩ | ⟨Er,H⟩
 ·refine Rh hN [B true,B false,B false] (.c3 (dt Ap) (df Er) (rfl:false=false)) ?_
  cases H
  exact Rt dR
 rcases aj H with ⟨NJ,H⟩ | ⟨NJ,H⟩
 ·refine Rh hN [B true,B true,B true] (.c3 (dt Ap) (dt Er) (dt NJ)) ?_
  cases H
  exact Rt dR
 refine Rh hN [B true,B true,B false] (.c3 (dt Ap) (dt Er) (df NJ)) ?_
 cases H
 exact Rt dR
def eY.j2:Nat→List Int→Int→Option (ByteArray × Int)
 | 0,_,_=>none
 | k+1,x4,av=>if av < 128 then (if x4.length < 140737488355328 then (some (strOfNums (x4++[(av) % 256]),0)) else (none)) else (if av < 256 then (if x4.length+2 < 140737488355328 then (some (strOfNums (x4++[129,(av) % 256]),0)) else (none)) else (if x4.length+3 < 140737488355328 then (some (strOfNums (x4++[130,(av / 256) % 256,(av) % 256]),0)) else (none)))
def eY.l0:Nat→List Int→Int→Int→Int→Option (ByteArray × Int)
 | 0,_,_,_,_=>none
 | k+1,x4,x6,ah,av=>if x6≥0 then (if 0≤x6 then (if (shr .i64 ah x6)=0 then (eY.l0 k x4 (wrap64 (x6 - 7)) ah av) else (if x4.length < 140737488355328 then (eY.l0 k (x4++[(Go.bits .or .i64 (Go.bits .and .i64 (shr .i64 ah x6) 127) 128) % 256]) (wrap64 (x6 - 7)) ah av) else (none))) else (none)) else (if 0≤(wrap64 ((x4.length:Int) - 1)) then (if (wrap64 ((x4.length:Int) - 1)) < (x4.length:Int) then (eY.j2 k (x4.set ((wrap64 ((x4.length:Int) - 1)):Int).toNat (Go.bits .and .u8 (rd x4 (wrap64 ((x4.length:Int) - 1))) 127)) av) else (none)) else (none))
def eY.j0:Nat→List Int→Int→Int→Int→Option (ByteArray × Int)
 | 0,_,_,_,_=>none
 | k+1,x4,x5,ah,av=>if ah < 31 then (if x4.length < 140737488355328 then (eY.j2 k (x4++[Go.bits .or .u8 x5 ((ah) % 256)]) av) else (none)) else (if x4.length < 140737488355328 then (eY.l0 k (x4++[Go.bits .or .u8 x5 31]) 14 ah av) else (none))
def eY.f (k:Nat) (aJ:Int) (bN:Int) (dB:Bool) (cB:Int):Option (ByteArray × Int):=(tH.f aJ bN dB cB).bind fun NK=>(if NK=true then (if dB=true then (eY.j0 k (List.replicate 0 0) (Go.bits .or .u8 ((wrap64 (aJ*64)) % 256) 32) bN cB) else (eY.j0 k (List.replicate 0 0) ((wrap64 (aJ*64)) % 256) bN cB)) else (some ((⟨#[]⟩:ByteArray),1)))
theorem eY.au {k:Nat} {aJ:Int} {bN:Int} {dB:Bool} {cB:Int} {r:(ByteArray × Int)} (H:eY.f k aJ bN dB cB=some r):aQ Tryz.prog 36 [.agg [I aJ,I bN,B dB,I cB]] (.aD [S r.1,I r.2]):=by
 refine Cg Tryz.func36 rfl fun C hN hL=>?_
 unfold eY.f at H
 refine Sw<|Rg hN<|Sw<|Sw ?_
 obtain ⟨NK,ajo,H⟩:=aC H
 refine Rh hN [B NK] (.c1 (tH.au ajo).c) ?_
 rcases (aj H).symm with ⟨NL,H⟩ | ⟨NL,H⟩
 ·refine Ct (eB (bf NL))<|Sw<|Rg hN ?_
  cases H
  exact Rt dR
 refine Cf (fw NL)<|Sk<|Sw<|Rh hN [.row (some 5) 1 (List.map (K .u8) (List.replicate 0 0))] (.c4 (show (0:Int)≤0 by decide) (show (0:Int)≤7 by decide) (show (7:Int)≤281474976710656 by decide) (Dc (K .u8) 0 0))<|Sw<|Rh hN [] (.c1 (show (0:Int)≤6 by decide))<|Sw<|Sw<|Rg hN<|Good.cut (fun st=>∃ n':Nat,n'≤k∧∃ (x4:List Int) (x5:Int) (x1000:Int) (ah:Int) (aA:Bool) (av:Int),Wk C st ⟨[(1,.d (.ptr 0 0)),(4,.w (.row (some 5) 1 (List.map (K .u8) x4))),(5,.w (K .u8 x5))],[.cells [.v (I x1000),.v (I ah),.v (B aA),.v (I av)]]⟩∧eY.j0 n' x4 x5 ah av=some r) ?_ ?_
 ·rcases aj H with ⟨NM,H⟩ | ⟨NM,H⟩
  ·exact Ct NM<|Rg hN<|⟨k,by omega,List.replicate 0 0,Go.bits .or .u8 ((wrap64 (aJ*64)) % 256) 32,aJ,bN,dB,cB,Wo [(1,0),(4,0),(5,0)],H⟩
  exact Cf (bf NM)<|Sk<|⟨k,by omega,List.replicate 0 0,(wrap64 (aJ*64)) % 256,aJ,bN,dB,cB,Wo [(1,0),(4,0),(5,0)],H⟩
 clear H
 rintro st ⟨n',hn',x4,x5,x1000,ah,aA,av,W,H⟩
 rcases n' with _ | k
 ·cases H
 refine W.good ?_
 rw [eY.j0] at H
 refine Sw<|Good.cut (fun st=>∃ n':Nat,n'≤k∧∃ (x4:List Int) (x1000:Int) (ah:Int) (aA:Bool) (av:Int),Wk C st ⟨[(1,.d (.ptr 0 0)),(4,.w (.row (some 5) 1 (List.map (K .u8) x4)))],[.cells [.v (I x1000),.v (I ah),.v (B aA),.v (I av)]]⟩∧eY.j2 n' x4 av=some r) ?_ ?_
 ·refine Bl<|Sw<|Rg hN ?_
  rcases aj H with ⟨NN,H⟩ | ⟨NN,H⟩
  ·refine Ct (dt NN) ?_
   obtain ⟨ajp,H⟩:=ax H
   exact Rh hN [.kb true,.row (some 5) 1 (List.map (K .u8) (x4++[Go.bits .or .u8 x5 ((ah) % 256)]))] (.c2 (dY (K .u8) x4 [Go.bits .or .u8 x5 ((ah) % 256)] (.refl _)) (eZ (K .u8) ajp))<|⟨k,by omega,(x4++[Go.bits .or .u8 x5 ((ah) % 256)]),x1000,ah,aA,av,Wo [(1,0),(4,0)],H⟩
  refine Cf (df NN)<|Sw ?_
  obtain ⟨ajq,H⟩:=ax H
  refine Rh hN [.kb true,.row (some 5) 1 (List.map (K .u8) (x4++[Go.bits .or .u8 x5 31]))] (.c2 (dY (K .u8) x4 [Go.bits .or .u8 x5 31] (.refl _)) (eZ (K .u8) ajq))<|Sw<|Sw<|Rg hN<|Bl<|Good.dN (fun k' st=>∃ (x4:List Int) (x6:Int) (x1000:Int) (ah:Int) (aA:Bool) (av:Int),k'≤k∧Wk C st ⟨[(1,.d (.ptr 0 0)),(4,.w (.row (some 5) 1 (List.map (K .u8) x4))),(6,.w (I x6))],[.cells [.v (I x1000),.v (I ah),.v (B aA),.v (I av)]]⟩∧eY.l0 k' x4 x6 ah av=some r) k ⟨(x4++[Go.bits .or .u8 x5 31]),14,x1000,ah,aA,av,Nat.le_refl _,Wo [(1,0),(4,0),(6,0)],H⟩ fun k=>⟨fun st h=>(by obtain ⟨_,_,_,_,_,_,_,_,H⟩:=h;cases H),?_⟩
  clear H
  rintro st ⟨x4,x6,x1000,ah,aA,av,hk,W,H⟩
  refine W.good ?_
  rw [eY.l0] at H
  refine Sw<|Sw<|Rg hN ?_
  rcases (aj H).symm with ⟨NP,H⟩ | ⟨NP,H⟩
  ·refine Cf (df NP)<|Ex ?_
   obtain ⟨Es,H⟩:=ax H
   obtain ⟨Et,H⟩:=ax H
   exact Rh hN [I (x4.length:Int),(K .u8) (rd x4 (wrap64 ((x4.length:Int) - 1))),(K .u8) (rd x4 (wrap64 ((x4.length:Int) - 1))),(K .u8) (Go.bits .and .u8 (rd x4 (wrap64 ((x4.length:Int) - 1))) 127),.row (some 5) 1 (List.map (K .u8) (x4.set ((wrap64 ((x4.length:Int) - 1)):Int).toNat (Go.bits .and .u8 (rd x4 (wrap64 ((x4.length:Int) - 1))) 127)))] (.cons (aT (K .u8) x4) (.c8 Es (gz (K .u8) Et) (aF (K .u8) (0:Int) Es Et) Es (gz (K .u8) Et) (aF (K .u8) (0:Int) Es Et) (Fit.refl ((K .u8) (Go.bits .and .u8 (rd x4 (wrap64 ((x4.length:Int) - 1))) 127))) (wX (K .u8) (l:=x4) (n:=((wrap64 ((x4.length:Int) - 1)):Int).toNat) (x:=Go.bits .and .u8 (rd x4 (wrap64 ((x4.length:Int) - 1))) 127))))<|⟨k,by omega,(x4.set ((wrap64 ((x4.length:Int) - 1)):Int).toNat (Go.bits .and .u8 (rd x4 (wrap64 ((x4.length:Int) - 1))) 127)),x1000,ah,aA,av,Wo [(1,0),(4,0)],H⟩
  refine Ct (dt NP)<|Sk<|Sw<|Bl<|Sw ?_
  obtain ⟨ajr,H⟩:=ax H
  refine Rh hN [] (.c1 ajr)<|Sw<|Sw<|Rg hN ?_
  rcases aj H with ⟨NQ,H⟩ | ⟨NQ,H⟩
  ·exact Ct (bq NQ)<|Ex<|Rg hN<|⟨k,by omega,x4,wrap64 (x6 - 7),x1000,ah,aA,av,by omega,Wo [(1,0),(4,0),(6,0)],H⟩
  refine Cf (bn NQ)<|Sk ?_
  obtain ⟨ajs,H⟩:=ax H
  exact Rh hN [.kb true,.row (some 5) 1 (List.map (K .u8) (x4++[(Go.bits .or .i64 (Go.bits .and .i64 (shr .i64 ah x6) 127) 128) % 256]))] (.c2 (dY (K .u8) x4 [(Go.bits .or .i64 (Go.bits .and .i64 (shr .i64 ah x6) 127) 128) % 256] (.refl _)) (eZ (K .u8) ajs))<|Rg hN<|⟨k,by omega,(x4++[(Go.bits .or .i64 (Go.bits .and .i64 (shr .i64 ah x6) 127) 128) % 256]),wrap64 (x6 - 7),x1000,ah,aA,av,by omega,Wo [(1,0),(4,0),(6,0)],H⟩
 clear H
 rintro st ⟨n',hn',x4,x1000,ah,aA,av,W,H⟩
 rcases n' with _ | k
 ·cases H
 refine W.good ?_
 rw [eY.j2] at H
 refine Sw<|Bl<|Sw<|Rg hN ?_
 rcases aj H with ⟨NR,H⟩ | ⟨NR,H⟩
 ·refine Ct (dt NR) ?_
  obtain ⟨ajt,H⟩:=ax H
  refine Rh hN [.kb true,.row (some 5) 1 (List.map (K .u8) (x4++[(av) % 256]))] (.c2 (dY (K .u8) x4 [(av) % 256] (.refl _)) (eZ (K .u8) ajt))<|Sw<|Rh hN [S (strOfNums (x4++[(av) % 256]))] (.c1 (lg (x4++[(av) % 256]))) ?_
  cases H
  exact Rt dR
 refine Cf (df NR)<|Sw<|Rg hN ?_
 rcases aj H with ⟨NS,H⟩ | ⟨NS,H⟩
 ·refine Ct (dt NS) ?_
  obtain ⟨aju,H⟩:=ax H
  refine Rh hN [.kb true,.row (some 5) 1 (List.map (K .u8) (x4++[129,(av) % 256]))] (.c2 (dY (K .u8) x4 [129,(av) % 256] (.refl _)) (XP (K .u8) aju))<|Sw<|Rh hN [S (strOfNums (x4++[129,(av) % 256]))] (.c1 (lg (x4++[129,(av) % 256]))) ?_
  cases H
  exact Rt dR
 refine Cf (df NS) ?_
 obtain ⟨ajv,H⟩:=ax H
 refine Rh hN [.kb true,.row (some 5) 1 (List.map (K .u8) (x4++[130,(av / 256) % 256,(av) % 256]))] (.c3 (show (0:Int)≤8 by decide) (dY (K .u8) x4 [130,(av / 256) % 256,(av) % 256] (.refl _)) (XP (K .u8) ajv))<|Sw<|Rh hN [S (strOfNums (x4++[130,(av / 256) % 256,(av) % 256]))] (.c1 (lg (x4++[130,(av / 256) % 256,(av) % 256]))) ?_
 cases H
 exact Rt dR
def tZ.f (k:Nat) (aJ:Int) (bN:Int) (dB:Bool) (cB:Int):Option (Int):=(eY.f k aJ bN dB cB).bind fun Eu=>(some (Eu.1.size:Int))
theorem tZ.au {k:Nat} {aJ:Int} {bN:Int} {dB:Bool} {cB:Int} {r:(Int)} (H:tZ.f k aJ bN dB cB=some r):aQ Tryz.prog 70 [.agg [I aJ,I bN,B dB,I cB]] (I r):=by
 refine Cg Tryz.func70 rfl fun C hN hL=>?_
 unfold tZ.f at H
 refine Sw<|Rg hN<|Sw ?_
 obtain ⟨Eu,ajw,H⟩:=aC H
 refine Rh hN [.aD [S Eu.1,I Eu.2]] (.c1 (eY.au ajw).c)<|Sw<|Rg hN ?_
 cases H
 exact Rt dR
mutual
def gP.l0:Nat→List af→List (Nat × Nat)→Int→Option (List (Nat × Nat) × Bool)
 | 0,_,_,_=>none
 | k+1,x0,x4,x5=>if x5≥0 then (if 0≤x5 then (if x5 < (x0.length:Int) then (gP.l1 k x0 x4 x5 (((aa x0 x5).f3).size:Int) ((aa x0 x5).f4) (((aa x0 x5).f4).length:Int) 0) else (none)) else (none)) else (some (x4,true))
def gP.l1:Nat→List af→List (Nat × Nat)→Int→Int→List Int→Int→Int→Option (List (Nat × Nat) × Bool)
 | 0,_,_,_,_,_,_,_=>none
 | k+1,x0,x4,x5,x6,x30,x31,x32=>if x32 < x31 then (if 0≤x32 then (if x32 < (x30.length:Int) then (if 0≤(rd x30 x32) then (if (rd x30 x32) < (x4.length:Int) then (if sQ ((iH ((0,0):Nat × Nat) x4 (rd x30 x32)).1) ((iH ((0,0):Nat × Nat) x4 (rd x30 x32)).2)=true then (if uR (nW ((iH ((0,0):Nat × Nat) x4 (rd x30 x32)).1) ((iH ((0,0):Nat × Nat) x4 (rd x30 x32)).2))=true then (gP.l1 k x0 x4 x5 (wrap64 (x6+(fint (nW ((iH ((0,0):Nat × Nat) x4 (rd x30 x32)).1) ((iH ((0,0):Nat × Nat) x4 (rd x30 x32)).2))))) x30 x31 (wrap64 (x32+1))) else (none)) else (none)) else (none)) else (none)) else (none)) else (none)) else (if 0≤x5 then (if x5 < (x0.length:Int) then ((tZ.f k ((aa x0 x5).f0) ((aa x0 x5).f1) ((aa x0 x5).f2) x6).bind fun pY=>(if pY=0 then (some (([]:List (Nat × Nat)),false)) else (if (wrap64 (pY+x6)) > 65535 then (some (([]:List (Nat × Nat)),false)) else (if x5 < (x4.length:Int) then (gP.l0 k x0 (x4.set (x5:Int).toNat (floatOfInt .f64 pY,floatOfInt .f64 x6)) (wrap64 (x5 - 1))) else (none))))) else (none)) else (none))
end
def gP.f (k:Nat) (l0:List af):Option (List (Nat × Nat) × Bool):=if 0≤(l0.length:Int) then (if ((l0.length:Int):Int).toNat≤17592186044416 then (gP.l0 k l0 (List.replicate ((l0.length:Int):Int).toNat ((0,0):Nat × Nat)) (wrap64 ((l0.length:Int) - 1))) else (none)) else (none)
theorem gP.au {k:Nat} {l0:List af} {r:(List (Nat × Nat) × Bool)} (H:gP.f k l0=some r):aQ Tryz.prog 35 [.row none 5 (List.map (v55 0) l0)] (.aD [.row (some 67) 1 (List.map Cx r.1),B r.2]):=by
 refine Cg Tryz.func35 rfl fun C hN hL=>?_
 unfold gP.f at H
 refine Sw<|Rg hN<|Sw ?_
 obtain ⟨ajx,H⟩:=ax H
 obtain ⟨ajy,H⟩:=ax H
 refine Rh hN [I (l0.length:Int),.row (some 67) 1 (List.map Cx (List.replicate ((l0.length:Int):Int).toNat ((0,0):Nat × Nat)))] (.c5 (aT (v55 0) l0) ajx (Int.le_refl (l0.length:Int)) (Kg ajy) (Dc Cx (((l0.length:Int):Int).toNat) ((0,0):Nat × Nat)))<|Sw<|Sw<|Rh hN [I (l0.length:Int)] (.c1 (aT (v55 0) l0))<|Bl<|Good.dN (fun k' st=>∃ (x0:List af) (x4:List (Nat × Nat)) (x5:Int),k'≤k∧Wk C st ⟨[(0,.w (.row none 5 (List.map (v55 0) x0))),(4,.w (.row (some 67) 1 (List.map Cx x4))),(5,.w (I x5))],[]⟩∧gP.l0 k' x0 x4 x5=some r) k ⟨l0,List.replicate ((l0.length:Int):Int).toNat ((0,0):Nat × Nat),wrap64 ((l0.length:Int) - 1),Nat.le_refl _,Wo [(0,0),(4,0),(5,0)],H⟩ fun k=>⟨fun st h=>(by obtain ⟨_,_,_,_,_,H⟩:=h;cases H),?_⟩
 clear H
 rintro st ⟨x0,x4,x5,hk,W,H⟩
 refine W.good ?_
 rw [gP.l0] at H
 refine Sw<|Sw<|Rg hN ?_
 rcases (aj H).symm with ⟨NT,H⟩ | ⟨NT,H⟩
 ·refine Cf (df NT)<|Ex<|Sw<|Rg hN ?_
  cases H
  exact Rt dR
 refine Ct (dt NT)<|Sk<|Sw<|Bl<|Sw ?_
 obtain ⟨Ew,H⟩:=ax H
 obtain ⟨YV,H⟩:=ax H
 refine Rh hN [(v55 0) (aa x0 x5)] (.c2 Ew (aF (v55 0) z55 Ew YV))<|Sw<|Sw<|Rh hN [(v55 0) (aa x0 x5),I (((aa x0 x5).f4).length:Int)] (.c3 Ew (aF (v55 0) z55 Ew YV) (aT I ((aa x0 x5).f4)))<|Bl<|Good.dN (fun k' st=>∃ (x0:List af) (x4:List (Nat × Nat)) (x5:Int) (x6:Int) (x30:List Int) (x31:Int) (x32:Int),k'≤k∧Wk C st ⟨[(0,.w (.row none 5 (List.map (v55 0) x0))),(4,.w (.row (some 67) 1 (List.map Cx x4))),(5,.w (I x5)),(6,.w (I x6)),(30,.w (.row none 1 (List.map I x30))),(31,.w (I x31)),(32,.w (I x32))],[]⟩∧gP.l1 k' x0 x4 x5 x6 x30 x31 x32=some r) k ⟨x0,x4,x5,(((aa x0 x5).f3).size:Int),(aa x0 x5).f4,(((aa x0 x5).f4).length:Int),0,Nat.le_refl _,Wo [(0,0),(4,0),(5,0),(6,0),(30,0),(31,0),(32,0)],H⟩ fun k=>⟨fun st h=>(by obtain ⟨_,_,_,_,_,_,_,_,_,H⟩:=h;cases H),?_⟩
 clear H
 rintro st ⟨x0,x4,x5,x6,x30,x31,x32,hk,W,H⟩
 refine W.good ?_
 rw [gP.l1] at H
 refine Sw<|Rg hN<|Sw ?_
 rcases aj H with ⟨NU,H⟩ | ⟨NU,H⟩
 ·refine Ct (dt NU)<|Sk<|Sw<|Bl<|Sw ?_
  obtain ⟨YW,H⟩:=ax H
  obtain ⟨ajz,H⟩:=ax H
  refine Rh hN [I (rd x30 x32)] (.c2 YW (aF I (0:Int) YW ajz)) ?_
  obtain ⟨su,H⟩:=ax H
  obtain ⟨xc,H⟩:=ax H
  obtain ⟨YX,H⟩:=ax H
  obtain ⟨YY,H⟩:=ax H
  exact Rd hm hN (.qs 14 0 (.q 14 [] .z)) [(4,some (.row none 1 (List.map Cx x4))),(6,none),(8,none)] (.c1 (aS (some 67) 1 Cx Cx x4 (fun _=>rfl))) [Cx (iH ((0,0):Nat × Nat) x4 (rd x30 x32)),Cx (iH ((0,0):Nat × Nat) x4 (rd x30 x32))] [Cx (iH ((0,0):Nat × Nat) x4 (rd x30 x32)),Cx (iH ((0,0):Nat × Nat) x4 (rd x30 x32))] (.c8 su (gz Cx xc) (aF Cx ((0,0):Nat × Nat) su xc) su (gz Cx xc) (aF Cx ((0,0):Nat × Nat) su xc) YX YY) (.c6 su (aF Cx ((0,0):Nat × Nat) su xc) su (aF Cx ((0,0):Nat × Nat) su xc) YX YY) [] []<|Rg hN<|⟨k,by omega,x0,x4,x5,wrap64 (x6+(fint (nW ((iH ((0,0):Nat × Nat) x4 (rd x30 x32)).1) ((iH ((0,0):Nat × Nat) x4 (rd x30 x32)).2)))),x30,x31,wrap64 (x32+1),by omega,Wo [(0,0),(4,0),(5,0),(6,0),(30,0),(31,0),(32,0)],H⟩
 refine Cf (df NU)<|Ex<|Sw ?_
 obtain ⟨mE,H⟩:=ax H
 obtain ⟨xe,H⟩:=ax H
 obtain ⟨pY,ajA,H⟩:=aC H
 refine Rd hm hN (.qs 17 0 (.e 17 (.q 18 [] .z))) [(0,none),(5,none),(6,none)] .nil [(v55 0) (aa x0 x5),(v55 0) (aa x0 x5),(v55 0) (aa x0 x5),I pY] [(v55 0) (aa x0 x5),(v55 0) (aa x0 x5),(v55 0) (aa x0 x5)] (.c7 mE (aF (v55 0) z55 mE xe) mE (aF (v55 0) z55 mE xe) mE (aF (v55 0) z55 mE xe) (tZ.au ajA).c) (.c6 mE (aF (v55 0) z55 mE xe) mE (aF (v55 0) z55 mE xe) mE (aF (v55 0) z55 mE xe)) [] []<|Sw<|Sw ?_
 rcases aj H with ⟨NV,H⟩ | ⟨NV,H⟩
 ·refine Rh hN [B true] (.c1 (bq NV))<|Good.cond true (by kernel_rfl)<|Sw<|Rg hN ?_
  cases H
  exact Good.ret (jY (u:=.aD [.nil 67 1,B false]) (.aD (.c2 (.iA 67 1) (.refl _))) (by kernel_rfl))
 refine Rh hN [B false] (.c1 (bn NV)) ?_
 rcases aj H with ⟨NW,H⟩ | ⟨NW,H⟩
 ·refine Ct (dt NW)<|Sw<|Rg hN ?_
  cases H
  exact Good.ret (jY (u:=.aD [.nil 67 1,B false]) (.aD (.c2 (.iA 67 1) (.refl _))) (by kernel_rfl))
 refine Cf (df NW)<|Sk ?_
 obtain ⟨YZ,H⟩:=ax H
 exact Rh hN [Cx (iH ((0,0):Nat × Nat) x4 x5),Cx (floatOfInt .f64 pY,floatOfInt .f64 x6),.row (some 67) 1 (List.map Cx (x4.set (x5:Int).toNat (floatOfInt .f64 pY,floatOfInt .f64 x6)))] (.c5 mE (gz Cx YZ) (aF Cx ((0,0):Nat × Nat) mE YZ) (Fit.refl (Cx (floatOfInt .f64 pY,floatOfInt .f64 x6))) (wX Cx (l:=x4) (n:=(x5:Int).toNat) (x:=(floatOfInt .f64 pY,floatOfInt .f64 x6))))<|Rg hN<|⟨k,by omega,x0,(x4.set (x5:Int).toNat (floatOfInt .f64 pY,floatOfInt .f64 x6)),wrap64 (x5 - 1),by omega,Wo [(0,0),(4,0),(5,0)],H⟩
def jb.l0:Nat→List (Nat × Nat)→List Int→List af→Int→Int→Option (ByteArray × Int)
 | 0,_,_,_,_,_=>none
 | k+1,x4,x6,cZ,tC,dD=>if dD < tC then (if 0≤dD then (if dD < (cZ.length:Int) then (if dD < (x4.length:Int) then (if uR ((iH ((0,0):Nat × Nat) x4 dD).2)=true then ((eY.f k ((aa cZ dD).f0) ((aa cZ dD).f1) ((aa cZ dD).f2) (fint ((iH ((0,0):Nat × Nat) x4 dD).2))).bind fun l5=>(if x6.length+l5.1.size < 140737488355328 then ((some (x6++bytesOf l5.1:List Int)).bind fun Y0=>(if Y0.length+((aa cZ dD).f3).size < 140737488355328 then (jb.l0 k x4 (Y0++bytesOf ((aa cZ dD).f3)) cZ tC (wrap64 (dD+1))) else (none))) else (none))) else (none)) else (none)) else (none)) else (none)) else (some (strOfNums x6,0))
def jb.f (k:Nat) (l0:List af):Option (ByteArray × Int):=(mf.f k l0).bind fun NY=>(if NY=true then ((gP.f k l0).bind fun xg=>(if xg.2=true then (jb.l0 k xg.1 ([]:List Int) l0 (l0.length:Int) 0) else (some ((⟨#[]⟩:ByteArray),4)))) else (some ((⟨#[]⟩:ByteArray),1)))
theorem jb.au {k:Nat} {l0:List af} {r:(ByteArray × Int)} (H:jb.f k l0=some r):aQ Tryz.prog 13 [.row none 5 (List.map (v55 0) l0)] (.aD [S r.1,I r.2]):=by
 refine Cg Tryz.func13 rfl fun C hN hL=>?_
 unfold jb.f at H
 refine Sw<|Rg hN<|Sw<|Sw ?_
 obtain ⟨NY,ajB,H⟩:=aC H
 refine Rh hN [B NY] (.c1 (mf.au ajB).c) ?_
 rcases (aj H).symm with ⟨NZ,H⟩ | ⟨NZ,H⟩
 ·refine Ct (eB (bf NZ))<|Sw<|Rg hN ?_
  cases H
  exact Rt dR
 refine Cf (fw NZ)<|Sk<|Sw ?_
 obtain ⟨xg,ajC,H⟩:=aC H
 refine Rh hN [.aD [.row (some 67) 1 (List.map Cx xg.1),B xg.2]] (.c1 (gP.au ajC).c)<|Sw<|Sw<|Rg hN ?_
 rcases (aj H).symm with ⟨N7,H⟩ | ⟨N7,H⟩
 ·refine Ct (eB (bf N7))<|Sw<|Rg hN ?_
  cases H
  exact Rt dR
 refine Cf (fw N7)<|Sk<|Sw<|Rg hN<|Sw<|Sw<|Rh hN [I (l0.length:Int)] (.c1 (aT (v55 0) l0))<|Bl<|Good.dN (fun k' st=>∃ (x4:List (Nat × Nat)) (x6:List Int) (cZ:List af) (tC:Int) (dD:Int),k'≤k∧Wk C st ⟨[(4,.w (.row (some 67) 1 (List.map Cx x4))),(6,.w (.row (some 5) 1 (List.map (K .u8) x6))),(21,.w (.row none 5 (List.map (v55 0) cZ))),(22,.w (I tC)),(23,.w (I dD))],[]⟩∧jb.l0 k' x4 x6 cZ tC dD=some r) k ⟨xg.1,([]:List Int),l0,(l0.length:Int),0,Nat.le_refl _,Wo [(4,0),(6,1),(21,0),(22,0),(23,0)],H⟩ fun k=>⟨fun st h=>(by obtain ⟨_,_,_,_,_,_,_,H⟩:=h;cases H),?_⟩
 clear H
 rintro st ⟨x4,x6,cZ,tC,dD,hk,W,H⟩
 refine W.good ?_
 rw [jb.l0] at H
 refine Sw<|Rg hN<|Sw ?_
 rcases (aj H).symm with ⟨N8,H⟩ | ⟨N8,H⟩
 ·refine Cf (df N8)<|Ex<|Sw<|Rh hN [S (strOfNums x6)] (.c1 (lg x6)) ?_
  cases H
  exact Rt dR
 refine Ct (dt N8)<|Sk<|Sw<|Bl<|Sw ?_
 obtain ⟨xh,H⟩:=ax H
 obtain ⟨ajD,H⟩:=ax H
 refine Rh hN [(v55 0) (aa cZ dD)] (.c2 xh (aF (v55 0) z55 xh ajD))<|Sw ?_
 obtain ⟨Oa,H⟩:=ax H
 obtain ⟨Y1,H⟩:=ax H
 obtain ⟨l5,ajE,H⟩:=aC H
 refine Rd hm hN (.qs 13 0 (.e 13 (.qs 4 14 (.q 18 [] .z)))) [(4,some (.row none 1 (List.map Cx x4))),(7,none),(8,some (.pt [I ((aa cZ dD).f0),I ((aa cZ dD).f1),B ((aa cZ dD).f2),S ((aa cZ dD).f3),.row none 1 (List.map I ((aa cZ dD).f4))]))] (.c2 (aS (some 67) 1 Cx Cx x4 (fun _=>rfl)) (bJ (ay (rfl:(V.shr (I ((aa cZ dD).f0)))=I ((aa cZ dD).f0)) (ay (rfl:(V.shr (I ((aa cZ dD).f1)))=I ((aa cZ dD).f1)) (ay (rfl:(V.shr (B ((aa cZ dD).f2)))=B ((aa cZ dD).f2)) (ay (rfl:(V.shr (S ((aa cZ dD).f3)))=S ((aa cZ dD).f3)) (ay (aS none 1 I I ((aa cZ dD).f4) (fun _=>rfl)) (rfl:aX []=[])))))))) [Cx (iH ((0,0):Nat × Nat) x4 dD),.aD [S l5.1,I l5.2]] [Cx (iH ((0,0):Nat × Nat) x4 dD)] (.c5 xh (gz Cx Oa) (aF Cx ((0,0):Nat × Nat) xh Oa) Y1 (eY.au ajE).c) (.c3 xh (aF Cx ((0,0):Nat × Nat) xh Oa) Y1) [] [] ?_
 obtain ⟨Y2,H⟩:=ax H
 replace H:=oK H
 obtain ⟨Y3,H⟩:=ax H
 exact Rb 2 hm hN hL (.q 0 [[],[2]] (.q 1 [[],[2]] (.i 3 (.b 2 [.kb false,.row (some 5) 1 (List.map (K .u8) (x6++bytesOf l5.1)),.kb false,.row (some 5) 1 (List.map (K .u8) ((x6++bytesOf l5.1)++bytesOf ((aa cZ dD).f3)))] [] (.e 4 (.e 5 (.e 6 .z))) [.kb false,.row (some 5) 1 (List.map (K .u8) (x6++bytesOf l5.1)),.kb false,.row (some 5) 1 (List.map (K .u8) ((x6++bytesOf l5.1)++bytesOf ((aa cZ dD).f3)))] [] (.e 4 (.e 2 (.e 5 (.e 6 .z)))))))) [(6,some (.row none 1 (List.map (K .u8) x6))),(8,some (.pt [I ((aa cZ dD).f0),I ((aa cZ dD).f1),B ((aa cZ dD).f2),S ((aa cZ dD).f3),.row none 1 (List.map I ((aa cZ dD).f4))])),(9,none)] (.c2 (aS (some 5) 1 (K .u8) (K .u8) x6 (fun _=>rfl)) (bJ (ay (rfl:(V.shr (I ((aa cZ dD).f0)))=I ((aa cZ dD).f0)) (ay (rfl:(V.shr (I ((aa cZ dD).f1)))=I ((aa cZ dD).f1)) (ay (rfl:(V.shr (B ((aa cZ dD).f2)))=B ((aa cZ dD).f2)) (ay (rfl:(V.shr (S ((aa cZ dD).f3)))=S ((aa cZ dD).f3)) (ay (aS none 1 I I ((aa cZ dD).f4) (fun _=>rfl)) (rfl:aX []=[])))))))) [] [] (.cons (.c4 (D9 x6 l5.1) (Ea (K .u8) Y2) (D9 (x6++bytesOf l5.1) ((aa cZ dD).f3)) (Ea (K .u8) Y3)) .nil (.cons (.c4 (D9 x6 l5.1) (Ea (K .u8) Y2) (D9 (x6++bytesOf l5.1) ((aa cZ dD).f3)) (Ea (K .u8) Y3)) .nil .nil)) [] [] [[],[]] [(4,0),(6,0),(21,0),(22,0),(23,0)] [(4,.w (.row (some 67) 1 (List.map Cx x4))),(6,.w (.row (some 5) 1 (List.map (K .u8) ((x6++bytesOf l5.1)++bytesOf ((aa cZ dD).f3))))),(21,.w (.row none 5 (List.map (v55 0) cZ))),(22,.w (I tC)),(23,.w (I dD))] [.cells [.v (I ((aa cZ dD).f0)),.v (I ((aa cZ dD).f1)),.v (B ((aa cZ dD).f2)),.v (S ((aa cZ dD).f3)),.v (.row none 1 (List.map I ((aa cZ dD).f4)))]]<|Rg hN<|⟨k,by omega,x4,((x6++bytesOf l5.1)++bytesOf ((aa cZ dD).f3)),cZ,tC,wrap64 (dD+1),by omega,Wk.oV hL 0 [(4,0),(6,0),(21,0),(22,0),(23,0)] (by kernel_rfl) (by kernel_rfl) (by kernel_rfl),H⟩
def kM:Nat→Int→Int→Option (List Int)
 | 0,_,_=>none
 | k+1,n,m=>if n / 128=0 then some [Go.bits .or .u8 ((Go.bits .and .i64 n 127) % 256) m] else (kM k (n / 128) 128).bind fun r=>some (Go.bits .or .u8 ((Go.bits .and .i64 n 127) % 256) m :: r)
def oO (k:Nat):List Int→Option (List Int)
 | []=>some []
 | x :: xs=>(kM k x 0).bind fun d=>if d.length≤10 then (oO k xs).bind fun r=>some (d++r) else none
def Jn (l0:List Int):List Int:=[wrap64 ((wrap64 (40*(rd l0 0)))+(rd l0 1))]++l0.drop 2
def lJ.f (k:Nat) (l0:List Int):Option (ByteArray × Bool):=(fP.f k l0).bind fun t108=>if t108=true then (if 2≤l0.length∧l0.length≤1000 then (oO k (Jn l0).reverse).bind fun bs=>some (strOfNums bs.reverse,true) else none) else some ((⟨#[]⟩:ByteArray),false)
section
open Go.Shelf
attribute [local go_sem] Oper.semAt_some
set_option linter.unusedSimpArgs false
theorem Y4 {x:Int} (h0 : -9223372036854775808≤x) (h1:x≤9223372036854775807):wrap64 x=x:=by unfold wrap64;omega
def vD (n₀ Bs:Nat) (sv:Value) (W W':World):Prop:=Below n₀ W W'∧(Boxed W Bs 41 sv→Boxed W' Bs 41 sv)
def nL {α:Type} (f:Nat→α) (k:Nat):List α:=(List.range k).map f
theorem Ul {α:Type} (f:Nat→α) (k:Nat):nL f (k+1)=nL f k++[f k]:=by simp [nL,List.range_succ]
theorem aaM {α:Type} (f:Nat→α) (k:Nat):(nL f k).length=k:=by simp [nL]
set_option maxRecDepth 100000 in
set_option maxHeartbeats 2000000 in
theorem abn {α:Type} (encs:α→Array Value) (al:Nat→α) (F:Fence) (n:Nat) (h8:F.fn 111) (hro:F.round=none) (hn:1≤n) (l Bs n₀ b off len cap:Nat) (zs:List Int) (Xr:len*8≤140737488351232) (hb:b < n₀) (J Jx:List α→World→Prop)
 (henc:∀ j,j < len→encs (al j) = #[.int .i64 ((len:Int) - 1 - (j:Int)),.int .i64 (zs[len - 1 - j]?.getD 0)])
 (hY:∀ pre x W,J pre W→pre.length < len→YieldAt F (n - 1) Tryz.prog l (encs x) W fun e W' =>
  (e=.returned (.bool true)∧J (pre++[x]) W'∧vD n₀ Bs (.slice (some ⟨b,off,none⟩) len cap) W W')∨(e=.returned (.bool false)∧Jx (pre++[x]) W'))
 (W:World) (tF:Boxed W Bs 41 (.slice (some ⟨b,off,none⟩) len cap)) (hc:∀ j,j < len→W.cell? ⟨b,off+j,none⟩=some (.int .i64 (zs[j]?.getD 0))) (h0:J [] W) :
 CallsIn F n Tryz.prog 111 #[.func (.yield l) #[] #[],.pointer (some ⟨Bs,0,none⟩)] W fun e W'=>(∃ v,e=.returned v) ∧
  ((∃ ys,ys=nL al len∧J ys W')∨(∃ pre,(∃ k,k≤len∧pre=nL al k)∧Jx pre W')):=by
 refine callsIn_of_wp Tryz.func111 rfl h8 ?_ hro
 simp only [Tryz.ntmps111,List.size_toArray,List.length_cons,List.length_nil,Nat.reduceAdd,Nat.reduceSub,Array.replicate_succ,Array.replicate_zero,List.push_toArray,List.append_toArray,List.nil_append,List.cons_append]
 have hw0:wrap64 ((len:Int) - 1)=(len:Int) - 1:=Y4 (by omega) (by omega)
 have hB0:=tF.cell
 gi_wp2
 gi_loopw [3] (fun i wr=>∃ k:Nat,k≤len∧i=.int .i64 ((len:Int) - 1 - (k:Int))∧J (nL al k) wr∧Below n₀ W wr∧Boxed wr Bs 41 (.slice (some ⟨b,off,none⟩) len cap))
  (fun i _=>(RowKit.intOf i+1).toNat)
 case atStart=>exact ⟨0,Nat.zero_le _,by simp [hw0],h0,Below.refl _ _,tF⟩
 case round =>
  obtain ⟨k,hk,rfl,hJs,hnx,hbb⟩:=hrel
  have hbx:=hbb.cell
  by_cases hlt:k < len
  ·have anK:wr.cell? ⟨b,off+(len - 1 - k),none⟩=some (.int .i64 (zs[len - 1 - k]?.getD 0)):=(hnx.cell (p:=⟨b,off+(len - 1 - k),none⟩) hb).trans (hc _ (by omega))
   obtain ⟨fn,tmps,assign,body,hy,hR⟩:=hY _ (al k) wr hJs (by rw [aaM];exact hlt)
   rw [henc k hlt] at hy
   have hge:(0:Int)≤(len:Int) - 1 - (k:Int):=by omega
   have hl:(len:Int) - 1 - (k:Int) < (len:Int):=by omega
   have ht:((len:Int) - 1 - (k:Int)).toNat=len - 1 - k:=by omega
   have hw1:wrap64 ((len:Int) - 1 - (k:Int) - 1)=(len:Int) - 1 - ((k+1:Nat):Int):=by rw [Y4 (by omega) (by omega)];omega
   gi_wp2
   refine hR.mono ?_
   rintro e W3 (⟨rfl,hJ3,hk3⟩ | ⟨rfl,hJx3⟩)
   ·gi_wp2
    go_roundw
    case rel=>exact ⟨k+1,by omega,congrArg (Value.int .i64) (by omega),by rw [Ul];exact hJ3,hnx.trans hk3.1,hk3.2 hbb⟩
    case measure=>simp [RowKit.intOf];omega
   ·gi_wp2
    refine bodyPost_ret (results_none rfl _ _ _) rfl ?_
    exact ⟨⟨_,rfl⟩,.inr ⟨_,⟨k+1,by omega,(Ul _ _).symm⟩,hJx3⟩⟩
  ·obtain rfl:k=len:=by omega
   have hge:¬ (0:Int)≤(k:Int) - 1 - (k:Int):=by omega
   gi_wp2
   go_end0
   first | exact ⟨⟨_,rfl⟩,.inl ⟨_,rfl,hJs⟩⟩ | exact ⟨⟨_,rfl⟩,.inl hJs⟩
theorem agZ {n₀ Bs:Nat} {sv:Value} {A B C:World} (h:vD n₀ Bs sv A B) (k:vD n₀ Bs sv B C):vD n₀ Bs sv A C:=⟨h.1.trans k.1,fun x=>k.2 (h.2 x)⟩
theorem ag0 {n₀ Bs:Nat} {sv:Value} {w:World} (hn:n₀≤w.heap.size) (W:World) (l:Nat) (o o':Obj) (hl:w.heap.size≤l) (h:W.heap[l]? = some o) (h1:o.isCells=false) (h2:o.isWalk=false):vD n₀ Bs sv W (W.putObj l o') :=
 ⟨belowK_b hn W l o o' hl h h1 h2,fun x=>x.kept (grownBy_putObj' W l o') (fun e=>by
  cases e
  rw [show W.heap[Bs]? = _ from x] at h
  cases h
  cases h1)⟩
theorem aaN {α:Type} (encs:α→Array Value) (al:Nat→α) (F:Fence) (n:Nat) (h8:F.fn 111) (hro:F.round=none) (hn:1≤n) (Bs n₀ b off len cap:Nat) (zs:List Int) (Xr:len*8≤140737488351232) (hb:b < n₀)
 (henc:∀ j,j < len→encs (al j) = #[.int .i64 ((len:Int) - 1 - (j:Int)),.int .i64 (zs[len - 1 - j]?.getD 0)]) (w:World) (hn₀:n₀≤w.heap.size)
 (tF:Boxed w Bs 41 (.slice (some ⟨b,off,none⟩) len cap)) (hc:∀ j,j < len→w.cell? ⟨b,off+j,none⟩=some (.int .i64 (zs[j]?.getD 0))) :
 SeqStopsK F n Tryz.prog 111 #[.pointer (some ⟨Bs,0,none⟩)] encs (vD n₀ Bs (.slice (some ⟨b,off,none⟩) len cap)) (fun ys=>ys=nL al len) (fun _=>True) len w:=fun l J Jx W hW _ _ hY h0=>by
 refine (abn encs al F n h8 hro hn l Bs n₀ b off len cap zs Xr hb J Jx henc hY W ((hW.block Bs tF.lt).trans tF) (fun j hj=>((hW.mono hn₀).cell (p:=⟨b,off+j,none⟩) hb).trans (hc j hj)) h0).mono ?_
 rintro e W' ⟨he,⟨ys,rfl,hj⟩ | ⟨pre,_,hj⟩⟩
 ·exact ⟨he,.inl ⟨_,rfl,hj⟩⟩
 ·exact ⟨he,.inr ⟨_,trivial,hj⟩⟩
theorem aaO (a:Option Addr) (len cap:Nat) (w:World) :
 Calls Tryz.prog 72 #[.slice a len cap] w fun e w'=>e=.returned (.func (.func 111) #[] #[.pointer (some ⟨w.heap.size,0,none⟩)])∧w'=w.alloc (.cells #[.slice a len cap] 41):=by
 go_enter Tryz.func72,Tryz.ntmps72
 go_wp2
 go_ret
 exact ⟨rfl,rfl⟩
theorem VS {k:Nat}:∀ {xs bs:List Int},oO k xs=some bs→∀ x∈xs,∃ d,kM k x 0=some d∧d.length≤10
 | [],_,_,x,hx=>by cases hx
 | y :: ys,bs,h,x,hx=>by
  rw [oO] at h
  obtain ⟨d,h1,h⟩:=Option.bind_eq_some_iff.1 h
  by_cases h2:d.length≤10
  ·rw [if_pos h2] at h
   obtain ⟨r,h3,h⟩:=Option.bind_eq_some_iff.1 h
   rcases List.mem_cons.1 hx with rfl | hx
   ·exact ⟨d,h1,h2⟩
   ·exact VS h3 x hx
  ·rw [if_neg h2] at h;cases h
def ll (k:Nat) (xs:List Int):List Int:=xs.flatMap fun x=>(kM k x 0).getD []
abbrev sw (k:Nat):={ p:Int × Int // ∃ d,kM k p.2 0=some d∧d.length≤10 }
theorem ad9 {k:Nat} (pre:List (sw k)):(ll k (pre.map fun x=>x.1.2)).length≤10*pre.length:=by
 induction pre with
 | nil=>simp [ll]
 | cons x xs ih =>
  obtain ⟨⟨i,n⟩,d,hd,h10⟩:=x
  have e:ll k (List.map (fun x:sw k=>x.1.2) (⟨(i,n),d,hd,h10⟩ :: xs))=d++ll k (xs.map fun x=>x.1.2):=by
   simp [ll,hd]
  rw [e,List.length_append,List.length_cons]
  omega
theorem ac6 {k:Nat} (pre:List (sw k)) (x:sw k) {d:List Int} (hd:kM k x.1.2 0=some d):ll k ((pre++[x]).map fun x=>x.1.2)=ll k (pre.map fun x=>x.1.2)++d:=by
 simp [ll,hd]
theorem VT:∀ {k:Nat} {n m:Int} {d:List Int},kM k n m=some d→0≤n
 | 0,_,_,_,h=>by cases h
 | k+1,n,m,d,h=>by
  rw [kM] at h
  by_cases hs:n / 128=0
  ·omega
  ·rw [if_neg hs] at h
   obtain ⟨r,hr,_⟩:=Option.bind_eq_some_iff.1 h
   have:=VT hr
   omega
theorem WH {k:Nat}:∀ {xs bs:List Int},oO k xs=some bs→bs=ll k xs
 | [],_,h=>by cases h;rfl
 | y :: ys,bs,h=>by
  rw [oO] at h
  obtain ⟨d,h1,h⟩:=Option.bind_eq_some_iff.1 h
  by_cases h2:d.length≤10
  ·rw [if_pos h2] at h
   obtain ⟨r,h3,h⟩:=Option.bind_eq_some_iff.1 h
   cases h
   rw [WH h3]
   simp [ll,h1]
  ·rw [if_neg h2] at h;cases h
theorem afd:(Tryz.prog.info? 5).map (fun i=>(i.zero,i.size,i.bytes))=some (some (.int .u8 0),1,1):=by kernel_rfl
theorem afe {k:Nat}:∀ {xs bs:List Int},oO k xs=some bs→0 < xs.length→0 < bs.length
 | [],_,_,h=>by simp at h
 | y :: ys,bs,h,_=>by
  rw [oO] at h
  obtain ⟨d,h1,h⟩:=Option.bind_eq_some_iff.1 h
  by_cases h2:d.length≤10
  ·rw [if_pos h2] at h
   obtain ⟨r,h3,h⟩:=Option.bind_eq_some_iff.1 h
   cases h
   have:0 < d.length:=by
    cases k with
    | zero=>cases h1
    | succ k =>
     rw [kM] at h1
     split at h1
     ·cases h1;simp
     ·obtain ⟨r,_,h1⟩:=Option.bind_eq_some_iff.1 h1
      cases h1;simp
   rw [List.length_append]
   omega
  ·rw [if_neg h2] at h;cases h
theorem lJ.ajF {C:Ctx} {w w':World} {s:ByteArray} {b:Bool} (h:Calm C.W w) (k:Below w.heap.size w w'):Tw C (.aD [S s,B b]) (.returned (.tuple #[.string s,.bool b])) w' :=
 ⟨_,[],fun _=>False,rfl,⟨k.os.trans h.os,k.tape.trans h.tape,k.output.trans h.output,Nat.le_trans h.size k.size,fun b hb=>(k.block b (Nat.lt_of_lt_of_le hb h.size)).trans (h.same b hb)⟩,fun _ h=>h.elim,List.nodup_nil,fun _ h=>(by cases h),.aD (vs:=[.string s,.bool b]) (.cons (A:=[]) (.lit _) (.cons (A:=[]) (.lit _) .nil))⟩
def lJ.ren:Go.Shelf.Ren:=⟨fun | 35=>73 | n=>n,fun | 22=>64 | 23=>5 | 3=>3 | 4=>4 | 0=>0 | n=>n,fun | n=>n⟩
theorem lJ.lays:SlLaysE.n35 Tryz.prog lJ.ren:={
  mixed:=by kernel_rfl
  f35:=⟨Tryz.f73.name,by decide,Tryz.func73.trans (congrArg some (by kernel_rfl))⟩
  t0:=Tryz.underlying0
  a0:=Tryz.isAgg0
  z0:=Tryz.sizeOf0
  v0:=Tryz.zeroValue0
  t3:=Tryz.underlying3
  a3:=Tryz.isAgg3
  z3:=Tryz.sizeOf3
  v3:=Tryz.zeroValue3
  t4:=Tryz.underlying4
  a4:=Tryz.isAgg4
  z4:=Tryz.sizeOf4
  v4:=Tryz.zeroValue4
  t22:=Tryz.underlying64
  a22:=Tryz.isAgg64
  z22:=Tryz.sizeOf64
  v22:=Tryz.zeroValue64
  a23:=Tryz.isAgg5
  z23:=Tryz.sizeOf5 }
theorem lJ.aa0 (g1 xk:Nat) (bs:List Int) (w:World) (hc:∀ j,j < bs.length→w.cell? ⟨g1,j,none⟩=some (.int .u8 (bs[j]?.getD 0))∧w.frozen? ⟨g1,j,none⟩=false) (hl:bs.length≤9223372036854775807) :
 Calls Tryz.prog 73 #[.slice (some ⟨g1,0,none⟩) bs.length xk] w fun e w'=>e=.returned (.tuple #[])∧(∀ j,j < bs.length→w'.cell? ⟨g1,j,none⟩=some (.int .u8 (bs.reverse[j]?.getD 0)))∧w'.os=w.os∧w'.tape=w.tape∧w'.output=w.output∧w'.heap.size=w.heap.size∧∀ b,b≠g1→w'.heap[b]? = w.heap[b]?:=by
 have hH:Go.Sort.Holds (Value.int .u8) w g1 0 bs.toArray:=fun j hj=>by
  rw [List.size_toArray] at hj
  have:=hc j hj
  rw [Nat.zero_add]
  refine ⟨this.1.trans ?_,this.2⟩
  simp [List.getElem?_eq_getElem hj,getElem!_pos,hj]
 refine (AnyE.slices_Reverse lJ.lays (Value.int .u8) (fun x=>by simp [Value.oneCell']) g1 0 xk bs w hH hl).mono ?_
 rintro e w' ⟨rfl,n,rfl⟩
 have hH2:Go.Sort.Holds (Value.int .u8) (Go.Sort.ahead w n) g1 0 bs.toArray:=fun j hj=>hH j hj
 refine ⟨rfl,fun j hj=>?_,rfl,rfl,rfl,?_,fun b hb=>?_⟩
 ·have h1:=(Go.Sort.holds_putRow (Value.int .u8) (Go.Sort.ahead w n) g1 0 bs.toArray bs.reverse.toArray hH2 (by simp) j (by simpa using hj)).1
  rw [Nat.zero_add] at h1
  rw [h1]
  simp [List.getElem?_eq_getElem,getElem!_pos,hj]
 ·simp [Go.Sort.putRow,Go.Sort.mapBlock,Go.Sort.ahead]
 ·simp [Go.Sort.putRow,Go.Sort.mapBlock,Go.Sort.ahead,Array.getElem?_modify,Ne.symm hb]
set_option maxHeartbeats 8000000 in
set_option maxRecDepth 100000 in
theorem lJ.au {k:Nat} {l0:List Int} {r:ByteArray × Bool} (H:lJ.f k l0=some r):aQ Tryz.prog 37 [.row none 1 (List.map I l0)] (.aD [S r.1,B r.2]):=by
 refine acm Tryz.func37 rfl (by kernel_rfl) (by kernel_rfl) fun C hN hL hF=>?_
 unfold lJ.f at H
 refine oW.seq<|Rg hN<|oW.seq<|Sw ?_
 obtain ⟨t19,h20,H⟩:=aC H
 refine Rh hN [B t19] (.c1 (fP.au h20).c) ?_
 rcases (aj H).symm with ⟨c21,H⟩ | ⟨c21,H⟩
 ·refine Ct (eB (bf c21))<|Sw<|Rg hN ?_
  cases H
  exact Good.ret (oW.fin hF (fin.pV (by kernel_rfl)))
 refine Cf (fw c21)<|Sk<|oW.seq ?_
 obtain ⟨cL,H⟩:=ax H
 obtain ⟨bs,hbs,H⟩:=aC H
 have oo:0 < (l0.length:Int):=by omega
 have c23:1 < (l0.length:Int):=by omega
 have c24:2≤(l0.length:Int):=by omega
 have TS:([wrap64 ((wrap64 (40*(rd l0 0)))+(rd l0 1))]:List Int).length+(l0.drop 2).length < 17592186044416:=by rw [List.length_drop];simp only [List.length_cons,List.length_nil];omega
 refine Rb 2 hm hN hL (.q 0 [[8,7,3,2,1]] (.q 1 [[8,7,3,2]] (.q 2 [[8,7,3]] (.q 3 [[8,7]] (.q 4 [[8,7,6,5]] (.q 5 [[8,7,6]] (.q 6 [[8,7]] (.q 7 [[8]] (.q 9 [[10]] (.b 8 [.row none 1 (List.map I (l0.drop 2)),.kb false,.row (some 3) 1 (List.map I (([wrap64 ((wrap64 (40*(rd l0 0)))+(rd l0 1))]:List Int)++(l0.drop 2)))] [] (.e 10 (.e 11 (.e 12 .z))) [.row none 1 (List.map I (l0.drop 2)),.kb false,.row (some 3) 1 (List.map I (([wrap64 ((wrap64 (40*(rd l0 0)))+(rd l0 1))]:List Int)++(l0.drop 2)))] [] (.e 10 (.e 8 (.e 11 (.e 12 .z)))))))))))))) [(0,none)] .nil [I (rd l0 0),I (rd l0 1)] [I (rd l0 0),I (rd l0 1)] (.cons (.cons (show (0:Int)≤0 by decide) (.c8 (aF I (0:Int) (show (0:Int)≤0 by decide) oo) (show (0:Int)≤1 by decide) (aF I (0:Int) (show (0:Int)≤1 by decide) c23) (show (0:Int)≤2 by decide) (sV I c24) (yG I (l:=l0) (n:=2)) (dY I ([wrap64 ((wrap64 (40*(rd l0 0)))+(rd l0 1))]:List Int) (l0.drop 2) (.refl _)) (yR I I TS))) (.c4 (show (0:Int)≤0 by decide) (aF I (0:Int) (show (0:Int)≤0 by decide) oo) (show (0:Int)≤1 by decide) (aF I (0:Int) (show (0:Int)≤1 by decide) c23)) (.cons (.cons (show (0:Int)≤0 by decide) (.c8 (aF I (0:Int) (show (0:Int)≤0 by decide) oo) (show (0:Int)≤1 by decide) (aF I (0:Int) (show (0:Int)≤1 by decide) c23) (show (0:Int)≤2 by decide) (sV I c24) (yG I (l:=l0) (n:=2)) (dY I ([wrap64 ((wrap64 (40*(rd l0 0)))+(rd l0 1))]:List Int) (l0.drop 2) (.refl _)) (yR I I TS))) (.c4 (show (0:Int)≤0 by decide) (aF I (0:Int) (show (0:Int)≤0 by decide) oo) (show (0:Int)≤1 by decide) (aF I (0:Int) (show (0:Int)≤1 by decide) c23)) .nil)) [] [] [[],[]] [(4,0)] [(4,.w (.row (some 3) 1 (List.map I (([wrap64 ((wrap64 (40*(rd l0 0)))+(rd l0 1))]:List Int)++(l0.drop 2)))))] [] ?_
 obtain ⟨y115,hy⟩:∃ y:List Int,y=([wrap64 ((wrap64 (40*(rd l0 0)))+(rd l0 1))]:List Int)++(l0.drop 2):=⟨_,rfl⟩
 have hy0:y115.length=l0.length - 1:=by rw [hy,List.length_append,List.length_drop];simp only [List.length_cons,List.length_nil];omega
 have A3:dC (oO k y115.reverse=some bs):=⟨by rw [hy];exact hbs⟩
 rw [← hy]
 cases H
 clear H hbs hy oo c23 c24 TS h20 c21
 intro g0 a eG S
 have BC:=dC.mk hy0
 have HL:=dC.mk cL
 clear hy0 cL
 have e4:=aV.inv (S.env 4 (.w (.row (some 3) 1 (List.map I y115))) rfl).2.1
 have Km:=aP.ad2 (enc:=Value.int .i64) e4
 rcases Km.2 with ⟨_,h0⟩ | ⟨g,cap,ajG,hv4,hg0,hb0,hr0⟩
 ·have:=BC.out;have:=HL.out;omega
 have HG1:=dC.mk (show y115.length≤cap from hr0.1)
 have HG2:=dC.mk (show g < eG.heap.size from (Array.getElem?_eq_some_iff.1 hb0).1)
 have hcell0:dC (∀ j,j < y115.length→eG.cell? ⟨g,j,none⟩=some (.int .i64 (y115[j]?.getD 0))):=⟨fun j hj=>by
  have h1:=(hv4 ▸ Km).cells (g:=g) rfl j (.int .i64 (y115[j]?.getD 0)) (by simp [List.getElem?_eq_getElem hj])
  have ha:(⟨g,0,none⟩:Addr).add j=⟨g,j,none⟩:=by unfold Addr.add;split<;>simp_all
  rwa [ha] at h1⟩
 have HR:dC (Calm C.W eG):=⟨⟨S.os,S.tape,S.output,S.size,fun b hb=>S.frame b hb (hF b)⟩⟩
 have xK:a.tmps=((List.range 44).map fun i=>a.tmps.getD i undef).toArray:=ae3 (S.tmps.trans hN)
 have hdf:=S.defers
 obtain ⟨TU,dfs⟩:=a
 replace hdf:dfs=[]:=hdf
 subst hdf
 obtain ⟨f,hf⟩:∃ f:Nat→Value,f=fun i=>TU.getD i undef:=⟨_,rfl⟩
 have hf4:f 4=.slice (some ⟨g,0,none⟩) y115.length cap:=by rw [hf];exact hv4
 replace xK:TU=((List.range 44).map f).toArray:=by rw [hf];exact xK
 rw [xK]
 clear S e4 Km hb0 hr0 hg0 hN hL xK hf hv4 TU
 show Code.wp _ _ _ ⟨#[f 0,f 1,f 2,f 3,f 4,f 5,f 6,f 7,f 8,f 9,f 10,f 11,f 12,f 13,f 14,f 15,f 16,f 17,f 18,f 19,f 20,f 21,f 22,f 23,f 24,f 25,f 26,f 27,f 28,f 29,f 30,f 31,f 32,f 33,f 34,f 35,f 36,f 37,f 38,f 39,f 40,f 41,f 42,f 43],[]⟩ _
 dsimp only
 rw [hf4]
 go_upto_region 5 with fail
 iterate 6 (try (first | go_values | go_skip | go_guarded | go_step | go_upon))
 refine (aaO _ _ _ _).mono ?_
 rintro e w' ⟨rfl,rfl⟩
 dsimp only
 iterate 4 (try (first | go_values | go_skip | go_guarded | go_step | go_upon | go_back))
 rw [World.size_alloc]
 refine wp_block<|(wpIn_wide (n:=3)).1 ?_
 have bO:=Boxed.new eG 64 (.slice none 0 0)
 have bS:=Boxed.new (eG.alloc (.cells #[.slice none 0 0] 64)) 41 (.slice (some ⟨g,0,none⟩) y115.length cap)
 rw [World.size_alloc] at bS
 have hB0:Below eG.heap.size eG ((eG.alloc (.cells #[.slice none 0 0] 64)).alloc (.cells #[.slice (some ⟨g,0,none⟩) y115.length cap] 41)):=((Below.refl _ eG).alloc (Nat.le_refl _) _).alloc (by simp) _
 have hcell:∀ j,j < y115.length→((eG.alloc (.cells #[.slice none 0 0] 64)).alloc (.cells #[.slice (some ⟨g,0,none⟩) y115.length cap] 41)).cell? ⟨g,0+j,none⟩=some (.int .i64 (y115[j]?.getD 0)):=fun j hj=>by
  have h1:=hcell0.out j hj
  have h2:=(Below.cell ((((Below.refl eG.heap.size eG).alloc (Nat.le_refl _) (.cells #[.slice none 0 0] 64))).alloc (by simp) (.cells #[.slice (some ⟨g,0,none⟩) y115.length cap] 41)) (World.block_lt_of_cell? _ _ h1)).trans h1
  rw [Nat.zero_add]
  exact h2
 have hmem:∀ x∈y115.reverse,∃ d,kM k x 0=some d∧d.length≤10:=VS A3.out
 have hal:∀ j,∃ d,kM k (y115[y115.length - 1 - j]?.getD 0) 0=some d∧d.length≤10:=fun j=>by
  have hj:y115.length - 1 - j < y115.length:=by have:=BC.out;have:=HL.out;omega
  refine hmem _ ?_
  rw [List.getElem?_eq_getElem hj,Option.getD_some]
  exact List.mem_reverse.2 (List.getElem_mem hj)
 refine wpIn_rangeFunc_ownG (α:=sw k) (encs:=fun x=>#[.int .i64 x.1.1,.int .i64 x.1.2]) rfl (by omega) (gf:=111) (lb:=#[.pointer (some ⟨eG.heap.size+1,0,none⟩)]) rfl trivial (enters_of Tryz.func111 (by kernel_rfl) rfl)
  (aaN (fun x:sw k=>#[.int .i64 x.1.1,.int .i64 x.1.2]) (fun j=>⟨((y115.length:Int) - 1 - (j:Int),y115[y115.length - 1 - j]?.getD 0),hal j⟩) Fence.wide (3 - 1) trivial rfl (by omega) (eG.heap.size+1) eG.heap.size g 0 y115.length cap y115 (by have:=BC.out;have:=HL.out;omega) (by have:=HG2.out;omega) (fun j _=>rfl) _ (by simp;omega) bS hcell)
  agZ (ag0 (by simp;omega)) (Below.refl _ _) (fun _=>rfl)
  (fun pre W=>(∃ v,Boxed W eG.heap.size 64 v∧W.ownsRow eG.heap.size 5 1 v (ll k (pre.map fun x=>x.1.2)).length ((ll k (pre.map fun x=>x.1.2)).map (Value.int .u8))∧True)∧Below eG.heap.size eG W)
  (fun _ _ _=>False)
  (OwnFrom.and (Own.from (holdsRow_own eG.heap.size eG.heap.size 64 5 1 (fun pre:List (sw k)=>(ll k (pre.map fun x=>x.1.2)).length) (fun pre=>(ll k (pre.map fun x=>x.1.2)).map (Value.int .u8)) (fun _ _=>True)) _) (ownFrom_below (Nat.le_refl _) (by simp;omega)))
  (fun _ _ _ _ _ hs _ _=>hs)
  ⟨⟨_,bO.alloc _,World.ownsRow_nil _ _ _ _,trivial⟩,hB0⟩
   (fun x=>{ tmps:=#[f 0,f 1,f 2,f 3,.slice (some ⟨g,0,none⟩) y115.length cap,.pointer (some ⟨eG.heap.size,0,none⟩),f 6,.int .i64 x.1.2,f 8,f 9,f 10,f 11,f 12,f 13,f 14,f 15,f 16,f 17,f 18,f 19,f 20,f 21,f 22,f 23,.slice (some ⟨g,0,none⟩) y115.length cap,.func (.func 111) #[] #[.pointer (some ⟨eG.heap.size+1,0,none⟩)],.int .i64 x.1.1,.int .i64 x.1.2,f 28,f 29,f 30,f 31,f 32,f 33,f 34,f 35,f 36,f 37,f 38,f 39,f 40,f 41,f 42,f 43],defers:=[] }) ?assign ?body ?done ?stop
 case assign =>
  intro l x W K hK
  gi_wp2
  exact hK
 case stop =>
  rintro D c pre W _ _ h _
  exact h.elim
 case body =>
  rintro l pre ⟨⟨xi,xn⟩,d,hd,ajH⟩ W ⟨⟨v,hv,hrow,_⟩,hB⟩ hlt
  dsimp only
  gi_wp2
  gi_loopw [7,8] (fun vn vm wr=>∃ (kq:Nat) (n' m':Int) (cur rest:List Int),vn=.int .i64 n'∧vm=.int .u8 m'∧kM kq n' m'=some rest∧cur++rest=ll k (pre.map fun x=>x.1.2)++d ∧
   (∃ v,Boxed wr eG.heap.size 64 v∧wr.ownsRow eG.heap.size 5 1 v cur.length (cur.map (Value.int .u8)))∧vD eG.heap.size (eG.heap.size+1) (.slice (some ⟨g,0,none⟩) y115.length cap) W wr∧KeepsFrom eG.heap.size W wr)
   (fun vn _ _=>(RowKit.intOf vn).toNat)
  case atStart=>exact ⟨k,xn,0,_,d,rfl,rfl,hd,rfl,⟨v,hv,hrow⟩,⟨Below.refl _ _,fun h=>h⟩,KeepsFrom.refl _ _⟩
  case round =>
   obtain ⟨kq,n',m',cur,rest,rfl,rfl,hq,hcr,⟨v2,hv2,hrow2⟩,hbk,TV⟩:=hrel
   have hc:=hv2.cell
   have hcl:cur.length≤10010:=by
    have h1:=congrArg List.length hcr
    have h2:=ad9 pre
    have h3:=BC.out
    have h4:=HL.out
    simp only [List.length_append] at h1
    omega
   have hsz:eG.heap.size≤wr.heap.size:=Nat.le_trans hB.size hbk.1.size
   have vE:cur.length+1≤maxLen:=by unfold maxLen;omega
   obtain ⟨i0,hi,hz0,hz1,hz2⟩:=info_parts afd
   cases kq with
   | zero=>cases hq
   | succ kq =>
    rw [kM] at hq
    by_cases hs:n' / 128=0
    ·rw [if_pos hs] at hq
     have hs0:(n' / 128 == 0)=true:=by simp [hs]
     gi_wp2_with (gi_at_builtin;refine wpListIn_append_own _ rfl _ _ 64 rfl eG.heap.size 5 i0 (.int .u8 0) 1 1 Tryz.underlying64 hi hz0 hz1 hz2 rfl (by decide) _ _ _ rfl (hrow2.alloc _) ⟨wr.heap.size,0,none⟩ 1 1 [.int .u8 (Go.bits .or .u8 ((Go.bits .and .i64 n' 127) % 256) m')] rfl rfl (cell_one_new _ _ _) (by simp [Value.oneCell']) vE (by omega) (by simp;omega) ?_;intro v' w1 hown' hgrow _;obtain ⟨g',cap',rfl⟩:=ownsRow_succ hown';obtain ⟨hv3,hv4,hr4,hk4,hb4⟩:=hv2.appended (by decide) hrow2 hsz (Nat.le_refl _) hown' hgrow;have hc1:=hv3.cell;have hf1:=hv3.frozen;have hS1:=fun hS:Boxed wr (eG.heap.size+1) 41 (.slice (some ⟨g,0,none⟩) y115.length cap)=>((hS.alloc _).kept hgrow (hS.not_row (by decide) hrow2)).kept (grownBy_setCell' w1 eG.heap.size (.slice (some ⟨g',0,none⟩) (cur.length+1) cap')) (by simp))
     obtain rfl:=Option.some.inj hq
     have e:=ac6 pre ⟨(xi,xn),d,hd,ajH⟩ hd
     rw [← hcr] at e
     refine ⟨⟨Nat.le_trans TV.size (hk4.from eG.heap.size).size,fun k o hk=>(TV.trans (hk4.from _)).same k o (by simp at hk;omega)⟩,⟨hbk.1.trans hb4,fun h=>hS1 (hbk.2 h)⟩,⟨_,hv4,?_,trivial⟩,hB.trans (hbk.1.trans hb4)⟩
     rw [e]
     simpa using hr4
    ·rw [if_neg hs] at hq
     have hs0:(n' / 128 == 0)=false:=by simp [hs]
     obtain ⟨r,hr,hq⟩:=Option.bind_eq_some_iff.1 hq
     obtain rfl:=Option.some.inj hq
     have hpos:=VT hr
     gi_wp2_with (gi_at_builtin;refine wpListIn_append_own _ rfl _ _ 64 rfl eG.heap.size 5 i0 (.int .u8 0) 1 1 Tryz.underlying64 hi hz0 hz1 hz2 rfl (by decide) _ _ _ rfl (hrow2.alloc _) ⟨wr.heap.size,0,none⟩ 1 1 [.int .u8 (Go.bits .or .u8 ((Go.bits .and .i64 n' 127) % 256) m')] rfl rfl (cell_one_new _ _ _) (by simp [Value.oneCell']) vE (by omega) (by simp;omega) ?_;intro v' w1 hown' hgrow _;obtain ⟨g',cap',rfl⟩:=ownsRow_succ hown';obtain ⟨hv3,hv4,hr4,hk4,hb4⟩:=hv2.appended (by decide) hrow2 hsz (Nat.le_refl _) hown' hgrow;have hc1:=hv3.cell;have hf1:=hv3.frozen;have hS1:=fun hS:Boxed wr (eG.heap.size+1) 41 (.slice (some ⟨g,0,none⟩) y115.length cap)=>((hS.alloc _).kept hgrow (hS.not_row (by decide) hrow2)).kept (grownBy_setCell' w1 eG.heap.size (.slice (some ⟨g',0,none⟩) (cur.length+1) cap')) (by simp))
     refine ⟨⟨kq,n' / 128,128,cur++[Go.bits .or .u8 ((Go.bits .and .i64 n' 127) % 256) m'],r,rfl,rfl,hr,?_,⟨_,hv4,?_⟩,⟨hbk.1.trans hb4,fun h=>hS1 (hbk.2 h)⟩,TV.trans (hk4.from _)⟩,?_⟩
     ·rw [← hcr];simp
     ·simpa using hr4
     ·simp only [RowKit.intOf];omega
 case done =>
  rintro D ys W hD rfl ⟨⟨v,hv,hrow,_⟩,hB2⟩ hK
  have e:ll k ((nL (fun j=>(⟨((y115.length:Int) - 1 - (j:Int),y115[y115.length - 1 - j]?.getD 0),hal j⟩:sw k)) y115.length).map fun x=>x.1.2)=bs:=by
   have h1:=WH A3.out
   rw [h1]
   congr 1
   refine List.ext_getElem (by simp [nL]) (fun i h2 h3=>?_)
   rw [List.length_reverse] at h3
   simp only [nL,List.getElem_map,List.getElem_range,List.getElem_reverse]
   rw [List.getElem?_eq_getElem (by omega),Option.getD_some]
  rw [e] at hrow
  clear e
  have hbl:0 < bs.length:=afe A3.out (by rw [List.length_reverse];have:=BC.out;have:=HL.out;omega)
  rcases hrow.2 with ⟨_,h0⟩ | ⟨g1,xk,anL,rfl,hg1,hb1,hr1⟩
  ·omega
  have hnB:g1≠eG.heap.size:=fun e=>hv.not_row (by decide) hrow (by simp [Value.ownBlock,e])
  have hnD:g1≠D:=fun e=>by
   subst e
   rw [hb1] at hK
   cases hK
  have hcell1:∀ j,j < bs.length→W.cell? ⟨g1,j,none⟩=some (.int .u8 (bs[j]?.getD 0))∧W.frozen? ⟨g1,j,none⟩=false:=fun j hj=>by
   have h1:=hrow.cells (g:=g1) rfl j (.int .u8 (bs[j]?.getD 0)) (by simp [List.getElem?_eq_getElem hj])
   have ha:(⟨g1,0,none⟩:Addr).add j=⟨g1,j,none⟩:=by unfold Addr.add;split<;>simp_all
   rw [ha] at h1
   exact ⟨h1,by simp [World.frozen?,hb1]⟩
  have hlen:bs.length≤9223372036854775807:=Nat.le_trans hr1.1 (Nat.le_trans hr1.2.1 (by decide))
  have HK:=dC.mk hK
  have HV:=dC.mk hv
  have ajI:=dC.mk hcell1
  have HB2:=dC.mk hB2
  have HNB:=dC.mk hnB
  have HND:=dC.mk hnD
  have HD:=dC.mk hD
  have HG1:=dC.mk hg1
  have hc:=HV.out.cell
  clear hv hrow hB2 hK hnB hnD hcell1 hD hmem hal hcell bO bS hB0 hr1 hb1 hg1
  go_wp2_with (go_at_call 73;refine (lJ.aa0 g1 xk bs W ajI.out hlen).mono ?_;rintro e w2 ⟨rfl,ho,o1,o2,o3,o4,o5⟩;have hc2:=(Boxed.cell ((o5 _ (Ne.symm HNB.out)).trans HV.out:Boxed w2 eG.heap.size 64 (.slice (some ⟨g1,0,none⟩) bs.length xk)));have hcv:=run_convert_bytes_arg (P:=Tryz.prog) w2 64 5 Tryz.underlying64 Tryz.underlying5 g1 0 bs.length xk bs.reverse (by simp) (fun i hi=>by rw [Nat.zero_add];exact (ho i (by simpa using hi)).trans (by rw [List.getD_eq_getElem?_getD])) 9 Tryz.underlying9;have HK2:=dC.mk ((o5 D (Ne.symm HND.out)).trans HK.out);have HB3:dC (Below eG.heap.size eG w2):=⟨HB2.out.trans ⟨o1,o2,o3,by omega,fun i hi=>o5 i (by have:=HG1.out;omega)⟩⟩;clear ho)
  refine ⟨by simp,.inl ⟨_,_,rfl,run_takeDeferred HK2.out,?_⟩⟩
  refine ⟨_,results_tmp2 rfl _ _ _,lJ.ajF HR.out (HB3.out.trans (belowK_b (w:=eG) (Nat.le_refl _) w2 D _ _ (by have:=HD.out;simp at this;omega) HK2.out rfl rfl))⟩
end
def strconv_Itoa.f (a0:Int):Option ByteArray:=if -9223372036854775808≤a0∧a0≤9223372036854775807 then some ⟨(Lib.itoa a0).toArray⟩ else none
theorem strconv_Itoa.later {w W:World} {name:String} {cs:Array Value} (hB:∀ b,b < W.heap.size→w.heap[b]? = W.heap[b]?) (h:W.var? Tryz.prog name=some cs):w.var? Tryz.prog name=some cs:=by
 unfold World.var? at *
 cases hg:Tryz.prog.globalNamed name with
 | none=>simp [hg] at h
 | some g =>
  simp only [hg,Option.bind_some] at h ⊢
  have hlt:g < W.heap.size:=by
   rcases Nat.lt_or_ge g W.heap.size with h' | h'
   ·exact h'
   ·rw [Array.getElem?_eq_none h'] at h;simp at h
  rw [hB g hlt]
  exact h
theorem strconv_Itoa.tab {p:aW} {w:World} (h:gp.t p w):Lib.TabIs Tryz.prog w "internal/strconv.uint64pow10" .u64 Lib.pow10Tab:=by
 obtain ⟨W,hW,hB⟩:=h
 rw [MakeChecks.laidMetH_plain _ _ _ (by kernel_rfl)] at hW
 have hm:("internal/strconv.uint64pow10",Lib.tabData (H:=Unit) .u64 Lib.pow10Tab)∈nR:=by
  have e:Lib.tabData (H:=Unit) .u64 Lib.pow10Tab=Rows.laid_internal_strconv_uint64pow10:=by kernel_rfl
  rw [e];unfold nR
  repeat (first | exact List.mem_cons_self | apply List.mem_cons_of_mem)
 obtain ⟨g',t',cs,fuel,p,hg',ht',hvar,hd⟩:=Lib.laidMet.reads hW hm
 have hg:Tryz.prog.globalNamed "internal/strconv.uint64pow10" = some 5:=by kernel_rfl
 obtain rfl:=Option.some.inj (hg.symm.trans hg')
 have ht:(Tryz.prog.globals[5]?).map (·.type)=some 225:=by kernel_rfl
 obtain rfl:=Option.some.inj (ht.symm.trans ht')
 have hc:=Lib.cells_of_tab (n:=20) Tryz.underlying225 Tryz.underlying116 (by kernel_rfl) (by kernel_rfl) hd
 unfold Lib.TabIs
 rw [strconv_Itoa.later (fun b hb=>(hB b hb).2) hvar,← hc]
theorem strconv_Itoa.au {a0:Int} {r:ByteArray} (H:strconv_Itoa.f a0=some r):aQ Tryz.prog 124 [I a0] (S r):=by
 unfold strconv_Itoa.f at H
 obtain ⟨hc,H⟩:=ax H
 cases H
 exact uf Tryz.func124 rfl (by kernel_rfl) rfl fun p w ht=>(Tryz.strconv_Itoa a0 hc.1 hc.2 w (strconv_Itoa.tab ht)).mono (by rintro e w' ⟨rfl,k,os,rfl⟩;exact ⟨rfl,Go.Lib.below_grow _ w (Nat.le_refl _) k os⟩)
def oG.f (a0:Int):Option (ByteArray):=(strconv_Itoa.f a0).bind fun Ob=>(some Ob)
theorem oG.au {a0:Int} {r:(ByteArray)} (H:oG.f a0=some r):aQ Tryz.prog 90 [I a0] (S r):=by
 refine Cg Tryz.func90 rfl fun C hN hL=>?_
 unfold oG.f at H
 refine Sw<|Rg hN<|Sw ?_
 obtain ⟨Ob,ajJ,H⟩:=aC H
 refine Rh hN [S Ob] (.c1 (strconv_Itoa.au ajJ).c) ?_
 cases H
 exact Rt dR
def fZ.of (a0:ByteArray):Int × Bool:=match Lib.atoiAll a0.data.toList with
 | .ok v=>if (⟨(Lib.itoa v).toArray⟩:ByteArray).toList=a0.toList then (v,true) else (0,false)
 | _=>(0,false)
def fZ.f (a0:ByteArray):Option (Int × Bool):=if a0.size≤281474976710656 then some (fZ.of a0) else none
theorem fZ.err {p:aW} {w:World} {name:String} {d:DataW Unit} {nm:String} {ti:TypeId} {ms:Array (String × TypeId)} {gn:Nat} (h:gp.t p w) (hm:(name,DataW.iface nm d)∈nR) (hg:Tryz.prog.globalNamed name=some gn)
 (ht:(Tryz.prog.globals[gn]?).map (·.type)=some ti) (hi:Tryz.prog.underlying ti=some (.interface ms)):∃ t p,w.cell? ⟨gn,0,none⟩=some (.iface t p):=by
 obtain ⟨W,hW,hB⟩:=h
 rw [MakeChecks.laidMetH_plain _ _ _ (by kernel_rfl)] at hW
 obtain ⟨g',t',cs,fuel,p,hg',ht',hvar,hd⟩:=Lib.laidMet.reads hW hm
 obtain rfl:=Option.some.inj (hg.symm.trans hg')
 obtain rfl:=Option.some.inj (ht.symm.trans ht')
 obtain ⟨f',u,v,hc,_,_⟩:=iface_of_trod hi hd
 have h0:=World.var?_cell hg hvar 0
 have hcs:cs = #[.iface u v]:=by
  rw [← Array.toList_inj]
  exact hc
 rw [hcs] at h0
 have h1:W.cell? ⟨gn,0,none⟩=some (.iface u v):=by simpa using h0
 exact ⟨u,v,(tQ (hB _ (World.block_lt_of_cell? _ _ h1)).2).trans h1⟩
theorem fZ.syn {p:aW} {w:World} (h:gp.t p w):∃ t p,w.cell? ⟨3,0,none⟩=some (.iface t p) :=
 fZ.err h (show ("strconv.ErrSyntax",Rows.laid_strconv_ErrSyntax)∈nR by unfold nR;repeat (first | exact List.mem_cons_self | apply List.mem_cons_of_mem)) (by kernel_rfl) (by kernel_rfl) Tryz.underlying103
theorem fZ.ran {p:aW} {w:World} (h:gp.t p w):∃ t p,w.cell? ⟨4,0,none⟩=some (.iface t p) :=
 fZ.err h (show ("strconv.ErrRange",Rows.laid_strconv_ErrRange)∈nR by unfold nR;repeat (first | exact List.mem_cons_self | apply List.mem_cons_of_mem)) (by kernel_rfl) (by kernel_rfl) Tryz.underlying103
theorem fZ.bw {w w':World} {e:TypeId} (h:w'=w∨∃ t,w'=Lib.bytesWorld w e t):Below w.heap.size w w':=by
 rcases h with rfl | ⟨t,rfl⟩
 ·exact Below.refl _ _
 ·exact Lib.bytesWorld_below w e t
set_option maxHeartbeats 8000000 in
set_option maxRecDepth 100000 in
theorem fZ.calls (a0:ByteArray) (r1:Int) (r2:Bool) (p:aW) (w:World) (hp:∀ b,p b→b < w.heap.size) (ht:gp.t p w) (h:fZ.f a0=some (r1,r2)) :
 Calls Tryz.prog 113 #[.string a0] w fun e w'=>e=.returned (.tuple #[.int .i64 r1,.bool r2])∧Below w.heap.size w w':=by
 have HP:=dC.mk hp
 have vF:=dC.mk ht
 clear hp ht
 unfold fZ.f at h
 split at h
 case isFalse=>cases h
 rename_i hs
 have hs2:a0.size≤9223372036854775806:=by omega
 have h0:=Option.some.inj h
 clear h
 have HS:=dC.mk hs
 have HS2:=dC.mk hs2
 clear hs hs2
 unfold fZ.of at h0
 cases hq:Lib.atoiAll a0.data.toList with
 | ok v =>
  rw [hq] at h0
  dsimp only at h0
  have HQ:=dC.mk hq
  have HV:=dC.mk (Lib.atoiAll_bounds hq)
  clear hq
  have hn:oG.f v=some (⟨(Lib.itoa v).toArray⟩:ByteArray):=by
   unfold oG.f strconv_Itoa.f
   rw [if_pos HV.out]
   rfl
  have HN:=dC.mk hn
  clear hn
  generalize (⟨(Lib.itoa v).toArray⟩:ByteArray)=x at HN h0
  by_cases he:x.toList=a0.toList
  ·rw [if_pos he] at h0
   cases h0
   have ag1:(x.toList == a0.toList)=true:=beq_iff_eq.mpr he
   clear he
   go_enter Tryz.func113,Tryz.ntmps113
   go_wp2_with (first | (go_at_call 136;refine (Tryz.strconv_Atoi_ok a0 HS2.out _ HQ.out _).mono ?_;rintro e w3 ⟨rfl,hw⟩;have HB:=dC.mk (fZ.bw hw);clear hw) | (go_at_call 90;refine ((oG.au HN.out).lits rfl (Ci HP.out HB.out) (BP HP.out vF.out HB.out)).mono ?_;rintro e w4 ⟨rfl,hb⟩;have HC:=dC.mk (WE HB.out hb);clear hb))
   go_ret2
   exact ⟨rfl,HC.out⟩
  ·rw [if_neg he] at h0
   cases h0
   have ag1:(x.toList == a0.toList)=false:=beq_eq_false_iff_ne.mpr he
   clear he
   go_enter Tryz.func113,Tryz.ntmps113
   go_wp2_with (first | (go_at_call 136;refine (Tryz.strconv_Atoi_ok a0 HS2.out _ HQ.out _).mono ?_;rintro e w3 ⟨rfl,hw⟩;have HB:=dC.mk (fZ.bw hw);clear hw) | (go_at_call 90;refine ((oG.au HN.out).lits rfl (Ci HP.out HB.out) (BP HP.out vF.out HB.out)).mono ?_;rintro e w4 ⟨rfl,hb⟩;have HC:=dC.mk (WE HB.out hb);clear hb))
   go_ret2
   exact ⟨rfl,HC.out⟩
 | «syntax» =>
  rw [hq] at h0
  cases h0
  have HQ:=dC.mk hq
  clear hq
  obtain ⟨t,p,hc⟩:=fZ.syn vF.out
  have HC:=dC.mk hc
  clear hc
  go_enter Tryz.func113,Tryz.ntmps113
  go_wp2_with (go_at_call 136;refine (Tryz.strconv_Atoi_syntax a0 HS.out HQ.out _ _ HC.out (Or.inr ⟨_,_,rfl⟩)).mono ?_;rintro e w3 ⟨N9,rfl,_,_,hb⟩;have HB:=dC.mk hb;clear hb)
  go_ret2
  exact ⟨rfl,HB.out⟩
 | range =>
  rw [hq] at h0
  cases h0
  have HQ:=dC.mk hq
  clear hq
  obtain ⟨t,p,hc⟩:=fZ.ran vF.out
  have HC:=dC.mk hc
  clear hc
  go_enter Tryz.func113,Tryz.ntmps113
  go_wp2_with (go_at_call 136;refine (Tryz.strconv_Atoi_range a0 HS.out HQ.out _ _ HC.out (Or.inr ⟨_,_,rfl⟩)).mono ?_;rintro e w3 ⟨N9,rfl,_,_,hb⟩;have HB:=dC.mk hb;clear hb)
  go_ret2
  exact ⟨rfl,HB.out⟩
theorem fZ.au {a0:ByteArray} {r:Int × Bool} (H:fZ.f a0=some r):aQ Tryz.prog 113 [S a0] (.aD [I r.1,B r.2]):=by
 refine Vf Tryz.func113 rfl (by kernel_rfl) rfl fun p w hp ht=>(fZ.calls a0 r.1 r.2 p w hp ht H).mono ?_
 rintro e w' ⟨rfl,hb⟩
 exact ⟨_,[],rfl,hb,List.nodup_nil,fun _ h=>(by cases h),fun _=>.aD (vs:=[.int .i64 r.1,.bool r.2]) (.cons (A:=[]) (.lit _) (.cons (A:=[]) (.lit _) .nil))⟩
def dots:List UInt8→List (List UInt8)
 | []=>[[]]
 | b :: r=>if b=46 then [] :: dots r else match dots r with
  | []=>[[b]]
  | p :: ps=>(b :: p) :: ps
def nS (x:{ s:ByteArray // s.size≤1000000 }):Int × Bool:=fZ.of x.1
def yH (l:List (List UInt8)):Option (List Int):=if (l.all fun x=>(fZ.of ⟨x.toArray⟩).2)=true then some (l.map fun x=>(fZ.of ⟨x.toArray⟩).1) else none
def lM.f (k:Nat) (a0:ByteArray):Option (List Int × Bool):=if a0.size≤1000000 then (match yH (dots a0.data.toList) with
 | none=>some ([],false)
 | some arcs=>(fP.f k arcs).bind fun t=>if t=true then some (arcs,true) else some ([],false)) else none
section
open Go.Shelf
attribute [local go_sem] Oper.semAt_some
section
variable {F:Fence} {n:Nat} {P:Program}
theorem setCell_at (W:World) (B l:Nat) (v:Value) (h:l≠B):(W.setCell ⟨B,0,none⟩ v).heap[l]? = W.heap[l]?:=Below.heap_setCell W ⟨B,0,none⟩ v l h
theorem aaC {α:Type} {g:Operand} {ps:Array Tmp} {assign body:Code} {Q:Exit→Act→World→Prop} {a:Act} {w:World}
 (hro:F.round=none) (h1:1≤n) {gf:Nat} {lb:Array Value} (hg:a.eval g=.func (.func gf) #[] lb) (hFg:F.fn gf) (eg:∀ args w,(callFunc gf args).run P w=.ok (.enter gf args) w)
 {encs:α→Array Value} {Kp:World→World→Prop} {S Sp:List α→Prop} {N:Nat} {Bs:Nat} (tF:Bs < w.heap.size)
 (hseq:∀ (l:Nat) (J Jx:List α→World→Prop) (W:World),Below w.heap.size w W→(∀ pre A v,J pre A→J pre (A.setCell ⟨Bs,0,none⟩ v)) →
  (∀ pre x W1,J pre W1→pre.length < N→YieldAt F (n - 1 - 1) P l (encs x) W1 fun e W' =>
   (e=.returned (.bool true)∧J (pre++[x]) W'∧Kp W1 W')∨(e=.returned (.bool false)∧Jx (pre++[x]) W')) →
  J [] W→CallsIn F (n - 1) P gf (#[.func (.yield l) #[] #[]]++lb) W fun e W'=>(∃ v,e=.returned v)∧((∃ xs,S xs∧J xs W')∨(∃ pre,Sp pre∧Jx pre W')))
 (hKt:∀ {A B C:World},Kp A B→Kp B C→Kp A C) (hKb:∀ (W:World) (l:Nat) (o o':Obj),w.heap.size≤l→W.heap[l]? = some o→o.isCells=false→o.isWalk=false→Kp W (W.putObj l o')) (hps:∀ x,(encs x).size=ps.size)
 (I:List α→World→Prop) (Ix:Code→List α→World→Prop) (hI:OwnFrom w.heap.size I) (hIs:∀ pre A v,I pre A→I pre (A.setCell ⟨Bs,0,none⟩ v)) (hIx:∀ c,OwnFrom w.heap.size (Ix c)) (h0:I [] w) (a₁:α→Act)
 (hassign:∀ (l:Nat) (x:α) (W:World) (K:Act→World→Prop),K (a₁ x) W →
  assign.wpIn (F.inRound l) (n - 1 - 1) P (Exit.then K (fun _ _ _=>False)) { tmps:=(ps.zip (encs x)).foldl (fun t (p,v)=>t.setIfInBounds p v) a.tmps,defers:=[] } W)
 (hbody:∀ (l:Nat) (pre:List α) (x:α) (W:World),I pre W→pre.length < N→body.wpIn (F.inRound l) (n - 1 - 1) P (ownPostG w.heap.size Kp I Ix (pre++[x]) W) (a₁ x) W)
 (hdone:∀ (D:Nat) (xs:List α) (W:World),w.heap.size≤D→S xs→I xs W→W.heap[D]? = some (.deferred (some []))→Q .normal { a with defers:={ target:=.collected D,args:=#[] } :: a.defers } W)
 (hstop:∀ (D:Nat) (c:Code) (pre:List α) (W:World),w.heap.size≤D→Sp pre→Ix c pre W→W.heap[D]? = some (.deferred (some []))→c.wpIn F n P Q { a with defers:={ target:=.collected D,args:=#[] } :: a.defers } W) :
 (Code.rangeFunc g ps assign body).wpIn F n P Q a w:=by
 refine wpIn_rangeFunc (fun fn hfn=>?_)
 rw [hro]
 let L:LoopState→Option Code→Loop:=fun st pe=>{ state:=st,pending:=pe,fn,tmps:=a.tmps,params:=ps,assign,body,defers:=w.heap.size }
 obtain ⟨W1,hW1⟩:∃ W1,(w.alloc (.deferred (some []))).alloc (.loop (L .ready none))=W1:=⟨_,rfl⟩
 have hb:Below w.heap.size w W1:=by rw [← hW1];exact ((Below.refl w.heap.size w).alloc (by omega) _).alloc (by simp) _
 let bk:LoopState→Option Code→World→Prop:=fun st pe W=>W.heap[w.heap.size+1]? = some (.loop (L st pe))∧W.heap[w.heap.size]? = some (.deferred (some []))
 have hk1:bk .ready none W1:=by
  have e1:=World.alloc_heap_new (w.alloc (.deferred (some []))) (.loop (L .ready none))
  rw [World.size_alloc] at e1
  have e2:=World.alloc_heap_new w (.deferred (some []))
  rw [← hW1]
  exact ⟨e1,(Below.heap_alloc _ _ _ (by simp)).trans e2⟩
 have hset:∀ st pe W v,bk st pe W→bk st pe (W.setCell ⟨Bs,0,none⟩ v):=fun st pe W v h=>⟨(setCell_at W Bs (w.heap.size+1) v (by omega)).trans h.1,(setCell_at W Bs w.heap.size v (by omega)).trans h.2⟩
 have hput:∀ st pe st' TW W,bk st pe W→bk st' TW (W.putObj (w.heap.size+1) (.loop (L st' TW))):=fun st pe st' TW W h =>
  ⟨World.putObj_heap_same (Array.getElem?_eq_some_iff.1 h.1).1,(World.putObj_heap_other (by omega)).trans h.2⟩
 refine ⟨w.heap.size+1,[{ target:=.collected w.heap.size,args:=#[] }],W1,{ target:=.fn (.func gf) lb,args:=#[.func (.yield (w.heap.size+1)) #[] #[]] },W1,gf,#[.func (.yield (w.heap.size+1)) #[] #[]]++lb,W1,?_,?_,?_,?_,fun _=>h1,?_⟩
 ·rw [← hW1];exact run_enterLoop_outer _ _ _ _ _
 ·simp only [resolve,hg]
  simp [go_sem]
 ·intro f' hf'
  simp [Target.leads] at hf'
  subst hf'
  exact hFg
 ·simp [invoke,go_sem,eg]
 refine (hseq (w.heap.size+1) (fun pre W=>I pre W∧bk .ready none W) (fun pre W=>∃ c,Ix c pre W∧bk .done (some c) W) W1 hb (fun pre A v h=>⟨hIs pre A v h.1,hset _ _ _ _ h.2⟩) ?_ ⟨by rw [← hW1];exact hI.alloc _ (hI.alloc _ h0),hk1⟩).mono ?_
 ·rintro pre x W ⟨hi,hl⟩ hlen
  refine ⟨fn,_,assign,body,run_yield (P:=P) (args:=encs x) hl.1 (hps x),roundIn_of_wpIn hfn (hassign _ x W _ ⟨_,run_beginRound hl.1 rfl,?_⟩)⟩
  have hb2:bk .busy none (W.putObj (w.heap.size+1) (.loop (L .busy none))):=hput _ _ _ _ _ hl
  refine wpIn_mono (hbody _ pre x _ (hI.putObj _ hi (by omega) hl.1 rfl) hlen) ?_
  have fin:∀ (jump:Option Code) (W3:World),KeepsFrom w.heap.size (W.putObj (w.heap.size+1) (.loop (L .busy none))) W3→bk .busy none W3 ∧
   (Instr.endRound (w.heap.size+1) jump).run P W3=.ok (.bool jump.isNone) (W3.putObj (w.heap.size+1) (.loop (L (if jump.isNone then .ready else .done) jump))):=fun jump W3 hk3=>by
   have h3:bk .busy none W3:=⟨hk3.same _ _ (by omega) hb2.1 rfl,hk3.same _ _ (Nat.le_refl _) hb2.2 rfl⟩
   exact ⟨h3,run_endRound (P:=P) jump h3.1⟩
  rintro e a3 W3 hp
  match e,hp with
  | .normal,⟨hk3,hkp3,hi3⟩ =>
   obtain ⟨h3,hr⟩:=fin none W3 hk3
   exact ⟨_,_,hr,.inl ⟨rfl,⟨hI.putObj _ hi3 (by omega) h3.1 rfl,hput _ _ _ _ _ h3⟩,hKt (hKt (hKb _ _ _ _ (by omega) hl.1 rfl rfl) hkp3) (hKb _ _ _ _ (by omega) h3.1 rfl rfl)⟩⟩
  | .ret,⟨hk3,hi3⟩ =>
   obtain ⟨h3,hr⟩:=fin (some .ret) W3 hk3
   exact ⟨_,_,hr,.inr ⟨rfl,.ret,(hIx _).putObj _ hi3 (by omega) h3.1 rfl,hput _ _ _ _ _ h3⟩⟩
  | .exit id,⟨hk3,hi3⟩ =>
   obtain ⟨h3,hr⟩:=fin (some (.exit id)) W3 hk3
   exact ⟨_,_,hr,.inr ⟨rfl,.exit id,(hIx _).putObj _ hi3 (by omega) h3.1 rfl,hput _ _ _ _ _ h3⟩⟩
  | .goto t,⟨hk3,hi3⟩ =>
   obtain ⟨h3,hr⟩:=fin (some (.goto t)) W3 hk3
   exact ⟨_,_,hr,.inr ⟨rfl,.goto t,(hIx _).putObj _ hi3 (by omega) h3.1 rfl,hput _ _ _ _ _ h3⟩⟩
 ·rintro e W2 ⟨⟨v,rfl⟩,(⟨xs,hS,hi,hl⟩ | ⟨pre,hSp,c,hi,hl⟩)⟩
  ·exact ⟨none,_,run_endLoop (P:=P) hl.1 (by simp [L]),hdone _ xs _ (by omega) hS (hI.putObj _ hi (by omega) hl.1 rfl) ((World.putObj_heap_other (by omega)).trans hl.2)⟩
  ·exact ⟨some c,_,run_endLoop (P:=P) hl.1 (by simp [L]),hstop _ c pre _ (by omega) hSp ((hIx c).putObj _ hi (by omega) hl.1 rfl) ((World.putObj_heap_other (by omega)).trans hl.2)⟩
end
def Kn (W:World) (B:Nat):Nat:=match W.cell? ⟨B,0,none⟩ with
 | some (.string s)=>s.size
 | _=>0
theorem VU {W:World} {B:Nat} {s:ByteArray} (h:W.cell? ⟨B,0,none⟩=some (.string s)):Kn W B=s.size:=by unfold Kn;rw [h]
def spK (Bp Bs Bv:Nat) (W W':World):Prop:=∀ b t v,(b=Bp∨b=Bs∨b=Bv)→Boxed W b t v→Boxed W' b t v
theorem aff:∀ l,dots l≠[]
 | []=>by simp [dots]
 | b :: r=>by
  rw [dots]
  split
  ·simp
  ·split<;>simp
theorem Vh:∀ {l:List UInt8},Lib.indexByte l 46 < 0→dots l=[l]
 | [],_=>rfl
 | b :: r,h=>by
  rw [Lib.indexByte] at h
  have hg:=Lib.indexByte_ge r 46
  by_cases hb:(b == 46)=true
  ·rw [if_pos hb] at h;omega
  ·rw [if_neg hb] at h
   have hr:Lib.indexByte r 46 < 0:=by
    by_cases h1:(Lib.indexByte r 46 == -1)=true
    ·have:=eq_of_beq h1;omega
    ·rw [if_neg h1] at h;omega
   rw [dots,if_neg (fun e=>hb (by rw [e];rfl)),Vh hr]
theorem HZ:∀ {l:List UInt8} {i:Nat},Lib.indexByte l 46=i→dots l=l.take i :: dots (l.drop (i+1))
 | [],i,h=>by rw [Lib.indexByte] at h;omega
 | b :: r,i,h=>by
  rw [Lib.indexByte] at h
  have hg:=Lib.indexByte_ge r 46
  by_cases hb:(b == 46)=true
  ·rw [if_pos hb] at h
   obtain rfl:i=0:=by omega
   rw [dots,if_pos (eq_of_beq hb)]
   rfl
  ·rw [if_neg hb] at h
   by_cases h1:(Lib.indexByte r 46 == -1)=true
   ·rw [if_pos h1] at h;omega
   ·rw [if_neg h1] at h
    obtain ⟨j,hj⟩:∃ j:Nat,Lib.indexByte r 46=j:=⟨(Lib.indexByte r 46).toNat,by have:Lib.indexByte r 46≠-1:=fun e=>h1 (by rw [e];rfl);omega⟩
    obtain rfl:i=j+1:=by omega
    rw [dots,if_neg (fun e=>hb (by rw [e];rfl)),HZ hj]
    rfl
set_option maxRecDepth 100000 in
set_option maxHeartbeats 2000000 in
theorem abo (n:Nat) (hn:1≤n) (l Bp Bs Bv:Nat) (s0:ByteArray) (hs0:s0.size≤1000000) (hne1:Bp≠Bs) (hne2:Bv≠Bs) (J Jx:List { s:ByteArray // s.size≤1000000 }→World→Prop)
 (hJs:∀ pre A v,J pre A→J pre (A.setCell ⟨Bs,0,none⟩ v))
 (hY:∀ pre x W,J pre W→pre.length < 1000002→YieldAt Fence.wide (n - 1) Tryz.prog l #[.string x.1] W fun e W' =>
  (e=.returned (.bool true)∧J (pre++[x]) W'∧spK Bp Bs Bv W W')∨(e=.returned (.bool false)∧Jx (pre++[x]) W'))
 (W:World) (hBp:Boxed W Bp 9 (.string ⟨#[46]⟩)) (tF:Boxed W Bs 9 (.string s0)) (hBv:Boxed W Bv 3 (.int .i64 0)) (h0:J [] W) :
 CallsIn Fence.wide n Tryz.prog 154 #[.func (.yield l) #[] #[],.pointer (some ⟨Bp,0,none⟩),.pointer (some ⟨Bs,0,none⟩),.pointer (some ⟨Bv,0,none⟩)] W fun e W'=>(∃ v,e=.returned v) ∧
  ((∃ ys,ys.map (fun x=>x.1.data.toList)=dots s0.data.toList∧J ys W')∨(∃ pre,pre.map (fun x=>x.1.data.toList) <+: dots s0.data.toList∧Jx pre W')):=by
 refine callsIn_of_wp Tryz.func154 rfl trivial ?_ rfl
 simp only [Tryz.ntmps154,List.size_toArray,List.length_cons,List.length_nil,Nat.reduceAdd,Nat.reduceSub,Array.replicate_succ,Array.replicate_zero,List.push_toArray,List.append_toArray,List.nil_append,List.cons_append]
 have hB1:=hBp.cell
 gi_wp2
 gi_loopw [7,8] (fun _ _ wr=>∃ (pre:List { s:ByteArray // s.size≤1000000 }) (rest:ByteArray),pre.map (fun x=>x.1.data.toList)++dots rest.data.toList=dots s0.data.toList∧pre.length+rest.size≤s0.size ∧
  Boxed wr Bs 9 (.string rest)∧Boxed wr Bp 9 (.string ⟨#[46]⟩)∧Boxed wr Bv 3 (.int .i64 0)∧J pre wr)
  (fun _ _ wr=>Kn wr Bs)
 case atStart=>exact ⟨[],s0,by simp,by simp,tF,hBp,hBv,h0⟩
 case round =>
  obtain ⟨pre,rest,hpre,hlen,bS,bP,bV,hJ⟩:=hrel
  have hcS:=bS.cell
  have hfS:=bS.frozen
  have hcP:=bP.cell
  have hcV:=bV.cell
  have hge:=Lib.indexByte_ge rest.data.toList 46
  by_cases hlt:Lib.indexByte rest.data.toList 46 < 0
  ·generalize hix:Lib.indexByte rest.data.toList 46=ix at hge hlt
   have hb0:decide (ix < 0)=true:=decide_eq_true hlt
   obtain ⟨fn,tmps,assign,body,hy,hR⟩:=hY pre ⟨rest,by omega⟩ wr hJ (by omega)
   dsimp only at hy
   gi_wp2_with (refine ⟨trivial,?_⟩;gi_at_call 155;refine (callsIn_wide.2 (Tryz.strings_Index_one rest 46 _)).mono ?_;rintro e w9 ⟨rfl,rfl⟩;rw [hix])
   have XV:dots rest.data.toList=[rest.data.toList]:=Vh (by omega)
   refine hR.mono ?_
   rintro e W3 (⟨rfl,hJ3,hk3⟩ | ⟨rfl,hJx3⟩)
   ·gi_wp2
    go_end0
    exact ⟨⟨_,rfl⟩,.inl ⟨_,by rw [← hpre,XV];simp,hJ3⟩⟩
   ·gi_wp2
    go_end0
    exact ⟨⟨_,rfl⟩,.inr ⟨_,by rw [← hpre,XV];exact ⟨[],by simp⟩,hJx3⟩⟩
  ·generalize hix:Lib.indexByte rest.data.toList 46=ix at hge hlt
   have hb0:decide (ix < 0)=false:=decide_eq_false hlt
   obtain ⟨i,rfl⟩:∃ i:Nat,ix=i:=⟨ix.toNat,by omega⟩
   obtain ⟨hat,_⟩:=Lib.indexByte_some hix
   have hil:i < rest.size:=by
    have:=(List.getElem?_eq_some_iff.1 hat).1
    have h2:rest.data.toList.length=rest.size:=Array.length_toList
    omega
   have hw0:wrap64 ((i:Int)+0)=(i:Int):=by rw [Int.add_zero];exact (by unfold wrap64;omega)
   have hw1:wrap64 ((i:Int)+1)=(i:Int)+1:=by unfold wrap64;omega
   have hc1:(0:Int)≤(i:Int):=by omega
   have hc2:(i:Int)≤(rest.size:Int):=by omega
   have hc3:(0:Int)≤(i:Int)+1:=by omega
   have hc4:(i:Int)+1≤(rest.size:Int):=by omega
   have hxs:(rest.extract 0 i).size≤1000000:=by rw [ByteArray.size_extract];omega
   have hx1:(rest.extract 0 i).data.toList=rest.data.toList.take i:=by simp
   have hx2:(rest.extract (i+1) rest.size).data.toList=rest.data.toList.drop (i+1):=by
    have h2:rest.data.toList.length=rest.size:=Array.length_toList
    simp [List.take_of_length_le,h2]
   obtain ⟨fn,tmps,assign,body,hy,hR⟩:=hY pre ⟨rest.extract 0 i,hxs⟩ wr hJ (by omega)
   dsimp only at hy
   gi_wp2_with (refine ⟨trivial,?_⟩;gi_at_call 155;refine (callsIn_wide.2 (Tryz.strings_Index_one rest 46 _)).mono ?_;rintro e w9 ⟨rfl,rfl⟩;rw [hix])
   refine hR.mono ?_
   rintro e W3 (⟨rfl,hJ3,hk3⟩ | ⟨rfl,hJx3⟩)
   ·have Gv:=hk3 _ _ _ (Or.inr (Or.inl rfl)) bS
    have bP3:=hk3 _ _ _ (Or.inl rfl) bP
    have bV3:=hk3 _ _ _ (Or.inr (Or.inr rfl)) bV
    have anM:=Gv.cell
    have anN:=Gv.frozen
    have anO:=bP3.cell
    gi_wp2
    go_roundw
    case rel =>
     refine ⟨pre++[⟨rest.extract 0 i,hxs⟩],rest.extract (i+1) rest.size,?_,?_,Gv.set _,bP3.kept (grownBy_setCell' _ _ _) (by simpa using hne1),bV3.kept (grownBy_setCell' _ _ _) (by simpa using hne2),hJs _ _ _ hJ3⟩
     ·rw [hx2,List.map_append,List.append_assoc,← hpre,HZ hix]
      simp only [List.map_cons,List.map_nil,hx1]
      rfl
     ·simp only [List.length_append,List.length_cons,List.length_nil,ByteArray.size_extract]
      omega
    case measure =>
     rw [VU (Gv.set _).cell,VU hcS,ByteArray.size_extract]
     omega
   ·gi_wp2
    refine bodyPost_ret (results_none rfl _ _ _) rfl ?_
    exact ⟨⟨_,rfl⟩,.inr ⟨_,⟨dots (rest.data.toList.drop (i+1)),by rw [← hpre,HZ hix,List.map_append,List.append_assoc];simp only [List.map_cons,List.map_nil,hx1];rfl⟩,hJx3⟩⟩
theorem aaP (a b:ByteArray) (c:Int) (w:World) :
 Calls Tryz.prog 135 #[.string a,.string b,.int .i64 c] w fun e w'=>e=.returned (.func (.func 154) #[] #[.pointer (some ⟨w.heap.size+1,0,none⟩),.pointer (some ⟨w.heap.size,0,none⟩),.pointer (some ⟨w.heap.size+2,0,none⟩)])∧w'=((w.alloc (.cells #[.string a] 9)).alloc (.cells #[.string b] 9)).alloc (.cells #[.int .i64 c] 3):=by
 go_enter Tryz.func135,Tryz.ntmps135
 go_wp2
 go_ret
 exact ⟨rfl,rfl⟩
theorem aaQ (a b:ByteArray) (w:World) :
 Calls Tryz.prog 112 #[.string a,.string b] w fun e w'=>e=.returned (.func (.func 154) #[] #[.pointer (some ⟨w.heap.size+1,0,none⟩),.pointer (some ⟨w.heap.size,0,none⟩),.pointer (some ⟨w.heap.size+2,0,none⟩)])∧w'=((w.alloc (.cells #[.string a] 9)).alloc (.cells #[.string b] 9)).alloc (.cells #[.int .i64 0] 3):=by
 go_enter Tryz.func112,Tryz.ntmps112
 go_wp2_with (go_at_call 135;refine (aaP _ _ _ _).mono ?_;rintro e w9 ⟨rfl,rfl⟩)
 go_ret
 exact ⟨rfl,rfl⟩
def ac7 (fn:Func) (R:Ending→World→Prop):Exit→Act→World→Prop
 | .normal,a,w=>LeavesInM Fence.wide 3 Tryz.prog fn a.tmps R a.defers .returning w
 | .ret,a,w=>LeavesInM Fence.wide 3 Tryz.prog fn a.tmps R a.defers .returning w
 | _,_,_=>False
theorem abp (fn:Func) (R:Ending→World→Prop):∀ (e:Exit) (a:Act) (w:World),ac7 fn R e a w→bodyPostM Fence.wide 3 Tryz.prog fn R e a w
 | .normal,_,_,h=>h
 | .ret,_,_,h=>h
 | .panic _,_,_,h=>h.elim
 | .outgrown,_,_,h=>h.elim
 | .exit _,_,_,h=>h.elim
 | .goto _,_,_,h=>h.elim
theorem GD (tmps:Array Value) (w:World) {R1 R2:Nat} {x y:Value} (hp:tmps.getD 2 undef=.pointer (some ⟨R1,0,none⟩)) (hq:tmps.getD 3 undef=.pointer (some ⟨R2,0,none⟩)) (h1:w.cell? ⟨R1,0,none⟩=some x) (h2:w.cell? ⟨R2,0,none⟩=some y) :
 (results Tryz.f74 tmps).run Tryz.prog w=.ok (.tuple #[x,y]) w:=by
 have hp':tmps[2]?.getD undef=.pointer (some ⟨R1,0,none⟩):=by simpa using hp
 have hq':tmps[3]?.getD undef=.pointer (some ⟨R2,0,none⟩):=by simpa using hq
 simp [results,Tryz.f74,hp',hq',asAddr,h1,h2,go_sem]
theorem yw {W:World} {b b':Nat} {t:TypeId} {v:Value} (h:b=b') (hb:Boxed W b t v):Boxed W b' t v:=h ▸ hb
def CS (w:World) (pre:List { s:ByteArray // s.size≤1000000 }) (W:World):Prop :=
 (∀ x∈pre,(nS x).2=true)∧Boxed W w.heap.size 41 (.slice none 0 0)∧Boxed W (w.heap.size+1) 4 (.bool false)∧w.heap.size+6≤W.heap.size ∧
  (∃ v,Boxed W (w.heap.size+2) 41 v∧W.ownsRow (w.heap.size+6) 3 1 v pre.length (pre.map fun x=>Value.int .i64 (nS x).1))∧Below w.heap.size w W
def Xt (w:World) (c:Code) (pre:List { s:ByteArray // s.size≤1000000 }) (W:World):Prop :=
 c=.ret∧(∃ x∈pre,(nS x).2=false)∧Boxed W w.heap.size 41 (.slice none 0 0)∧Boxed W (w.heap.size+1) 4 (.bool false)∧Below w.heap.size w W
theorem nE {A B:World} {row:Option Nat} {b:Nat} {t:TypeId} {v:Value} (h:Boxed A b t v) (hg:A.grownBy B row) (hr:∀ r,row=some r→∃ o:Obj,A.heap[r]? = some o∧o.isCells=false):Boxed B b t v :=
 h.kept hg (fun e=>by
  obtain ⟨o,ho,hc⟩:=hr b e.symm
  rw [show A.heap[b]? = _ from h] at ho
  cases ho
  cases hc)
theorem aea {A B:World} {row:Option Nat} {base:Nat} {e:TypeId} {size:Nat} {v:Value} {n:Nat} {xs:List Value} (h:A.ownsRow base e size v n xs) (hg:A.grownBy B row) (hr:∀ r,row=some r→∃ o:Obj,A.heap[r]? = some o∧o.isCells=false):B.ownsRow base e size v n xs :=
 h.kept hg (by
  rcases h.2 with ⟨rfl,_⟩ | ⟨g,cap,cur,rfl,_,hgb,_⟩
  ·exact .inl rfl
  ·refine .inr fun e'=>?_
   obtain ⟨o,ho,hc⟩:=hr g (by simpa [Value.ownBlock] using e'.symm)
   rw [hgb] at ho
   cases ho
   cases hc)
theorem vS {A:World} {base b:Nat} {e:TypeId} {size:Nat} {v:Value} {n:Nat} {xs:List Value} (h:A.ownsRow base e size v n xs) (hb:b < base):v.ownBlock≠some b:=by
 rcases h.2 with ⟨rfl,_⟩ | ⟨g,cap,cur,rfl,hg,_⟩
 ·simp [Value.ownBlock]
 ·intro e'
  obtain rfl:g=b:=by simpa [Value.ownBlock] using e'
  omega
theorem Uh {A:World} {base:Nat} {e:TypeId} {size:Nat} {v:Value} {n:Nat} {xs:List Value} (h:A.ownsRow base e size v n xs):v.ownBlock=none∨v.ownBlock≠none:=by
 cases v.ownBlock with
 | none=>exact .inl rfl
 | some b=>exact .inr (by simp)
theorem afg {W w1:World} {n₀:Nat} {e:TypeId} {size:Nat} {v:Value} {k:Nat} {xs:List Value} {tmp:Obj} (hrow:W.ownsRow n₀ e size v k xs) (hgrow:(W.alloc tmp).grownBy w1 v.ownBlock):KeepsOthers W w1 :=
 (KeepsOthers.alloc W tmp).trans (KeepsOthers.of_grownBy hgrow fun j o ej hj=>by
  rcases (hrow.alloc tmp).2 with ⟨rfl,_⟩ | ⟨g,cap,cur,rfl,_,hgb,_⟩
  ·simp [Value.ownBlock] at ej
  ·obtain rfl:g=j:=by simpa [Value.ownBlock] using ej
   rw [hgb] at hj
   cases hj
   rfl)
theorem UB {W W':World} (B:Nat) (hb:Below W.heap.size W W'):KeepsFrom B W W':=⟨hb.size,fun k o _ hk _=>(hb.block k (Array.getElem?_eq_some_iff.1 hk).1).trans hk⟩
theorem aco (w:World) (B:Nat) (hB:w.heap.size≤B):OwnFrom B (CS w):=fun pre X Y row hs hg hr=>by
 obtain ⟨h1,h2,h3,h4,⟨v,h5,h6⟩,h7⟩:=hs
 have hr2:=fun r e=>(hr r e).2
 exact ⟨h1,nE h2 hg hr2,nE h3 hg hr2,Nat.le_trans h4 hg.size,⟨v,nE h5 hg hr2,aea h6 hg hr2⟩,ownFrom_below (β:=Unit) (Nat.le_refl _) hB () X Y row h7 hg hr⟩
theorem acp (w:World) (B:Nat) (hB:w.heap.size≤B) (c:Code):OwnFrom B (Xt w c):=fun pre X Y row hs hg hr=>by
 obtain ⟨h1,h2,h3,h4,h7⟩:=hs
 have hr2:=fun r e=>(hr r e).2
 exact ⟨h1,h2,nE h3 hg hr2,nE h4 hg hr2,ownFrom_below (β:=Unit) (Nat.le_refl _) hB () X Y row h7 hg hr⟩
theorem acr (w:World) (pre:List { s:ByteArray // s.size≤1000000 }) (A:World) (v:Value) (h:CS w pre A):CS w pre (A.setCell ⟨w.heap.size+3,0,none⟩ v):=by
 obtain ⟨h1,h2,h3,h4,⟨v',h5,h6⟩,h7⟩:=h
 exact ⟨h1,h2.other (by omega) v,h3.other (by omega) v,Nat.le_trans h4 (grownBy_setCell' A _ v).size,⟨v',h5.other (by omega) v,h6.kept (grownBy_setCell' A _ v) (.inr (vS h6 (by omega)))⟩,h7.setCell (p:=⟨w.heap.size+3,0,none⟩) (by simp) v⟩
theorem ac8:(Tryz.prog.info? 3).map (fun i=>(i.zero,i.size,i.bytes))=some (some (.int .i64 0),1,8):=by kernel_rfl
theorem lM.right {k:Nat} {arcs:List Int} {t:Bool} {p:aW} {W:World} {g cap:Nat} (h:fP.f k arcs=some t) (hp:∀ b,p b→b < W.heap.size) (ht:gp.t p W) (hc:arcs.length≤cap) (hg:g < W.heap.size)
 (hs:∀ j x,arcs[j]? = some x→∃ b o,some (⟨g,0,none⟩:Addr)=some ⟨b,o,none⟩∧(p b∨b=g)∧W.cell? ⟨b,o+j,none⟩=some (Value.int .i64 x)) :
 Calls Tryz.prog 53 #[.slice (some ⟨g,0,none⟩) arcs.length cap] W fun e w'=>e=.returned (.bool t)∧Below W.heap.size W w':=by
 refine ((fP.au h).2 (fun b=>p b∨b=g) W [.slice (some ⟨g,0,none⟩) arcs.length cap] (fun b hb=>hb.elim (hp b) (fun e=>e ▸ hg)) (gp.s (p:=p) ⟨fun b hb=>.inl hb,fun _ _=>rfl⟩ ht)
  (aM.cons (A:=[]) (B:=[]) (aP.ac5 (enc:=Value.int .i64) rfl (fun x=>by simp [Value.oneCell']) hc hs) .nil)).mono ?_
 rintro e w' ⟨v,T,q,he,hb,_,_,_,hv⟩
 exact ⟨by rw [he,hv.jX],GA hb⟩
theorem lM.lower {w:World} {b b':Nat} {e:TypeId} {size:Nat} {v:Value} {n:Nat} {xs:List Value} (h:w.ownsRow b e size v n xs) (hb:b'≤b):w.ownsRow b' e size v n xs:=by
 refine ⟨h.1,?_⟩
 rcases h.2 with h | ⟨g,cap,cur,a,hg,r⟩
 ·exact .inl h
 ·exact .inr ⟨g,cap,cur,a,Nat.le_trans hb hg,r⟩
set_option maxHeartbeats 8000000 in
set_option maxRecDepth 100000 in
theorem lM.calls (k:Nat) (a0:ByteArray) (r1:List Int) (r2:Bool) (p:aW) (w:World) (hp:∀ b,p b→b < w.heap.size) (ht:gp.t p w) (h:lM.f k a0=some (r1,r2)) :
 Calls Tryz.prog 74 #[.string a0] w fun e w'=>∃ v0_:Value,e=.returned (.tuple #[v0_,.bool r2])∧w'.ownsRow w.heap.size 3 1 v0_ r1.length (r1.map (Value.int .i64))∧Below w.heap.size w w':=by
 have H:=dC.mk h
 have HP:=dC.mk hp
 have vF:=dC.mk ht
 clear h hp ht
 have hsz:a0.size≤1000000:=by
  have h:=H.out
  unfold lM.f at h
  by_cases hc:a0.size≤1000000
  ·exact hc
  ·rw [if_neg hc] at h;cases h
 refine callsIn_wide.1 (callsIn_of_wp_marks (F:=Fence.wide) (n:=3) Tryz.func74 rfl trivial ?_ rfl)
 refine wpIn_mono (wpIn_wide.2 ?_) (abp Tryz.f74 _)
 simp only [Tryz.ntmps74,List.size_toArray,List.length_cons,List.length_nil,Nat.reduceAdd,Nat.reduceSub,Array.replicate_succ,Array.replicate_zero,List.push_toArray,List.append_toArray,List.nil_append,List.cons_append]
 go_upto_region 2 with fail
 iterate 6 (try (first | go_values | go_skip | go_guarded | go_step | go_upon))
 refine (aaQ _ _ _).mono ?_
 rintro e w' ⟨rfl,rfl⟩
 dsimp only
 iterate 4 (try (first | go_values | go_skip | go_guarded | go_step | go_upon | go_back))
 refine wp_block ?_
 refine (wpIn_wide (n:=3)).1 ?_
 simp only [World.size_alloc,Nat.add_assoc,Nat.reduceAdd]
 obtain ⟨W0,hW0⟩:∃ W0,((((((w.alloc (.cells #[.slice none 0 0] 41)).alloc (.cells #[.bool false] 4)).alloc (.cells #[.slice none 0 0] 41)).alloc (.cells #[.string a0] 9)).alloc (.cells #[.string ⟨#[46]⟩] 9)).alloc (.cells #[.int .i64 0] 3))=W0:=⟨_,rfl⟩
 rw [hW0]
 have hsz0:W0.heap.size=w.heap.size+6:=by rw [← hW0];simp
 have g0:Boxed W0 w.heap.size 41 (.slice none 0 0):=by rw [← hW0];exact (((((Boxed.new w 41 _).alloc _).alloc _).alloc _).alloc _).alloc _
 have g1:Boxed W0 (w.heap.size+1) 4 (.bool false):=by rw [← hW0];exact yw (by simp) ((((Boxed.new (w.alloc (.cells #[.slice none 0 0] 41)) 4 _).alloc _).alloc _).alloc _ |>.alloc _)
 have g2:Boxed W0 (w.heap.size+2) 41 (.slice none 0 0):=by rw [← hW0];exact yw (by simp) (((Boxed.new ((w.alloc (.cells #[.slice none 0 0] 41)).alloc (.cells #[.bool false] 4)) 41 _).alloc _).alloc _ |>.alloc _)
 have g3:Boxed W0 (w.heap.size+3) 9 (.string a0):=by rw [← hW0];exact yw (by simp) ((Boxed.new (((w.alloc (.cells #[.slice none 0 0] 41)).alloc (.cells #[.bool false] 4)).alloc (.cells #[.slice none 0 0] 41)) 9 _).alloc _ |>.alloc _)
 have g4:Boxed W0 (w.heap.size+4) 9 (.string ⟨#[46]⟩):=by rw [← hW0];exact yw (by simp) (Boxed.new ((((w.alloc (.cells #[.slice none 0 0] 41)).alloc (.cells #[.bool false] 4)).alloc (.cells #[.slice none 0 0] 41)).alloc (.cells #[.string a0] 9)) 9 _ |>.alloc _)
 have g5:Boxed W0 (w.heap.size+5) 3 (.int .i64 0):=by rw [← hW0];exact yw (by simp) (Boxed.new (((((w.alloc (.cells #[.slice none 0 0] 41)).alloc (.cells #[.bool false] 4)).alloc (.cells #[.slice none 0 0] 41)).alloc (.cells #[.string a0] 9)).alloc (.cells #[.string ⟨#[46]⟩] 9)) 3 _)
 have gB:Below w.heap.size w W0:=by rw [← hW0];exact (((((((Below.refl _ w).alloc (Nat.le_refl _) _).alloc (by simp) _).alloc (by simp;omega) _).alloc (by simp;omega) _).alloc (by simp;omega) _).alloc (by simp;omega) _)
 clear hW0
 refine aaC (α:={ s:ByteArray // s.size≤1000000 }) (encs:=fun x=>#[.string x.1]) (Kp:=spK (w.heap.size+4) (w.heap.size+3) (w.heap.size+5)) (S:=fun xs=>xs.map (fun x=>x.1.data.toList)=dots a0.data.toList) (Sp:=fun pre=>pre.map (fun x=>x.1.data.toList) <+: dots a0.data.toList) (N:=1000002) (Bs:=w.heap.size+3) rfl (by omega) (gf:=154)
  (lb:=#[.pointer (some ⟨w.heap.size+4,0,none⟩),.pointer (some ⟨w.heap.size+3,0,none⟩),.pointer (some ⟨w.heap.size+5,0,none⟩)]) rfl trivial (enters_of Tryz.func154 (by kernel_rfl) rfl) (by omega)
  (fun l J Jx W hW hJs hY h0=>abo (3 - 1) (by omega) l _ _ _ a0 hsz (by omega) (by omega) J Jx hJs hY W ((hW.block _ g4.lt).trans g4) ((hW.block _ g3.lt).trans g3) ((hW.block _ g5.lt).trans g5) h0)
  (fun h k b t v hb hx=>k b t v hb (h b t v hb hx)) (fun W l o o' _ ho h1 _ b t v hb hx=>nE hx (grownBy_putObj' W l o') (fun r e=>by cases e;exact ⟨o,ho,h1⟩)) (fun _=>rfl)
  (CS w) (Xt w) (aco w _ (by omega)) (acr w) (fun c=>acp w _ (by omega) c) ⟨by simp,g0,g1,by omega,⟨_,g2,World.ownsRow_nil _ _ _ _⟩,gB⟩
  (fun x=>{ tmps:=#[.string a0,undef,.pointer (some ⟨w.heap.size,0,none⟩),.pointer (some ⟨w.heap.size+1,0,none⟩),.pointer (some ⟨w.heap.size+2,0,none⟩),.string x.1,undef,undef,.string a0,
    .func (.func 154) #[] #[.pointer (some ⟨w.heap.size+4,0,none⟩),.pointer (some ⟨w.heap.size+3,0,none⟩),.pointer (some ⟨w.heap.size+5,0,none⟩)],.string x.1,undef,undef,undef,undef,undef,undef,undef,undef,undef,undef,undef,undef,undef,undef,undef],defers:=[] }) ?assign ?body ?done ?stop
 case assign =>
  intro l x W K hK
  gi_wp2
  exact hK
 case body =>
  rintro l pre x W ⟨h1,b0,b1,b3,⟨v,b2,hrow⟩,hB⟩ hlt
  have hu:fZ.f x.1=some (fZ.of x.1):=by
   unfold fZ.f
   rw [if_pos (by have:=x.2;omega)]
  have HTB:=dC.mk (BP HP.out vF.out hB)
  have HPB:=dC.mk (Ci HP.out hB)
  cases hp:fZ.of x.1 with
  | mk pn pb =>
   rw [hp] at hu
   have HU:=dC.mk hu
   have HI:=dC.mk h1
   clear hu h1
   cases pb with
   | false =>
    have HX:=dC.mk (And.intro b0 (And.intro b1 hB))
    clear b2 b3 hrow hB
    gi_wp2_with (refine ⟨trivial,?_⟩;gi_at_call 113;refine (CallsIn.inRound l (callsIn_wide.2 (fZ.calls x.1 pn false p W HPB.out HTB.out HU.out))).mono ?_;rintro e w9 ⟨rfl,hb⟩;have c0:Boxed w9 _ _ _:=(hb.block _ b0.lt).trans b0;have c1:Boxed w9 _ _ _:=(hb.block _ b1.lt).trans b1;have d0:=c0.cell;have d1:=c1.cell;have e0:=c0.frozen;have e1:=(c1.other (by omega) (.slice none 0 0):Boxed (w9.setCell ⟨w.heap.size,0,none⟩ _) _ _ _).frozen;have HC:=dC.mk (And.intro c0 (And.intro c1 hb));clear c0 c1 hb)
    obtain ⟨b0,b1,hB⟩:=HX.out
    obtain ⟨c0,c1,hb⟩:=HC.out
    refine ⟨(UB _ hb).trans (((KeepsOthers.setCell _ _ _).trans (KeepsOthers.setCell _ _ _)).from _),rfl,⟨x,by simp,by unfold nS;rw [hp]⟩,(c0.set _).other (by omega) _,(c1.other (by omega) _).set _,((hB.trans (hb.mono hB.size)).setCell (p:=⟨w.heap.size,0,none⟩) (Nat.le_refl _) _).setCell (p:=⟨w.heap.size+1,0,none⟩) (by simp) _⟩
   | true =>
    have vE:pre.length+1≤maxLen:=by unfold maxLen;omega
    obtain ⟨i0,hi,hz0,hz1,hz2⟩:=info_parts ac8
    gi_wp2_with (first | (refine ⟨trivial,?_⟩;gi_at_call 113;refine (CallsIn.inRound l (callsIn_wide.2 (fZ.calls x.1 pn true p W HPB.out HTB.out HU.out))).mono ?_;rintro e w9 ⟨rfl,hb⟩;have c2:Boxed w9 (w.heap.size+2) 41 v:=(hb.block _ b2.lt).trans b2;have d2:=c2.cell;have yU:w9.ownsRow (w.heap.size+6) 3 1 v pre.length (pre.map fun x=>Value.int .i64 (nS x).1):=hrow.kept (Ux hb none) (Uh hrow);have hs9:w.heap.size+6≤w9.heap.size:=Nat.le_trans b3 hb.size) | (gi_at_builtin;refine wpListIn_append_own _ rfl _ _ 41 rfl (w.heap.size+6) 3 i0 (.int .i64 0) 1 8 Tryz.underlying41 hi hz0 hz1 hz2 rfl (by decide) _ _ _ rfl (yU.alloc _) ⟨w9.heap.size,0,none⟩ 1 1 [.int .i64 pn] rfl rfl (cell_one_new _ _ _) (by simp [Value.oneCell']) vE (by omega) (by simp;omega) ?_;intro v' w1 hown' hgrow _;obtain ⟨g',cap',rfl⟩:=ownsRow_succ hown';have hgr:(w9.alloc (.cells #[.int .i64 pn] 3)).grownBy w1 v.ownBlock:=hgrow;clear hgrow;have hv3:Boxed w1 (w.heap.size+2) 41 v:=(c2.alloc _).kept hgr (vS yU (by omega)).symm;have hc1:=hv3.cell;have hf1:=hv3.frozen))
    have mv:∀ b t v2,b < w.heap.size+6→b≠w.heap.size+2→Boxed W b t v2→Boxed (w1.setCell ⟨w.heap.size+2,0,none⟩ (.slice (some ⟨g',0,none⟩) (pre.length+1) cap')) b t v2:=fun b t v2 h1 h2 hx =>
     Boxed.other ((Boxed.alloc (show Boxed w9 b t v2 from (hb.block _ hx.lt).trans hx) _).kept hgr (vS yU h1).symm) h2 _
    refine ⟨(UB _ hb).trans (((afg yU hgr).trans (KeepsOthers.setCell _ _ _)).from _),fun b t v2 hbx hx=>mv b t v2 (by omega) (by omega) hx,⟨?_,mv _ _ _ (by omega) (by omega) b0,mv _ _ _ (by omega) (by omega) b1,?_,⟨_,hv3.set _,?_⟩,?_⟩⟩
    ·intro y hy
     rcases List.mem_append.1 hy with h | h
     ·exact HI.out y h
     ·rw [List.mem_singleton] at h
      subst h
      unfold nS
      rw [hp]
    ·have e1:=hgr.size
     have e2:=(grownBy_setCell' w1 (w.heap.size+2) (.slice (some ⟨g',0,none⟩) (pre.length+1) cap')).size
     rw [World.size_alloc] at e1
     omega
    ·have e:=hown'.kept (grownBy_setCell' w1 (w.heap.size+2) (.slice (some ⟨g',0,none⟩) (pre.length+1) cap')) (.inr (vS hown' (by omega)))
     have e3:(nS x).1=pn:=by unfold nS;rw [hp]
     rw [List.length_append,List.map_append,List.map_cons,List.map_nil,e3]
     exact e
    ·exact (((((hB.trans (hb.mono hB.size)).alloc (by omega) _).grown hgr (by simp;omega) (fun j ej=>by
      rcases yU.2 with ⟨rfl,_⟩ | ⟨g2,cap2,anP,rfl,hg2,_,_⟩
      ·simp [Value.ownBlock] at ej
      ·obtain rfl:g2=j:=by simpa [Value.ownBlock] using ej
       omega))).setCell (p:=⟨w.heap.size+2,0,none⟩) (by simp) _)
 case stop =>
  rintro D c pre W hD hSp ⟨rfl,⟨x,hx,hxf⟩,b0,b1,hB⟩ hK
  have hn:yH (dots a0.data.toList)=none:=by
   obtain ⟨r,hr⟩:=hSp
   unfold yH
   rw [if_neg]
   intro hall
   have:=List.all_eq_true.1 hall x.1.data.toList (by rw [← hr];exact List.mem_append_left _ (List.mem_map_of_mem hx))
   unfold nS at hxf
   rw [show (⟨x.1.data.toList.toArray⟩:ByteArray)=x.1 from by simp] at this
   rw [hxf] at this
   cases this
  have h:=H.out
  unfold lM.f at h
  rw [if_pos hsz,hn] at h
  cases h
  have d0:=b0.cell
  have d1:=b1.cell
  have HK:=dC.mk hK
  have HX:=dC.mk (And.intro b0 (And.intro b1 hB))
  clear b0 b1 hB hK
  refine wpIn_ret ?_
  refine ⟨by simp,.inl ⟨_,_,rfl,run_takeDeferred HK.out,?_⟩⟩
  obtain ⟨b0,b1,hB⟩:=HX.out
  have hr:=fun r (e:some D=some r)=>(by cases e;exact ⟨_,HK.out,rfl⟩:∃ o:Obj,W.heap[r]? = some o∧o.isCells=false)
  exact ⟨_,GD _ _ rfl rfl (nE b0 (grownBy_putObj' W D _) hr).cell (nE b1 (grownBy_putObj' W D _) hr).cell,_,rfl,World.ownsRow_nil _ _ _ _,hB.grown (grownBy_putObj' W D _) hB.size (fun j e=>by cases e;omega)⟩
 case done =>
  rintro D ys W hD hS ⟨h1,b0,b1,b3,⟨v,b2,hrow⟩,hB⟩ hK
  obtain ⟨arcs,Di⟩:∃ arcs:List Int,arcs=ys.map fun x=>(nS x).1:=⟨_,rfl⟩
  have hn:yH (dots a0.data.toList)=some arcs:=by
   unfold yH
   rw [← hS,if_pos,Di,List.map_map]
   ·rfl
   ·rw [List.all_map,List.all_eq_true]
    exact fun y hy=>h1 y hy
  have hpos:0 < arcs.length:=by
   rw [Di,List.length_map]
   rcases ys with _ | ⟨y,ys⟩
   ·exact absurd hS.symm (aff _)
   ·simp
  have h:=H.out
  unfold lM.f at h
  rw [if_pos hsz,hn] at h
  obtain ⟨t,ht,h⟩:=Option.bind_eq_some_iff.1 h
  have hrow2:W.ownsRow (w.heap.size+6) 3 1 v arcs.length (arcs.map (Value.int .i64)):=by
   rw [Di,List.length_map]
   have e:(ys.map fun x=>(nS x).1).map (Value.int .i64)=ys.map fun x=>Value.int .i64 (nS x).1:=by simp
   rw [e]
   exact hrow
  have ho:=hrow2
  rcases hrow2.2 with ⟨_,h0⟩ | ⟨g,cap,ajG,rfl,hg1,hg2,hg3⟩
  ·omega
  have HCP:=dC.mk hg3.1
  have HGL:=dC.mk (Array.getElem?_eq_some_iff.1 hg2).1
  have HQP:=dC.mk (Ci HP.out hB)
  have HQT:=dC.mk (BP HP.out vF.out hB)
  clear hg2 hg3
  have HCS:dC (∀ j x,arcs[j]? = some x→∃ b o,some (⟨g,0,none⟩:Addr)=some ⟨b,o,none⟩∧(p b∨b=g)∧W.cell? ⟨b,o+j,none⟩=some (Value.int .i64 x)):=⟨fun j x hj=>⟨g,0,rfl,.inr rfl,by
   have h1:=ho.cells (g:=g) rfl j (.int .i64 x) (by rw [List.getElem?_map,hj];rfl)
   have ha:(⟨g,0,none⟩:Addr).add j=⟨g,j,none⟩:=by unfold Addr.add;split<;>simp_all
   rw [ha] at h1
   rw [Nat.zero_add]
   exact h1⟩⟩
  have HO:=dC.mk ho
  have HT:=dC.mk ht
  have HG:=dC.mk hg1
  have d0:=b0.cell
  have d1:=b1.cell
  have d2:=b2.cell
  have e0:=b0.frozen
  have HK:=dC.mk hK
  have HX:=dC.mk (And.intro b0 (And.intro b1 hB))
  have HD:=dC.mk hD
  have HB2:=dC.mk b2
  have HR2:=dC.mk hrow2
  clear ho ht hg1 b0 b1 b2 hB hK hrow hrow2 hD hS h1 hn Di
  cases t with
  | true =>
   rw [if_pos rfl] at h
   simp only [Option.some.injEq,Prod.mk.injEq] at h
   obtain ⟨h2,rfl⟩:=h
   subst h2
   go_wp2_with (go_at_call 53;refine (lM.right HT.out HQP.out HQT.out HCP.out HGL.out HCS.out).mono ?_;rintro e w9 ⟨rfl,hb⟩;have c0:Boxed w9 _ _ _:=(hb.block _ HX.out.1.lt).trans HX.out.1;have c1:Boxed w9 _ _ _:=(hb.block _ HX.out.2.1.lt).trans HX.out.2.1;have c2:Boxed w9 _ _ _:=(hb.block _ HB2.out.lt).trans HB2.out;have d0:=c0.cell;have d1:=c1.cell;have d2:=c2.cell;have e0:=c0.frozen;have e1:=(c1.other (by omega) (.slice (some ⟨g,0,none⟩) arcs.length cap):Boxed (w9.setCell ⟨w.heap.size,0,none⟩ _) _ _ _).frozen;have HC:=dC.mk (And.intro c0 (And.intro c1 hb));clear c0 c1 c2 hb)
   obtain ⟨c0,c1,hb⟩:=HC.out
   obtain ⟨W2,hW2⟩:∃ W2,((w9.setCell ⟨w.heap.size,0,none⟩ (.slice (some ⟨g,0,none⟩) arcs.length cap)).setCell ⟨w.heap.size+1,0,none⟩ (.bool true))=W2:=⟨_,rfl⟩
   have hd:w.heap.size+6≤D:=by have:=HD.out;omega
   have hk2:W2.heap[D]? = some (.deferred (some [])):=by
    rw [← hW2,setCell_at _ _ _ _ (by omega),setCell_at _ _ _ _ (by omega)]
    exact (hb.block D (Array.getElem?_eq_some_iff.1 HK.out).1).trans HK.out
   have f0:Boxed W2 w.heap.size 41 (.slice (some ⟨g,0,none⟩) arcs.length cap):=by rw [← hW2];exact (c0.set _).other (by omega) _
   have f1:Boxed W2 (w.heap.size+1) 4 (.bool true):=by rw [← hW2];exact (c1.other (by omega) _).set _
   have hB2:Below w.heap.size w W2:=by rw [← hW2];exact ((HX.out.2.2.trans (hb.mono HX.out.2.2.size)).setCell (p:=⟨w.heap.size,0,none⟩) (Nat.le_refl _) _).setCell (p:=⟨w.heap.size+1,0,none⟩) (by simp) _
   have fr:W2.ownsRow (w.heap.size+6) 3 1 (.slice (some ⟨g,0,none⟩) arcs.length cap) arcs.length (arcs.map (Value.int .i64)):=by
    rw [← hW2]
    have q0:=HR2.out.kept (Ux hb none) (Uh HR2.out)
    have q1:=q0.kept (grownBy_setCell' w9 w.heap.size (.slice (some ⟨g,0,none⟩) arcs.length cap)) (.inr (vS q0 (by omega)))
    exact q1.kept (grownBy_setCell' _ (w.heap.size+1) (.bool true)) (.inr (vS q1 (by omega)))
   rw [hW2]
   clear hW2
   have hr:=fun r (e:some D=some r)=>(by cases e;exact ⟨_,hk2,rfl⟩:∃ o:Obj,W2.heap[r]? = some o∧o.isCells=false)
   refine ⟨by simp,.inl ⟨_,_,rfl,run_takeDeferred hk2,?_⟩⟩
   exact ⟨_,GD _ _ rfl rfl (nE f0 (grownBy_putObj' W2 D _) hr).cell (nE f1 (grownBy_putObj' W2 D _) hr).cell,_,rfl,lM.lower (ownsRow_putObj fr _ hk2 rfl) (Nat.le_add_right _ 6),hB2.grown (grownBy_putObj' W2 D _) hB2.size (fun j e=>by cases e;omega)⟩
  | false =>
   rw [if_neg (by decide)] at h
   cases h
   go_wp2_with (go_at_call 53;refine (lM.right HT.out HQP.out HQT.out HCP.out HGL.out HCS.out).mono ?_;rintro e w9 ⟨rfl,hb⟩;have c0:Boxed w9 _ _ _:=(hb.block _ HX.out.1.lt).trans HX.out.1;have c1:Boxed w9 _ _ _:=(hb.block _ HX.out.2.1.lt).trans HX.out.2.1;have c2:Boxed w9 _ _ _:=(hb.block _ HB2.out.lt).trans HB2.out;have d0:=c0.cell;have d1:=c1.cell;have d2:=c2.cell;have e0:=c0.frozen;have e1:=(c1.other (by omega) (.slice none 0 0):Boxed (w9.setCell ⟨w.heap.size,0,none⟩ _) _ _ _).frozen;have HC:=dC.mk (And.intro c0 (And.intro c1 hb));clear c0 c1 c2 hb)
   obtain ⟨c0,c1,hb⟩:=HC.out
   obtain ⟨W2,hW2⟩:∃ W2,((w9.setCell ⟨w.heap.size,0,none⟩ (.slice none 0 0)).setCell ⟨w.heap.size+1,0,none⟩ (.bool false))=W2:=⟨_,rfl⟩
   have hd:w.heap.size+6≤D:=by have:=HD.out;omega
   have hk2:W2.heap[D]? = some (.deferred (some [])):=by
    rw [← hW2,setCell_at _ _ _ _ (by omega),setCell_at _ _ _ _ (by omega)]
    exact (hb.block D (Array.getElem?_eq_some_iff.1 HK.out).1).trans HK.out
   have f0:Boxed W2 w.heap.size 41 (.slice none 0 0):=by rw [← hW2];exact (c0.set _).other (by omega) _
   have f1:Boxed W2 (w.heap.size+1) 4 (.bool false):=by rw [← hW2];exact (c1.other (by omega) _).set _
   have hB2:Below w.heap.size w W2:=by rw [← hW2];exact ((HX.out.2.2.trans (hb.mono HX.out.2.2.size)).setCell (p:=⟨w.heap.size,0,none⟩) (Nat.le_refl _) _).setCell (p:=⟨w.heap.size+1,0,none⟩) (by simp) _
   rw [hW2]
   clear hW2
   have hr:=fun r (e:some D=some r)=>(by cases e;exact ⟨_,hk2,rfl⟩:∃ o:Obj,W2.heap[r]? = some o∧o.isCells=false)
   refine ⟨by simp,.inl ⟨_,_,rfl,run_takeDeferred hk2,?_⟩⟩
   exact ⟨_,GD _ _ rfl rfl (nE f0 (grownBy_putObj' W2 D _) hr).cell (nE f1 (grownBy_putObj' W2 D _) hr).cell,_,rfl,World.ownsRow_nil _ _ _ _,hB2.grown (grownBy_putObj' W2 D _) hB2.size (fun j e=>by cases e;omega)⟩
theorem lM.au {k:Nat} {a0:ByteArray} {r:List Int × Bool} (H:lM.f k a0=some r):aQ Tryz.prog 74 [S a0] (.aD [.row (some 3) 1 (List.map I r.1),B r.2]):=by
 refine Vf Tryz.func74 rfl (by kernel_rfl) rfl fun p w hp ht=>(lM.calls k a0 r.1 r.2 p w hp ht H).mono ?_
 rintro e w' ⟨v,rfl,hr,hb⟩
 exact ⟨_,(v.ownBlock.toList++[])++([]++[]),rfl,hb,by simpa using aaL v,by simpa using abP hr,fun _=>.aD (vs:=[v,.bool r.2]) (.cons (aP.af8 (enc:=Value.int .i64) (fun x=>by simp [Value.oneCell']) hr) (.cons (A:=[]) (.lit _) .nil))⟩
end
def qW.f (k:Nat) (a0:Int):Option (List Int):=(jD.f a0).bind fun xm=>((lM.f k xm.2.1).bind fun Ey=>(some Ey.1))
theorem qW.au {k:Nat} {a0:Int} {r:(List Int)} (H:qW.f k a0=some r):aQ Tryz.prog 38 [I a0] (.row (some 3) 1 (List.map I r)):=by
 refine Cg Tryz.func38 rfl fun C hN hL=>?_
 unfold qW.f at H
 refine Sw<|Rg hN<|Sw ?_
 obtain ⟨xm,ajK,H⟩:=aC H
 obtain ⟨Ey,ajL,H⟩:=aC H
 refine Rh hN [.agg [S xm.1,S xm.2.1,S xm.2.2.1,I xm.2.2.2],.aD [.row (some 3) 1 (List.map I Ey.1),B Ey.2]] (.c2 (jD.au ajK).c (lM.au ajL).c)<|Sw<|Rg hN ?_
 cases H
 exact Rt dR
def qi.f (a0:Int) (a1:Int) (a2:ByteArray):Option (List af):=some ([(⟨a0,a1,false,a2,([]:List Int)⟩:af)]:List af)
theorem qi.au {a0:Int} {a1:Int} {a2:ByteArray} {r:(List af)} (H:qi.f a0 a1 a2=some r):aQ Tryz.prog 39 [I a0,I a1,S a2] (.row (some 55) 5 (List.map (v55 0) r)):=by
 refine Cg Tryz.func39 rfl fun C hN hL=>?_
 unfold qi.f at H
 refine Sw<|Rg hN<|Sw<|Rj hN [] (.c1 (Eb (o:=some 55) (sz:=5) (n:=[.agg [I a0,I a1,B false,S a2,.row none 1 (List.map I ([]:List Int))]]) (.c1 (.agg (.c5 (.refl _) (.refl _) (.refl _) (.refl _) (.jf 3 1 _)))))) [] [(11,.row (some 55) 5 (List.map (v55 0) ([(⟨a0,a1,false,a2,([]:List Int)⟩:af)]:List af)))] ?_
 cases H
 exact Rt dR
def Cw (n:Int):List Int:=[n / 72057594037927936 % 256,n / 281474976710656 % 256,n / 1099511627776 % 256,n / 4294967296 % 256,n / 16777216 % 256,n / 65536 % 256,n / 256 % 256,n % 256]
def iU.f (a0:Int) (a1:Int):Option ByteArray:=if a1 < 1 then some (⟨#[]⟩:ByteArray) else if a1 > 8 then some (⟨#[]⟩:ByteArray) else some (strOfNums ((Cw a0).drop (8 - a1.toNat)))
theorem iU.cells (w:World) (x0 x1 x2 x3 x4 x5 x6 x7:Int) (i:Nat) (hi:i < 8) :
 (w.alloc (.cells #[.int .u8 x0,.int .u8 x1,.int .u8 x2,.int .u8 x3,.int .u8 x4,.int .u8 x5,.int .u8 x6,.int .u8 x7] 164)).cell? ⟨w.heap.size,i,none⟩=some (.int .u8 ([x0,x1,x2,x3,x4,x5,x6,x7].getD i 0)):=by
 rw [World.cell?_alloc_new]
 match i,hi with
 | 0,_=>rfl
 | 1,_=>rfl
 | 2,_=>rfl
 | 3,_=>rfl
 | 4,_=>rfl
 | 5,_=>rfl
 | 6,_=>rfl
 | 7,_=>rfl
theorem iU.conv (w:World) (k:Nat) (hk:k < 8) (x0 x1 x2 x3 x4 x5 x6 x7:Int) :
 (convert 64 9 (.slice (some ⟨w.heap.size,k,none⟩) (8 - k) (8 - k))).run Tryz.prog (w.alloc (.cells #[.int .u8 x0,.int .u8 x1,.int .u8 x2,.int .u8 x3,.int .u8 x4,.int .u8 x5,.int .u8 x6,.int .u8 x7] 164))=.ok (.string (strOfNums ([x0,x1,x2,x3,x4,x5,x6,x7].drop k))) (w.alloc (.cells #[.int .u8 x0,.int .u8 x1,.int .u8 x2,.int .u8 x3,.int .u8 x4,.int .u8 x5,.int .u8 x6,.int .u8 x7] 164)):=by
 refine run_convert_bytes_arg _ 64 5 Tryz.underlying64 Tryz.underlying5 w.heap.size k (8 - k) (8 - k) _ (by simp) (fun i hi=>?_) 9 Tryz.underlying9
 have:=iU.cells w x0 x1 x2 x3 x4 x5 x6 x7 (k+i) (by omega)
 rw [this]
 simp [List.getD_eq_getElem?_getD]
set_option maxHeartbeats 8000000 in
set_option maxRecDepth 100000 in
theorem iU.calls (a0:Int) (a1:Int) (r:ByteArray) (w:World) (h:iU.f a0 a1=some r) :
 Calls Tryz.prog 75 #[.int .u64 a0,.int .i64 a1] w fun e w'=>e=.returned (.string r)∧Below w.heap.size w w':=by
 by_cases h1:a1 < 1
 ·have hr:r=(⟨#[]⟩:ByteArray):=by unfold iU.f at h;rw [if_pos h1] at h;exact (Option.some.inj h).symm
  subst hr
  clear h
  go_enter Tryz.func75,Tryz.ntmps75
  go_wp2
  go_ret
  exact ⟨rfl,Below.refl _ _⟩
 by_cases h2:8 < a1
 ·have hr:r=(⟨#[]⟩:ByteArray):=by unfold iU.f at h;rw [if_neg h1,if_pos h2] at h;exact (Option.some.inj h).symm
  subst hr
  clear h
  go_enter Tryz.func75,Tryz.ntmps75
  go_wp2
  go_ret
  exact ⟨rfl,Below.refl _ _⟩
 have hr:r=strOfNums ((Cw a0).drop (8 - a1.toNat)):=by unfold iU.f at h;rw [if_neg h1,if_neg (by omega)] at h;exact (Option.some.inj h).symm
 subst hr
 clear h
 rcases (by omega:a1=1∨a1=2∨a1=3∨a1=4∨a1=5∨a1=6∨a1=7∨a1=8) with rfl | rfl | rfl | rfl | rfl | rfl | rfl | rfl
 ·have hcv:=iU.conv w 7 (by omega)
  clear h1 h2
  go_enter Tryz.func75,Tryz.ntmps75
  go_wp2
  refine wp_loop_rounds 9 ?_
  repeat any_goals (rw [rounds_succ];go_wp2)
  go_ret
  exact ⟨rfl,by repeat (first | exact Below.refl _ _ | apply q9)⟩
 ·have hcv:=iU.conv w 6 (by omega)
  clear h1 h2
  go_enter Tryz.func75,Tryz.ntmps75
  go_wp2
  refine wp_loop_rounds 9 ?_
  repeat any_goals (rw [rounds_succ];go_wp2)
  go_ret
  exact ⟨rfl,by repeat (first | exact Below.refl _ _ | apply q9)⟩
 ·have hcv:=iU.conv w 5 (by omega)
  clear h1 h2
  go_enter Tryz.func75,Tryz.ntmps75
  go_wp2
  refine wp_loop_rounds 9 ?_
  repeat any_goals (rw [rounds_succ];go_wp2)
  go_ret
  exact ⟨rfl,by repeat (first | exact Below.refl _ _ | apply q9)⟩
 ·have hcv:=iU.conv w 4 (by omega)
  clear h1 h2
  go_enter Tryz.func75,Tryz.ntmps75
  go_wp2
  refine wp_loop_rounds 9 ?_
  repeat any_goals (rw [rounds_succ];go_wp2)
  go_ret
  exact ⟨rfl,by repeat (first | exact Below.refl _ _ | apply q9)⟩
 ·have hcv:=iU.conv w 3 (by omega)
  clear h1 h2
  go_enter Tryz.func75,Tryz.ntmps75
  go_wp2
  refine wp_loop_rounds 9 ?_
  repeat any_goals (rw [rounds_succ];go_wp2)
  go_ret
  exact ⟨rfl,by repeat (first | exact Below.refl _ _ | apply q9)⟩
 ·have hcv:=iU.conv w 2 (by omega)
  clear h1 h2
  go_enter Tryz.func75,Tryz.ntmps75
  go_wp2
  refine wp_loop_rounds 9 ?_
  repeat any_goals (rw [rounds_succ];go_wp2)
  go_ret
  exact ⟨rfl,by repeat (first | exact Below.refl _ _ | apply q9)⟩
 ·have hcv:=iU.conv w 1 (by omega)
  clear h1 h2
  go_enter Tryz.func75,Tryz.ntmps75
  go_wp2
  refine wp_loop_rounds 9 ?_
  repeat any_goals (rw [rounds_succ];go_wp2)
  go_ret
  exact ⟨rfl,by repeat (first | exact Below.refl _ _ | apply q9)⟩
 ·have hcv:=iU.conv w 0 (by omega)
  clear h1 h2
  go_enter Tryz.func75,Tryz.ntmps75
  go_wp2
  refine wp_loop_rounds 9 ?_
  repeat any_goals (rw [rounds_succ];go_wp2)
  go_ret
  exact ⟨rfl,by repeat (first | exact Below.refl _ _ | apply q9)⟩
theorem iU.au {a0:Int} {a1:Int} {r:ByteArray} (H:iU.f a0 a1=some r):aQ Tryz.prog 75 [K .u64 a0,I a1] (S r) :=
 uf Tryz.func75 rfl (by kernel_rfl) rfl fun p w ht=>iU.calls a0 a1 r w H
def lH.l0:Nat→ByteArray→Option (ByteArray)
 | 0,_=>none
 | k+1,x3=>if (x3.size:Int) > 1 then ((oD.f x3).bind fun Oc=>(if Oc=true then (some x3) else (if 1≤(x3.size:Int) then (lH.l0 k (x3.extract 1 x3.size)) else (none)))) else (some x3)
def lH.f (k:Nat) (a0:Int):Option (ByteArray):=(iU.f (IntKind.u64.wrap (a0)) 8).bind fun Ez=>(lH.l0 k Ez)
theorem lH.au {k:Nat} {a0:Int} {r:(ByteArray)} (H:lH.f k a0=some r):aQ Tryz.prog 40 [I a0] (S r):=by
 refine Cg Tryz.func40 rfl fun C hN hL=>?_
 unfold lH.f at H
 refine Sw<|Rg hN<|Sw ?_
 obtain ⟨Ez,ajM,H⟩:=aC H
 refine Rh hN [S Ez] (.c1 (iU.au ajM).c)<|Sw<|Bl<|Good.dN (fun k' st=>∃ (x3:ByteArray),k'≤k∧Wk C st ⟨[(3,.w (S x3))],[]⟩∧lH.l0 k' x3=some r) k ⟨Ez,Nat.le_refl _,Wo [(3,0)],H⟩ fun k=>⟨fun st h=>(by obtain ⟨_,_,_,H⟩:=h;cases H),?_⟩
 clear H
 rintro st ⟨x3,hk,W,H⟩
 refine W.good ?_
 rw [lH.l0] at H
 refine Sw<|Sw ?_
 rcases (aj H).symm with ⟨Od,H⟩ | ⟨Od,H⟩
 ·refine Rh hN [B false] (.c1 (df Od))<|Good.cond false (by kernel_rfl)<|Ex<|Sw<|Rg hN ?_
  cases H
  exact Rt dR
 obtain ⟨Oc,ajN,H⟩:=aC H
 refine Rh hN [B true,B Oc] (.c2 (dt Od) (oD.au ajN).c) ?_
 rcases aj H with ⟨Oe,H⟩ | ⟨Oe,H⟩
 ·refine Cf (fw Oe)<|Ex<|Sw<|Rg hN ?_
  cases H
  exact Rt dR
 refine Ct (eB (bf Oe))<|Sk<|Bl ?_
 obtain ⟨ajO,H⟩:=ax H
 exact Rh hN [] (.c2 (show (0:Int)≤1 by decide) ajO)<|⟨k,by omega,x3.extract 1 x3.size,by omega,Wo [(3,0)],H⟩
def vJ.f (l0:List Int):Option (List Int):=if ([]:List Int).length+l0.length < 17592186044416 then (some (([]:List Int)++l0)) else (none)
theorem vJ.au {l0:List Int} {r:(List Int)} (H:vJ.f l0=some r):aQ Tryz.prog 114 [.row none 1 (List.map I l0)] (.row (some 3) 1 (List.map I r)):=by
 refine Cg Tryz.func114 rfl fun C hN hL=>?_
 unfold vJ.f at H
 refine Sw<|Rg hN<|Sw<|Sw<|Good.af7 1 4 0 (List.map I l0) hN [] .nil (by kernel_rfl) (by kernel_rfl) (fun hes=>?_) ?_
 ·refine Good.cond true (by kernel_rfl)<|Sw<|Rg hN ?_
  obtain rfl:l0=[]:=List.map_eq_nil_iff.1 hes
  obtain ⟨_,H⟩:=ax H
  cases H
  exact Good.ret (jY (u:=.nil 3 1) (.iA 3 1) (by kernel_rfl))
 refine Good.cond false (by kernel_rfl)<|Sk<|Sw ?_
 obtain ⟨ajP,H⟩:=ax H
 refine Rh hN [.kb false,.row (some 3) 1 (List.map I (([]:List Int)++l0))] (.c2 (dY I ([]:List Int) l0 (.refl _)) (yR I I ajP)) ?_
 cases H
 exact Rt dR
def kD.l0:Nat→Int→Int→Int→Int→Int→Bool→ByteArray→List Int→Option (Int × Int × Bool × ByteArray × List Int)
 | 0,_,_,_,_,_,_,_,_=>none
 | k+1,x1,dO,bB,x1000,ah,aA,av,dQ=>if bB < dO then (if 0≤bB then (if bB < (dQ.length:Int) then (kD.l0 k x1 dO (wrap64 (bB+1)) x1000 ah aA av (dQ.set (bB:Int).toNat (wrap64 ((rd dQ bB)+x1)))) else (none)) else (none)) else (some (x1000,ah,aA,av,dQ))
def kD.f (k:Nat) (aJ:Int) (bN:Int) (dB:Bool) (cB:ByteArray) (iB:List Int) (a1:Int):Option (Int × Int × Bool × ByteArray × List Int):=(vJ.f iB).bind fun sD=>(kD.l0 k a1 (sD.length:Int) 0 aJ bN dB cB sD)
theorem kD.au {k:Nat} {aJ:Int} {bN:Int} {dB:Bool} {cB:ByteArray} {iB:List Int} {a1:Int} {r:(Int × Int × Bool × ByteArray × List Int)} (H:kD.f k aJ bN dB cB iB a1=some r):aQ Tryz.prog 77 [.agg [I aJ,I bN,B dB,S cB,.row none 1 (List.map I iB)],I a1] (.agg [I r.1,I r.2.1,B r.2.2.1,S r.2.2.2.1,.row (some 3) 1 (List.map I r.2.2.2.2)]):=by
 refine Cg Tryz.func77 rfl fun C hN hL=>?_
 unfold kD.f at H
 refine Sw<|Rg hN<|Sw ?_
 obtain ⟨sD,ajQ,H⟩:=aC H
 refine Rh hN [.row (some 3) 1 (List.map I sD)] (.c1 (vJ.au ajQ).c)<|Sw<|Sw<|Rh hN [I (sD.length:Int)] (.c1 (aT I sD))<|Bl<|Good.dN (fun k' st=>∃ (x1:Int) (dO:Int) (bB:Int) (x1000:Int) (ah:Int) (aA:Bool) (av:ByteArray) (dQ:List Int) (x2000:Int) (aB:Int) (aI:Bool) (aK:ByteArray),k'≤k∧Wk C st ⟨[(1,.w (I x1)),(2,.d (.ptr 0 0)),(4,.d (.ptr 1 0)),(12,.w (I dO)),(13,.w (I bB))],[.cells [.v (I x1000),.v (I ah),.v (B aA),.v (S av),.v (.row (some 3) 1 (List.map I dQ))],.cells [.v (I x2000),.v (I aB),.v (B aI),.v (S aK),.v (.nil 3 1)]]⟩∧kD.l0 k' x1 dO bB x1000 ah aA av dQ=some r) k ⟨a1,(sD.length:Int),0,aJ,bN,dB,cB,sD,0,0,false,(⟨#[]⟩:ByteArray),Nat.le_refl _,Wo [(1,0),(2,0),(4,0),(12,0),(13,0)],H⟩ fun k=>⟨fun st h=>(by obtain ⟨_,_,_,_,_,_,_,_,_,_,_,_,_,_,H⟩:=h;cases H),?_⟩
 clear H
 rintro st ⟨x1,dO,bB,x1000,ah,aA,av,dQ,x2000,aB,aI,aK,hk,W,H⟩
 refine W.good ?_
 rw [kD.l0] at H
 refine Sw<|Rg hN<|Sw ?_
 rcases (aj H).symm with ⟨Og,H⟩ | ⟨Og,H⟩
 ·refine Cf (df Og)<|Ex<|Sw<|Rg hN ?_
  cases H
  exact Rt dR
 refine Ct (dt Og)<|Sk<|Sw<|Bl<|Sw<|Rg hN ?_
 obtain ⟨EA,H⟩:=ax H
 obtain ⟨EB,H⟩:=ax H
 exact Rh hN [I (rd dQ bB),I (rd dQ bB),I (wrap64 ((rd dQ bB)+x1)),.row (some 3) 1 (List.map I (dQ.set (bB:Int).toNat (wrap64 ((rd dQ bB)+x1))))] (.c8 EA (gz I EB) (aF I (0:Int) EA EB) EA (gz I EB) (aF I (0:Int) EA EB) (Fit.refl (I (wrap64 ((rd dQ bB)+x1)))) (wX I (l:=dQ) (n:=(bB:Int).toNat) (x:=wrap64 ((rd dQ bB)+x1))))<|Rg hN<|⟨k,by omega,x1,dO,wrap64 (bB+1),x1000,ah,aA,av,(dQ.set (bB:Int).toNat (wrap64 ((rd dQ bB)+x1))),x2000,aB,aI,aK,by omega,Wo [(1,0),(2,0),(4,0),(12,0),(13,0)],H⟩
mutual
def fQ.l0:Nat→List af→List (List af)→Int→Int→Option (List af)
 | 0,_,_,_,_=>none
 | k+1,x7,bQ,bF,cO=>if cO < bF then (if 0≤cO then (if cO < (bQ.length:Int) then (if ((bz bQ cO).length:Int) > 0 then (if 0 < (x7.length:Int) then (if ((aa x7 0).f4).length < 17592186044416 then (fQ.j1 k (x7.set (0:Int).toNat (⟨(aa x7 0).f0,(aa x7 0).f1,(aa x7 0).f2,(aa x7 0).f3,(((aa x7 0).f4)++[(x7.length:Int)])⟩:af)) (bz bQ cO) (x7.length:Int) bQ bF cO) else (none)) else (none)) else (fQ.j1 k x7 (bz bQ cO) (x7.length:Int) bQ bF cO)) else (none)) else (none)) else (some x7)
def fQ.j1:Nat→List af→List af→Int→List (List af)→Int→Int→Option (List af)
 | 0,_,_,_,_,_,_=>none
 | k+1,x7,x9,bg,bQ,bF,cO=>fQ.l1 k x7 bg bQ bF cO x9 (x9.length:Int) 0
def fQ.l1:Nat→List af→Int→List (List af)→Int→Int→List af→Int→Int→Option (List af)
 | 0,_,_,_,_,_,_,_,_=>none
 | k+1,x7,bg,bQ,bF,cO,x38,x39,x40=>if x40 < x39 then (if 0≤x40 then (if x40 < (x38.length:Int) then ((kD.f k ((aa x38 x40).f0) ((aa x38 x40).f1) ((aa x38 x40).f2) ((aa x38 x40).f3) ((aa x38 x40).f4) bg).bind fun iC=>(if x7.length < 2199023255552 then (fQ.l1 k (x7++[(⟨iC.1,iC.2.1,iC.2.2.1,iC.2.2.2.1,iC.2.2.2.2⟩:af)]) bg bQ bF cO x38 x39 (wrap64 (x40+1))) else (none))) else (none)) else (none)) else (fQ.l0 k x7 bQ bF (wrap64 (cO+1)))
end
def fQ.f (k:Nat) (a0:Int) (a1:Int) (l2:List (List af)):Option (List af):=fQ.l0 k ([(⟨a0,a1,true,(⟨#[]⟩:ByteArray),([]:List Int)⟩:af)]:List af) l2 (l2.length:Int) 0
theorem fQ.au {k:Nat} {a0:Int} {a1:Int} {l2:List (List af)} {r:(List af)} (H:fQ.f k a0 a1 l2=some r):aQ Tryz.prog 41 [I a0,I a1,.row none 1 (List.map (dw 0) l2)] (.row (some 55) 5 (List.map (v55 1) r)):=by
 refine Cg Tryz.func41 rfl fun C hN hL=>?_
 unfold fQ.f at H
 refine Sw<|Rg hN<|Sw<|Rj hN [] (.c1 (Eb (o:=some 55) (sz:=5) (n:=[.agg [I a0,I a1,B true,S (⟨#[]⟩:ByteArray),.row (some 3) 1 (List.map I ([]:List Int))]]) (.c1 (.agg (.c5 (.refl _) (.refl _) (.refl _) (.refl _) (.iA 3 1)))))) [] [(16,.row (some 55) 5 (List.map (v55 1) ([(⟨a0,a1,true,(⟨#[]⟩:ByteArray),([]:List Int)⟩:af)]:List af)))]<|Sw<|Sw<|Rh hN [I (l2.length:Int)] (.c1 (aT (dw 0) l2))<|Bl<|Good.dN (fun k' st=>∃ (x7:List af) (bQ:List (List af)) (bF:Int) (cO:Int),k'≤k∧Wk C st ⟨[(7,.w (.row (some 55) 5 (List.map (v55 1) x7))),(17,.w (.row none 1 (List.map (dw 0) bQ))),(18,.w (I bF)),(19,.w (I cO))],[]⟩∧fQ.l0 k' x7 bQ bF cO=some r) k ⟨([(⟨a0,a1,true,(⟨#[]⟩:ByteArray),([]:List Int)⟩:af)]:List af),l2,(l2.length:Int),0,Nat.le_refl _,Wo [(7,0),(17,0),(18,0),(19,0)],H⟩ fun k=>⟨fun st h=>(by obtain ⟨_,_,_,_,_,_,H⟩:=h;cases H),?_⟩
 clear H
 rintro st ⟨x7,bQ,bF,cO,hk,W,H⟩
 refine W.good ?_
 rw [fQ.l0] at H
 refine Sw<|Rg hN<|Sw ?_
 rcases (aj H).symm with ⟨Oh,H⟩ | ⟨Oh,H⟩
 ·refine Cf (df Oh)<|Ex<|Sw<|Rg hN ?_
  cases H
  exact Rt dR
 refine Ct (dt Oh)<|Sk<|Sw<|Bl<|Sw ?_
 obtain ⟨Y5,H⟩:=ax H
 obtain ⟨ajR,H⟩:=ax H
 refine Rh hN [(dw 0) (bz bQ cO)] (.c2 Y5 (aF (dw 0) ([]:List af) Y5 ajR))<|Sw<|Rh hN [I (x7.length:Int)] (.c1 (aT (v55 1) x7))<|Sw<|Sw<|Rh hN [I ((bz bQ cO).length:Int)] (.c1 (aT (v55 0) (bz bQ cO)))<|Good.cut (fun st=>∃ n':Nat,n'≤k∧∃ (x7:List af) (x9:List af) (bg:Int) (bQ:List (List af)) (bF:Int) (cO:Int),Wk C st ⟨[(7,.w (.row (some 55) 5 (List.map (v55 1) x7))),(9,.w (.row none 5 (List.map (v55 0) x9))),(10,.w (I bg)),(17,.w (.row none 1 (List.map (dw 0) bQ))),(18,.w (I bF)),(19,.w (I cO))],[]⟩∧fQ.j1 n' x7 x9 bg bQ bF cO=some r) ?_ ?_
 ·rcases (aj H).symm with ⟨Oi,H⟩ | ⟨Oi,H⟩
  ·exact Cf (df Oi)<|Sk<|⟨k,by omega,x7,bz bQ cO,(x7.length:Int),bQ,bF,cO,Wo [(7,0),(9,0),(10,0),(17,0),(18,0),(19,0)],H⟩
  refine Ct (dt Oi) ?_
  obtain ⟨Aq,H⟩:=ax H
  obtain ⟨ajS,H⟩:=ax H
  exact Rh hN [(v55 1) (aa x7 0),.kb true,(v55 1) (aa x7 0),.row (some 3) 1 (List.map I (((aa x7 0).f4)++[(x7.length:Int)])),dU ((v55 1) (aa x7 0)) 4 [.any],(v55 1) (⟨(aa x7 0).f0,(aa x7 0).f1,(aa x7 0).f2,(aa x7 0).f3,(((aa x7 0).f4)++[(x7.length:Int)])⟩:af),.row (some 55) 5 (List.map (v55 1) (x7.set (0:Int).toNat (⟨(aa x7 0).f0,(aa x7 0).f1,(aa x7 0).f2,(aa x7 0).f3,(((aa x7 0).f4)++[(x7.length:Int)])⟩:af)))] (.cons (show (0:Int)≤0 by decide) (.cons (gz (v55 1) Aq) (.cons (aF (v55 1) z55 (show (0:Int)≤0 by decide) Aq) (.c8 (aF (v55 1) z55 (show (0:Int)≤0 by decide) Aq) (dY I ((aa x7 0).f4) [(x7.length:Int)] (.refl _)) (eZ I ajS) (show (0:Int)≤0 by decide) (sU (v55 1) (m:=(0:Int).toNat) (X:=dU ((v55 1) (aa x7 0)) 4 [.any]) Aq) (sW (v55 1) (X:=dU ((v55 1) (aa x7 0)) 4 [.any]) (show (0:Int)≤0 by decide) Aq) (Fit.refl ((v55 1) (⟨(aa x7 0).f0,(aa x7 0).f1,(aa x7 0).f2,(aa x7 0).f3,(((aa x7 0).f4)++[(x7.length:Int)])⟩:af))) (setH (v55 1) (l:=x7) (n:=(0:Int).toNat) (x:=(⟨(aa x7 0).f0,(aa x7 0).f1,(aa x7 0).f2,(aa x7 0).f3,(((aa x7 0).f4)++[(x7.length:Int)])⟩:af)) (X:=dU ((v55 1) (aa x7 0)) 4 [.any]))))))<|⟨k,by omega,(x7.set (0:Int).toNat (⟨(aa x7 0).f0,(aa x7 0).f1,(aa x7 0).f2,(aa x7 0).f3,(((aa x7 0).f4)++[(x7.length:Int)])⟩:af)),bz bQ cO,(x7.length:Int),bQ,bF,cO,Wo [(7,0),(9,0),(10,0),(17,0),(18,0),(19,0)],H⟩
 clear H
 rintro st ⟨n',hn',x7,x9,bg,bQ,bF,cO,W,H⟩
 rcases n' with _ | k
 ·cases H
 refine W.good ?_
 rw [fQ.j1] at H
 refine Sw<|Rh hN [I (x9.length:Int)] (.c1 (aT (v55 0) x9))<|Bl<|Good.dN (fun k' st=>∃ (x7:List af) (bg:Int) (bQ:List (List af)) (bF:Int) (cO:Int) (x38:List af) (x39:Int) (x40:Int),k'≤k∧Wk C st ⟨[(7,.w (.row (some 55) 5 (List.map (v55 1) x7))),(10,.w (I bg)),(17,.w (.row none 1 (List.map (dw 0) bQ))),(18,.w (I bF)),(19,.w (I cO)),(38,.w (.row none 5 (List.map (v55 0) x38))),(39,.w (I x39)),(40,.w (I x40))],[]⟩∧fQ.l1 k' x7 bg bQ bF cO x38 x39 x40=some r) k ⟨x7,bg,bQ,bF,cO,x9,(x9.length:Int),0,Nat.le_refl _,Wo [(7,0),(10,0),(17,0),(18,0),(19,0),(38,0),(39,0),(40,0)],H⟩ fun k=>⟨fun st h=>(by obtain ⟨_,_,_,_,_,_,_,_,_,_,H⟩:=h;cases H),?_⟩
 clear H
 rintro st ⟨x7,bg,bQ,bF,cO,x38,x39,x40,hk,W,H⟩
 refine W.good ?_
 rw [fQ.l1] at H
 refine Sw<|Rg hN<|Sw ?_
 rcases (aj H).symm with ⟨Oj,H⟩ | ⟨Oj,H⟩
 ·exact Cf (df Oj)<|Ex<|Rg hN<|⟨k,by omega,x7,bQ,bF,wrap64 (cO+1),by omega,Wo [(7,0),(17,0),(18,0),(19,0)],H⟩
 refine Ct (dt Oj)<|Sk<|Sw<|Bl<|Sw ?_
 obtain ⟨Y6,H⟩:=ax H
 obtain ⟨ajT,H⟩:=ax H
 refine Rh hN [(v55 0) (aa x38 x40)] (.c2 Y6 (aF (v55 0) z55 Y6 ajT)) ?_
 obtain ⟨iC,ajU,H⟩:=aC H
 obtain ⟨ajV,H⟩:=ax H
 exact Rh hN [.agg [I iC.1,I iC.2.1,B iC.2.2.1,S iC.2.2.2.1,.row (some 3) 1 (List.map I iC.2.2.2.2)],.aD [],.kb true,.row (some 55) 5 (List.map (v55 1) (x7++[(⟨iC.1,iC.2.1,iC.2.2.1,iC.2.2.2.1,iC.2.2.2.2⟩:af)]))] (.c3 (kD.au ajU).c (dY (v55 1) x7 [(⟨iC.1,iC.2.1,iC.2.2.1,iC.2.2.2.1,iC.2.2.2.2⟩:af)] (.refl _)) (eZ (v55 1) ajV))<|Rg hN<|⟨k,by omega,(x7++[(⟨iC.1,iC.2.1,iC.2.2.1,iC.2.2.2.1,iC.2.2.2.2⟩:af)]),bg,bQ,bF,cO,x38,x39,wrap64 (x40+1),by omega,Wk.oV hL 0 [(7,0),(10,0),(17,0),(18,0),(19,0),(38,0),(39,0),(40,0)] (by kernel_rfl) (by kernel_rfl) (by kernel_rfl),H⟩
def qj.f (k:Nat) (a0:Int) (a1:ByteArray):Option (List af × List af × List af):=(qW.f k a0).bind fun Ar=>((lJ.f k Ar).bind fun EC=>((lH.f k 1).bind fun Ol=>((qi.f 0 2 Ol).bind fun Au=>((qi.f 0 4 a1).bind fun Av=>((qi.f 0 6 EC.1).bind fun uW=>((fQ.f k 2 0 ([uW]:List (List af))).bind fun Aw=>(some (Au,Av,Aw))))))))
theorem qj.au {k:Nat} {a0:Int} {a1:ByteArray} {r:(List af × List af × List af)} (H:qj.f k a0 a1=some r):aQ Tryz.prog 14 [I a0,S a1] (.agg [.row none 5 (List.map (v55 0) r.1),.row none 5 (List.map (v55 0) r.2.1),.row none 5 (List.map (v55 0) r.2.2)]):=by
 refine Cg Tryz.func14 rfl fun C hN hL=>?_
 unfold qj.f at H
 refine Sw<|Rg hN<|Sw ?_
 obtain ⟨Ar,ajW,H⟩:=aC H
 obtain ⟨EC,ajX,H⟩:=aC H
 refine Rh hN [.row (some 3) 1 (List.map I Ar),.row none 1 (List.map I Ar),.aD [S EC.1,B EC.2]] (.c3 (qW.au ajW).c (aS (some 3) 1 I I Ar (fun _=>rfl)) (lJ.au ajX).c)<|Sw ?_
 obtain ⟨Ol,ajY,H⟩:=aC H
 obtain ⟨Au,ajZ,H⟩:=aC H
 obtain ⟨Av,aj0,H⟩:=aC H
 obtain ⟨uW,aj1,H⟩:=aC H
 obtain ⟨Aw,aj2,H⟩:=aC H
 refine Rh hN [S Ol,.row (some 55) 5 (List.map (v55 0) Au),.row (some 55) 5 (List.map (v55 0) Av),.row (some 55) 5 (List.map (v55 0) uW),.row none 5 (List.map (v55 0) uW),.row none 1 (List.map (dw 0) ([uW]:List (List af))),.row (some 55) 5 (List.map (v55 1) Aw),.row none 5 (List.map (v55 0) Au),.row none 5 (List.map (v55 0) Av),.row none 5 (List.map (v55 0) Aw)] (.cons (lH.au ajY).c (.cons (qi.au ajZ).c (.c8 (qi.au aj0).c (qi.au aj1).c (aS (some 55) 5 (v55 0) (v55 0) uW (v55.shr _)) (aS (some 33) 1 (dw 0) (dw 0) ([uW]:List (List af)) (dw.shr _)) (fQ.au aj2).c (aS (some 55) 5 (v55 0) (v55 0) Au (v55.shr _)) (aS (some 55) 5 (v55 0) (v55 0) Av (v55.shr _)) (aS (some 55) 5 (v55 1) (v55 0) Aw (v55.shr _))))) ?_
 cases H
 exact Rt dR
def qc.f (k:Nat) (xq:List af) (az:List af) (aY:List af):Option (List af):=(fQ.f k 0 16 ([xq,az,aY]:List (List af))).bind fun Om=>(some Om)
theorem qc.au {k:Nat} {xq:List af} {az:List af} {aY:List af} {r:(List af)} (H:qc.f k xq az aY=some r):aQ Tryz.prog 15 [.agg [.row none 5 (List.map (v55 0) xq),.row none 5 (List.map (v55 0) az),.row none 5 (List.map (v55 0) aY)]] (.row (some 55) 5 (List.map (v55 1) r)):=by
 refine Cg Tryz.func15 rfl fun C hN hL=>?_
 unfold qc.f at H
 refine Sw<|Rg hN<|Sw ?_
 obtain ⟨Om,aj3,H⟩:=aC H
 refine Rh hN [.row none 1 (List.map (dw 0) ([xq,az,aY]:List (List af))),.row (some 55) 5 (List.map (v55 1) Om)] (.c2 (aS (some 33) 1 (dw 0) (dw 0) ([xq,az,aY]:List (List af)) (dw.shr _)) (fQ.au aj3).c) ?_
 cases H
 exact Rt dR
def pE.f (k:Nat) (a0:Int) (a1:ByteArray):Option (ByteArray × Int):=(qw.f k a0 a1).bind fun ED=>(if ED=0 then ((qj.f k a0 a1).bind fun uX=>((qc.f k uX.1 uX.2.1 uX.2.2).bind fun Ay=>((jb.f k Ay).bind fun Az=>(some (Az.1,Az.2))))) else (some ((⟨#[]⟩:ByteArray),ED)))
theorem pE.au {k:Nat} {a0:Int} {a1:ByteArray} {r:(ByteArray × Int)} (H:pE.f k a0 a1=some r):aQ Tryz.prog 6 [I a0,S a1] (.aD [S r.1,I r.2]):=by
 refine Cg Tryz.func6 rfl fun C hN hL=>?_
 unfold pE.f at H
 refine Sw<|Rg hN<|Sw<|Sw ?_
 obtain ⟨ED,aj4,H⟩:=aC H
 refine Rh hN [I ED] (.c1 (qw.au aj4).c)<|Sw<|Rg hN ?_
 rcases (aj H).symm with ⟨Oo,H⟩ | ⟨Oo,H⟩
 ·refine Ct (nq Oo)<|Sw<|Rg hN ?_
  cases H
  exact Rt dR
 refine Cf (bM Oo)<|Sk<|Sw ?_
 obtain ⟨uX,aj5,H⟩:=aC H
 obtain ⟨Ay,aj6,H⟩:=aC H
 obtain ⟨Az,aj7,H⟩:=aC H
 refine Rh hN [.agg [.row none 5 (List.map (v55 0) uX.1),.row none 5 (List.map (v55 0) uX.2.1),.row none 5 (List.map (v55 0) uX.2.2)],.row (some 55) 5 (List.map (v55 1) Ay),.row none 5 (List.map (v55 0) Ay),.aD [S Az.1,I Az.2]] (.c4 (qj.au aj5).c (qc.au aj6).c (aS (some 55) 5 (v55 1) (v55 0) Ay (v55.shr _)) (jb.au aj7).c) ?_
 cases H
 exact Rt dR
def nG.f (a0:Nat):Option (Bool):=if (xM a0 0)=true then (if (xL a0 4679241112349573120)=true then (if uR a0=true then (some (mI a0 (floatOfInt .f64 (fint a0)))) else (none)) else (some false)) else (some false)
theorem nG.au {a0:Nat} {r:(Bool)} (H:nG.f a0=some r):aQ Tryz.prog 161 [Fl a0] (B r):=by
 refine Cg Tryz.func161 rfl fun C hN hL=>?_
 unfold nG.f at H
 refine Sw<|Rg hN<|Sw ?_
 rcases (aj H).symm with ⟨EE,H⟩ | ⟨EE,H⟩
 ·refine Rh hN [B false,B false] (.c2 (bf EE) (rfl:false=false)) ?_
  cases H
  exact Rt dR
 rcases (aj H).symm with ⟨Oq,H⟩ | ⟨Oq,H⟩
 ·refine Rh hN [B true,B false] (.c2 EE (bf Oq)) ?_
  cases H
  exact Rt dR
 obtain ⟨aj8,H⟩:=ax H
 refine Rh hN [B true,B true] (.c3 EE Oq aj8) ?_
 cases H
 exact Rt dR
def uh.f (a0:(Nat × Nat)):Option (Bool):=(nG.f a0.1).bind fun AA=>(if AA=true then ((nG.f a0.2).bind fun EF=>(if EF=true then (some (xL a0.1 a0.2)) else (some false))) else (some false))
theorem uh.au {a0:(Nat × Nat)} {r:(Bool)} (H:uh.f a0=some r):aQ Tryz.prog 141 [Cx a0] (B r):=by
 refine Cg Tryz.func141 rfl fun C hN hL=>?_
 unfold uh.f at H
 refine Sw<|Rg hN<|Sw ?_
 obtain ⟨AA,Ot,H⟩:=aC H
 rcases (aj H).symm with ⟨EG,H⟩ | ⟨EG,H⟩
 ·refine Rh hN [B AA,B false,B false] (.c3 (nG.au Ot).c (bf EG) (rfl:false=false)) ?_
  cases H
  exact Rt dR
 obtain ⟨EF,Y7,H⟩:=aC H
 rcases aj H with ⟨Ou,H⟩ | ⟨Ou,H⟩
 ·refine Rh hN [B AA,B true,B EF,B true] (.c4 (nG.au Ot).c EG (nG.au Y7).c Ou) ?_
  cases H
  exact Rt dR
 refine Rh hN [B AA,B true,B EF,B false] (.c4 (nG.au Ot).c EG (nG.au Y7).c (bf Ou)) ?_
 cases H
 exact Rt dR
def ql.f (a0:(Nat × Nat)):Option ((Nat × Nat)):=(uh.f a0).bind fun Ov=>(if Ov=true then (if sQ a0.1 0=true then (if sQ a0.2 0=true then (some (nW a0.1 0,nW a0.2 0)) else (none)) else (none)) else (some (0,0)))
theorem ql.au {a0:(Nat × Nat)} {r:((Nat × Nat))} (H:ql.f a0=some r):aQ Tryz.prog 122 [Cx a0] (Cx r):=by
 refine Cg Tryz.func122 rfl fun C hN hL=>?_
 unfold ql.f at H
 refine Sw<|Rg hN<|Sw<|Sw ?_
 obtain ⟨Ov,aj9,H⟩:=aC H
 refine Rh hN [B Ov] (.c1 (uh.au aj9).c) ?_
 rcases (aj H).symm with ⟨Ow,H⟩ | ⟨Ow,H⟩
 ·refine Cf (bf Ow)<|Sk<|Sw<|Rg hN ?_
  cases H
  exact Rt dR
 refine Ct Ow<|Sw ?_
 obtain ⟨aka,H⟩:=ax H
 obtain ⟨akb,H⟩:=ax H
 refine Rh hN [] (.c2 aka akb) ?_
 cases H
 exact Rt dR
def uo.f (a0:(Nat × Nat)):Option (Int):=(ql.f a0).bind fun EH=>(if uR EH.2=true then (some (fint EH.2)) else (none))
theorem uo.au {a0:(Nat × Nat)} {r:(Int)} (H:uo.f a0=some r):aQ Tryz.prog 120 [Cx a0] (I r):=by
 refine Cg Tryz.func120 rfl fun C hN hL=>?_
 unfold uo.f at H
 refine Sw<|Rg hN<|Sw ?_
 obtain ⟨EH,akc,H⟩:=aC H
 obtain ⟨akd,H⟩:=ax H
 refine Rh hN [Cx EH] (.c2 (ql.au akc).c akd) ?_
 cases H
 exact Rt dR
def ou.f (aJ:ByteArray) (az:List af) (aY:List (Nat × Nat)) (ai:List Int):Option (Int):=if (ai.length:Int)=0 then (some (aJ.size:Int)) else (if 0≤(wrap64 ((ai.length:Int) - 1)) then (if (wrap64 ((ai.length:Int) - 1)) < (ai.length:Int) then (if 0≤(rd ai (wrap64 ((ai.length:Int) - 1))) then (if (rd ai (wrap64 ((ai.length:Int) - 1))) < (aY.length:Int) then ((uo.f (iH ((0,0):Nat × Nat) aY (rd ai (wrap64 ((ai.length:Int) - 1))))).bind fun Ox=>(some Ox)) else (none)) else (none)) else (none)) else (none))
theorem ou.au {aJ:ByteArray} {az:List af} {aY:List (Nat × Nat)} {ai:List Int} {r:(Int)} (H:ou.f aJ az aY ai=some r):lY Tryz.prog 81 [.ptr 0 0] [[S aJ,.row (some 55) 5 (List.map (v55 1) az),.row (some 67) 1 (List.map Cx aY),.row (some 3) 1 (List.map I ai)]] (.v (I r)) [[S aJ,.row (some 55) 5 (List.map (v55 1) az),.row (some 67) 1 (List.map Cx aY),.row (some 3) 1 (List.map I ai)]]:=by
 refine vM Tryz.func81 rfl (by kernel_rfl) (by kernel_rfl) fun C hN hL=>?_
 unfold ou.f at H
 refine Sw<|Rg hN<|Sw<|Sw<|Rh hN [I (ai.length:Int)] (.c1 (aT I ai)) ?_
 rcases aj H with ⟨Oy,H⟩ | ⟨Oy,H⟩
 ·refine Ct (bq Oy)<|Sw<|Rg hN ?_
  cases H
  exact Good.ret (gT (.refl _) (cz.refl _) (by kernel_rfl) rfl)
 refine Cf (bn Oy)<|Sk<|Sw ?_
 obtain ⟨EI,H⟩:=ax H
 obtain ⟨Oz,H⟩:=ax H
 obtain ⟨EJ,H⟩:=ax H
 obtain ⟨OA,H⟩:=ax H
 obtain ⟨Ox,ake,H⟩:=aC H
 refine Rd hm hN (.qs 18 0 (.e 18 (.q 19 [] .z))) [(0,some (.pt [S aJ,.row none 5 (List.map (v55 0) az),.row none 1 (List.map Cx aY),.row none 1 (List.map I ai)]))] (.c1 (bJ (ay (rfl:(V.shr (S aJ))=S aJ) (ay (aS (some 55) 5 (v55 1) (v55 0) az (v55.shr _)) (ay (aS (some 67) 1 Cx Cx aY (fun _=>rfl)) (ay (aS (some 3) 1 I I ai (fun _=>rfl)) (rfl:aX []=[]))))))) [I (ai.length:Int),I (rd ai (wrap64 ((ai.length:Int) - 1))),Cx (iH ((0,0):Nat × Nat) aY (rd ai (wrap64 ((ai.length:Int) - 1)))),I Ox] [I (ai.length:Int),I (rd ai (wrap64 ((ai.length:Int) - 1))),Cx (iH ((0,0):Nat × Nat) aY (rd ai (wrap64 ((ai.length:Int) - 1))))] (.c8 (aT I ai) EI (gz I Oz) (aF I (0:Int) EI Oz) EJ (gz Cx OA) (aF Cx ((0,0):Nat × Nat) EJ OA) (uo.au ake).c) (.c5 (aT I ai) EI (aF I (0:Int) EI Oz) EJ (aF Cx ((0,0):Nat × Nat) EJ OA)) [] [] ?_
 cases H
 exact Good.ret (gT (.refl _) (cz.refl _) (by kernel_rfl) rfl)
def bA.l0:Nat→ByteArray→Int→Int→Int→Int→Int→Int→Int→Bool→Int→Option (Int × Int × Bool × Int × Int × Int)
 | 0,_,_,_,_,_,_,_,_,_,_=>none
 | k+1,x0,x6,x7,x8,x107,kN,x2000,aB,aI,aK=>if kN < x107 then (if 0≤x6 then (if x6 < (x0.size:Int) then (bA.l0 k x0 (wrap64 (x6+1)) x7 x8 x107 (wrap64 (kN+1)) x2000 aB aI (Go.bits .or .i64 (wrap64 (aK*256)) (wrap64 (bt x0 x6)))) else (none)) else (none)) else (if 0≤(wrap64 ((wrap64 (8*x7)) - 8)) then (if aK≥(shl .i64 1 (wrap64 ((wrap64 (8*x7)) - 8))) then (if aK≥128 then (some (x2000,aB,aI,aK,x6,0)) else (some (0,0,false,0,0,x8))) else (some (0,0,false,0,0,x8))) else (none))
def bA.fH:Nat→Int→Option (Int × Int × Bool × Int × Int × Int)
 | 0,_=>none
 | k+1,x8=>some (0,0,false,0,0,x8)
def bA.j1:Nat→ByteArray→Int→Int→Bool→Int→Int→Bool→Int→Option (Int × Int × Bool × Int × Int × Int)
 | 0,_,_,_,_,_,_,_,_=>none
 | k+1,x0,x6,x8,ja,x2000,aB,aI,aK=>if ja=true then (bA.fH k x8) else (if 0≤x6 then (if x6 < (x0.size:Int) then (if (bt x0 x6) > 130 then (bA.fH k 4) else (if (bt x0 x6) < 128 then (some (x2000,aB,aI,wrap64 (bt x0 x6),wrap64 (x6+1),0)) else (if (wrap64 ((wrap64 (x6+1))+(wrap64 (Go.bits .and .u8 (bt x0 x6) 127)))) > (x0.size:Int) then (bA.fH k x8) else (bA.l0 k x0 (wrap64 (x6+1)) (wrap64 (Go.bits .and .u8 (bt x0 x6) 127)) x8 (wrap64 (Go.bits .and .u8 (bt x0 x6) 127)) 0 x2000 aB aI aK)))) else (none)) else (none))
def bA.j5:Nat→ByteArray→Int→Int→Bool→Int→Int→Bool→Int→Option (Int × Int × Bool × Int × Int × Int)
 | 0,_,_,_,_,_,_,_,_=>none
 | k+1,x0,x6,x8,ja,x2000,aB,aI,aK=>if ja=true then (bA.fH k x8) else (if 0≤x6 then (if x6 < (x0.size:Int) then (if (bt x0 x6) > 130 then (bA.fH k 4) else (if (bt x0 x6) < 128 then (some (x2000,aB,aI,wrap64 (bt x0 x6),wrap64 (x6+1),0)) else (if (wrap64 ((wrap64 (x6+1))+(wrap64 (Go.bits .and .u8 (bt x0 x6) 127)))) > (x0.size:Int) then (bA.fH k x8) else (bA.l0 k x0 (wrap64 (x6+1)) (wrap64 (Go.bits .and .u8 (bt x0 x6) 127)) x8 (wrap64 (Go.bits .and .u8 (bt x0 x6) 127)) 0 x2000 aB aI aK)))) else (none)) else (none))
def bA.ik:Nat→ByteArray→Int→Int→Int→Int→Bool→Int→Option (Int × Int × Bool × Int × Int × Int)
 | 0,_,_,_,_,_,_,_=>none
 | k+1,x0,x6,x8,x2000,aB,aI,aK=>if x6≥(x0.size:Int) then (bA.j5 k x0 x6 x8 true x2000 aB aI aK) else (if 0≤x6 then (if x6 < (x0.size:Int) then (bA.j5 k x0 x6 x8 ((bt x0 x6) == 128) x2000 aB aI aK) else (none)) else (none))
def bA.j8:Nat→ByteArray→Int→Int→Bool→Int→Int→Bool→Int→Option (Int × Int × Bool × Int × Int × Int)
 | 0,_,_,_,_,_,_,_,_=>none
 | k+1,x0,x6,x8,ja,x2000,aB,aI,aK=>if ja=true then (bA.fH k x8) else (if 0≤x6 then (if x6 < (x0.size:Int) then (if (bt x0 x6) > 130 then (bA.fH k 4) else (if (bt x0 x6) < 128 then (some (x2000,aB,aI,wrap64 (bt x0 x6),wrap64 (x6+1),0)) else (if (wrap64 ((wrap64 (x6+1))+(wrap64 (Go.bits .and .u8 (bt x0 x6) 127)))) > (x0.size:Int) then (bA.fH k x8) else (bA.l0 k x0 (wrap64 (x6+1)) (wrap64 (Go.bits .and .u8 (bt x0 x6) 127)) x8 (wrap64 (Go.bits .and .u8 (bt x0 x6) 127)) 0 x2000 aB aI aK)))) else (none)) else (none))
mutual
def bA.AB:Nat→ByteArray→Int→Int→Int→Int→Int→Bool→Int→Option (Int × Int × Bool × Int × Int × Int)
 | 0,_,_,_,_,_,_,_,_=>none
 | k+1,x0,x6,x7,x8,x2000,aB,aI,aK=>if x6≥(x0.size:Int) then (bA.j7 k x0 x6 x7 x8 true x2000 aB aI aK) else (if x7=3 then (bA.j7 k x0 x6 x7 x8 true x2000 aB aI aK) else (if x7=0 then (if 0≤x6 then (if x6 < (x0.size:Int) then (bA.j7 k x0 x6 x7 x8 ((bt x0 x6) == 128) x2000 aB aI aK) else (none)) else (none)) else (bA.j7 k x0 x6 x7 x8 false x2000 aB aI aK)))
def bA.j7:Nat→ByteArray→Int→Int→Int→Bool→Int→Int→Bool→Int→Option (Int × Int × Bool × Int × Int × Int)
 | 0,_,_,_,_,_,_,_,_,_=>none
 | k+1,x0,x6,x7,x8,kS,x2000,aB,aI,aK=>if kS=true then (bA.fH k x8) else (if 0≤x6 then (if x6 < (x0.size:Int) then (if 0≤(wrap64 ((wrap64 (x6+1)) - 1)) then (if (wrap64 ((wrap64 (x6+1)) - 1)) < (x0.size:Int) then (if (bt x0 (wrap64 ((wrap64 (x6+1)) - 1)))≥128 then (bA.AB k x0 (wrap64 (x6+1)) (wrap64 (x7+1)) x8 x2000 (Go.bits .or .i64 (wrap64 (aB*128)) (wrap64 (Go.bits .and .u8 (bt x0 x6) 127))) aI aK) else (if (Go.bits .or .i64 (wrap64 (aB*128)) (wrap64 (Go.bits .and .u8 (bt x0 x6) 127))) < 31 then (bA.fH k x8) else (if (wrap64 (x6+1))≥(x0.size:Int) then (bA.j8 k x0 (wrap64 (x6+1)) x8 true x2000 (Go.bits .or .i64 (wrap64 (aB*128)) (wrap64 (Go.bits .and .u8 (bt x0 x6) 127))) aI aK) else (if 0≤(wrap64 (x6+1)) then (if (wrap64 (x6+1)) < (x0.size:Int) then (bA.j8 k x0 (wrap64 (x6+1)) x8 ((bt x0 (wrap64 (x6+1))) == 128) x2000 (Go.bits .or .i64 (wrap64 (aB*128)) (wrap64 (Go.bits .and .u8 (bt x0 x6) 127))) aI aK) else (none)) else (none))))) else (none)) else (none)) else (none)) else (none))
end
def bA.j0:Nat→ByteArray→Int→Int→Int→Bool→Int→Int→Bool→Int→Option (Int × Int × Bool × Int × Int × Int)
 | 0,_,_,_,_,_,_,_,_,_=>none
 | k+1,x0,x6,x7,x8,kS,x2000,aB,aI,aK=>if kS=true then (bA.fH k x8) else (if 0≤x6 then (if x6 < (x0.size:Int) then (if 0≤(wrap64 ((wrap64 (x6+1)) - 1)) then (if (wrap64 ((wrap64 (x6+1)) - 1)) < (x0.size:Int) then (if (bt x0 (wrap64 ((wrap64 (x6+1)) - 1)))≥128 then (bA.AB k x0 (wrap64 (x6+1)) (wrap64 (x7+1)) x8 x2000 (Go.bits .or .i64 (wrap64 (aB*128)) (wrap64 (Go.bits .and .u8 (bt x0 x6) 127))) aI aK) else (if (Go.bits .or .i64 (wrap64 (aB*128)) (wrap64 (Go.bits .and .u8 (bt x0 x6) 127))) < 31 then (bA.fH k x8) else (if (wrap64 (x6+1))≥(x0.size:Int) then (bA.j1 k x0 (wrap64 (x6+1)) x8 true x2000 (Go.bits .or .i64 (wrap64 (aB*128)) (wrap64 (Go.bits .and .u8 (bt x0 x6) 127))) aI aK) else (if 0≤(wrap64 (x6+1)) then (if (wrap64 (x6+1)) < (x0.size:Int) then (bA.j1 k x0 (wrap64 (x6+1)) x8 ((bt x0 (wrap64 (x6+1))) == 128) x2000 (Go.bits .or .i64 (wrap64 (aB*128)) (wrap64 (Go.bits .and .u8 (bt x0 x6) 127))) aI aK) else (none)) else (none))))) else (none)) else (none)) else (none)) else (none))
def bA.f (k:Nat) (a0:ByteArray):Option (Int × Int × Bool × Int × Int × Int):=if a0.toList=([]:List UInt8) then (bA.fH k 5) else (if 0 < (a0.size:Int) then (if (wrap64 (Go.bits .and .u8 (bt a0 0) 31)) < 31 then (bA.ik k a0 1 5 (wrap64 ((bt a0 0) / 64)) (wrap64 (Go.bits .and .u8 (bt a0 0) 31)) ((Go.bits .and .u8 (bt a0 0) 32) != 0) 0) else (if 1≥(a0.size:Int) then (bA.j0 k a0 1 0 5 true (wrap64 ((bt a0 0) / 64)) 0 ((Go.bits .and .u8 (bt a0 0) 32) != 0) 0) else (if 1 < (a0.size:Int) then (bA.j0 k a0 1 0 5 ((bt a0 1) == 128) (wrap64 ((bt a0 0) / 64)) 0 ((Go.bits .and .u8 (bt a0 0) 32) != 0) 0) else (none)))) else (none))
theorem bA.au {k:Nat} {a0:ByteArray} {r:(Int × Int × Bool × Int × Int × Int)} (H:bA.f k a0=some r):aQ Tryz.prog 82 [S a0] (.aD [.agg [I r.1,I r.2.1,B r.2.2.1,I r.2.2.2.1],I r.2.2.2.2.1,I r.2.2.2.2.2]):=by
 refine Cg Tryz.func82 rfl fun C hN hL=>?_
 unfold bA.f at H
 refine Sw<|Rg hN<|Good.scope [(0,_,fun n st=>∃ (x8:Int) (x1000:Int) (ah:Int) (aA:Bool) (av:Int) (x2000:Int) (aB:Int) (aI:Bool) (aK:Int),n≤k∧Wk C st ⟨[(2,.d (.ptr 0 0)),(8,.w (I x8))],[.cells [.v (I x1000),.v (I ah),.v (B aA),.v (I av)],.cells [.v (I x2000),.v (I aB),.v (B aI),.v (I aK)]]⟩∧bA.fH n x8=some r),(1,_,fun n st=>∃ (x0:ByteArray) (x6:Int) (x8:Int) (x1000:Int) (ah:Int) (aA:Bool) (av:Int) (x2000:Int) (aB:Int) (aI:Bool) (aK:Int),n≤k∧Wk C st ⟨[(0,.w (S x0)),(2,.d (.ptr 0 0)),(5,.d (.ptr 1 0)),(6,.w (I x6)),(8,.w (I x8))],[.cells [.v (I x1000),.v (I ah),.v (B aA),.v (I av)],.cells [.v (I x2000),.v (I aB),.v (B aI),.v (I aK)]]⟩∧bA.ik n x0 x6 x8 x2000 aB aI aK=some r),(2,_,fun n st=>∃ (x0:ByteArray) (x6:Int) (x7:Int) (x8:Int) (x1000:Int) (ah:Int) (aA:Bool) (av:Int) (x2000:Int) (aB:Int) (aI:Bool) (aK:Int),n≤k∧Wk C st ⟨[(0,.w (S x0)),(2,.d (.ptr 0 0)),(5,.d (.ptr 1 0)),(6,.w (I x6)),(7,.w (I x7)),(8,.w (I x8))],[.cells [.v (I x1000),.v (I ah),.v (B aA),.v (I av)],.cells [.v (I x2000),.v (I aB),.v (B aI),.v (I aK)]]⟩∧bA.AB n x0 x6 x7 x8 x2000 aB aI aK=some r)] (.c3 rfl rfl rfl) ?_ (.c3 ?_ ?_ ?_)
 ·refine Sw<|Rg hN<|Sw<|Rg hN<|Sw<|Sw<|Ri hN [] (.c1 (eP (rfl:a0.toList=a0.toList) (dV ([]:List UInt8)))) [(10,.bool (a0.toList == ([]:List UInt8)))] ?_
  rcases aj H with ⟨OB,H⟩ | ⟨OB,H⟩
  ·exact Ct (bq OB)<|Good.goto<|⟨k,(by first | trivial | omega),5,0,0,false,0,0,0,false,0,by omega,Wo [(2,0),(8,0)],H⟩
  refine Cf (bn OB)<|Sk<|Sw ?_
  obtain ⟨xu,H⟩:=ax H
  refine Rd hm hN (.q 0 [[]] (.q 1 [[]] (.q 2 [[]] (.q 3 [[]] (.q 4 [[]] (.q 5 [[]] (.q 6 [[]] (.q 7 [[]] (.q 8 [[]] (.q 9 [[]] (.q 10 [[]] (.q 11 [[]] (.q 12 [[]] (.e 13 .z)))))))))))))) [(0,none),(5,some (.pt [I 0,I 0,B false,I 0]))] (.c1 (bJ (ay (rfl:(V.shr (I 0))=I 0) (ay (rfl:(V.shr (I 0))=I 0) (ay (rfl:(V.shr (B false))=B false) (ay (rfl:(V.shr (I 0))=I 0) (rfl:aX []=[]))))))) [] [] (.c7 (show (0:Int)≤0 by decide) xu (show (0:Int)≤6 by decide) (show (0:Int)≤0 by decide) xu (show (0:Int)≤0 by decide) xu) (.c7 (show (0:Int)≤0 by decide) xu (show (0:Int)≤6 by decide) (show (0:Int)≤0 by decide) xu (show (0:Int)≤0 by decide) xu) [] []<|Sw<|Rg hN<|Sw<|Sw<|Rg hN ?_
  rcases aj H with ⟨OC,H⟩ | ⟨OC,H⟩
  ·exact Ct (dt OC)<|Good.goto<|⟨k,(by first | trivial | omega),a0,1,5,0,0,false,0,wrap64 ((bt a0 0) / 64),wrap64 (Go.bits .and .u8 (bt a0 0) 31),((Go.bits .and .u8 (bt a0 0) 32) != 0),0,by omega,Wo [(0,0),(2,0),(5,0),(6,0),(8,0)],H⟩
  refine Cf (df OC)<|Sk<|Sw<|Rg hN<|Sw<|Good.label<|Sw<|Sw<|Good.cut (fun st=>∃ n':Nat,n'≤k∧∃ (x0:ByteArray) (x6:Int) (x7:Int) (x8:Int) (kS:Bool) (x1000:Int) (ah:Int) (aA:Bool) (av:Int) (x2000:Int) (aB:Int) (aI:Bool) (aK:Int),Wk C st ⟨[(0,.w (S x0)),(2,.d (.ptr 0 0)),(5,.d (.ptr 1 0)),(6,.w (I x6)),(7,.w (I x7)),(8,.w (I x8)),(45,.w (B kS))],[.cells [.v (I x1000),.v (I ah),.v (B aA),.v (I av)],.cells [.v (I x2000),.v (I aB),.v (B aI),.v (I aK)]]⟩∧bA.j0 n' x0 x6 x7 x8 kS x2000 aB aI aK=some r) ?_ ?_
  ·rcases aj H with ⟨OD,H⟩ | ⟨OD,H⟩
   ·exact Rh hN [B true,B true] (.c2 (dt OD) (rfl:true=true))<|⟨k,by omega,a0,1,0,5,true,0,0,false,0,wrap64 ((bt a0 0) / 64),0,((Go.bits .and .u8 (bt a0 0) 32) != 0),0,Wo [(0,0),(2,0),(5,0),(6,0),(7,0),(8,0),(45,0)],H⟩
   obtain ⟨akf,H⟩:=ax H
   exact Rh hN [B false,B false,B true] (.c5 (df OD) (bn (show ¬ ((0:Int)=3) by decide)) (bq (show (0:Int)=0 by decide)) (show (0:Int)≤1 by decide) akf)<|⟨k,by omega,a0,1,0,5,((bt a0 1) == 128),0,0,false,0,wrap64 ((bt a0 0) / 64),0,((Go.bits .and .u8 (bt a0 0) 32) != 0),0,Wo [(0,0),(2,0),(5,0),(6,0),(7,0),(8,0),(45,0)],H⟩
  clear H
  rintro st ⟨n',hn',x0,x6,x7,x8,kS,x1000,ah,aA,av,x2000,aB,aI,aK,W,H⟩
  rcases n' with _ | k
  ·cases H
  refine W.good ?_
  rw [bA.j0] at H
  rcases aj H with ⟨OE,H⟩ | ⟨OE,H⟩
  ·exact Ct OE<|Good.goto<|⟨k,(by first | trivial | omega),x8,x1000,ah,aA,av,x2000,aB,aI,aK,by omega,Wo [(2,0),(8,0)],H⟩
  refine Cf (bf OE)<|Sk<|Sw ?_
  obtain ⟨Y8,H⟩:=ax H
  obtain ⟨Y9,H⟩:=ax H
  refine Rd hm hN (.q 0 [[]] (.q 1 [[]] (.q 2 [[]] (.q 3 [[]] (.q 4 [[]] (.q 5 [[]] (.q 6 [[]] (.q 7 [[]] (.q 8 [[]] (.q 9 [[]] (.e 10 .z))))))))))) [(0,none),(5,some (.pt [I x2000,I aB,B aI,I aK])),(6,none)] (.c1 (bJ (ay (rfl:(V.shr (I x2000))=I x2000) (ay (rfl:(V.shr (I aB))=I aB) (ay (rfl:(V.shr (B aI))=B aI) (ay (rfl:(V.shr (I aK))=I aK) (rfl:aX []=[]))))))) [] [] (.c3 (show (0:Int)≤7 by decide) Y8 Y9) (.c3 (show (0:Int)≤7 by decide) Y8 Y9) [] []<|Sw<|Rg hN<|Sw<|Rg hN<|Sw<|Sw ?_
  obtain ⟨akg,H⟩:=ax H
  obtain ⟨akh,H⟩:=ax H
  refine Rh hN [] (.c2 akg akh) ?_
  rcases aj H with ⟨OG,H⟩ | ⟨OG,H⟩
  ·exact Ct (dt OG)<|Good.goto<|⟨k,(by first | trivial | omega),x0,wrap64 (x6+1),wrap64 (x7+1),x8,x1000,ah,aA,av,x2000,Go.bits .or .i64 (wrap64 (aB*128)) (wrap64 (Go.bits .and .u8 (bt x0 x6) 127)),aI,aK,by omega,Wo [(0,0),(2,0),(5,0),(6,0),(7,0),(8,0)],H⟩
  refine Cf (df OG)<|Sk<|Sw<|Sw<|Rg hN ?_
  rcases aj H with ⟨OH,H⟩ | ⟨OH,H⟩
  ·exact Ct (dt OH)<|Good.goto<|⟨k,(by first | trivial | omega),x8,x1000,ah,aA,av,x2000,Go.bits .or .i64 (wrap64 (aB*128)) (wrap64 (Go.bits .and .u8 (bt x0 x6) 127)),aI,aK,by omega,Wo [(2,0),(8,0)],H⟩
  refine Cf (df OH)<|Sk<|Sw<|Good.label<|Sw<|Sw<|Good.cut (fun st=>∃ n':Nat,n'≤k∧∃ (x0:ByteArray) (x6:Int) (x8:Int) (ja:Bool) (x1000:Int) (ah:Int) (aA:Bool) (av:Int) (x2000:Int) (aB:Int) (aI:Bool) (aK:Int),Wk C st ⟨[(0,.w (S x0)),(2,.d (.ptr 0 0)),(5,.d (.ptr 1 0)),(6,.w (I x6)),(8,.w (I x8)),(77,.w (B ja))],[.cells [.v (I x1000),.v (I ah),.v (B aA),.v (I av)],.cells [.v (I x2000),.v (I aB),.v (B aI),.v (I aK)]]⟩∧bA.j1 n' x0 x6 x8 ja x2000 aB aI aK=some r) ?_ ?_
  ·rcases aj H with ⟨OI,H⟩ | ⟨OI,H⟩
   ·exact Rh hN [B true] (.c1 (dt OI))<|⟨k,by omega,x0,wrap64 (x6+1),x8,true,x1000,ah,aA,av,x2000,Go.bits .or .i64 (wrap64 (aB*128)) (wrap64 (Go.bits .and .u8 (bt x0 x6) 127)),aI,aK,Wo [(0,0),(2,0),(5,0),(6,0),(8,0),(77,0)],H⟩
   obtain ⟨aki,H⟩:=ax H
   obtain ⟨akj,H⟩:=ax H
   exact Rh hN [B false] (.c3 (df OI) aki akj)<|⟨k,by omega,x0,wrap64 (x6+1),x8,((bt x0 (wrap64 (x6+1))) == 128),x1000,ah,aA,av,x2000,Go.bits .or .i64 (wrap64 (aB*128)) (wrap64 (Go.bits .and .u8 (bt x0 x6) 127)),aI,aK,Wo [(0,0),(2,0),(5,0),(6,0),(8,0),(77,0)],H⟩
  clear H
  rintro st ⟨n',hn',x0,x6,x8,ja,x1000,ah,aA,av,x2000,aB,aI,aK,W,H⟩
  rcases n' with _ | k
  ·cases H
  refine W.good ?_
  rw [bA.j1] at H
  rcases aj H with ⟨OJ,H⟩ | ⟨OJ,H⟩
  ·exact Ct OJ<|Good.goto<|⟨k,(by first | trivial | omega),x8,x1000,ah,aA,av,x2000,aB,aI,aK,by omega,Wo [(2,0),(8,0)],H⟩
  refine Cf (bf OJ)<|Sk<|Sw<|Sw ?_
  obtain ⟨EK,H⟩:=ax H
  obtain ⟨EL,H⟩:=ax H
  refine Rh hN [] (.c2 EK EL) ?_
  rcases aj H with ⟨OL,H⟩ | ⟨OL,H⟩
  ·exact Ct (dt OL)<|Sw<|Rg hN<|Good.goto<|⟨k,(by first | trivial | omega),4,x1000,ah,aA,av,x2000,aB,aI,aK,by omega,Wo [(2,0),(8,0)],H⟩
  refine Cf (df OL)<|Sk<|Sw<|Sw<|Rh hN [] (.c2 EK EL) ?_
  rcases aj H with ⟨OM,H⟩ | ⟨OM,H⟩
  ·refine Ct (dt OM)<|Sw<|Rh hN [] (.c2 EK EL)<|Sw<|Rg hN ?_
   cases H
   exact Rt dR
  refine Cf (df OM)<|Sk<|Sw<|Rh hN [] (.c2 EK EL)<|Sw<|Rg hN<|Sw<|Sw<|Rg hN ?_
  rcases aj H with ⟨OO,H⟩ | ⟨OO,H⟩
  ·exact Ct (dt OO)<|Good.goto<|⟨k,(by first | trivial | omega),x8,x1000,ah,aA,av,x2000,aB,aI,aK,by omega,Wo [(2,0),(8,0)],H⟩
  refine Cf (df OO)<|Sk<|Sw<|Sw<|Rg hN<|Bl<|Good.dN (fun k' st=>∃ (x0:ByteArray) (x6:Int) (x7:Int) (x8:Int) (x107:Int) (kN:Int) (x1000:Int) (ah:Int) (aA:Bool) (av:Int) (x2000:Int) (aB:Int) (aI:Bool) (aK:Int),k'≤k∧Wk C st ⟨[(0,.w (S x0)),(2,.d (.ptr 0 0)),(5,.d (.ptr 1 0)),(6,.w (I x6)),(7,.w (I x7)),(8,.w (I x8)),(107,.w (I x107)),(108,.w (I kN))],[.cells [.v (I x1000),.v (I ah),.v (B aA),.v (I av)],.cells [.v (I x2000),.v (I aB),.v (B aI),.v (I aK)]]⟩∧bA.l0 k' x0 x6 x7 x8 x107 kN x2000 aB aI aK=some r) k ⟨x0,wrap64 (x6+1),wrap64 (Go.bits .and .u8 (bt x0 x6) 127),x8,wrap64 (Go.bits .and .u8 (bt x0 x6) 127),0,x1000,ah,aA,av,x2000,aB,aI,aK,Nat.le_refl _,Wo [(0,0),(2,0),(5,0),(6,0),(7,0),(8,0),(107,0),(108,0)],H⟩ fun k=>⟨fun st h=>(by obtain ⟨_,_,_,_,_,_,_,_,_,_,_,_,_,_,_,_,H⟩:=h;cases H),?_⟩
  clear H
  rintro st ⟨x0,x6,x7,x8,x107,kN,x1000,ah,aA,av,x2000,aB,aI,aK,hk,W,H⟩
  refine W.good ?_
  rw [bA.l0] at H
  refine Sw<|Rg hN<|Sw ?_
  rcases aj H with ⟨oP,H⟩ | ⟨oP,H⟩
  ·refine Ct (dt oP)<|Sk<|Sw<|Bl<|Sw ?_
   obtain ⟨sF,H⟩:=ax H
   obtain ⟨sG,H⟩:=ax H
   exact Rd hm hN (.q 0 [[]] (.q 1 [[]] (.q 2 [[]] (.q 3 [[]] (.q 4 [[]] (.q 5 [[]] (.q 6 [[]] (.q 7 [[]] (.q 8 [[]] (.e 9 .z)))))))))) [(0,none),(5,some (.pt [I x2000,I aB,B aI,I aK])),(6,none)] (.c1 (bJ (ay (rfl:(V.shr (I x2000))=I x2000) (ay (rfl:(V.shr (I aB))=I aB) (ay (rfl:(V.shr (B aI))=B aI) (ay (rfl:(V.shr (I aK))=I aK) (rfl:aX []=[]))))))) [] [] (.c3 (show (0:Int)≤8 by decide) sF sG) (.c3 (show (0:Int)≤8 by decide) sF sG) [] []<|Rg hN<|Rg hN<|⟨k,by omega,x0,wrap64 (x6+1),x7,x8,x107,wrap64 (kN+1),x1000,ah,aA,av,x2000,aB,aI,Go.bits .or .i64 (wrap64 (aK*256)) (wrap64 (bt x0 x6)),by omega,Wo [(0,0),(2,0),(5,0),(6,0),(7,0),(8,0),(107,0),(108,0)],H⟩
  refine Cf (df oP)<|Ex<|Sw<|Sw ?_
  obtain ⟨mF,H⟩:=ax H
  rcases (aj H).symm with ⟨kP,H⟩ | ⟨kP,H⟩
  ·refine Rd hm hN (.qs 8 0 (.k 129 (.is 3 8 (.q 11 [] .z)))) [(5,some (.pt [I x2000,I aB,B aI,I aK])),(7,none)] (.c1 (bJ (ay (rfl:(V.shr (I x2000))=I x2000) (ay (rfl:(V.shr (I aB))=I aB) (ay (rfl:(V.shr (B aI))=B aI) (ay (rfl:(V.shr (I aK))=I aK) (rfl:aX []=[]))))))) [B false] [] (.c2 mF (df kP)) (.c2 mF (df kP)) [] []<|Good.cond false (by kernel_rfl)<|Sk<|Sw<|Good.label<|Sw<|Rg hN ?_
   cases H
   exact Rt dR
  refine Rd hm hN (.qs 8 0 (.k 129 (.qs 3 8 (.q 11 [] .z)))) [(5,some (.pt [I x2000,I aB,B aI,I aK])),(7,none)] (.c1 (bJ (ay (rfl:(V.shr (I x2000))=I x2000) (ay (rfl:(V.shr (I aB))=I aB) (ay (rfl:(V.shr (B aI))=B aI) (ay (rfl:(V.shr (I aK))=I aK) (rfl:aX []=[]))))))) [B true] [] (.c2 mF (dt kP)) (.c2 mF (dt kP)) [] [] ?_
  rcases aj H with ⟨oQ,H⟩ | ⟨oQ,H⟩
  ·refine Ct (dt oQ)<|Sw<|Rg hN ?_
   cases H
   exact Rt dR
  refine Cf (df oQ)<|Sk<|Sw<|Good.label<|Sw<|Rg hN ?_
  cases H
  exact Rt dR
 ·clear H
  rintro n st ⟨x8,x1000,ah,aA,av,x2000,aB,aI,aK,hn,W,H⟩
  rcases n with _ | k
  ·cases H
  refine W.good ?_
  rw [bA.fH] at H
  refine Sw<|Sk<|Sw<|Rg hN ?_
  cases H
  exact Rt dR
 ·clear H
  rintro n st ⟨x0,x6,x8,x1000,ah,aA,av,x2000,aB,aI,aK,hn,W,H⟩
  rcases n with _ | k
  ·cases H
  refine W.good ?_
  rw [bA.ik] at H
  refine Sw<|Sk<|Sw<|Sw<|Good.cut (fun st=>∃ n':Nat,n'≤k∧∃ (x0:ByteArray) (x6:Int) (x8:Int) (ja:Bool) (x1000:Int) (ah:Int) (aA:Bool) (av:Int) (x2000:Int) (aB:Int) (aI:Bool) (aK:Int),Wk C st ⟨[(0,.w (S x0)),(2,.d (.ptr 0 0)),(5,.d (.ptr 1 0)),(6,.w (I x6)),(8,.w (I x8)),(77,.w (B ja))],[.cells [.v (I x1000),.v (I ah),.v (B aA),.v (I av)],.cells [.v (I x2000),.v (I aB),.v (B aI),.v (I aK)]]⟩∧bA.j5 n' x0 x6 x8 ja x2000 aB aI aK=some r) ?_ ?_
  ·rcases aj H with ⟨OP,H⟩ | ⟨OP,H⟩
   ·exact Rh hN [B true] (.c1 (dt OP))<|⟨k,by omega,x0,x6,x8,true,x1000,ah,aA,av,x2000,aB,aI,aK,Wo [(0,0),(2,0),(5,0),(6,0),(8,0),(77,0)],H⟩
   obtain ⟨akk,H⟩:=ax H
   obtain ⟨akl,H⟩:=ax H
   exact Rh hN [B false] (.c3 (df OP) akk akl)<|⟨k,by omega,x0,x6,x8,((bt x0 x6) == 128),x1000,ah,aA,av,x2000,aB,aI,aK,Wo [(0,0),(2,0),(5,0),(6,0),(8,0),(77,0)],H⟩
  clear H
  rintro st ⟨n',hn',x0,x6,x8,ja,x1000,ah,aA,av,x2000,aB,aI,aK,W,H⟩
  rcases n' with _ | k
  ·cases H
  refine W.good ?_
  rw [bA.j5] at H
  rcases aj H with ⟨OQ,H⟩ | ⟨OQ,H⟩
  ·exact Ct OQ<|Good.goto<|⟨k,(by first | trivial | omega),x8,x1000,ah,aA,av,x2000,aB,aI,aK,by omega,Wo [(2,0),(8,0)],H⟩
  refine Cf (bf OQ)<|Sk<|Sw<|Sw ?_
  obtain ⟨EM,H⟩:=ax H
  obtain ⟨EN,H⟩:=ax H
  refine Rh hN [] (.c2 EM EN) ?_
  rcases aj H with ⟨OT,H⟩ | ⟨OT,H⟩
  ·exact Ct (dt OT)<|Sw<|Rg hN<|Good.goto<|⟨k,(by first | trivial | omega),4,x1000,ah,aA,av,x2000,aB,aI,aK,by omega,Wo [(2,0),(8,0)],H⟩
  refine Cf (df OT)<|Sk<|Sw<|Sw<|Rh hN [] (.c2 EM EN) ?_
  rcases aj H with ⟨OU,H⟩ | ⟨OU,H⟩
  ·refine Ct (dt OU)<|Sw<|Rh hN [] (.c2 EM EN)<|Sw<|Rg hN ?_
   cases H
   exact Rt dR
  refine Cf (df OU)<|Sk<|Sw<|Rh hN [] (.c2 EM EN)<|Sw<|Rg hN<|Sw<|Sw<|Rg hN ?_
  rcases aj H with ⟨OV,H⟩ | ⟨OV,H⟩
  ·exact Ct (dt OV)<|Good.goto<|⟨k,(by first | trivial | omega),x8,x1000,ah,aA,av,x2000,aB,aI,aK,by omega,Wo [(2,0),(8,0)],H⟩
  refine Cf (df OV)<|Sk<|Sw<|Sw<|Rg hN<|Bl<|Good.dN (fun k' st=>∃ (x0:ByteArray) (x6:Int) (x7:Int) (x8:Int) (x107:Int) (kN:Int) (x1000:Int) (ah:Int) (aA:Bool) (av:Int) (x2000:Int) (aB:Int) (aI:Bool) (aK:Int),k'≤k∧Wk C st ⟨[(0,.w (S x0)),(2,.d (.ptr 0 0)),(5,.d (.ptr 1 0)),(6,.w (I x6)),(7,.w (I x7)),(8,.w (I x8)),(107,.w (I x107)),(108,.w (I kN))],[.cells [.v (I x1000),.v (I ah),.v (B aA),.v (I av)],.cells [.v (I x2000),.v (I aB),.v (B aI),.v (I aK)]]⟩∧bA.l0 k' x0 x6 x7 x8 x107 kN x2000 aB aI aK=some r) k ⟨x0,wrap64 (x6+1),wrap64 (Go.bits .and .u8 (bt x0 x6) 127),x8,wrap64 (Go.bits .and .u8 (bt x0 x6) 127),0,x1000,ah,aA,av,x2000,aB,aI,aK,Nat.le_refl _,Wo [(0,0),(2,0),(5,0),(6,0),(7,0),(8,0),(107,0),(108,0)],H⟩ fun k=>⟨fun st h=>(by obtain ⟨_,_,_,_,_,_,_,_,_,_,_,_,_,_,_,_,H⟩:=h;cases H),?_⟩
  clear H
  rintro st ⟨x0,x6,x7,x8,x107,kN,x1000,ah,aA,av,x2000,aB,aI,aK,hk,W,H⟩
  refine W.good ?_
  rw [bA.l0] at H
  refine Sw<|Rg hN<|Sw ?_
  rcases aj H with ⟨oP,H⟩ | ⟨oP,H⟩
  ·refine Ct (dt oP)<|Sk<|Sw<|Bl<|Sw ?_
   obtain ⟨sF,H⟩:=ax H
   obtain ⟨sG,H⟩:=ax H
   exact Rd hm hN (.q 0 [[]] (.q 1 [[]] (.q 2 [[]] (.q 3 [[]] (.q 4 [[]] (.q 5 [[]] (.q 6 [[]] (.q 7 [[]] (.q 8 [[]] (.e 9 .z)))))))))) [(0,none),(5,some (.pt [I x2000,I aB,B aI,I aK])),(6,none)] (.c1 (bJ (ay (rfl:(V.shr (I x2000))=I x2000) (ay (rfl:(V.shr (I aB))=I aB) (ay (rfl:(V.shr (B aI))=B aI) (ay (rfl:(V.shr (I aK))=I aK) (rfl:aX []=[]))))))) [] [] (.c3 (show (0:Int)≤8 by decide) sF sG) (.c3 (show (0:Int)≤8 by decide) sF sG) [] []<|Rg hN<|Rg hN<|⟨k,by omega,x0,wrap64 (x6+1),x7,x8,x107,wrap64 (kN+1),x1000,ah,aA,av,x2000,aB,aI,Go.bits .or .i64 (wrap64 (aK*256)) (wrap64 (bt x0 x6)),by omega,Wo [(0,0),(2,0),(5,0),(6,0),(7,0),(8,0),(107,0),(108,0)],H⟩
  refine Cf (df oP)<|Ex<|Sw<|Sw ?_
  obtain ⟨mF,H⟩:=ax H
  rcases (aj H).symm with ⟨kP,H⟩ | ⟨kP,H⟩
  ·refine Rd hm hN (.qs 8 0 (.k 129 (.is 3 8 (.q 11 [] .z)))) [(5,some (.pt [I x2000,I aB,B aI,I aK])),(7,none)] (.c1 (bJ (ay (rfl:(V.shr (I x2000))=I x2000) (ay (rfl:(V.shr (I aB))=I aB) (ay (rfl:(V.shr (B aI))=B aI) (ay (rfl:(V.shr (I aK))=I aK) (rfl:aX []=[]))))))) [B false] [] (.c2 mF (df kP)) (.c2 mF (df kP)) [] []<|Good.cond false (by kernel_rfl)<|Sk<|Sw<|Good.label<|Sw<|Rg hN ?_
   cases H
   exact Rt dR
  refine Rd hm hN (.qs 8 0 (.k 129 (.qs 3 8 (.q 11 [] .z)))) [(5,some (.pt [I x2000,I aB,B aI,I aK])),(7,none)] (.c1 (bJ (ay (rfl:(V.shr (I x2000))=I x2000) (ay (rfl:(V.shr (I aB))=I aB) (ay (rfl:(V.shr (B aI))=B aI) (ay (rfl:(V.shr (I aK))=I aK) (rfl:aX []=[]))))))) [B true] [] (.c2 mF (dt kP)) (.c2 mF (dt kP)) [] [] ?_
  rcases aj H with ⟨oQ,H⟩ | ⟨oQ,H⟩
  ·refine Ct (dt oQ)<|Sw<|Rg hN ?_
   cases H
   exact Rt dR
  refine Cf (df oQ)<|Sk<|Sw<|Good.label<|Sw<|Rg hN ?_
  cases H
  exact Rt dR
 ·clear H
  rintro n st ⟨x0,x6,x7,x8,x1000,ah,aA,av,x2000,aB,aI,aK,hn,W,H⟩
  rcases n with _ | k
  ·cases H
  refine W.good ?_
  rw [bA.AB] at H
  refine Sw<|Sk<|Sw<|Sw<|Good.cut (fun st=>∃ n':Nat,n'≤k∧∃ (x0:ByteArray) (x6:Int) (x7:Int) (x8:Int) (kS:Bool) (x1000:Int) (ah:Int) (aA:Bool) (av:Int) (x2000:Int) (aB:Int) (aI:Bool) (aK:Int),Wk C st ⟨[(0,.w (S x0)),(2,.d (.ptr 0 0)),(5,.d (.ptr 1 0)),(6,.w (I x6)),(7,.w (I x7)),(8,.w (I x8)),(45,.w (B kS))],[.cells [.v (I x1000),.v (I ah),.v (B aA),.v (I av)],.cells [.v (I x2000),.v (I aB),.v (B aI),.v (I aK)]]⟩∧bA.j7 n' x0 x6 x7 x8 kS x2000 aB aI aK=some r) ?_ ?_
  ·rcases aj H with ⟨AJ,H⟩ | ⟨AJ,H⟩
   ·exact Rh hN [B true,B true] (.c2 (dt AJ) (rfl:true=true))<|⟨k,by omega,x0,x6,x7,x8,true,x1000,ah,aA,av,x2000,aB,aI,aK,Wo [(0,0),(2,0),(5,0),(6,0),(7,0),(8,0),(45,0)],H⟩
   rcases aj H with ⟨EO,H⟩ | ⟨EO,H⟩
   ·exact Rh hN [B false,B true] (.c2 (df AJ) (bq EO))<|⟨k,by omega,x0,x6,x7,x8,true,x1000,ah,aA,av,x2000,aB,aI,aK,Wo [(0,0),(2,0),(5,0),(6,0),(7,0),(8,0),(45,0)],H⟩
   rcases (aj H).symm with ⟨OW,H⟩ | ⟨OW,H⟩
   ·exact Rh hN [B false,B false,B false] (.c3 (df AJ) (bn EO) (bn OW))<|⟨k,by omega,x0,x6,x7,x8,false,x1000,ah,aA,av,x2000,aB,aI,aK,Wo [(0,0),(2,0),(5,0),(6,0),(7,0),(8,0),(45,0)],H⟩
   obtain ⟨akm,H⟩:=ax H
   obtain ⟨akn,H⟩:=ax H
   exact Rh hN [B false,B false,B true] (.c5 (df AJ) (bn EO) (bq OW) akm akn)<|⟨k,by omega,x0,x6,x7,x8,((bt x0 x6) == 128),x1000,ah,aA,av,x2000,aB,aI,aK,Wo [(0,0),(2,0),(5,0),(6,0),(7,0),(8,0),(45,0)],H⟩
  clear H
  rintro st ⟨n',hn',x0,x6,x7,x8,kS,x1000,ah,aA,av,x2000,aB,aI,aK,W,H⟩
  rcases n' with _ | k
  ·cases H
  refine W.good ?_
  rw [bA.j7] at H
  rcases aj H with ⟨OX,H⟩ | ⟨OX,H⟩
  ·exact Ct OX<|Good.goto<|⟨k,(by first | trivial | omega),x8,x1000,ah,aA,av,x2000,aB,aI,aK,by omega,Wo [(2,0),(8,0)],H⟩
  refine Cf (bf OX)<|Sk<|Sw ?_
  obtain ⟨Za,H⟩:=ax H
  obtain ⟨Zb,H⟩:=ax H
  refine Rd hm hN (.q 0 [[]] (.q 1 [[]] (.q 2 [[]] (.q 3 [[]] (.q 4 [[]] (.q 5 [[]] (.q 6 [[]] (.q 7 [[]] (.q 8 [[]] (.q 9 [[]] (.e 10 .z))))))))))) [(0,none),(5,some (.pt [I x2000,I aB,B aI,I aK])),(6,none)] (.c1 (bJ (ay (rfl:(V.shr (I x2000))=I x2000) (ay (rfl:(V.shr (I aB))=I aB) (ay (rfl:(V.shr (B aI))=B aI) (ay (rfl:(V.shr (I aK))=I aK) (rfl:aX []=[]))))))) [] [] (.c3 (show (0:Int)≤7 by decide) Za Zb) (.c3 (show (0:Int)≤7 by decide) Za Zb) [] []<|Sw<|Rg hN<|Sw<|Rg hN<|Sw<|Sw ?_
  obtain ⟨ako,H⟩:=ax H
  obtain ⟨akp,H⟩:=ax H
  refine Rh hN [] (.c2 ako akp) ?_
  rcases aj H with ⟨OY,H⟩ | ⟨OY,H⟩
  ·exact Ct (dt OY)<|Good.goto<|⟨k,(by first | trivial | omega),x0,wrap64 (x6+1),wrap64 (x7+1),x8,x1000,ah,aA,av,x2000,Go.bits .or .i64 (wrap64 (aB*128)) (wrap64 (Go.bits .and .u8 (bt x0 x6) 127)),aI,aK,by omega,Wo [(0,0),(2,0),(5,0),(6,0),(7,0),(8,0)],H⟩
  refine Cf (df OY)<|Sk<|Sw<|Sw<|Rg hN ?_
  rcases aj H with ⟨OZ,H⟩ | ⟨OZ,H⟩
  ·exact Ct (dt OZ)<|Good.goto<|⟨k,(by first | trivial | omega),x8,x1000,ah,aA,av,x2000,Go.bits .or .i64 (wrap64 (aB*128)) (wrap64 (Go.bits .and .u8 (bt x0 x6) 127)),aI,aK,by omega,Wo [(2,0),(8,0)],H⟩
  refine Cf (df OZ)<|Sk<|Sw<|Good.label<|Sw<|Sw<|Good.cut (fun st=>∃ n':Nat,n'≤k∧∃ (x0:ByteArray) (x6:Int) (x8:Int) (ja:Bool) (x1000:Int) (ah:Int) (aA:Bool) (av:Int) (x2000:Int) (aB:Int) (aI:Bool) (aK:Int),Wk C st ⟨[(0,.w (S x0)),(2,.d (.ptr 0 0)),(5,.d (.ptr 1 0)),(6,.w (I x6)),(8,.w (I x8)),(77,.w (B ja))],[.cells [.v (I x1000),.v (I ah),.v (B aA),.v (I av)],.cells [.v (I x2000),.v (I aB),.v (B aI),.v (I aK)]]⟩∧bA.j8 n' x0 x6 x8 ja x2000 aB aI aK=some r) ?_ ?_
  ·rcases aj H with ⟨O0,H⟩ | ⟨O0,H⟩
   ·exact Rh hN [B true] (.c1 (dt O0))<|⟨k,by omega,x0,wrap64 (x6+1),x8,true,x1000,ah,aA,av,x2000,Go.bits .or .i64 (wrap64 (aB*128)) (wrap64 (Go.bits .and .u8 (bt x0 x6) 127)),aI,aK,Wo [(0,0),(2,0),(5,0),(6,0),(8,0),(77,0)],H⟩
   obtain ⟨akq,H⟩:=ax H
   obtain ⟨akr,H⟩:=ax H
   exact Rh hN [B false] (.c3 (df O0) akq akr)<|⟨k,by omega,x0,wrap64 (x6+1),x8,((bt x0 (wrap64 (x6+1))) == 128),x1000,ah,aA,av,x2000,Go.bits .or .i64 (wrap64 (aB*128)) (wrap64 (Go.bits .and .u8 (bt x0 x6) 127)),aI,aK,Wo [(0,0),(2,0),(5,0),(6,0),(8,0),(77,0)],H⟩
  clear H
  rintro st ⟨n',hn',x0,x6,x8,ja,x1000,ah,aA,av,x2000,aB,aI,aK,W,H⟩
  rcases n' with _ | k
  ·cases H
  refine W.good ?_
  rw [bA.j8] at H
  rcases aj H with ⟨O1,H⟩ | ⟨O1,H⟩
  ·exact Ct O1<|Good.goto<|⟨k,(by first | trivial | omega),x8,x1000,ah,aA,av,x2000,aB,aI,aK,by omega,Wo [(2,0),(8,0)],H⟩
  refine Cf (bf O1)<|Sk<|Sw<|Sw ?_
  obtain ⟨EP,H⟩:=ax H
  obtain ⟨ER,H⟩:=ax H
  refine Rh hN [] (.c2 EP ER) ?_
  rcases aj H with ⟨O3,H⟩ | ⟨O3,H⟩
  ·exact Ct (dt O3)<|Sw<|Rg hN<|Good.goto<|⟨k,(by first | trivial | omega),4,x1000,ah,aA,av,x2000,aB,aI,aK,by omega,Wo [(2,0),(8,0)],H⟩
  refine Cf (df O3)<|Sk<|Sw<|Sw<|Rh hN [] (.c2 EP ER) ?_
  rcases aj H with ⟨O4,H⟩ | ⟨O4,H⟩
  ·refine Ct (dt O4)<|Sw<|Rh hN [] (.c2 EP ER)<|Sw<|Rg hN ?_
   cases H
   exact Rt dR
  refine Cf (df O4)<|Sk<|Sw<|Rh hN [] (.c2 EP ER)<|Sw<|Rg hN<|Sw<|Sw<|Rg hN ?_
  rcases aj H with ⟨O5,H⟩ | ⟨O5,H⟩
  ·exact Ct (dt O5)<|Good.goto<|⟨k,(by first | trivial | omega),x8,x1000,ah,aA,av,x2000,aB,aI,aK,by omega,Wo [(2,0),(8,0)],H⟩
  refine Cf (df O5)<|Sk<|Sw<|Sw<|Rg hN<|Bl<|Good.dN (fun k' st=>∃ (x0:ByteArray) (x6:Int) (x7:Int) (x8:Int) (x107:Int) (kN:Int) (x1000:Int) (ah:Int) (aA:Bool) (av:Int) (x2000:Int) (aB:Int) (aI:Bool) (aK:Int),k'≤k∧Wk C st ⟨[(0,.w (S x0)),(2,.d (.ptr 0 0)),(5,.d (.ptr 1 0)),(6,.w (I x6)),(7,.w (I x7)),(8,.w (I x8)),(107,.w (I x107)),(108,.w (I kN))],[.cells [.v (I x1000),.v (I ah),.v (B aA),.v (I av)],.cells [.v (I x2000),.v (I aB),.v (B aI),.v (I aK)]]⟩∧bA.l0 k' x0 x6 x7 x8 x107 kN x2000 aB aI aK=some r) k ⟨x0,wrap64 (x6+1),wrap64 (Go.bits .and .u8 (bt x0 x6) 127),x8,wrap64 (Go.bits .and .u8 (bt x0 x6) 127),0,x1000,ah,aA,av,x2000,aB,aI,aK,Nat.le_refl _,Wo [(0,0),(2,0),(5,0),(6,0),(7,0),(8,0),(107,0),(108,0)],H⟩ fun k=>⟨fun st h=>(by obtain ⟨_,_,_,_,_,_,_,_,_,_,_,_,_,_,_,_,H⟩:=h;cases H),?_⟩
  clear H
  rintro st ⟨x0,x6,x7,x8,x107,kN,x1000,ah,aA,av,x2000,aB,aI,aK,hk,W,H⟩
  refine W.good ?_
  rw [bA.l0] at H
  refine Sw<|Rg hN<|Sw ?_
  rcases aj H with ⟨oP,H⟩ | ⟨oP,H⟩
  ·refine Ct (dt oP)<|Sk<|Sw<|Bl<|Sw ?_
   obtain ⟨sF,H⟩:=ax H
   obtain ⟨sG,H⟩:=ax H
   exact Rd hm hN (.q 0 [[]] (.q 1 [[]] (.q 2 [[]] (.q 3 [[]] (.q 4 [[]] (.q 5 [[]] (.q 6 [[]] (.q 7 [[]] (.q 8 [[]] (.e 9 .z)))))))))) [(0,none),(5,some (.pt [I x2000,I aB,B aI,I aK])),(6,none)] (.c1 (bJ (ay (rfl:(V.shr (I x2000))=I x2000) (ay (rfl:(V.shr (I aB))=I aB) (ay (rfl:(V.shr (B aI))=B aI) (ay (rfl:(V.shr (I aK))=I aK) (rfl:aX []=[]))))))) [] [] (.c3 (show (0:Int)≤8 by decide) sF sG) (.c3 (show (0:Int)≤8 by decide) sF sG) [] []<|Rg hN<|Rg hN<|⟨k,by omega,x0,wrap64 (x6+1),x7,x8,x107,wrap64 (kN+1),x1000,ah,aA,av,x2000,aB,aI,Go.bits .or .i64 (wrap64 (aK*256)) (wrap64 (bt x0 x6)),by omega,Wo [(0,0),(2,0),(5,0),(6,0),(7,0),(8,0),(107,0),(108,0)],H⟩
  refine Cf (df oP)<|Ex<|Sw<|Sw ?_
  obtain ⟨mF,H⟩:=ax H
  rcases (aj H).symm with ⟨kP,H⟩ | ⟨kP,H⟩
  ·refine Rd hm hN (.qs 8 0 (.k 129 (.is 3 8 (.q 11 [] .z)))) [(5,some (.pt [I x2000,I aB,B aI,I aK])),(7,none)] (.c1 (bJ (ay (rfl:(V.shr (I x2000))=I x2000) (ay (rfl:(V.shr (I aB))=I aB) (ay (rfl:(V.shr (B aI))=B aI) (ay (rfl:(V.shr (I aK))=I aK) (rfl:aX []=[]))))))) [B false] [] (.c2 mF (df kP)) (.c2 mF (df kP)) [] []<|Good.cond false (by kernel_rfl)<|Sk<|Sw<|Good.label<|Sw<|Rg hN ?_
   cases H
   exact Rt dR
  refine Rd hm hN (.qs 8 0 (.k 129 (.qs 3 8 (.q 11 [] .z)))) [(5,some (.pt [I x2000,I aB,B aI,I aK])),(7,none)] (.c1 (bJ (ay (rfl:(V.shr (I x2000))=I x2000) (ay (rfl:(V.shr (I aB))=I aB) (ay (rfl:(V.shr (B aI))=B aI) (ay (rfl:(V.shr (I aK))=I aK) (rfl:aX []=[]))))))) [B true] [] (.c2 mF (dt kP)) (.c2 mF (dt kP)) [] [] ?_
  rcases aj H with ⟨oQ,H⟩ | ⟨oQ,H⟩
  ·refine Ct (dt oQ)<|Sw<|Rg hN ?_
   cases H
   exact Rt dR
  refine Cf (df oQ)<|Sk<|Sw<|Good.label<|Sw<|Rg hN ?_
  cases H
  exact Rt dR
def jV.f (a0:ByteArray) (a1:Int) (a2:Int):Option (ByteArray):=if a1 < 0 then (some (⟨#[]⟩:ByteArray)) else (if a1≥(a0.size:Int) then (some (⟨#[]⟩:ByteArray)) else (if a2 < 1 then (some (⟨#[]⟩:ByteArray)) else (if 0≤a1 then (if a1≤(wrap64 (a1+(mn a2 (wrap64 ((a0.size:Int) - a1))))) then (if (wrap64 (a1+(mn a2 (wrap64 ((a0.size:Int) - a1)))))≤(a0.size:Int) then (some (a0.extract (a1:Int).toNat ((wrap64 (a1+(mn a2 (wrap64 ((a0.size:Int) - a1))))):Int).toNat)) else (none)) else (none)) else (none))))
theorem jV.au {a0:ByteArray} {a1:Int} {a2:Int} {r:(ByteArray)} (H:jV.f a0 a1 a2=some r):aQ Tryz.prog 83 [S a0,I a1,I a2] (S r):=by
 refine Cg Tryz.func83 rfl fun C hN hL=>?_
 unfold jV.f at H
 refine Sw<|Rg hN<|Sw<|Sw ?_
 rcases aj H with ⟨ES,H⟩ | ⟨ES,H⟩
 ·refine Rh hN [B true,B true] (.c2 (dt ES) (rfl:true=true))<|Good.cond true (by kernel_rfl)<|Sw<|Rg hN ?_
  cases H
  exact Rt dR
 rcases aj H with ⟨O6,H⟩ | ⟨O6,H⟩
 ·refine Rh hN [B false,B true] (.c2 (df ES) (dt O6))<|Good.cond true (by kernel_rfl)<|Sw<|Rg hN ?_
  cases H
  exact Rt dR
 refine Rh hN [B false,B false] (.c2 (df ES) (df O6)) ?_
 rcases aj H with ⟨O7,H⟩ | ⟨O7,H⟩
 ·refine Ct (dt O7)<|Sw<|Rg hN ?_
  cases H
  exact Rt dR
 refine Cf (df O7)<|Sk<|Sw ?_
 obtain ⟨aks,H⟩:=ax H
 obtain ⟨akt,H⟩:=ax H
 obtain ⟨aku,H⟩:=ax H
 refine Rh hN [] (.c3 aks akt aku) ?_
 cases H
 exact Rt dR
def fO.j0:Nat→ByteArray→Bool→ByteArray→List af→List (Nat × Nat)→List Int→Int→Bool→Option (Int × ByteArray × List af × List (Nat × Nat) × List Int)
 | 0,_,_,_,_,_,_,_,_=>none
 | k+1,x2,x25,x1000,ah,aA,av,aB,aI=>if x25=true then (some (0,x1000,ah,aA,av)) else (if aI=true then (some (5,x1000,ah,aA,av)) else ((jE.f k aB x2).bind fun O8=>(if O8=true then (some (0,x1000,ah,aA,av)) else (some (5,x1000,ah,aA,av)))))
def fO.f (k:Nat) (aJ:ByteArray) (az:List af) (aY:List (Nat × Nat)) (ai:List Int) (fA:Int) (eD:Int) (eF:Bool) (oU:Int) (a2:ByteArray):Option (Int × ByteArray × List af × List (Nat × Nat) × List Int):=if (ai.length:Int)≥16 then (some (6,aJ,az,aY,ai)) else (if (az.length:Int)≥1000 then (some (4,aJ,az,aY,ai)) else (if fA=0 then (if eF=true then (if eD=16 then (fO.j0 k a2 true aJ az aY ai eD eF) else (fO.j0 k a2 (eD == 17) aJ az aY ai eD eF)) else (fO.j0 k a2 false aJ az aY ai eD eF)) else (some (0,aJ,az,aY,ai))))
theorem fO.au {k:Nat} {aJ:ByteArray} {az:List af} {aY:List (Nat × Nat)} {ai:List Int} {fA:Int} {eD:Int} {eF:Bool} {oU:Int} {a2:ByteArray} {r:(Int × ByteArray × List af × List (Nat × Nat) × List Int)} (H:fO.f k aJ az aY ai fA eD eF oU a2=some r):lY Tryz.prog 84 [.ptr 0 0,.v (.agg [I fA,I eD,B eF,I oU]),.v (S a2)] [[S aJ,.row (some 55) 5 (List.map (v55 1) az),.row (some 67) 1 (List.map Cx aY),.row (some 3) 1 (List.map I ai)]] (.v (I r.1)) [[S r.2.1,.row (some 55) 5 (List.map (v55 1) r.2.2.1),.row (some 67) 1 (List.map Cx r.2.2.2.1),.row (some 3) 1 (List.map I r.2.2.2.2)]]:=by
 refine vM Tryz.func84 rfl (by kernel_rfl) (by kernel_rfl) fun C hN hL=>?_
 unfold fO.f at H
 refine Sw<|Rg hN<|Sw<|Bl<|Sw<|Rh hN [I (ai.length:Int)] (.c1 (aT I ai)) ?_
 rcases aj H with ⟨O9,H⟩ | ⟨O9,H⟩
 ·refine Ct (dt O9)<|Sw<|Rg hN ?_
  cases H
  exact Good.ret (gT (.refl _) (cz.refl _) (by kernel_rfl) rfl)
 refine Cf (df O9)<|Sw<|Rh hN [I (az.length:Int)] (.c1 (aT (v55 1) az)) ?_
 rcases aj H with ⟨Pb,H⟩ | ⟨Pb,H⟩
 ·refine Ct (dt Pb)<|Sw<|Rg hN ?_
  cases H
  exact Good.ret (gT (.refl _) (cz.refl _) (by kernel_rfl) rfl)
 refine Cf (df Pb)<|Sw<|Rg hN ?_
 rcases (aj H).symm with ⟨Pd,H⟩ | ⟨Pd,H⟩
 ·refine Ct (nq Pd)<|Sw<|Rg hN ?_
  cases H
  exact Good.ret (gT (.refl _) (cz.refl _) (by kernel_rfl) rfl)
 refine Cf (bM Pd)<|Sw<|Sw<|Good.cut (fun st=>∃ n':Nat,n'≤k∧∃ (x2:ByteArray) (x25:Bool) (x1000:ByteArray) (ah:List af) (aA:List (Nat × Nat)) (av:List Int) (x2000:Int) (aB:Int) (aI:Bool) (aK:Int),Wk C st ⟨[(2,.w (S x2)),(4,.d (.ptr 1 0)),(25,.w (B x25))],[.cells [.v (S x1000),.v (.row (some 55) 5 (List.map (v55 1) ah)),.v (.row (some 67) 1 (List.map Cx aA)),.v (.row (some 3) 1 (List.map I av))],.cells [.v (I x2000),.v (I aB),.v (B aI),.v (I aK)]]⟩∧fO.j0 n' x2 x25 x1000 ah aA av aB aI=some r) ?_ ?_
 ·rcases (aj H).symm with ⟨ET,H⟩ | ⟨ET,H⟩
  ·exact Rh hN [B false] (.c1 (bf ET))<|⟨k,by omega,a2,false,aJ,az,aY,ai,fA,eD,eF,oU,Wo [(2,0),(4,0),(25,0)],H⟩
  rcases aj H with ⟨Pe,H⟩ | ⟨Pe,H⟩
  ·exact Rh hN [B true,B true] (.c2 ET (bq Pe))<|⟨k,by omega,a2,true,aJ,az,aY,ai,fA,eD,eF,oU,Wo [(2,0),(4,0),(25,0)],H⟩
  exact Rh hN [B true,B false] (.c2 ET (bn Pe))<|⟨k,by omega,a2,(eD == 17),aJ,az,aY,ai,fA,eD,eF,oU,Wo [(2,0),(4,0),(25,0)],H⟩
 clear H
 rintro st ⟨n',hn',x2,x25,x1000,ah,aA,av,x2000,aB,aI,aK,W,H⟩
 rcases n' with _ | k
 ·cases H
 refine W.good ?_
 rw [fO.j0] at H
 rcases aj H with ⟨EU,H⟩ | ⟨EU,H⟩
 ·refine Ct EU<|Sk<|Ct EU<|Sw<|Rg hN ?_
  cases H
  exact Good.ret (gT (.refl _) (cz.refl _) (by kernel_rfl) rfl)
 refine Cf (bf EU) ?_
 rcases aj H with ⟨Pf,H⟩ | ⟨Pf,H⟩
 ·refine Rh hN [B false] (.c1 (fw Pf))<|Good.cond false (by kernel_rfl)<|Sk<|Sw<|Rg hN ?_
  cases H
  exact Good.ret (gT (.refl _) (cz.refl _) (by kernel_rfl) rfl)
 obtain ⟨O8,akv,H⟩:=aC H
 refine Rh hN [B true,B O8] (.c2 (eB (bf Pf)) (jE.au akv).c) ?_
 rcases aj H with ⟨Pg,H⟩ | ⟨Pg,H⟩
 ·refine Ct Pg<|Sw<|Rg hN ?_
  cases H
  exact Good.ret (gT (.refl _) (cz.refl _) (by kernel_rfl) rfl)
 refine Cf (bf Pg)<|Sk<|Sw<|Rg hN ?_
 cases H
 exact Good.ret (gT (.refl _) (cz.refl _) (by kernel_rfl) rfl)
def pg.f (aJ:ByteArray) (az:List af) (aY:List (Nat × Nat)) (ai:List Int) (fA:Int) (eD:Int) (eF:Bool) (oU:Int) (a2:ByteArray) (a3:(Nat × Nat)):Option (List af × List (Nat × Nat) × List Int):=if (ai.length:Int) > 0 then (if 0≤(wrap64 ((ai.length:Int) - 1)) then (if (wrap64 ((ai.length:Int) - 1)) < (ai.length:Int) then (if 0≤(rd ai (wrap64 ((ai.length:Int) - 1))) then (if (rd ai (wrap64 ((ai.length:Int) - 1))) < (az.length:Int) then (if ((aa az (rd ai (wrap64 ((ai.length:Int) - 1)))).f4).length < 17592186044416 then ((some (az.set ((rd ai (wrap64 ((ai.length:Int) - 1))):Int).toNat (⟨(aa az (rd ai (wrap64 ((ai.length:Int) - 1)))).f0,(aa az (rd ai (wrap64 ((ai.length:Int) - 1)))).f1,(aa az (rd ai (wrap64 ((ai.length:Int) - 1)))).f2,(aa az (rd ai (wrap64 ((ai.length:Int) - 1)))).f3,(((aa az (rd ai (wrap64 ((ai.length:Int) - 1)))).f4)++[(az.length:Int)])⟩:af):List af)).bind fun EW=>(if eF=true then (if ai.length < 17592186044416 then (if EW.length < 2199023255552 then (if aY.length < 8796093022208 then (some ((EW++[(⟨fA,eD,eF,(⟨#[]⟩:ByteArray),([]:List Int)⟩:af)]),(aY++[a3]),(ai++[(az.length:Int)]))) else (none)) else (none)) else (none)) else (if EW.length < 2199023255552 then (if aY.length < 8796093022208 then (some ((EW++[(⟨fA,eD,eF,a2,([]:List Int)⟩:af)]),(aY++[a3]),ai)) else (none)) else (none)))) else (none)) else (none)) else (none)) else (none)) else (none)) else (if eF=true then (if ai.length < 17592186044416 then (if az.length < 2199023255552 then (if aY.length < 8796093022208 then (some ((az++[(⟨fA,eD,eF,(⟨#[]⟩:ByteArray),([]:List Int)⟩:af)]),(aY++[a3]),(ai++[(az.length:Int)]))) else (none)) else (none)) else (none)) else (if az.length < 2199023255552 then (if aY.length < 8796093022208 then (some ((az++[(⟨fA,eD,eF,a2,([]:List Int)⟩:af)]),(aY++[a3]),ai)) else (none)) else (none)))
end Go.Rf.T
