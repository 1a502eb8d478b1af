import Derived.Test.YtdombjceoocnhaaGreatDoorTSec1Tells1
set_option linter.unusedSectionVars false
set_option linter.unusedSimpArgs false
set_option linter.unusedVariables false
namespace Go.Rf.T
open Go Go.Rf Go.Proofs Go.RowKit Go.Proofs.YtdombjceoocnhaaGreatDoor
def ed.j1:Nat→List af→Bool→Option (Int × ByteArray × Int)
 | 0,_,_=>none
 | k+1,x5,x80=>if x80=true then (some (0,(⟨#[]⟩:ByteArray),5)) else (if 3 < (x5.length:Int) then (if ((aa x5 3).f0)=2 then (if ((aa x5 3).f1)=0 then (if (((aa x5 3).f4).length:Int)=1 then (if 4 < (x5.length:Int) then (if ((aa x5 4).f0)=0 then (ed.j2 k x5 (((aa x5 4).f1) != 6)) else (ed.j2 k x5 true)) else (none)) else (ed.j2 k x5 true)) else (ed.j2 k x5 true)) else (ed.j2 k x5 true)) else (none))
def ed.j0:Nat→List af→Bool→Option (Int × ByteArray × Int)
 | 0,_,_=>none
 | k+1,x5,BF=>if BF=true then (some (0,(⟨#[]⟩:ByteArray),5)) else (if 1 < (x5.length:Int) then (if ((aa x5 1).f0)=0 then (if ((aa x5 1).f1)=2 then (if ((aa x5 1).f3).toList=([1]:List UInt8) then (if 2 < (x5.length:Int) then (if ((aa x5 2).f0)=0 then (ed.j1 k x5 (((aa x5 2).f1) != 4)) else (ed.j1 k x5 true)) else (none)) else (ed.j1 k x5 true)) else (ed.j1 k x5 true)) else (ed.j1 k x5 true)) else (none))
def ed.f (k:Nat) (a0:ByteArray):Option (Int × ByteArray × Int):=(mO.f k a0).bind fun dK=>(if dK.2.1=0 then (if (dK.1.length:Int)=5 then (if 0 < (dK.1.length:Int) then (if (((aa dK.1 0).f4).length:Int)=3 then (if ((aa dK.1 0).f0)=0 then (ed.j0 k dK.1 (((aa dK.1 0).f1) != 16)) else (ed.j0 k dK.1 true)) else (ed.j0 k dK.1 true)) else (none)) else (ed.j0 k dK.1 true)) else (some (0,(⟨#[]⟩:ByteArray),dK.2.1)))
theorem ed.au {k:Nat} {a0:ByteArray} {r:(Int × ByteArray × Int)} (H:ed.f k a0=some r):aQ Tryz.prog 9 [S a0] (.aD [I r.1,S r.2.1,I r.2.2]):=by
 refine Cg Tryz.func9 rfl fun C hN hL=>?_
 unfold ed.f at H
 refine Sw<|Rg hN<|Sw ?_
 obtain ⟨dK,aia,H⟩:=aC H
 refine Rh hN [.aD [.row none 5 (List.map (v55 0) dK.1),.agg [I dK.2.1,I dK.2.2]]] (.c1 (mO.au aia).c)<|Sw<|Sw<|Rg hN ?_
 rcases (aj H).symm with ⟨LV,H⟩ | ⟨LV,H⟩
 ·refine Ct (nq LV)<|Sw<|Rd hm hN (.qs 4 0 (.q 4 [] .z)) [(6,some (.pt [I dK.2.1,I dK.2.2]))] (.c1 (bJ (ay (rfl:(V.shr (I dK.2.1))=I dK.2.1) (ay (rfl:(V.shr (I dK.2.2))=I dK.2.2) (rfl:aX []=[]))))) [] [] .nil .nil [] [] ?_
  cases H
  exact Rt dR
 refine Cf (bM LV)<|Sk<|Sw<|Sw<|Good.cut (fun st=>∃ n':Nat,n'≤k∧∃ (x5:List af) (BF:Bool) (x1000:Int) (ah:Int),Wk C st ⟨[(5,.w (.row none 5 (List.map (v55 0) x5))),(47,.w (B BF))],[.cells [.v (I x1000),.v (I ah)]]⟩∧ed.j0 n' x5 BF=some r) ?_ ?_
 ·rcases (aj H).symm with ⟨zG,H⟩ | ⟨zG,H⟩
  ·exact Rh hN [I (dK.1.length:Int),B true,B true,B true] (.c4 (aT (v55 0) dK.1) (nq zG) (rfl:true=true) (rfl:true=true))<|⟨k,by omega,dK.1,true,dK.2.1,dK.2.2,Wo [(5,0),(47,0)],H⟩
  obtain ⟨wJ,H⟩:=ax H
  rcases (aj H).symm with ⟨DD,H⟩ | ⟨DD,H⟩
  ·exact Rh hN [I (dK.1.length:Int),B false,(v55 0) (aa dK.1 0),I (((aa dK.1 0).f4).length:Int),B true,B true] (.c7 (aT (v55 0) dK.1) (bM zG) (show (0:Int)≤0 by decide) (aF (v55 0) z55 (show (0:Int)≤0 by decide) wJ) (aT I ((aa dK.1 0).f4)) (nq DD) (rfl:true=true))<|⟨k,by omega,dK.1,true,dK.2.1,dK.2.2,Wo [(5,0),(47,0)],H⟩
  rcases aj H with ⟨LW,H⟩ | ⟨LW,H⟩
  ·exact Rh hN [I (dK.1.length:Int),B false,(v55 0) (aa dK.1 0),I (((aa dK.1 0).f4).length:Int),B false,(v55 0) (aa dK.1 0),B false,(v55 0) (aa dK.1 0)] (.cons (aT (v55 0) dK.1) (.cons (bM zG) (.cons (show (0:Int)≤0 by decide) (.c8 (aF (v55 0) z55 (show (0:Int)≤0 by decide) wJ) (aT I ((aa dK.1 0).f4)) (bM DD) (show (0:Int)≤0 by decide) (aF (v55 0) z55 (show (0:Int)≤0 by decide) wJ) (bM LW) (show (0:Int)≤0 by decide) (aF (v55 0) z55 (show (0:Int)≤0 by decide) wJ)))))<|⟨k,by omega,dK.1,(((aa dK.1 0).f1) != 16),dK.2.1,dK.2.2,Wo [(5,0),(47,0)],H⟩
  exact Rh hN [I (dK.1.length:Int),B false,(v55 0) (aa dK.1 0),I (((aa dK.1 0).f4).length:Int),B false,(v55 0) (aa dK.1 0),B true] (.cons (aT (v55 0) dK.1) (.c8 (bM zG) (show (0:Int)≤0 by decide) (aF (v55 0) z55 (show (0:Int)≤0 by decide) wJ) (aT I ((aa dK.1 0).f4)) (bM DD) (show (0:Int)≤0 by decide) (aF (v55 0) z55 (show (0:Int)≤0 by decide) wJ) (nq LW)))<|⟨k,by omega,dK.1,true,dK.2.1,dK.2.2,Wo [(5,0),(47,0)],H⟩
 clear H
 rintro st ⟨n',hn',x5,BF,x1000,ah,W,H⟩
 rcases n' with _ | k
 ·cases H
 refine W.good ?_
 rw [ed.j0] at H
 rcases aj H with ⟨LX,H⟩ | ⟨LX,H⟩
 ·refine Ct LX<|Sw<|Rg hN ?_
  cases H
  exact Rt dR
 refine Cf (bf LX)<|Sk<|Sw<|Sw<|Good.cut (fun st=>∃ n':Nat,n'≤k∧∃ (x5:List af) (x80:Bool) (x1000:Int) (ah:Int),Wk C st ⟨[(5,.w (.row none 5 (List.map (v55 0) x5))),(80,.w (B x80))],[.cells [.v (I x1000),.v (I ah)]]⟩∧ed.j1 n' x5 x80=some r) ?_ ?_
 ·obtain ⟨nT,H⟩:=ax H
  rcases (aj H).symm with ⟨wK,H⟩ | ⟨wK,H⟩
  ·exact Rh hN [(v55 0) (aa x5 1),B true,B true,B true,B true] (.c6 (show (0:Int)≤1 by decide) (aF (v55 0) z55 (show (0:Int)≤1 by decide) nT) (nq wK) (rfl:true=true) (rfl:true=true) (rfl:true=true))<|⟨k,by omega,x5,true,x1000,ah,Wo [(5,0),(80,0)],H⟩
  rcases (aj H).symm with ⟨zH,H⟩ | ⟨zH,H⟩
  ·exact Rh hN [(v55 0) (aa x5 1),B false,(v55 0) (aa x5 1),B true,B true,B true] (.c8 (show (0:Int)≤1 by decide) (aF (v55 0) z55 (show (0:Int)≤1 by decide) nT) (bM wK) (show (0:Int)≤1 by decide) (aF (v55 0) z55 (show (0:Int)≤1 by decide) nT) (nq zH) (rfl:true=true) (rfl:true=true))<|⟨k,by omega,x5,true,x1000,ah,Wo [(5,0),(80,0)],H⟩
  rcases (aj H).symm with ⟨DF,H⟩ | ⟨DF,H⟩
  ·exact Ri hN [(v55 0) (aa x5 1),B false,(v55 0) (aa x5 1),B false,(v55 0) (aa x5 1),B true,B true] (.cons (show (0:Int)≤1 by decide) (.cons (aF (v55 0) z55 (show (0:Int)≤1 by decide) nT) (.cons (bM wK) (.c8 (show (0:Int)≤1 by decide) (aF (v55 0) z55 (show (0:Int)≤1 by decide) nT) (bM zH) (show (0:Int)≤1 by decide) (aF (v55 0) z55 (show (0:Int)≤1 by decide) nT) (uD (rfl:((aa x5 1).f3).toList=((aa x5 1).f3).toList) (dV ([1]:List UInt8))) (nq DF) (rfl:true=true))))) [(65,.bool (((aa x5 1).f3).toList != ([1]:List UInt8)))]<|⟨k,by omega,x5,true,x1000,ah,Wo [(5,0),(80,0)],H⟩
  obtain ⟨LY,H⟩:=ax H
  rcases aj H with ⟨LZ,H⟩ | ⟨LZ,H⟩
  ·exact Ri hN [(v55 0) (aa x5 1),B false,(v55 0) (aa x5 1),B false,(v55 0) (aa x5 1),B false,(v55 0) (aa x5 2),B false,(v55 0) (aa x5 2)] (.cons (show (0:Int)≤1 by decide) (.cons (aF (v55 0) z55 (show (0:Int)≤1 by decide) nT) (.cons (bM wK) (.cons (show (0:Int)≤1 by decide) (.cons (aF (v55 0) z55 (show (0:Int)≤1 by decide) nT) (.cons (bM zH) (.cons (show (0:Int)≤1 by decide) (.c8 (aF (v55 0) z55 (show (0:Int)≤1 by decide) nT) (uD (rfl:((aa x5 1).f3).toList=((aa x5 1).f3).toList) (dV ([1]:List UInt8))) (bM DF) (show (0:Int)≤2 by decide) (aF (v55 0) z55 (show (0:Int)≤2 by decide) LY) (bM LZ) (show (0:Int)≤2 by decide) (aF (v55 0) z55 (show (0:Int)≤2 by decide) LY))))))))) [(65,.bool (((aa x5 1).f3).toList != ([1]:List UInt8)))]<|⟨k,by omega,x5,(((aa x5 2).f1) != 4),x1000,ah,Wo [(5,0),(80,0)],H⟩
  exact Ri hN [(v55 0) (aa x5 1),B false,(v55 0) (aa x5 1),B false,(v55 0) (aa x5 1),B false,(v55 0) (aa x5 2),B true] (.cons (show (0:Int)≤1 by decide) (.cons (aF (v55 0) z55 (show (0:Int)≤1 by decide) nT) (.cons (bM wK) (.cons (show (0:Int)≤1 by decide) (.cons (aF (v55 0) z55 (show (0:Int)≤1 by decide) nT) (.c8 (bM zH) (show (0:Int)≤1 by decide) (aF (v55 0) z55 (show (0:Int)≤1 by decide) nT) (uD (rfl:((aa x5 1).f3).toList=((aa x5 1).f3).toList) (dV ([1]:List UInt8))) (bM DF) (show (0:Int)≤2 by decide) (aF (v55 0) z55 (show (0:Int)≤2 by decide) LY) (nq LZ))))))) [(65,.bool (((aa x5 1).f3).toList != ([1]:List UInt8)))]<|⟨k,by omega,x5,true,x1000,ah,Wo [(5,0),(80,0)],H⟩
 clear H
 rintro st ⟨n',hn',x5,x80,x1000,ah,W,H⟩
 rcases n' with _ | k
 ·cases H
 refine W.good ?_
 rw [ed.j1] at H
 rcases aj H with ⟨L6,H⟩ | ⟨L6,H⟩
 ·refine Ct L6<|Sw<|Rg hN ?_
  cases H
  exact Rt dR
 refine Cf (bf L6)<|Sk<|Sw<|Sw<|Good.cut (fun st=>∃ n':Nat,n'≤k∧∃ (x5:List af) (x114:Bool) (x1000:Int) (ah:Int),Wk C st ⟨[(5,.w (.row none 5 (List.map (v55 0) x5))),(114,.w (B x114))],[.cells [.v (I x1000),.v (I ah)]]⟩∧ed.j2 n' x5 x114=some r) ?_ ?_
 ·obtain ⟨nU,H⟩:=ax H
  rcases (aj H).symm with ⟨wL,H⟩ | ⟨wL,H⟩
  ·exact Rh hN [(v55 0) (aa x5 3),B true,B true,B true,B true] (.c6 (show (0:Int)≤3 by decide) (aF (v55 0) z55 (show (0:Int)≤3 by decide) nU) (nq wL) (rfl:true=true) (rfl:true=true) (rfl:true=true))<|⟨k,by omega,x5,true,x1000,ah,Wo [(5,0),(114,0)],H⟩
  rcases (aj H).symm with ⟨zI,H⟩ | ⟨zI,H⟩
  ·exact Rh hN [(v55 0) (aa x5 3),B false,(v55 0) (aa x5 3),B true,B true,B true] (.c8 (show (0:Int)≤3 by decide) (aF (v55 0) z55 (show (0:Int)≤3 by decide) nU) (bM wL) (show (0:Int)≤3 by decide) (aF (v55 0) z55 (show (0:Int)≤3 by decide) nU) (nq zI) (rfl:true=true) (rfl:true=true))<|⟨k,by omega,x5,true,x1000,ah,Wo [(5,0),(114,0)],H⟩
  rcases (aj H).symm with ⟨DI,H⟩ | ⟨DI,H⟩
  ·exact Rh hN [(v55 0) (aa x5 3),B false,(v55 0) (aa x5 3),B false,(v55 0) (aa x5 3),I (((aa x5 3).f4).length:Int),B true,B true] (.cons (show (0:Int)≤3 by decide) (.cons (aF (v55 0) z55 (show (0:Int)≤3 by decide) nU) (.cons (bM wL) (.c8 (show (0:Int)≤3 by decide) (aF (v55 0) z55 (show (0:Int)≤3 by decide) nU) (bM zI) (show (0:Int)≤3 by decide) (aF (v55 0) z55 (show (0:Int)≤3 by decide) nU) (aT I ((aa x5 3).f4)) (nq DI) (rfl:true=true)))))<|⟨k,by omega,x5,true,x1000,ah,Wo [(5,0),(114,0)],H⟩
  obtain ⟨L8,H⟩:=ax H
  rcases aj H with ⟨L9,H⟩ | ⟨L9,H⟩
  ·exact Rh hN [(v55 0) (aa x5 3),B false,(v55 0) (aa x5 3),B false,(v55 0) (aa x5 3),I (((aa x5 3).f4).length:Int),B false,(v55 0) (aa x5 4),B false,(v55 0) (aa x5 4)] (.cons (show (0:Int)≤3 by decide) (.cons (aF (v55 0) z55 (show (0:Int)≤3 by decide) nU) (.cons (bM wL) (.cons (show (0:Int)≤3 by decide) (.cons (aF (v55 0) z55 (show (0:Int)≤3 by decide) nU) (.cons (bM zI) (.cons (show (0:Int)≤3 by decide) (.c8 (aF (v55 0) z55 (show (0:Int)≤3 by decide) nU) (aT I ((aa x5 3).f4)) (bM DI) (show (0:Int)≤4 by decide) (aF (v55 0) z55 (show (0:Int)≤4 by decide) L8) (bM L9) (show (0:Int)≤4 by decide) (aF (v55 0) z55 (show (0:Int)≤4 by decide) L8)))))))))<|⟨k,by omega,x5,(((aa x5 4).f1) != 6),x1000,ah,Wo [(5,0),(114,0)],H⟩
  exact Rh hN [(v55 0) (aa x5 3),B false,(v55 0) (aa x5 3),B false,(v55 0) (aa x5 3),I (((aa x5 3).f4).length:Int),B false,(v55 0) (aa x5 4),B true] (.cons (show (0:Int)≤3 by decide) (.cons (aF (v55 0) z55 (show (0:Int)≤3 by decide) nU) (.cons (bM wL) (.cons (show (0:Int)≤3 by decide) (.cons (aF (v55 0) z55 (show (0:Int)≤3 by decide) nU) (.c8 (bM zI) (show (0:Int)≤3 by decide) (aF (v55 0) z55 (show (0:Int)≤3 by decide) nU) (aT I ((aa x5 3).f4)) (bM DI) (show (0:Int)≤4 by decide) (aF (v55 0) z55 (show (0:Int)≤4 by decide) L8) (nq L9)))))))<|⟨k,by omega,x5,true,x1000,ah,Wo [(5,0),(114,0)],H⟩
 clear H
 rintro st ⟨n',hn',x5,x114,x1000,ah,W,H⟩
 rcases n' with _ | k
 ·cases H
 refine W.good ?_
 rw [ed.j2] at H
 rcases aj H with ⟨Ma,H⟩ | ⟨Ma,H⟩
 ·refine Ct Ma<|Sw<|Rg hN ?_
  cases H
  exact Rt dR
 refine Cf (bf Ma)<|Sk<|Sw ?_
 obtain ⟨aib,H⟩:=ax H
 obtain ⟨DC,aic,H⟩:=aC H
 refine Rh hN [(v55 0) (aa x5 4),.aD [.row none 1 (List.map I DC.1),B DC.2]] (.c3 (show (0:Int)≤4 by decide) (aF (v55 0) z55 (show (0:Int)≤4 by decide) aib) (gI.au aic).c)<|Sw ?_
 obtain ⟨wI,aid,H⟩:=aC H
 refine Rh hN [.aD [I wI.1,B wI.2]] (.c1 (kE.au aid).c)<|Sw<|Sw<|Rg hN ?_
 rcases (aj H).symm with ⟨Mc,H⟩ | ⟨Mc,H⟩
 ·refine Ct (eB (bf Mc))<|Sw<|Rg hN ?_
  cases H
  exact Rt dR
 refine Cf (fw Mc)<|Sk<|Sw ?_
 obtain ⟨Md,H⟩:=ax H
 obtain ⟨zF,aie,H⟩:=aC H
 refine Rh hN [(v55 0) (aa x5 2),.aD [S zF.1,I zF.2]] (.c3 (show (0:Int)≤2 by decide) (aF (v55 0) z55 (show (0:Int)≤2 by decide) Md) (nD.au aie).c)<|Sw<|Sw<|Rg hN ?_
 rcases (aj H).symm with ⟨c1255,H⟩ | ⟨c1255,H⟩
 ·refine Ct (nq c1255)<|Sw<|Rg hN ?_
  cases H
  exact Rt dR
 refine Cf (bM c1255)<|Sk<|Sw<|Rd hm hN (.qs 7 0 (.q 7 [] .z)) [(5,none),(9,none)] .nil [(v55 0) (aa x5 2)] [(v55 0) (aa x5 2)] (.c2 (show (0:Int)≤2 by decide) (aF (v55 0) z55 (show (0:Int)≤2 by decide) Md)) (.c2 (show (0:Int)≤2 by decide) (aF (v55 0) z55 (show (0:Int)≤2 by decide) Md)) [] [] ?_
 cases H
 exact Rt dR
def mU.l0:Nat→Int→Int→ByteArray→Option (Int)
 | 0,_,_,_=>none
 | k+1,x0,x3,x4=>if (x4.size:Int) < x3 then (if 1+x4.size≤9223372036854775807 then (mU.l0 k x0 x3 ((⟨#[0]⟩:ByteArray)++x4)) else (none)) else ((nD.f k x0 x4).bind fun DJ=>(some (DJ.1.size:Int)))
def mU.f (k:Nat) (a0:Int):Option (Int):=(lK.f a0).bind fun zJ=>(if zJ=0 then (some 0) else (mU.l0 k a0 zJ (⟨#[1]⟩:ByteArray)))
theorem mU.au {k:Nat} {a0:Int} {r:(Int)} (H:mU.f k a0=some r):aQ Tryz.prog 11 [I a0] (I r):=by
 refine Cg Tryz.func11 rfl fun C hN hL=>?_
 unfold mU.f at H
 refine Sw<|Rg hN<|Sw ?_
 obtain ⟨zJ,aif,H⟩:=aC H
 refine Rh hN [I zJ] (.c1 (lK.au aif).c)<|Sw<|Sw<|Rg hN ?_
 rcases aj H with ⟨Me,H⟩ | ⟨Me,H⟩
 ·refine Ct (bq Me)<|Sw<|Rg hN ?_
  cases H
  exact Rt dR
 refine Cf (bn Me)<|Sk<|Sw<|Rg hN<|Sw<|Bl<|Good.dN (fun k' st=>∃ (x0:Int) (x3:Int) (x4:ByteArray),k'≤k∧Wk C st ⟨[(0,.w (I x0)),(3,.w (I x3)),(4,.w (S x4))],[]⟩∧mU.l0 k' x0 x3 x4=some r) k ⟨a0,zJ,(⟨#[1]⟩:ByteArray),Nat.le_refl _,Wo [(0,0),(3,0),(4,0)],H⟩ fun k=>⟨fun st h=>(by obtain ⟨_,_,_,_,_,H⟩:=h;cases H),?_⟩
 clear H
 rintro st ⟨x0,x3,x4,hk,W,H⟩
 refine W.good ?_
 rw [mU.l0] at H
 refine Sw<|Sw<|Rg hN ?_
 rcases aj H with ⟨Mf,H⟩ | ⟨Mf,H⟩
 ·refine Ct (dt Mf)<|Sk<|Bl ?_
  obtain ⟨aih,H⟩:=ax H
  exact Rh hN [] (.c1 aih)<|⟨k,by omega,x0,x3,(⟨#[0]⟩:ByteArray)++x4,by omega,Wo [(0,0),(3,0),(4,0)],H⟩
 refine Cf (df Mf)<|Ex<|Sw ?_
 obtain ⟨DJ,aii,H⟩:=aC H
 refine Rh hN [.aD [S DJ.1,I DJ.2]] (.c1 (nD.au aii).c)<|Sw<|Rg hN ?_
 cases H
 exact Rt dR
def l9.j0:Nat→Int→ByteArray→ByteArray→Bool→Option (Bool)
 | 0,_,_,_,_=>none
 | k+1,x0,x1,x2,x24=>if x24=true then ((qR.f k).bind fun Mg=>(some Mg)) else ((pE.f k x0 x1).bind fun zK=>((nD.f k x0 x1).bind fun zL=>((nC.f k x2).bind fun uN=>((ed.f k x2).bind fun uO=>(if zK.1.toList=zL.1.toList then (if zK.2=zL.2 then (if uN.1=uO.1 then (if uN.2.1.toList=uO.2.1.toList then (if uN.2.2=uO.2.2 then ((pI.f k x0).bind fun DK=>((mU.f k x0).bind fun DL=>(if DK=DL then ((qR.f k).bind fun Mh=>(some Mh)) else (some false)))) else (some false)) else (some false)) else (some false)) else (some false)) else (some false))))))
def l9.f (k:Nat) (a0:Int) (a1:ByteArray) (a2:ByteArray):Option (Bool):=if (a1.size:Int) > 200 then (l9.j0 k a0 a1 a2 true) else (l9.j0 k a0 a1 a2 (decide ((a2.size:Int) > 500)))
theorem l9.au {k:Nat} {a0:Int} {a1:ByteArray} {a2:ByteArray} {r:(Bool)} (H:l9.f k a0 a1 a2=some r):aQ Tryz.prog 3 [I a0,S a1,S a2] (B r):=by
 refine Cg Tryz.func3 rfl fun C hN hL=>?_
 unfold l9.f at H
 refine Sw<|Rg hN<|Sw<|Sw<|Good.cut (fun st=>∃ n':Nat,n'≤k∧∃ (x0:Int) (x1:ByteArray) (x2:ByteArray) (x24:Bool),Wk C st ⟨[(0,.w (I x0)),(1,.w (S x1)),(2,.w (S x2)),(24,.w (B x24))],[]⟩∧l9.j0 n' x0 x1 x2 x24=some r) ?_ ?_
 ·rcases aj H with ⟨Mi,H⟩ | ⟨Mi,H⟩
  ·exact Rh hN [B true] (.c1 (dt Mi))<|⟨k,by omega,a0,a1,a2,true,Wo [(0,0),(1,0),(2,0),(24,0)],H⟩
  exact Rh hN [B false] (.c1 (df Mi))<|⟨k,by omega,a0,a1,a2,decide ((a2.size:Int) > 500),Wo [(0,0),(1,0),(2,0),(24,0)],H⟩
 clear H
 rintro st ⟨n',hn',x0,x1,x2,x24,W,H⟩
 rcases n' with _ | k
 ·cases H
 refine W.good ?_
 rw [l9.j0] at H
 rcases aj H with ⟨Mj,H⟩ | ⟨Mj,H⟩
 ·refine Ct Mj<|Sw ?_
  obtain ⟨Mg,aij,H⟩:=aC H
  refine Rh hN [B Mg] (.c1 (qR.au aij).c) ?_
  cases H
  exact Rt dR
 refine Cf (bf Mj)<|Sk<|Sw ?_
 obtain ⟨zK,aik,H⟩:=aC H
 refine Rh hN [.aD [S zK.1,I zK.2]] (.c1 (pE.au aik).c)<|Sw ?_
 obtain ⟨zL,ail,H⟩:=aC H
 refine Rh hN [.aD [S zL.1,I zL.2]] (.c1 (nD.au ail).c)<|Sw ?_
 obtain ⟨uN,aim,H⟩:=aC H
 refine Rh hN [.aD [I uN.1,S uN.2.1,I uN.2.2]] (.c1 (nC.au aim).c)<|Sw ?_
 obtain ⟨uO,ain,H⟩:=aC H
 refine Rh hN [.aD [I uO.1,S uO.2.1,I uO.2.2]] (.c1 (ed.au ain).c)<|Sw ?_
 rcases (aj H).symm with ⟨rX,H⟩ | ⟨rX,H⟩
 ·refine Rh hN [B false,B false,B false,B false,B false,B false] (.c6 (bn rX) (rfl:false=false) (rfl:false=false) (rfl:false=false) (rfl:false=false) (rfl:false=false)) ?_
  cases H
  exact Rt dR
 rcases (aj H).symm with ⟨uP,H⟩ | ⟨uP,H⟩
 ·refine Rh hN [B true,B false,B false,B false,B false,B false] (.c6 (bq rX) (bn uP) (rfl:false=false) (rfl:false=false) (rfl:false=false) (rfl:false=false)) ?_
  cases H
  exact Rt dR
 rcases (aj H).symm with ⟨wM,H⟩ | ⟨wM,H⟩
 ·refine Rh hN [B true,B true,B false,B false,B false,B false] (.c6 (bq rX) (bq uP) (bn wM) (rfl:false=false) (rfl:false=false) (rfl:false=false)) ?_
  cases H
  exact Rt dR
 rcases (aj H).symm with ⟨zM,H⟩ | ⟨zM,H⟩
 ·refine Rh hN [B true,B true,B true,B false,B false,B false] (.c6 (bq rX) (bq uP) (bq wM) (bn zM) (rfl:false=false) (rfl:false=false)) ?_
  cases H
  exact Rt dR
 rcases (aj H).symm with ⟨DN,H⟩ | ⟨DN,H⟩
 ·refine Rh hN [B true,B true,B true,B true,B false,B false] (.c6 (bq rX) (bq uP) (bq wM) (bq zM) (bn DN) (rfl:false=false)) ?_
  cases H
  exact Rt dR
 obtain ⟨DK,Ya,H⟩:=aC H
 obtain ⟨DL,Yb,H⟩:=aC H
 rcases (aj H).symm with ⟨Mk,H⟩ | ⟨Mk,H⟩
 ·refine Rh hN [B true,B true,B true,B true,B true,I DK,I DL,B false] (.c8 (bq rX) (bq uP) (bq wM) (bq zM) (bq DN) (pI.au Ya).c (mU.au Yb).c (bn Mk)) ?_
  cases H
  exact Rt dR
 obtain ⟨Mh,aio,H⟩:=aC H
 refine Rh hN [B true,B true,B true,B true,B true,I DK,I DL,B true,B Mh] (.cons (bq rX) (.c8 (bq uP) (bq wM) (bq zM) (bq DN) (pI.au Ya).c (mU.au Yb).c (bq Mk) (qR.au aio).c)) ?_
 cases H
 exact Rt dR
end Go.Rf.T
