import Derived.Test.YtdombjceoocnhaaGreatDoorRSec1Back3
import Derived.Test.YtdombjceoocnhaaGreatDoorProg
import Derived.Test.YtdombjceoocnhaaGreatDoorSSec1Back0
import Derived.Test.YtdombjceoocnhaaGreatDoorRows
import Derived.Shelf.Unicode.ValidAny
import Derived.Lib.LaidU8T
import Derived.MakeChecks
import Derived.Deep.Cut
import Derived.RangeFuncNested
import Derived.RangeFuncBound
import Derived.RangeFuncCalls
import Derived.RangeFuncLeaves
import Derived.RangeFuncBox
import Derived.Shelf.Abstract
import Derived.Shelf.RegionOpen
import Derived.WalkKit
import Derived.OwnWalkIn
import Derived.TacticsInMore
import Derived.LoopNIn
import Derived.LoopIn
import Derived.Maps.AppendAt
import Derived.Shelf.SlicesE.Reverse
import Derived.Lib.LaidU8
import Derived.Lib.LaidTab
import Derived.Lib.AppendIntMem
import Derived.LaidLaws
import Derived.Lib.AtoiAllCases
import Derived.Lib.AtoiErrMem
import Derived.RangeFuncWrites
import Derived.Laws.BytesArg
set_option linter.unusedSectionVars false
set_option linter.unusedSimpArgs false
set_option linter.unusedVariables false
namespace Go.Rf.T
open Go Go.Rf Go.Proofs Go.RowKit Go.Proofs.YtdombjceoocnhaaGreatDoor
def laidL:=Rows.sec1BackRow.laid
instance:Tabs:=⟨fun p w=>∃ W,laidMetH Tryz.prog laidL W∧∀ b,b < W.heap.size→p b∧w.heap[b]? = W.heap[b]?,fun k h=>let ⟨W,h1,h2⟩:=h;⟨W,h1,fun b hb=>⟨k.pub b (h2 b hb).1,(k.same b (h2 b hb).1).trans (h2 b hb).2⟩⟩⟩
theorem hm:Tryz.prog.follows .mixedOrders=true:=by kernel_rfl
structure S55 where
 f0:Int
 f1:Int
 f2:Bool
 f3:ByteArray
 f4:List Int
 deriving Inhabited,DecidableEq
def z55:S55:=⟨0,0,false,(⟨#[]⟩:ByteArray),[]⟩
def v55 (o:Nat) (s:S55):V:=.agg [I s.f0,I s.f1,B s.f2,S s.f3,.row (lvo o 3) 1 (List.map I s.f4)]
theorem v55.shr (o:Nat) (s:S55):(v55 o s).shr=v55 0 s:=aggS (shrC (rfl:V.shr (I s.f0)=I s.f0) (shrC (rfl:V.shr (I s.f1)=I s.f1) (shrC (rfl:V.shr (B s.f2)=B s.f2) (shrC (rfl:V.shr (S s.f3)=S s.f3) (shrC (shrM (lvo o 3) 1 I I s.f4 (fun _=>rfl)) (rfl:shrL []=[]))))))
def rd_T55 (l:List S55) (i:Int):S55:=l.getD i.toNat z55
structure S85 where
 f0:ByteArray
 f1:ByteArray
 f2:ByteArray
 f3:Int
 deriving Inhabited,DecidableEq
def z85:S85:=⟨(⟨#[]⟩:ByteArray),(⟨#[]⟩:ByteArray),(⟨#[]⟩:ByteArray),0⟩
def v85 (s:S85):V:=.agg [S s.f0,S s.f1,S s.f2,I s.f3]
def rd_T85 (l:List S85) (i:Int):S85:=l.getD i.toNat z85
structure S158 where
 f0:Int
 f1:Int
 deriving Inhabited,DecidableEq
def z158:S158:=⟨0,0⟩
def v158 (s:S158):V:=.agg [I s.f0,I s.f1]
def rd_T158 (l:List S158) (i:Int):S158:=l.getD i.toNat z158
def vL55 (o:Nat) (l:List S55):V:=.row (lvo o 55) 5 (List.map (v55 (o - 1)) l)
theorem vL55.shr (o:Nat) (l:List S55):(vL55 o l).shr=vL55 0 l:=shrM (lvo o 55) 5 (v55 (o - 1)) (v55 0) l (v55.shr _)
def rd_L55 (l:List (List S55)) (i:Int):List S55:=l.getD i.toNat []
def curve_table.f  : Option (ByteArray × ByteArray × ByteArray × Int × ByteArray × ByteArray × ByteArray × Int × ByteArray × ByteArray × ByteArray × Int × ByteArray × ByteArray × ByteArray × Int):=some ((⟨#[80,45,50,50,52]⟩:ByteArray),(⟨#[49,46,51,46,49,51,50,46,48,46,51,51]⟩:ByteArray),(⟨#[70,70,70,70,70,70,70,70,70,70,70,70,70,70,70,70,70,70,70,70,70,70,70,70,70,70,70,70,49,54,65,50,69,48,66,56,70,48,51,69,49,51,68,68,50,57,52,53,53,67,53,67,50,65,51,68]⟩:ByteArray),28,(⟨#[80,45,50,53,54]⟩:ByteArray),(⟨#[49,46,50,46,56,52,48,46,49,48,48,52,53,46,51,46,49,46,55]⟩:ByteArray),(⟨#[70,70,70,70,70,70,70,70,48,48,48,48,48,48,48,48,70,70,70,70,70,70,70,70,70,70,70,70,70,70,70,70,66,67,69,54,70,65,65,68,65,55,49,55,57,69,56,52,70,51,66,57,67,65,67,50,70,67,54,51,50,53,53,49]⟩:ByteArray),32,(⟨#[80,45,51,56,52]⟩:ByteArray),(⟨#[49,46,51,46,49,51,50,46,48,46,51,52]⟩:ByteArray),(⟨#[70,70,70,70,70,70,70,70,70,70,70,70,70,70,70,70,70,70,70,70,70,70,70,70,70,70,70,70,70,70,70,70,70,70,70,70,70,70,70,70,70,70,70,70,70,70,70,70,67,55,54,51,52,68,56,49,70,52,51,55,50,68,68,70,53,56,49,65,48,68,66,50,52,56,66,48,65,55,55,65,69,67,69,67,49,57,54,65,67,67,67,53,50,57,55,51]⟩:ByteArray),48,(⟨#[80,45,53,50,49]⟩:ByteArray),(⟨#[49,46,51,46,49,51,50,46,48,46,51,53]⟩:ByteArray),(⟨#[48,49,70,70,70,70,70,70,70,70,70,70,70,70,70,70,70,70,70,70,70,70,70,70,70,70,70,70,70,70,70,70,70,70,70,70,70,70,70,70,70,70,70,70,70,70,70,70,70,70,70,70,70,70,70,70,70,70,70,70,70,70,70,70,70,70,70,65,53,49,56,54,56,55,56,51,66,70,50,70,57,54,54,66,55,70,67,67,48,49,52,56,70,55,48,57,65,53,68,48,51,66,66,53,67,57,66,56,56,57,57,67,52,55,65,69,66,66,54,70,66,55,49,69,57,49,51,56,54,52,48,57]⟩:ByteArray),66)
theorem curve_table.con {r:(ByteArray × ByteArray × ByteArray × Int × ByteArray × ByteArray × ByteArray × Int × ByteArray × ByteArray × ByteArray × Int × ByteArray × ByteArray × ByteArray × Int)} (H:curve_table.f  = some r):Con Tryz.prog 92 [] (.agg [S r.1,S r.2.1,S r.2.2.1,I r.2.2.2.1,S r.2.2.2.2.1,S r.2.2.2.2.2.1,S r.2.2.2.2.2.2.1,I r.2.2.2.2.2.2.2.1,S r.2.2.2.2.2.2.2.2.1,S r.2.2.2.2.2.2.2.2.2.1,S r.2.2.2.2.2.2.2.2.2.2.1,I r.2.2.2.2.2.2.2.2.2.2.2.1,S r.2.2.2.2.2.2.2.2.2.2.2.2.1,S r.2.2.2.2.2.2.2.2.2.2.2.2.2.1,S r.2.2.2.2.2.2.2.2.2.2.2.2.2.2.1,I r.2.2.2.2.2.2.2.2.2.2.2.2.2.2.2]):=by
 refine Cg Tryz.func92 rfl fun C hN hL=>?_
 unfold curve_table.f at H
 refine Sw<|Rg hN<|Sw<|Rg hN ?_
 cases H
 exact Rt dR
def curve_line.f (a0:Int):Option (ByteArray × ByteArray × ByteArray × Int):=(curve_table.f).bind fun t1=>(if a0 < 1 then (some ((⟨#[]⟩:ByteArray),(⟨#[]⟩:ByteArray),(⟨#[]⟩:ByteArray),0)) else (if a0 > 4 then (some ((⟨#[]⟩:ByteArray),(⟨#[]⟩:ByteArray),(⟨#[]⟩:ByteArray),0)) else (if (wrap64 (a0 - 1))=0 then (some (t1.1,t1.2.1,t1.2.2.1,t1.2.2.2.1)) else (if (wrap64 (a0 - 1))=1 then (some (t1.2.2.2.2.1,t1.2.2.2.2.2.1,t1.2.2.2.2.2.2.1,t1.2.2.2.2.2.2.2.1)) else (if (wrap64 (a0 - 1))=2 then (some (t1.2.2.2.2.2.2.2.2.1,t1.2.2.2.2.2.2.2.2.2.1,t1.2.2.2.2.2.2.2.2.2.2.1,t1.2.2.2.2.2.2.2.2.2.2.2.1)) else (if (wrap64 (a0 - 1))=3 then (some (t1.2.2.2.2.2.2.2.2.2.2.2.2.1,t1.2.2.2.2.2.2.2.2.2.2.2.2.2.1,t1.2.2.2.2.2.2.2.2.2.2.2.2.2.2.1,t1.2.2.2.2.2.2.2.2.2.2.2.2.2.2.2)) else (none)))))))
theorem curve_line.con {a0:Int} {r:(ByteArray × ByteArray × ByteArray × Int)} (H:curve_line.f a0=some r):Con Tryz.prog 59 [I a0] (.agg [S r.1,S r.2.1,S r.2.2.1,I r.2.2.2]):=by
 refine Cg Tryz.func59 rfl fun C hN hL=>?_
 unfold curve_line.f at H
 refine Sw<|Rg hN<|Sw ?_
 obtain ⟨t1,h2,H⟩:=bindS H
 refine Rh hN [.agg [S t1.1,S t1.2.1,S t1.2.2.1,I t1.2.2.2.1,S t1.2.2.2.2.1,S t1.2.2.2.2.2.1,S t1.2.2.2.2.2.2.1,I t1.2.2.2.2.2.2.2.1,S t1.2.2.2.2.2.2.2.2.1,S t1.2.2.2.2.2.2.2.2.2.1,S t1.2.2.2.2.2.2.2.2.2.2.1,I t1.2.2.2.2.2.2.2.2.2.2.2.1,S t1.2.2.2.2.2.2.2.2.2.2.2.2.1,S t1.2.2.2.2.2.2.2.2.2.2.2.2.2.1,S t1.2.2.2.2.2.2.2.2.2.2.2.2.2.2.1,I t1.2.2.2.2.2.2.2.2.2.2.2.2.2.2.2]] (.c1 (curve_table.con h2).c)<|Sw<|Sw ?_
 rcases ifC H with ⟨c3,H⟩ | ⟨c3,H⟩
 ·refine Rh hN [B true] (.c1 (dt c3))<|Good.cond true (by kernel_rfl)<|Sw<|Rg hN ?_
  cases H
  exact Rt dR
 refine Rh hN [B false] (.c1 (df c3)) ?_
 rcases ifC H with ⟨c4,H⟩ | ⟨c4,H⟩
 ·refine Ct (dt c4)<|Sw<|Rg hN ?_
  cases H
  exact Rt dR
 refine Cf (df c4)<|Sk<|Sw ?_
 rcases ifC H with ⟨c5,H⟩ | ⟨c5,H⟩
 ·refine Rj hN [] (.c3 (fitI c5) (show (0:Int)≤0 by decide) (show (0:Int) < ((4:Nat):Int) by decide)) [] [(13,I 0)] ?_
  cases H
  exact Rt dR
 rcases ifC H with ⟨c6,H⟩ | ⟨c6,H⟩
 ·refine Rj hN [] (.c3 (fitI c6) (show (0:Int)≤1 by decide) (show (1:Int) < ((4:Nat):Int) by decide)) [] [(13,I 1)] ?_
  cases H
  exact Rt dR
 rcases ifC H with ⟨c7,H⟩ | ⟨c7,H⟩
 ·refine Rj hN [] (.c3 (fitI c7) (show (0:Int)≤2 by decide) (show (2:Int) < ((4:Nat):Int) by decide)) [] [(13,I 2)] ?_
  cases H
  exact Rt dR
 obtain ⟨c8,H⟩:=ifS H
 refine Rj hN [] (.c3 (fitI c8) (show (0:Int)≤3 by decide) (show (3:Int) < ((4:Nat):Int) by decide)) [] [(13,I 3)] ?_
 cases H
 exact Rt dR
def curve_Width.f (a0:Int):Option (Int):=(curve_line.f a0).bind fun t9=>(some t9.2.2.2)
theorem curve_Width.con {a0:Int} {r:(Int)} (H:curve_Width.f a0=some r):Con Tryz.prog 30 [I a0] (I r):=by
 refine Cg Tryz.func30 rfl fun C hN hL=>?_
 unfold curve_Width.f at H
 refine Sw<|Rg hN<|Sw ?_
 obtain ⟨t9,h10,H⟩:=bindS H
 refine Rh hN [.agg [S t9.1,S t9.2.1,S t9.2.2.1,I t9.2.2.2]] (.c1 (curve_line.con h10).c) ?_
 cases H
 exact Rt dR
theorem strings_Trim.one {a:ByteArray} (h:a.size=1):∃ c:UInt8,a=⟨#[c]⟩:=by
 obtain ⟨d⟩:=a
 obtain ⟨c,hc⟩:=Array.size_eq_one_iff.1 h
 exact ⟨c,by rw [hc]⟩
def strings_Trim.f (a0:ByteArray) (a1:ByteArray):Option ByteArray:=if a1.size=1∧a0.size≤9223372036854775807 then (if bt a1 0 < 128 then some ⟨(Lib.trimB a0.data.toList (UInt8.ofNat (bt a1 0).toNat)).toArray⟩ else none) else none
theorem strings_Trim.con {a0 a1 r:ByteArray} (H:strings_Trim.f a0 a1=some r):Con Tryz.prog 66 [S a0,S a1] (S r):=by
 unfold strings_Trim.f at H
 obtain ⟨⟨h1,h3⟩,H⟩:=ifS H
 obtain ⟨c,rfl⟩:=strings_Trim.one h1
 have e:bt (⟨#[c]⟩:ByteArray) 0=(c.toNat:Int):=rfl
 rw [e] at H
 obtain ⟨h2,H⟩:=ifS H
 cases H
 exact con_lits Tryz.func66 rfl (by kernel_rfl) rfl fun p w ht=>(Tryz.strings_Trim_one a0 c (by omega) w h3).mono (by
  rintro e w' ⟨rfl,hw⟩
  refine ⟨by simp,?_⟩
  rcases hw with rfl | rfl
  ·exact Below.refl _ _
  ·exact Below.drew (Below.refl _ _))
def strings_Compare.f (a0:ByteArray) (a1:ByteArray):Option Int:=some (Lib.compareBytes a0.data.toList a1.data.toList)
theorem strings_Compare.con {a0 a1:ByteArray} {r:Int} (H:strings_Compare.f a0 a1=some r):Con Tryz.prog 67 [S a0,S a1] (I r):=by
 cases H
 exact con_lits Tryz.func67 rfl (by kernel_rfl) rfl fun p w ht=>(Tryz.strings_Compare a0 a1 w).mono (by rintro e w' ⟨rfl,rfl⟩;exact ⟨rfl,Below.refl _ _⟩)
def strings_IndexByte.f (a0:ByteArray) (a1:Int):Option Int:=some (Lib.indexByte a0.data.toList a1.toNat.toUInt8)
theorem strings_IndexByte.con {a0:ByteArray} {a1:Int} {r:Int} (H:strings_IndexByte.f a0 a1=some r):Con Tryz.prog 153 [S a0,K .u8 a1] (I r):=by
 cases H
 exact con_lits Tryz.func153 rfl (by kernel_rfl) rfl fun p w ht=>(Tryz.strings_IndexByte a0 a1 w).mono (by rintro e w' ⟨rfl,hw⟩;exact ⟨rfl,by first | (subst hw;exact Below.refl _ _) | exact hw⟩)
def digits_Value.f (a0:Int):Option (Int):=(strings_IndexByte.f (⟨#[48,49,50,51,52,53,54,55,56,57,65,66,67,68,69,70]⟩:ByteArray) a0).bind fun t11=>(some t11)
theorem digits_Value.con {a0:Int} {r:(Int)} (H:digits_Value.f a0=some r):Con Tryz.prog 134 [K .u8 a0] (I r):=by
 refine Cg Tryz.func134 rfl fun C hN hL=>?_
 unfold digits_Value.f at H
 refine Sw<|Rg hN<|Sw ?_
 obtain ⟨t11,h12,H⟩:=bindS H
 refine Rh hN [I t11] (.c1 (strings_IndexByte.con h12).c) ?_
 cases H
 exact Rt dR
def digits_Unhex.l0:Nat→ByteArray→List Int→Int→Int→Option (ByteArray × Bool)
 | 0,_,_,_,_=>none
 | k+1,x0,x4,x16,x17=>if x17 < x16 then (if 0≤(wrap64 (2*x17)) then (if (wrap64 (2*x17)) < (x0.size:Int) then (if 0≤(wrap64 ((wrap64 (2*x17))+1)) then (if (wrap64 ((wrap64 (2*x17))+1)) < (x0.size:Int) then ((digits_Value.f (bt x0 (wrap64 (2*x17)))).bind fun t23=>((digits_Value.f (bt x0 (wrap64 ((wrap64 (2*x17))+1)))).bind fun t25=>(if (mn t23 t25) < 0 then (some ((⟨#[]⟩:ByteArray),false)) else (if 0≤x17 then (if x17 < (x4.length:Int) then (digits_Unhex.l0 k x0 (x4.set (x17:Int).toNat ((Go.bits .or .i64 (wrap64 (t23*16)) t25) % 256)) x16 (wrap64 (x17+1))) else (none)) else (none))))) else (none)) else (none)) else (none)) else (none)) else (some (strOfNums x4,true))
def digits_Unhex.f (k:Nat) (a0:ByteArray):Option (ByteArray × Bool):=if (Go.bits .and .i64 (a0.size:Int) 1)=1 then (some ((⟨#[]⟩:ByteArray),false)) else (if 0≤(wrap64 (Int.tdiv (a0.size:Int) 2)) then (if ((wrap64 (Int.tdiv (a0.size:Int) 2)):Int).toNat≤281474976710656 then (((some (List.replicate ((wrap64 (Int.tdiv (a0.size:Int) 2)):Int).toNat 0:List Int))).bind fun y16=>(digits_Unhex.l0 k a0 y16 (y16.length:Int) 0)) else (none)) else (none))
theorem digits_Unhex.con {k:Nat} {a0:ByteArray} {r:(ByteArray × Bool)} (H:digits_Unhex.f k a0=some r):Con Tryz.prog 109 [S a0] (.tup [S r.1,B r.2]):=by
 refine Cg Tryz.func109 rfl fun C hN hL=>?_
 unfold digits_Unhex.f at H
 refine Sw<|Rg hN<|Sw<|Sw<|Rg hN ?_
 rcases ifC H with ⟨c13,H⟩ | ⟨c13,H⟩
 ·refine Ct (bq c13)<|Sw<|Rg hN ?_
  cases H
  exact Rt dR
 refine Cf (bn c13)<|Sk<|Sw ?_
 obtain ⟨c14,H⟩:=ifS H
 obtain ⟨c15,H⟩:=ifS H
 obtain ⟨y16,h17,H⟩:=bindS H
 refine Rh hN [.row (some 5) 1 (List.map (K .u8) y16)] (.c5 (show (2:Int)≠0 by decide) c14 (Int.le_refl (wrap64 (Int.tdiv (a0.size:Int) 2))) (natLe c15) ((repM0 (K .u8) (((wrap64 (Int.tdiv (a0.size:Int) 2)):Int).toNat) 0).trans (congrArg (List.map (K .u8)) (Option.some.inj h17))))<|Sw<|Sw<|Rh hN [I (y16.length:Int)] (.c1 (lenM (K .u8) y16))<|Bl<|Good.loopN (fun k' st=>∃ (x0:ByteArray) (x4:List Int) (x16:Int) (x17:Int),k'≤k∧Wk C st ⟨[(0,.w (S x0)),(4,.w (.row (some 5) 1 (List.map (K .u8) x4))),(16,.w (I x16)),(17,.w (I x17))],[]⟩∧digits_Unhex.l0 k' x0 x4 x16 x17=some r) k ⟨a0,y16,(y16.length:Int),0,Nat.le_refl _,Wo [(0,0),(4,0),(16,0),(17,0)],H⟩ fun k=>⟨fun st h=>(by obtain ⟨_,_,_,_,_,_,H⟩:=h;cases H),?_⟩
 clear H
 rintro st ⟨x0,x4,x16,x17,hk,W,H⟩
 refine W.good ?_
 rw [digits_Unhex.l0] at H
 refine Sw<|Rg hN<|Sw ?_
 rcases (ifC H).symm with ⟨c18,H⟩ | ⟨c18,H⟩
 ·refine Cf (df c18)<|Ex<|Sw<|Rh hN [S (strOfNums x4)] (.c1 (strN x4)) ?_
  cases H
  exact Rt dR
 refine Ct (dt c18)<|Sk<|Sw<|Bl<|Sw<|Rg hN<|Sw ?_
 obtain ⟨c19,H⟩:=ifS H
 obtain ⟨c20,H⟩:=ifS H
 obtain ⟨c21,H⟩:=ifS H
 obtain ⟨c22,H⟩:=ifS H
 obtain ⟨t23,h24,H⟩:=bindS H
 obtain ⟨t25,h26,H⟩:=bindS H
 refine Rb 3 hm hN hL (.q 0 [[]] (.q 1 [[]] (.q 2 [[]] (.q 3 [[]] (.q 5 [[]] (.q 6 [[]] (.q 7 [[]] (.q 8 [[]] (.q 9 [[]] (.b 4 [I t23] [] (.b 10 [I t25] [] (.q 11 [[]] (.e 12 (.e 13 .z))) [I t25] [] (.e 12 (.e 10 (.q 11 [[]] (.e 13 .z))))) [I t23,I t25] [] (.e 12 (.e 4 (.e 10 (.q 11 [[]] (.e 13 .z))))))))))))))) [(0,none),(5,none)] .nil [] [] (.cons (.c6 c19 c20 c21 c22 (digits_Value.con h24).c (digits_Value.con h26).c) (.c4 c19 c20 c21 c22) (.cons (.c6 c19 c20 c21 c22 (digits_Value.con h24).c (digits_Value.con h26).c) (.c4 c19 c20 c21 c22) (.cons (.c6 c19 c20 c21 c22 (digits_Value.con h24).c (digits_Value.con h26).c) (.c4 c19 c20 c21 c22) .nil))) [] [] [[],[],[]] [(0,0),(4,0),(5,0),(6,0),(16,0),(17,0)] [(0,.w (S x0)),(4,.w (.row (some 5) 1 (List.map (K .u8) x4))),(5,.w (I x17)),(6,.d (.ptr 0 0)),(16,.w (I x16)),(17,.w (I x17))] [.cells [.v (I t23),.v (I t25)]]<|Sw<|Sw<|Rh hN [] (.c4 (show (0:Int)≤0 by decide) (show (0:Int) < ((2:Nat):Int) by decide) (show (0:Int)≤1 by decide) (show (1:Int) < ((2:Nat):Int) by decide)) ?_
 rcases ifC H with ⟨c27,H⟩ | ⟨c27,H⟩
 ·refine Ct (dt c27)<|Sw<|Rg hN ?_
  cases H
  exact Rt dR
 refine Cf (df c27)<|Sk ?_
 obtain ⟨c28,H⟩:=ifS H
 obtain ⟨c29,H⟩:=ifS H
 exact Rh hN [(K .u8) (rd x4 x17),(K .u8) ((Go.bits .or .i64 (wrap64 (t23*16)) t25) % 256),.row (some 5) 1 (List.map (K .u8) (x4.set (x17:Int).toNat ((Go.bits .or .i64 (wrap64 (t23*16)) t25) % 256)))] (.cons (show (0:Int)≤0 by decide) (.cons (show (0:Int) < ((2:Nat):Int) by decide) (.c8 (show (0:Int)≤4 by decide) (show (0:Int)≤1 by decide) (show (1:Int) < ((2:Nat):Int) by decide) c28 (ltM (K .u8) c29) (atM (K .u8) (0:Int) c28 c29) (Fit.refl ((K .u8) ((Go.bits .or .i64 (wrap64 (t23*16)) t25) % 256))) (setM (K .u8) (l:=x4) (n:=(x17:Int).toNat) (x:=(Go.bits .or .i64 (wrap64 (t23*16)) t25) % 256)))))<|Rg hN<|⟨k,by omega,x0,(x4.set (x17:Int).toNat ((Go.bits .or .i64 (wrap64 (t23*16)) t25) % 256)),x16,wrap64 (x17+1),by omega,Wk.ofB hL 0 [(0,0),(4,0),(16,0),(17,0)] (by kernel_rfl) (by kernel_rfl) (by kernel_rfl),H⟩
def curve_Order.f (k:Nat) (a0:Int):Option (ByteArray):=(curve_line.f a0).bind fun t31=>((digits_Unhex.f k t31.2.2.1).bind fun t33=>(some t33.1))
theorem curve_Order.con {k:Nat} {a0:Int} {r:(ByteArray)} (H:curve_Order.f k a0=some r):Con Tryz.prog 68 [I a0] (S r):=by
 refine Cg Tryz.func68 rfl fun C hN hL=>?_
 unfold curve_Order.f at H
 refine Sw<|Rg hN<|Sw ?_
 obtain ⟨t31,h32,H⟩:=bindS H
 obtain ⟨t33,h34,H⟩:=bindS H
 refine Rh hN [.agg [S t31.1,S t31.2.1,S t31.2.2.1,I t31.2.2.2],.tup [S t33.1,B t33.2]] (.c2 (curve_line.con h32).c (digits_Unhex.con h34).c)<|Sw<|Rg hN ?_
 cases H
 exact Rt dR
def curve_Scalar.j0:Nat→Int→ByteArray→Bool→Option (Bool)
 | 0,_,_,_=>none
 | k+1,x0,x1,x16=>if x16=true then (some false) else ((strings_Trim.f x1 (⟨#[0]⟩:ByteArray)).bind fun t39=>(if t39.toList=([]:List UInt8) then (some false) else ((curve_Order.f k x0).bind fun t42=>((strings_Compare.f x1 t42).bind fun t44=>(some (decide (t44 < 0)))))))
def curve_Scalar.f (k:Nat) (a0:Int) (a1:ByteArray):Option (Bool):=(curve_line.f a0).bind fun t35=>(if t35.2.2.2=0 then (curve_Scalar.j0 k a0 a1 true) else (curve_Scalar.j0 k a0 a1 ((a1.size:Int) != t35.2.2.2)))
theorem curve_Scalar.con {k:Nat} {a0:Int} {a1:ByteArray} {r:(Bool)} (H:curve_Scalar.f k a0 a1=some r):Con Tryz.prog 33 [I a0,S a1] (B r):=by
 refine Cg Tryz.func33 rfl fun C hN hL=>?_
 unfold curve_Scalar.f at H
 refine Sw<|Rg hN<|Sw<|Sw<|Good.cut (fun st=>∃ n':Nat,n'≤k∧∃ (x0:Int) (x1:ByteArray) (x16:Bool),Wk C st ⟨[(0,.w (I x0)),(1,.w (S x1)),(16,.w (B x16))],[]⟩∧curve_Scalar.j0 n' x0 x1 x16=some r) ?_ ?_
 ·obtain ⟨t35,h36,H⟩:=bindS H
  rcases ifC H with ⟨c37,H⟩ | ⟨c37,H⟩
  ·exact Rh hN [.agg [S t35.1,S t35.2.1,S t35.2.2.1,I t35.2.2.2],B true] (.c2 (curve_line.con h36).c (bq c37))<|⟨k,by omega,a0,a1,true,Wo [(0,0),(1,0),(16,0)],H⟩
  exact Rh hN [.agg [S t35.1,S t35.2.1,S t35.2.2.1,I t35.2.2.2],B false,.agg [S t35.1,S t35.2.1,S t35.2.2.1,I t35.2.2.2]] (.c3 (curve_line.con h36).c (bn c37) (curve_line.con h36).c)<|⟨k,by omega,a0,a1,((a1.size:Int) != t35.2.2.2),Wo [(0,0),(1,0),(16,0)],H⟩
 clear H
 rintro st ⟨n',hn',x0,x1,x16,W,H⟩
 rcases n' with _ | k
 ·cases H
 refine W.good ?_
 rw [curve_Scalar.j0] at H
 rcases ifC H with ⟨c38,H⟩ | ⟨c38,H⟩
 ·refine Ct c38<|Sw<|Rg hN ?_
  cases H
  exact Rt dR
 refine Cf (bf c38)<|Sk<|Sw ?_
 obtain ⟨t39,h40,H⟩:=bindS H
 rcases ifC H with ⟨c41,H⟩ | ⟨c41,H⟩
 ·refine Ri hN [S t39,B false] (.c3 (strings_Trim.con h40).c (nstrV (rfl:t39.toList=t39.toList) (litL ([]:List UInt8))) (bneF c41)) [(19,.bool (t39.toList != ([]:List UInt8)))] ?_
  cases H
  exact Rt dR
 obtain ⟨t42,h43,H⟩:=bindS H
 obtain ⟨t44,h45,H⟩:=bindS H
 refine Ri hN [S t39,B true,S t42,I t44] (.c5 (strings_Trim.con h40).c (nstrV (rfl:t39.toList=t39.toList) (litL ([]:List UInt8))) (nq c41) (curve_Order.con h43).c (strings_Compare.con h45).c) [(19,.bool (t39.toList != ([]:List UInt8)))] ?_
 cases H
 exact Rt dR
def sec1_may.f (k:Nat) (a0:Int) (a1:ByteArray):Option (Int):=(curve_Width.f a0).bind fun t46=>(if t46=0 then (some 8) else (if t46=(a1.size:Int) then ((curve_Scalar.f k a0 a1).bind fun t50=>(if t50=true then (some 0) else (some 10))) else (some 9)))
theorem sec1_may.con {k:Nat} {a0:Int} {a1:ByteArray} {r:(Int)} (H:sec1_may.f k a0 a1=some r):Con Tryz.prog 12 [I a0,S a1] (I r):=by
 refine Cg Tryz.func12 rfl fun C hN hL=>?_
 unfold sec1_may.f at H
 refine Sw<|Rg hN<|Sw<|Sw ?_
 obtain ⟨t46,h47,H⟩:=bindS H
 refine Rh hN [I t46] (.c1 (curve_Width.con h47).c)<|Bl<|Sw<|Rg hN ?_
 rcases ifC H with ⟨c48,H⟩ | ⟨c48,H⟩
 ·refine Ct (bq c48)<|Sw<|Rg hN ?_
  cases H
  exact Rt dR
 refine Cf (bn c48)<|Sw<|Rg hN ?_
 rcases (ifC H).symm with ⟨c49,H⟩ | ⟨c49,H⟩
 ·refine Ct (nq c49)<|Sw<|Rg hN ?_
  cases H
  exact Rt dR
 refine Cf (bneF c49)<|Sw ?_
 obtain ⟨t50,h51,H⟩:=bindS H
 refine Rh hN [B t50] (.c1 (curve_Scalar.con h51).c) ?_
 rcases (ifC H).symm with ⟨c52,H⟩ | ⟨c52,H⟩
 ·refine Ct (notT (bf c52))<|Sw<|Rg hN ?_
  cases H
  exact Rt dR
 refine Cf (notF c52)<|Sk<|Sw<|Rg hN ?_
 cases H
 exact Rt dR
mutual
def oid_numbers.l0:Nat→ByteArray→List Int→Int→Bool→Int→Int→Option (List Int × Bool)
 | 0,_,_,_,_,_,_=>none
 | k+1,x0,x4,x5,x6,x9,x10=>if x10 < x9 then (if x6=true then (oid_numbers.j1 k x0 x4 x5 x10 x9 x10 (decide (x5 > 2147483647))) else (if 0≤x10 then (if x10 < (x0.size:Int) then (if (bt x0 x10)=128 then (oid_numbers.j1 k x0 x4 x5 x10 x9 x10 true) else (oid_numbers.j1 k x0 x4 x5 x10 x9 x10 (decide (x5 > 2147483647)))) else (none)) else (none))) else (if x6=true then (some (x4,false)) else (if (x4.length:Int) > 0 then (some (x4,decide ((x4.length:Int) < 20))) else (some (x4,false))))
def oid_numbers.j1:Nat→ByteArray→List Int→Int→Int→Int→Int→Bool→Option (List Int × Bool)
 | 0,_,_,_,_,_,_,_=>none
 | k+1,x0,x4,x5,x7,x9,x10,x24=>if x24=true then (some (([]:List Int),false)) else (if 0≤x7 then (if x7 < (x0.size:Int) then (if (bt x0 x7)≥128 then (oid_numbers.l0 k x0 x4 (Go.bits .or .i64 (wrap64 (x5*128)) (wrap64 (Go.bits .and .u8 (bt x0 x7) 127))) (decide ((bt x0 x7)≥128)) x9 (wrap64 (x10+1))) else (if x4.length < 17592186044416 then (oid_numbers.l0 k x0 (x4++[Go.bits .or .i64 (wrap64 (x5*128)) (wrap64 (Go.bits .and .u8 (bt x0 x7) 127))]) 0 (decide ((bt x0 x7)≥128)) x9 (wrap64 (x10+1))) else (none))) else (none)) else (none))
end
def oid_numbers.f (k:Nat) (a0:ByteArray):Option (List Int × Bool):=oid_numbers.l0 k a0 ([]:List Int) 0 false (a0.size:Int) 0
theorem oid_numbers.con {k:Nat} {a0:ByteArray} {r:(List Int × Bool)} (H:oid_numbers.f k a0=some r):Con Tryz.prog 52 [S a0] (.tup [.row (some 3) 1 (List.map I r.1),B r.2]):=by
 refine Cg Tryz.func52 rfl fun C hN hL=>?_
 unfold oid_numbers.f at H
 refine Sw<|Rg hN<|Sw<|Rg hN<|Sw<|Rg hN<|Sw<|Sw<|Rg hN<|Bl<|Good.loopN (fun k' st=>∃ (x0:ByteArray) (x4:List Int) (x5:Int) (x6:Bool) (x9:Int) (x10:Int),k'≤k∧Wk C st ⟨[(0,.w (S x0)),(4,.w (.row (some 3) 1 (List.map I x4))),(5,.w (I x5)),(6,.w (B x6)),(9,.w (I x9)),(10,.w (I x10))],[]⟩∧oid_numbers.l0 k' x0 x4 x5 x6 x9 x10=some r) k ⟨a0,([]:List Int),0,false,(a0.size:Int),0,Nat.le_refl _,Wo [(0,0),(4,1),(5,0),(6,0),(9,0),(10,0)],H⟩ fun k=>⟨fun st h=>(by obtain ⟨_,_,_,_,_,_,_,_,H⟩:=h;cases H),?_⟩
 clear H
 rintro st ⟨x0,x4,x5,x6,x9,x10,hk,W,H⟩
 refine W.good ?_
 rw [oid_numbers.l0] at H
 refine Sw<|Rg hN<|Sw ?_
 rcases (ifC H).symm with ⟨c65,H⟩ | ⟨c65,H⟩
 ·refine Cf (df c65)<|Ex<|Sw ?_
  rcases ifC H with ⟨c66,H⟩ | ⟨c66,H⟩
  ·refine Rh hN [B false,B false] (.c2 (notF c66) (rfl:false=false)) ?_
   cases H
   exact Rt dR
  rcases ifC H with ⟨c67,H⟩ | ⟨c67,H⟩
  ·refine Rh hN [B true,I (x4.length:Int),B true,I (x4.length:Int)] (.c4 (notT (bf c66)) (lenM I x4) (dt c67) (lenM I x4)) ?_
   cases H
   exact Rt dR
  refine Rh hN [B true,I (x4.length:Int),B false] (.c3 (notT (bf c66)) (lenM I x4) (df c67)) ?_
  cases H
  exact Rt dR
 refine Ct (dt c65)<|Sk<|Sw<|Bl<|Sw<|Rg hN<|Sw<|Sw<|Good.cut (fun st=>∃ n':Nat,n'≤k∧∃ (x0:ByteArray) (x4:List Int) (x5:Int) (x7:Int) (x9:Int) (x10:Int) (x24:Bool),Wk C st ⟨[(0,.w (S x0)),(4,.w (.row (some 3) 1 (List.map I x4))),(5,.w (I x5)),(7,.w (I x7)),(9,.w (I x9)),(10,.w (I x10)),(24,.w (B x24))],[]⟩∧oid_numbers.j1 n' x0 x4 x5 x7 x9 x10 x24=some r) ?_ ?_
 ·rcases ifC H with ⟨c68,H⟩ | ⟨c68,H⟩
  ·exact Rh hN [B false,B false] (.c2 (notF c68) (rfl:false=false))<|⟨k,by omega,x0,x4,x5,x10,x9,x10,decide (x5 > 2147483647),Wo [(0,0),(4,0),(5,0),(7,0),(9,0),(10,0),(24,0)],H⟩
  obtain ⟨c69,H⟩:=ifS H
  obtain ⟨c70,H⟩:=ifS H
  rcases ifC H with ⟨c71,H⟩ | ⟨c71,H⟩
  ·exact Rh hN [B true,B true] (.c4 (notT (bf c68)) c69 c70 (bq c71))<|⟨k,by omega,x0,x4,x5,x10,x9,x10,true,Wo [(0,0),(4,0),(5,0),(7,0),(9,0),(10,0),(24,0)],H⟩
  exact Rh hN [B true,B false] (.c4 (notT (bf c68)) c69 c70 (bn c71))<|⟨k,by omega,x0,x4,x5,x10,x9,x10,decide (x5 > 2147483647),Wo [(0,0),(4,0),(5,0),(7,0),(9,0),(10,0),(24,0)],H⟩
 clear H
 rintro st ⟨n',hn',x0,x4,x5,x7,x9,x10,x24,W,H⟩
 rcases n' with _ | k
 ·cases H
 refine W.good ?_
 rw [oid_numbers.j1] at H
 rcases ifC H with ⟨c72,H⟩ | ⟨c72,H⟩
 ·refine Ct c72<|Sw<|Rg hN ?_
  cases H
  exact Good.ret (fin_fit (u:=.tup [.nil 3 1,B false]) (.tup (.c2 (.nilO 3 1) (.refl _))) (by kernel_rfl))
 refine Cf (bf c72)<|Sk<|Sw ?_
 obtain ⟨c73,H⟩:=ifS H
 obtain ⟨c74,H⟩:=ifS H
 refine Rh hN [] (.c3 (show (0:Int)≤7 by decide) c73 c74)<|Sw<|Rh hN [] (.c2 c73 c74)<|Sw<|Rg hN ?_
 rcases ifC H with ⟨c75,H⟩ | ⟨c75,H⟩
 ·exact Cf (notF (dt c75))<|Sk<|Rg hN<|⟨k,by omega,x0,x4,Go.bits .or .i64 (wrap64 (x5*128)) (wrap64 (Go.bits .and .u8 (bt x0 x7) 127)),decide ((bt x0 x7)≥128),x9,wrap64 (x10+1),by omega,Wo [(0,0),(4,0),(5,0),(6,0),(9,0),(10,0)],H⟩
 refine Ct (notT (df c75))<|Sw ?_
 obtain ⟨c76,H⟩:=ifS H
 exact Rh hN [.kb true,.row (some 3) 1 (List.map I (x4++[Go.bits .or .i64 (wrap64 (x5*128)) (wrap64 (Go.bits .and .u8 (bt x0 x7) 127))]))] (.c2 (fitM I x4 [Go.bits .or .i64 (wrap64 (x5*128)) (wrap64 (Go.bits .and .u8 (bt x0 x7) 127))] (.refl _)) (limM1 I c76))<|Rg hN<|Rg hN<|⟨k,by omega,x0,(x4++[Go.bits .or .i64 (wrap64 (x5*128)) (wrap64 (Go.bits .and .u8 (bt x0 x7) 127))]),0,decide ((bt x0 x7)≥128),x9,wrap64 (x10+1),by omega,Wo [(0,0),(4,0),(5,0),(6,0),(9,0),(10,0)],H⟩
def oid_most.f (l0:List Int) (a1:Int):Option (Int):=if a1=0 then (some 2) else (if a1 > 1 then (some 2147483647) else (if 0 < (l0.length:Int) then (if (rd l0 0) < 2 then (some 39) else (some 2147483567)) else (none)))
theorem oid_most.con {l0:List Int} {a1:Int} {r:(Int)} (H:oid_most.f l0 a1=some r):Con Tryz.prog 89 [.row none 1 (List.map I l0),I a1] (I r):=by
 refine Cg Tryz.func89 rfl fun C hN hL=>?_
 unfold oid_most.f at H
 refine Sw<|Rg hN<|Sw<|Bl<|Sw<|Rg hN ?_
 rcases ifC H with ⟨c78,H⟩ | ⟨c78,H⟩
 ·refine Ct (bq c78)<|Sw<|Rg hN ?_
  cases H
  exact Rt dR
 refine Cf (bn c78)<|Sw<|Rg hN ?_
 rcases ifC H with ⟨c79,H⟩ | ⟨c79,H⟩
 ·refine Ct (dt c79)<|Sw<|Rg hN ?_
  cases H
  exact Rt dR
 refine Cf (df c79)<|Sw ?_
 obtain ⟨c80,H⟩:=ifS H
 refine Rh hN [I (rd l0 0)] (.c2 (show (0:Int)≤0 by decide) (atM I (0:Int) (show (0:Int)≤0 by decide) c80)) ?_
 rcases ifC H with ⟨c81,H⟩ | ⟨c81,H⟩
 ·refine Ct (dt c81)<|Sw<|Rg hN ?_
  cases H
  exact Rt dR
 refine Cf (df c81)<|Sk<|Sw<|Rg hN ?_
 cases H
 exact Rt dR
def oid_Right.l0:Nat→List Int→List Int→Int→Int→Option (Bool)
 | 0,_,_,_,_=>none
 | k+1,x0,x13,x14,x15=>if x15 < x14 then (if 0≤x15 then (if x15 < (x13.length:Int) then (if (rd x13 x15) < 0 then (some false) else ((oid_most.f x0 x15).bind fun t88=>(if (rd x13 x15) > t88 then (some false) else (oid_Right.l0 k x0 x13 x14 (wrap64 (x15+1)))))) else (none)) else (none)) else (some true)
def oid_Right.j0:Nat→List Int→Bool→Option (Bool)
 | 0,_,_=>none
 | k+1,x0,x12=>if x12=true then (some false) else (oid_Right.l0 k x0 x0 (x0.length:Int) 0)
def oid_Right.f (k:Nat) (l0:List Int):Option (Bool):=if (l0.length:Int) < 2 then (oid_Right.j0 k l0 true) else (oid_Right.j0 k l0 (decide ((l0.length:Int) > 20)))
theorem oid_Right.con {k:Nat} {l0:List Int} {r:(Bool)} (H:oid_Right.f k l0=some r):Con Tryz.prog 53 [.row none 1 (List.map I l0)] (B r):=by
 refine Cg Tryz.func53 rfl fun C hN hL=>?_
 unfold oid_Right.f at H
 refine Sw<|Rg hN<|Sw<|Sw<|Good.cut (fun st=>∃ n':Nat,n'≤k∧∃ (x0:List Int) (x12:Bool),Wk C st ⟨[(0,.w (.row none 1 (List.map I x0))),(12,.w (B x12))],[]⟩∧oid_Right.j0 n' x0 x12=some r) ?_ ?_
 ·rcases ifC H with ⟨c82,H⟩ | ⟨c82,H⟩
  ·exact Rh hN [I (l0.length:Int),B true] (.c2 (lenM I l0) (dt c82))<|⟨k,by omega,l0,true,Wo [(0,0),(12,0)],H⟩
  exact Rh hN [I (l0.length:Int),B false,I (l0.length:Int)] (.c3 (lenM I l0) (df c82) (lenM I l0))<|⟨k,by omega,l0,decide ((l0.length:Int) > 20),Wo [(0,0),(12,0)],H⟩
 clear H
 rintro st ⟨n',hn',x0,x12,W,H⟩
 rcases n' with _ | k
 ·cases H
 refine W.good ?_
 rw [oid_Right.j0] at H
 rcases ifC H with ⟨c83,H⟩ | ⟨c83,H⟩
 ·refine Ct c83<|Sw<|Rg hN ?_
  cases H
  exact Rt dR
 refine Cf (bf c83)<|Sk<|Sw<|Sw<|Rh hN [I (x0.length:Int)] (.c1 (lenM I x0))<|Bl<|Good.loopN (fun k' st=>∃ (x0:List Int) (x13:List Int) (x14:Int) (x15:Int),k'≤k∧Wk C st ⟨[(0,.w (.row none 1 (List.map I x0))),(13,.w (.row none 1 (List.map I x13))),(14,.w (I x14)),(15,.w (I x15))],[]⟩∧oid_Right.l0 k' x0 x13 x14 x15=some r) k ⟨x0,x0,(x0.length:Int),0,Nat.le_refl _,Wo [(0,0),(13,0),(14,0),(15,0)],H⟩ fun k=>⟨fun st h=>(by obtain ⟨_,_,_,_,_,_,H⟩:=h;cases H),?_⟩
 clear H
 rintro st ⟨x0,x13,x14,x15,hk,W,H⟩
 refine W.good ?_
 rw [oid_Right.l0] at H
 refine Sw<|Rg hN<|Sw ?_
 rcases (ifC H).symm with ⟨c84,H⟩ | ⟨c84,H⟩
 ·refine Cf (df c84)<|Ex<|Sw<|Rg hN ?_
  cases H
  exact Rt dR
 refine Ct (dt c84)<|Sk<|Sw<|Bl<|Sw ?_
 obtain ⟨c85,H⟩:=ifS H
 obtain ⟨c86,H⟩:=ifS H
 refine Rh hN [I (rd x13 x15)] (.c2 c85 (atM I (0:Int) c85 c86))<|Sw ?_
 rcases ifC H with ⟨c87,H⟩ | ⟨c87,H⟩
 ·refine Rh hN [B true] (.c1 (dt c87))<|Good.cond true (by kernel_rfl)<|Sw<|Rg hN ?_
  cases H
  exact Rt dR
 obtain ⟨t88,h89,H⟩:=bindS H
 refine Rh hN [B false,I t88] (.c2 (df c87) (oid_most.con h89).c) ?_
 rcases (ifC H).symm with ⟨c90,H⟩ | ⟨c90,H⟩
 ·exact Cf (df c90)<|Sk<|Rg hN<|⟨k,by omega,x0,x13,x14,wrap64 (x15+1),by omega,Wo [(0,0),(13,0),(14,0),(15,0)],H⟩
 refine Ct (dt c90)<|Sw<|Rg hN ?_
 cases H
 exact Rt dR
def oid_Decode.f (k:Nat) (a0:ByteArray):Option (List Int × Bool):=(oid_numbers.f k a0).bind fun t91=>(if t91.2=true then (if 0 < (t91.1.length:Int) then (if 1≤(t91.1.length:Int) then (if ([mn 2 (wrap64 (Int.tdiv (rd t91.1 0) 40)),wrap64 ((rd t91.1 0) - (wrap64 (40*(mn 2 (wrap64 (Int.tdiv (rd t91.1 0) 40))))))]:List Int).length+(t91.1.drop 1).length < 17592186044416 then ((some (([mn 2 (wrap64 (Int.tdiv (rd t91.1 0) 40)),wrap64 ((rd t91.1 0) - (wrap64 (40*(mn 2 (wrap64 (Int.tdiv (rd t91.1 0) 40))))))]:List Int)++(t91.1.drop 1):List Int)).bind fun y97=>((oid_Right.f k y97).bind fun t98=>(if t98=true then (some (y97,true)) else (some (([]:List Int),false))))) else (none)) else (none)) else (none)) else (some (([]:List Int),false)))
theorem oid_Decode.con {k:Nat} {a0:ByteArray} {r:(List Int × Bool)} (H:oid_Decode.f k a0=some r):Con Tryz.prog 25 [S a0] (.tup [.row none 1 (List.map I r.1),B r.2]):=by
 refine Cg Tryz.func25 rfl fun C hN hL=>?_
 unfold oid_Decode.f at H
 refine Sw<|Rg hN<|Sw ?_
 obtain ⟨t91,h92,H⟩:=bindS H
 refine Rh hN [.tup [.row (some 3) 1 (List.map I t91.1),B t91.2]] (.c1 (oid_numbers.con h92).c)<|Sw<|Sw<|Rg hN ?_
 rcases (ifC H).symm with ⟨c93,H⟩ | ⟨c93,H⟩
 ·refine Ct (notT (bf c93))<|Sw<|Rg hN ?_
  cases H
  exact Good.ret (fin_fit (u:=.tup [.nil 3 1,B false]) (.tup (.c2 (.nilS 3 1 _) (.refl _))) (by kernel_rfl))
 refine Cf (notF c93)<|Sk<|Sw ?_
 obtain ⟨c94,H⟩:=ifS H
 refine Rh hN [I (rd t91.1 0)] (.c4 (show (0:Int)≤0 by decide) (ltM I c94) (atM I (0:Int) (show (0:Int)≤0 by decide) c94) (show (40:Int)≠0 by decide))<|Sw ?_
 obtain ⟨c95,H⟩:=ifS H
 obtain ⟨c96,H⟩:=ifS H
 replace H:=bindI H
 refine Rb 2 hm hN hL (.q 0 [[7]] (.q 1 [[7,6,3,2]] (.q 2 [[7,6,3]] (.q 3 [[7,6]] (.q 4 [[7,6,5]] (.q 5 [[7,6]] (.q 6 [[7]] (.q 8 [[9]] (.b 7 [.row none 1 (List.map I (t91.1.drop 1)),.row none 1 (List.map I t91.1),.kb false,.row (some 3) 1 (List.map I (([mn 2 (wrap64 (Int.tdiv (rd t91.1 0) 40)),wrap64 ((rd t91.1 0) - (wrap64 (40*(mn 2 (wrap64 (Int.tdiv (rd t91.1 0) 40))))))]:List Int)++(t91.1.drop 1)))] [] (.e 9 (.e 10 (.e 11 .z))) [.row none 1 (List.map I (t91.1.drop 1)),.row none 1 (List.map I t91.1),.kb false,.row (some 3) 1 (List.map I (([mn 2 (wrap64 (Int.tdiv (rd t91.1 0) 40)),wrap64 ((rd t91.1 0) - (wrap64 (40*(mn 2 (wrap64 (Int.tdiv (rd t91.1 0) 40))))))]:List Int)++(t91.1.drop 1)))] [] (.e 9 (.e 7 (.e 10 (.e 11 .z))))))))))))) [(4,some (.row none 1 (List.map I t91.1))),(6,none)] (.c1 (shrM (some 3) 1 I I t91.1 (fun _=>rfl))) [I (rd t91.1 0)] [I (rd t91.1 0)] (.cons (.cons (show (0:Int)≤0 by decide) (.c8 (ltM I c94) (atM I (0:Int) (show (0:Int)≤0 by decide) c94) (shrM (some 3) 1 I I t91.1 (fun _=>rfl)) (show (0:Int)≤1 by decide) (leM I c95) (cutMlo I (l:=t91.1) (n:=1)) (fitM I ([mn 2 (wrap64 (Int.tdiv (rd t91.1 0) 40)),wrap64 ((rd t91.1 0) - (wrap64 (40*(mn 2 (wrap64 (Int.tdiv (rd t91.1 0) 40))))))]:List Int) (t91.1.drop 1) (.refl _)) (limM2 I I c96))) (.c2 (show (0:Int)≤0 by decide) (atM I (0:Int) (show (0:Int)≤0 by decide) c94)) (.cons (.cons (show (0:Int)≤0 by decide) (.c8 (ltM I c94) (atM I (0:Int) (show (0:Int)≤0 by decide) c94) (shrM (some 3) 1 I I t91.1 (fun _=>rfl)) (show (0:Int)≤1 by decide) (leM I c95) (cutMlo I (l:=t91.1) (n:=1)) (fitM I ([mn 2 (wrap64 (Int.tdiv (rd t91.1 0) 40)),wrap64 ((rd t91.1 0) - (wrap64 (40*(mn 2 (wrap64 (Int.tdiv (rd t91.1 0) 40))))))]:List Int) (t91.1.drop 1) (.refl _)) (limM2 I I c96))) (.c2 (show (0:Int)≤0 by decide) (atM I (0:Int) (show (0:Int)≤0 by decide) c94)) .nil)) [] [] [[],[]] [(7,0)] [(7,.w (.row (some 3) 1 (List.map I (([mn 2 (wrap64 (Int.tdiv (rd t91.1 0) 40)),wrap64 ((rd t91.1 0) - (wrap64 (40*(mn 2 (wrap64 (Int.tdiv (rd t91.1 0) 40))))))]:List Int)++(t91.1.drop 1)))))] []<|Sw<|Sw ?_
 obtain ⟨t98,h99,H⟩:=bindS H
 refine Rh hN [.row none 1 (List.map I (([mn 2 (wrap64 (Int.tdiv (rd t91.1 0) 40)),wrap64 ((rd t91.1 0) - (wrap64 (40*(mn 2 (wrap64 (Int.tdiv (rd t91.1 0) 40))))))]:List Int)++(t91.1.drop 1))),B t98] (.c2 (shrM (some 3) 1 I I (([mn 2 (wrap64 (Int.tdiv (rd t91.1 0) 40)),wrap64 ((rd t91.1 0) - (wrap64 (40*(mn 2 (wrap64 (Int.tdiv (rd t91.1 0) 40))))))]:List Int)++(t91.1.drop 1)) (fun _=>rfl)) (oid_Right.con h99).c) ?_
 rcases (ifC H).symm with ⟨c100,H⟩ | ⟨c100,H⟩
 ·refine Ct (notT (bf c100))<|Sw<|Rg hN ?_
  cases H
  exact Good.ret (fin_fit (u:=.tup [.nil 3 1,B false]) (.tup (.c2 (.nilS 3 1 _) (.refl _))) (by kernel_rfl))
 refine Cf (notF c100)<|Sk<|Sw<|Rg hN ?_
 cases H
 exact Rt dR
def whole_Right.f (a0:ByteArray):Option (Bool):=if a0.toList=([]:List UInt8) then (some false) else (if (a0.size:Int)=1 then (some true) else (if 0 < (a0.size:Int) then (if 1 < (a0.size:Int) then (if (Go.bits .or .i64 (wrap64 ((wrap64 (bt a0 0))*2)) (wrap64 ((bt a0 1) / 128)))=0 then (some false) else (some ((Go.bits .or .i64 (wrap64 ((wrap64 (bt a0 0))*2)) (wrap64 ((bt a0 1) / 128))) != 511))) else (none)) else (none)))
theorem whole_Right.con {a0:ByteArray} {r:(Bool)} (H:whole_Right.f a0=some r):Con Tryz.prog 76 [S a0] (B r):=by
 refine Cg Tryz.func76 rfl fun C hN hL=>?_
 unfold whole_Right.f at H
 refine Sw<|Rg hN<|Sw<|Bl<|Sw<|Ri hN [] (.c1 (strV (rfl:a0.toList=a0.toList) (litL ([]:List UInt8)))) [(6,.bool (a0.toList == ([]:List UInt8)))] ?_
 rcases ifC H with ⟨c101,H⟩ | ⟨c101,H⟩
 ·refine Ct (bq c101)<|Sw<|Rg hN ?_
  cases H
  exact Rt dR
 refine Cf (bn c101)<|Sw<|Rg hN ?_
 rcases ifC H with ⟨c102,H⟩ | ⟨c102,H⟩
 ·refine Ct (bq c102)<|Sw<|Rg hN ?_
  cases H
  exact Rt dR
 refine Cf (bn c102)<|Sk<|Sw ?_
 obtain ⟨c103,H⟩:=ifS H
 obtain ⟨c104,H⟩:=ifS H
 refine Rd hm hN (.qs 9 0 (.q 9 [] .z)) [(0,none)] .nil [] [] (.c6 (show (0:Int)≤0 by decide) c103 (show (0:Int)≤1 by decide) (show (0:Int)≤1 by decide) c104 (show (0:Int)≤7 by decide)) (.c6 (show (0:Int)≤0 by decide) c103 (show (0:Int)≤1 by decide) (show (0:Int)≤1 by decide) c104 (show (0:Int)≤7 by decide)) [] []<|Sw ?_
 rcases ifC H with ⟨c105,H⟩ | ⟨c105,H⟩
 ·refine Rh hN [B false] (.c1 (bneF c105)) ?_
  cases H
  exact Rt dR
 refine Rh hN [B true] (.c1 (nq c105)) ?_
 cases H
 exact Rt dR
def strs_Unbool.f (a0:ByteArray):Option (Bool × Bool):=if a0.toList=([255]:List UInt8) then (some ((a0.toList == ([255]:List UInt8)),true)) else (some ((a0.toList == ([255]:List UInt8)),(a0.toList == ([0]:List UInt8))))
theorem strs_Unbool.con {a0:ByteArray} {r:(Bool × Bool)} (H:strs_Unbool.f a0=some r):Con Tryz.prog 137 [S a0] (.tup [B r.1,B r.2]):=by
 refine Cg Tryz.func137 rfl fun C hN hL=>?_
 unfold strs_Unbool.f at H
 refine Sw<|Rg hN<|Sw ?_
 rcases ifC H with ⟨c106,H⟩ | ⟨c106,H⟩
 ·refine Ri hN [B true] (.c3 (strV (rfl:a0.toList=a0.toList) (litL ([255]:List UInt8))) (strV (rfl:a0.toList=a0.toList) (litL ([255]:List UInt8))) (bq c106)) [(5,.bool (a0.toList == ([255]:List UInt8))),(7,.bool (a0.toList == ([255]:List UInt8)))] ?_
  cases H
  exact Rt dR
 refine Ri hN [B false] (.c4 (strV (rfl:a0.toList=a0.toList) (litL ([255]:List UInt8))) (strV (rfl:a0.toList=a0.toList) (litL ([255]:List UInt8))) (bn c106) (strV (rfl:a0.toList=a0.toList) (litL ([0]:List UInt8)))) [(5,.bool (a0.toList == ([255]:List UInt8))),(7,.bool (a0.toList == ([255]:List UInt8))),(10,.bool (a0.toList == ([0]:List UInt8)))] ?_
 cases H
 exact Rt dR
def strs_Unbits.j0:Nat→ByteArray→Bool→Option (ByteArray × Int × Bool)
 | 0,_,_=>none
 | k+1,x0,x21=>if x21=true then (some ((⟨#[]⟩:ByteArray),0,false)) else (if 0≤(wrap64 ((x0.size:Int) - 1)) then (if (wrap64 ((x0.size:Int) - 1)) < (x0.size:Int) then (if 0 < (x0.size:Int) then (if 0≤(bt x0 0) then (if (Go.bits .and .u8 (bt x0 (wrap64 ((x0.size:Int) - 1))) (((shl .u8 1 (bt x0 0)) - 1) % 256))=0 then (if 1≤(x0.size:Int) then (some (x0.extract 1 x0.size,wrap64 (bt x0 0),true)) else (none)) else (if (x0.size:Int) > 1 then (some ((⟨#[]⟩:ByteArray),0,false)) else (if 1≤(x0.size:Int) then (some (x0.extract 1 x0.size,wrap64 (bt x0 0),true)) else (none)))) else (none)) else (none)) else (none)) else (none))
def strs_Unbits.f (k:Nat) (a0:ByteArray):Option (ByteArray × Int × Bool):=if a0.toList=([]:List UInt8) then (strs_Unbits.j0 k a0 true) else (if 0 < (a0.size:Int) then (if (bt a0 0) > 7 then (strs_Unbits.j0 k a0 true) else (if (bt a0 0) > 0 then (strs_Unbits.j0 k a0 ((a0.size:Int) == 1)) else (strs_Unbits.j0 k a0 false))) else (none))
theorem strs_Unbits.con {k:Nat} {a0:ByteArray} {r:(ByteArray × Int × Bool)} (H:strs_Unbits.f k a0=some r):Con Tryz.prog 138 [S a0] (.tup [S r.1,I r.2.1,B r.2.2]):=by
 refine Cg Tryz.func138 rfl fun C hN hL=>?_
 unfold strs_Unbits.f at H
 refine Sw<|Rg hN<|Sw<|Sw<|Good.cut (fun st=>∃ n':Nat,n'≤k∧∃ (x0:ByteArray) (x21:Bool),Wk C st ⟨[(0,.w (S x0)),(21,.w (B x21))],[]⟩∧strs_Unbits.j0 n' x0 x21=some r) ?_ ?_
 ·rcases ifC H with ⟨c107,H⟩ | ⟨c107,H⟩
  ·exact Ri hN [B true,B true] (.c3 (strV (rfl:a0.toList=a0.toList) (litL ([]:List UInt8))) (bq c107) (rfl:true=true)) [(6,.bool (a0.toList == ([]:List UInt8)))]<|⟨k,by omega,a0,true,Wo [(0,0),(21,0)],H⟩
  obtain ⟨c108,H⟩:=ifS H
  rcases ifC H with ⟨c109,H⟩ | ⟨c109,H⟩
  ·exact Ri hN [B false,B true] (.c5 (strV (rfl:a0.toList=a0.toList) (litL ([]:List UInt8))) (bn c107) (show (0:Int)≤0 by decide) c108 (dt c109)) [(6,.bool (a0.toList == ([]:List UInt8)))]<|⟨k,by omega,a0,true,Wo [(0,0),(21,0)],H⟩
  rcases ifC H with ⟨c110,H⟩ | ⟨c110,H⟩
  ·exact Ri hN [B false,B false,B true] (.c8 (strV (rfl:a0.toList=a0.toList) (litL ([]:List UInt8))) (bn c107) (show (0:Int)≤0 by decide) c108 (df c109) (show (0:Int)≤0 by decide) c108 (dt c110)) [(6,.bool (a0.toList == ([]:List UInt8)))]<|⟨k,by omega,a0,((a0.size:Int) == 1),Wo [(0,0),(21,0)],H⟩
  exact Ri hN [B false,B false,B false] (.c8 (strV (rfl:a0.toList=a0.toList) (litL ([]:List UInt8))) (bn c107) (show (0:Int)≤0 by decide) c108 (df c109) (show (0:Int)≤0 by decide) c108 (df c110)) [(6,.bool (a0.toList == ([]:List UInt8)))]<|⟨k,by omega,a0,false,Wo [(0,0),(21,0)],H⟩
 clear H
 rintro st ⟨n',hn',x0,x21,W,H⟩
 rcases n' with _ | k
 ·cases H
 refine W.good ?_
 rw [strs_Unbits.j0] at H
 rcases ifC H with ⟨c111,H⟩ | ⟨c111,H⟩
 ·refine Ct c111<|Sw<|Rg hN ?_
  cases H
  exact Rt dR
 refine Cf (bf c111)<|Sk<|Sw<|Sw ?_
 obtain ⟨c112,H⟩:=ifS H
 obtain ⟨c113,H⟩:=ifS H
 obtain ⟨c114,H⟩:=ifS H
 obtain ⟨c115,H⟩:=ifS H
 rcases ifC H with ⟨c116,H⟩ | ⟨c116,H⟩
 ·refine Rd hm hN (.qs 12 0 (.k 33 (.is 3 12 (.q 15 [] .z)))) [(0,none)] .nil [B false] [] (.c6 c112 c113 (show (0:Int)≤0 by decide) c114 c115 (bneF c116)) (.c6 c112 c113 (show (0:Int)≤0 by decide) c114 c115 (bneF c116)) [] []<|Good.cond false (by kernel_rfl)<|Sk<|Sw ?_
  obtain ⟨c117,H⟩:=ifS H
  refine Rd hm hN (.qs 7 0 (.q 7 [] .z)) [(0,none)] .nil [] [] (.c4 (show (0:Int)≤1 by decide) c117 (show (0:Int)≤0 by decide) c114) (.c4 (show (0:Int)≤1 by decide) c117 (show (0:Int)≤0 by decide) c114) [] [] ?_
  cases H
  exact Rt dR
 refine Rd hm hN (.qs 12 0 (.k 33 (.qs 3 12 (.q 15 [] .z)))) [(0,none)] .nil [B true] [] (.c6 c112 c113 (show (0:Int)≤0 by decide) c114 c115 (nq c116)) (.c6 c112 c113 (show (0:Int)≤0 by decide) c114 c115 (nq c116)) [] [] ?_
 rcases ifC H with ⟨c118,H⟩ | ⟨c118,H⟩
 ·refine Ct (dt c118)<|Sw<|Rg hN ?_
  cases H
  exact Rt dR
 refine Cf (df c118)<|Sk<|Sw ?_
 obtain ⟨c119,H⟩:=ifS H
 refine Rd hm hN (.qs 7 0 (.q 7 [] .z)) [(0,none)] .nil [] [] (.c4 (show (0:Int)≤1 by decide) c119 (show (0:Int)≤0 by decide) c114) (.c4 (show (0:Int)≤1 by decide) c119 (show (0:Int)≤0 by decide) c114) [] [] ?_
 cases H
 exact Rt dR
def utf8_ValidString.f (a0:ByteArray):Option Bool:=if a0.size≤9223372036854775807 then some (Lib.validD a0.data.toList) else none
theorem utf8_ValidString.tab {p:Pub} {w:World} (h:Tabs.t p w):Lib.Utf8Tabs 1 2 w:=by
 obtain ⟨W,hW,hB⟩:=h
 rw [MakeChecks.laidMetH_plain _ _ _ (by kernel_rfl)] at hW
 have hm1:("unicode/utf8.first",Lib.firstData)∈laidL:=by
  have e:Lib.firstData=Rows.laid_unicode_utf8_first:=by kernel_rfl
  rw [e];unfold laidL
  repeat (first | exact List.mem_cons_self | apply List.mem_cons_of_mem)
 have hm2:("unicode/utf8.acceptRanges",Lib.acceptData)∈laidL:=by
  have e:Lib.acceptData=Rows.laid_unicode_utf8_acceptRanges:=by kernel_rfl
  rw [e];unfold laidL
  repeat (first | exact List.mem_cons_self | apply List.mem_cons_of_mem)
 have h1:Lib.Utf8Tabs 1 2 W:=utf8Tabs_of_readsT (U8Types.of196 Tryz.laysValid) ⟨by kernel_rfl,by kernel_rfl,by kernel_rfl,by kernel_rfl,by kernel_rfl,by kernel_rfl,by kernel_rfl⟩ (Lib.laidMet.reads hW hm1) (Lib.laidMet.reads hW hm2)
 have mv:∀ q v,W.cell? q=some v→w.cell? q=some v:=fun q v hp=>by
  have hlt:=World.block_lt_of_cell? W _ hp
  unfold World.cell? at hp ⊢
  rw [(hB _ hlt).2]
  exact hp
 exact ⟨fun c hc=>mv _ _ (h1.1 c hc),fun i hi=>⟨mv _ _ (h1.2 i hi).1,mv _ _ (h1.2 i hi).2⟩⟩
theorem utf8_ValidString.con {a0:ByteArray} {r:Bool} (H:utf8_ValidString.f a0=some r):Con Tryz.prog 158 [S a0] (B r):=by
 unfold utf8_ValidString.f at H
 obtain ⟨c,H⟩:=ifS H
 cases H
 exact con_lits Tryz.func158 rfl (by kernel_rfl) rfl fun p w ht=>(Any.utf8_ValidString Tryz.laysValid a0 w c (utf8_ValidString.tab ht)).mono (by rintro e w' ⟨rfl,hw⟩;exact ⟨rfl,by first | (subst hw;exact Below.refl _ _) | exact hw⟩)
def strs_Utf.f (a0:ByteArray):Option (Bool):=(utf8_ValidString.f a0).bind fun t120=>(some t120)
theorem strs_Utf.con {a0:ByteArray} {r:(Bool)} (H:strs_Utf.f a0=some r):Con Tryz.prog 139 [S a0] (B r):=by
 refine Cg Tryz.func139 rfl fun C hN hL=>?_
 unfold strs_Utf.f at H
 refine Sw<|Rg hN<|Sw ?_
 obtain ⟨t120,h121,H⟩:=bindS H
 refine Rh hN [B t120] (.c1 (utf8_ValidString.con h121).c) ?_
 cases H
 exact Rt dR
def utf8_ValidRune.j0:Nat→Int→Bool→Option (Bool)
 | 0,_,_=>none
 | k+1,x0,x3=>if x3=true then (some true) else (if 57343 < x0 then (if x0≤1114111 then (some true) else (some false)) else (some false))
def utf8_ValidRune.f (k:Nat) (a0:Int):Option (Bool):=if 0≤a0 then (utf8_ValidRune.j0 k a0 (decide (a0 < 55296))) else (utf8_ValidRune.j0 k a0 false)
theorem utf8_ValidRune.con {k:Nat} {a0:Int} {r:(Bool)} (H:utf8_ValidRune.f k a0=some r):Con Tryz.prog 165 [K .i32 a0] (B r):=by
 refine Cg Tryz.func165 rfl fun C hN hL=>?_
 unfold utf8_ValidRune.f at H
 refine Sw<|Rg hN<|Sw<|Bl<|Sw<|Good.cut (fun st=>∃ n':Nat,n'≤k∧∃ (x0:Int) (x3:Bool),Wk C st ⟨[(0,.w (K .i32 x0)),(3,.w (B x3))],[]⟩∧utf8_ValidRune.j0 n' x0 x3=some r) ?_ ?_
 ·rcases ifC H with ⟨c122,H⟩ | ⟨c122,H⟩
  ·exact Rh hN [B true] (.c1 (dt c122))<|⟨k,by omega,a0,decide (a0 < 55296),Wo [(0,0),(3,0)],H⟩
  exact Rh hN [B false] (.c1 (df c122))<|⟨k,by omega,a0,false,Wo [(0,0),(3,0)],H⟩
 clear H
 rintro st ⟨n',hn',x0,x3,W,H⟩
 rcases n' with _ | k
 ·cases H
 refine W.good ?_
 rw [utf8_ValidRune.j0] at H
 rcases ifC H with ⟨c123,H⟩ | ⟨c123,H⟩
 ·refine Ct c123<|Sw<|Rg hN ?_
  cases H
  exact Rt dR
 refine Cf (bf c123)<|Sw ?_
 rcases (ifC H).symm with ⟨c124,H⟩ | ⟨c124,H⟩
 ·refine Rh hN [B false] (.c1 (df c124))<|Good.cond false (by kernel_rfl)<|Sk<|Sw<|Rg hN ?_
  cases H
  exact Rt dR
 refine Rh hN [B true] (.c1 (dt c124)) ?_
 rcases ifC H with ⟨c125,H⟩ | ⟨c125,H⟩
 ·refine Ct (dt c125)<|Sw<|Rg hN ?_
  cases H
  exact Rt dR
 refine Cf (df c125)<|Sk<|Sw<|Rg hN ?_
 cases H
 exact Rt dR
def bytealg_Cutover.f (a0:Int):Option (Int):=some (wrap64 (Int.tdiv (wrap64 (a0+16)) 8))
theorem bytealg_Cutover.con {a0:Int} {r:(Int)} (H:bytealg_Cutover.f a0=some r):Con Tryz.prog 166 [I a0] (I r):=by
 refine Cg Tryz.func166 rfl fun C hN hL=>?_
 unfold bytealg_Cutover.f at H
 refine Sw<|Rg hN<|Sw<|Rh hN [] (.c1 (show (8:Int)≠0 by decide)) ?_
 cases H
 exact Rt dR
def strings_IndexRune.l0:Nat→ByteArray→Nat→Option (Int)
 | 0,_,_=>none
 | k+1,x1000,x1001=>if x1001 < x1000.size then (if ((Utf8.decode x1000 x1001).1:Int)=65533 then (some ((x1001:Nat):Int)) else (strings_IndexRune.l0 k x1000 (x1001+(Utf8.decode x1000 x1001).2))) else (some (-1))
def strings_IndexRune.g0_1:Nat→ByteArray→Int→Int→Option (Int)
 | 0,_,_,_=>none
 | k+1,x0,x8,x9=>if 0≤(wrap64 (x9 - x8)) then (if (wrap64 (x9 - x8))≤(x0.size:Int) then (none) else (none)) else (none)
mutual
def strings_IndexRune.l1:Nat→ByteArray→ByteArray→Int→Int→Int→Option (Int)
 | 0,_,_,_,_,_=>none
 | k+1,x0,x7,x8,x9,x10=>if x9 < (x0.size:Int) then (if 0≤x9 then (if 0≤x8 then (if x8 < (x7.size:Int) then (if (bt x0 x9)=(bt x7 x8) then (strings_IndexRune.j3 k x0 x7 x8 x9 x10) else (if 0≤(wrap64 (x9+1)) then (if (wrap64 (x9+1))≤(x0.size:Int) then ((strings_IndexByte.f (x0.extract ((wrap64 (x9+1)):Int).toNat x0.size) (bt x7 x8)).bind fun t143=>(if t143 < 0 then (some (-1)) else (strings_IndexRune.j3 k x0 x7 x8 (wrap64 (x9+(wrap64 (t143+1)))) x10))) else (none)) else (none))) else (none)) else (none)) else (none)) else (some (-1))
def strings_IndexRune.j3:Nat→ByteArray→ByteArray→Int→Int→Int→Option (Int)
 | 0,_,_,_,_,_=>none
 | k+1,x0,x7,x8,x9,x10=>strings_IndexRune.l2 k x0 x7 x8 x9 x10 1
def strings_IndexRune.l2:Nat→ByteArray→ByteArray→Int→Int→Int→Int→Option (Int)
 | 0,_,_,_,_,_,_=>none
 | k+1,x0,x7,x8,x9,x10,x12=>if x12 < (x7.size:Int) then (if 0≤(wrap64 (x9 - x12)) then (if (wrap64 (x9 - x12)) < (x0.size:Int) then (if 0≤(wrap64 (x8 - x12)) then (if (wrap64 (x8 - x12)) < (x7.size:Int) then (if (bt x0 (wrap64 (x9 - x12)))=(bt x7 (wrap64 (x8 - x12))) then (strings_IndexRune.l2 k x0 x7 x8 x9 x10 (wrap64 (x12+1))) else (strings_IndexRune.g1_0 k x0 x7 x8 x9 x10)) else (none)) else (none)) else (none)) else (none)) else (some (wrap64 (x9 - x8)))
def strings_IndexRune.g1_0:Nat→ByteArray→ByteArray→Int→Int→Int→Option (Int)
 | 0,_,_,_,_,_=>none
 | k+1,x0,x7,x8,x9,x10=>(bytealg_Cutover.f (wrap64 (x9+1))).bind fun t152=>(if (wrap64 (x10+1)) > t152 then (if (wrap64 (x9+1)) < (x0.size:Int) then (strings_IndexRune.g0_1 k x0 x8 (wrap64 (x9+1))) else (strings_IndexRune.l1 k x0 x7 x8 (wrap64 (x9+1)) (wrap64 (x10+1)))) else (strings_IndexRune.l1 k x0 x7 x8 (wrap64 (x9+1)) (wrap64 (x10+1))))
end
def strings_IndexRune.j0:Nat→ByteArray→Int→Bool→Option (Int)
 | 0,_,_,_=>none
 | k+1,x0,x1,x160=>if x160=true then ((strings_IndexByte.f x0 ((x1) % 256)).bind fun t128=>(some t128)) else (if x1=65533 then (strings_IndexRune.l0 k x0 0) else ((utf8_ValidRune.f k x1).bind fun t133=>(if t133=true then (strings_IndexRune.l1 k x0 (Utf8.encode x1) (wrap64 (((Utf8.encode x1).size:Int) - 1)) (wrap64 (((Utf8.encode x1).size:Int) - 1)) 0) else (some (-1)))))
def strings_IndexRune.f (k:Nat) (a0:ByteArray) (a1:Int):Option (Int):=if 0≤a1 then (strings_IndexRune.j0 k a0 a1 (decide (a1 < 128))) else (strings_IndexRune.j0 k a0 a1 false)
theorem strings_IndexRune.con {k:Nat} {a0:ByteArray} {a1:Int} {r:(Int)} (H:strings_IndexRune.f k a0 a1=some r):Con Tryz.prog 151 [S a0,K .i32 a1] (I r):=by
 refine Cg Tryz.func151 rfl fun C hN hL=>?_
 unfold strings_IndexRune.f at H
 refine Sw<|Rg hN<|Bl<|Sw<|Good.cut (fun st=>∃ n':Nat,n'≤k∧∃ (x0:ByteArray) (x1:Int) (x160:Bool),Wk C st ⟨[(0,.w (S x0)),(1,.w (K .i32 x1)),(160,.w (B x160))],[]⟩∧strings_IndexRune.j0 n' x0 x1 x160=some r) ?_ ?_
 ·rcases ifC H with ⟨c126,H⟩ | ⟨c126,H⟩
  ·exact Rh hN [B true] (.c1 (dt c126))<|⟨k,by omega,a0,a1,decide (a1 < 128),Wo [(0,0),(1,0),(160,0)],H⟩
  exact Rh hN [B false] (.c1 (df c126))<|⟨k,by omega,a0,a1,false,Wo [(0,0),(1,0),(160,0)],H⟩
 clear H
 rintro st ⟨n',hn',x0,x1,x160,W,H⟩
 rcases n' with _ | k
 ·cases H
 refine W.good ?_
 rw [strings_IndexRune.j0] at H
 rcases ifC H with ⟨c127,H⟩ | ⟨c127,H⟩
 ·refine Ct c127<|Sw ?_
  obtain ⟨t128,h129,H⟩:=bindS H
  refine Rh hN [I t128] (.c1 (strings_IndexByte.con h129).c) ?_
  cases H
  exact Rt dR
 refine Cf (bf c127)<|Sw<|Rg hN ?_
 rcases ifC H with ⟨c130,H⟩ | ⟨c130,H⟩
 ·refine Ct (bq c130)<|Sw<|Sw<|Rg hN<|Bl<|Good.loopN (fun k' st=>∃ (x1000:ByteArray) (x1001:Nat),k'≤k∧Wk C st ⟨[(175,.d (.ptr 0 0))],[.iter x1000 x1001]⟩∧strings_IndexRune.l0 k' x1000 x1001=some r) k ⟨x0,0,Nat.le_refl _,Wo [(175,0)],H⟩ fun k=>⟨fun st h=>(by obtain ⟨_,_,_,_,H⟩:=h;cases H),?_⟩
  clear H
  rintro st ⟨x1000,x1001,hk,W,H⟩
  refine W.good ?_
  rw [strings_IndexRune.l0] at H
  refine Sw ?_
  rcases (ifC H).symm with ⟨c131,H⟩ | ⟨c131,H⟩
  ·refine Rh hN [.kb false] (.c1 c131)<|Sw<|Good.cond false (by kernel_rfl)<|Ex<|Sw<|Rg hN ?_
   cases H
   exact Rt dR
  refine Rh hN [.kb true] (.c1 c131)<|Sw<|Good.cond true (by kernel_rfl)<|Sk<|Bl<|Sw<|Rg hN<|Sw<|Rg hN ?_
  rcases (ifC H).symm with ⟨c132,H⟩ | ⟨c132,H⟩
  ·exact Cf (bn c132)<|Sk<|⟨k,by omega,x1000,x1001+(Utf8.decode x1000 x1001).2,by omega,Wo [(175,0)],H⟩
  refine Ct (bq c132)<|Sw<|Rg hN ?_
  cases H
  exact Rt dR
 refine Cf (bn c130)<|Sw ?_
 obtain ⟨t133,h134,H⟩:=bindS H
 refine Rh hN [B t133] (.c1 (utf8_ValidRune.con h134).c) ?_
 rcases (ifC H).symm with ⟨c135,H⟩ | ⟨c135,H⟩
 ·refine Ct (notT (bf c135))<|Sw<|Rg hN ?_
  cases H
  exact Rt dR
 refine Cf (notF c135)<|Good.scope [(1,_,fun n st=>∃ (x0:ByteArray) (x1:Int) (x7:ByteArray) (x8:Int) (x9:Int),n≤k∧Wk C st ⟨[(0,.w (S x0)),(1,.w (K .i32 x1)),(7,.w (S x7)),(8,.w (I x8)),(9,.w (I x9))],[]⟩∧strings_IndexRune.g0_1 n x0 x8 x9=some r)] (.c1 rfl) ?_ (.c1 ?_)
 ·refine Sw<|Rg hN<|Sw<|Rg hN<|Sw<|Rg hN<|Sw<|Rg hN<|Sw<|Bl<|Good.loopN (fun k' st=>∃ (x0:ByteArray) (x1:Int) (x7:ByteArray) (x8:Int) (x9:Int) (x10:Int),k'≤k∧Wk C st ⟨[(0,.w (S x0)),(1,.w (K .i32 x1)),(7,.w (S x7)),(8,.w (I x8)),(9,.w (I x9)),(10,.w (I x10))],[]⟩∧strings_IndexRune.l1 k' x0 x7 x8 x9 x10=some r) k ⟨x0,x1,Utf8.encode x1,wrap64 (((Utf8.encode x1).size:Int) - 1),wrap64 (((Utf8.encode x1).size:Int) - 1),0,Nat.le_refl _,Wo [(0,0),(1,0),(7,0),(8,0),(9,0),(10,0)],H⟩ fun k=>⟨fun st h=>(by obtain ⟨_,_,_,_,_,_,_,_,H⟩:=h;cases H),?_⟩
  clear H
  rintro st ⟨x0,x1,x7,x8,x9,x10,hk,W,H⟩
  refine W.good ?_
  rw [strings_IndexRune.l1] at H
  refine Sw<|Sw<|Rg hN ?_
  rcases (ifC H).symm with ⟨c136,H⟩ | ⟨c136,H⟩
  ·refine Cf (df c136)<|Ex<|Sw<|Sw<|Rg hN ?_
   cases H
   exact Rt dR
  refine Ct (dt c136)<|Sk<|Bl<|Good.scope [(0,_,fun n st=>∃ (x0:ByteArray) (x1:Int) (x7:ByteArray) (x8:Int) (x9:Int) (x10:Int),n≤k∧Wk C st ⟨[(0,.w (S x0)),(1,.w (K .i32 x1)),(7,.w (S x7)),(8,.w (I x8)),(9,.w (I x9)),(10,.w (I x10))],[]⟩∧strings_IndexRune.g1_0 n x0 x7 x8 x9 x10=some r)] (.c1 rfl) ?_ (.c1 ?_)
  ·refine Sw<|Sw ?_
   obtain ⟨c137,H⟩:=ifS H
   obtain ⟨c138,H⟩:=ifS H
   obtain ⟨c139,H⟩:=ifS H
   refine Rd hm hN (.qs 6 0 (.q 6 [] .z)) [(0,none),(7,none),(8,none),(9,none)] .nil [] [] (.c4 c137 c136 c138 c139) (.c4 c137 c136 c138 c139) [] []<|Good.cut (fun st=>∃ n':Nat,n'≤k∧∃ (x0:ByteArray) (x1:Int) (x7:ByteArray) (x8:Int) (x9:Int) (x10:Int),Wk C st ⟨[(0,.w (S x0)),(1,.w (K .i32 x1)),(7,.w (S x7)),(8,.w (I x8)),(9,.w (I x9)),(10,.w (I x10))],[]⟩∧strings_IndexRune.j3 n' x0 x7 x8 x9 x10=some r) ?_ ?_
   ·rcases ifC H with ⟨c140,H⟩ | ⟨c140,H⟩
    ·exact Cf (bneF c140)<|Sk<|⟨k,by omega,x0,x1,x7,x8,x9,x10,Wo [(0,0),(1,0),(7,0),(8,0),(9,0),(10,0)],H⟩
    refine Ct (nq c140)<|Sw ?_
    obtain ⟨c141,H⟩:=ifS H
    obtain ⟨c142,H⟩:=ifS H
    obtain ⟨t143,h144,H⟩:=bindS H
    refine Rd hm hN (.qs 7 0 (.e 7 (.q 8 [] .z))) [(0,none),(7,none),(8,none),(9,none)] .nil [I t143] [] (.c5 c141 c142 c138 c139 (strings_IndexByte.con h144).c) (.c4 c141 c142 c138 c139) [] []<|Sw<|Sw<|Rg hN ?_
    rcases (ifC H).symm with ⟨c145,H⟩ | ⟨c145,H⟩
    ·exact Cf (df c145)<|Sk<|Rg hN<|⟨k,by omega,x0,x1,x7,x8,wrap64 (x9+(wrap64 (t143+1))),x10,Wo [(0,0),(1,0),(7,0),(8,0),(9,0),(10,0)],H⟩
    refine Ct (dt c145)<|Sw<|Rg hN ?_
    cases H
    exact Rt dR
   clear H
   rintro st ⟨n',hn',x0,x1,x7,x8,x9,x10,W,H⟩
   rcases n' with _ | k
   ·cases H
   refine W.good ?_
   rw [strings_IndexRune.j3] at H
   refine Sw<|Sw<|Rg hN<|Bl<|Good.loopN (fun k' st=>∃ (x0:ByteArray) (x1:Int) (x7:ByteArray) (x8:Int) (x9:Int) (x10:Int) (x12:Int),k'≤k∧Wk C st ⟨[(0,.w (S x0)),(1,.w (K .i32 x1)),(7,.w (S x7)),(8,.w (I x8)),(9,.w (I x9)),(10,.w (I x10)),(12,.w (I x12))],[]⟩∧strings_IndexRune.l2 k' x0 x7 x8 x9 x10 x12=some r) k ⟨x0,x1,x7,x8,x9,x10,1,Nat.le_refl _,Wo [(0,0),(1,0),(7,0),(8,0),(9,0),(10,0),(12,0)],H⟩ fun k=>⟨fun st h=>(by obtain ⟨_,_,_,_,_,_,_,_,_,H⟩:=h;cases H),?_⟩
   clear H
   rintro st ⟨x0,x1,x7,x8,x9,x10,x12,hk,W,H⟩
   refine W.good ?_
   rw [strings_IndexRune.l2] at H
   refine Sw<|Sw<|Rg hN ?_
   rcases (ifC H).symm with ⟨c146,H⟩ | ⟨c146,H⟩
   ·refine Cf (df c146)<|Ex<|Sw<|Sw<|Rg hN ?_
    cases H
    exact Rt dR
   refine Ct (dt c146)<|Sk<|Sw<|Bl<|Sw ?_
   obtain ⟨c147,H⟩:=ifS H
   obtain ⟨c148,H⟩:=ifS H
   obtain ⟨c149,H⟩:=ifS H
   obtain ⟨c150,H⟩:=ifS H
   refine Rd hm hN (.qs 10 0 (.q 10 [] .z)) [(0,none),(7,none),(8,none),(9,none),(12,none)] .nil [] [] (.c4 c147 c148 c149 c150) (.c4 c147 c148 c149 c150) [] [] ?_
   rcases (ifC H).symm with ⟨c151,H⟩ | ⟨c151,H⟩
   ·exact Ct (nq c151)<|Good.goto<|⟨k,(by first | trivial | omega),x0,x1,x7,x8,x9,x10,by omega,Wo [(0,0),(1,0),(7,0),(8,0),(9,0),(10,0)],H⟩
   exact Cf (bneF c151)<|Sk<|Rg hN<|⟨k,by omega,x0,x1,x7,x8,x9,x10,wrap64 (x12+1),by omega,Wo [(0,0),(1,0),(7,0),(8,0),(9,0),(10,0),(12,0)],H⟩
  ·clear H
   rintro n st ⟨x0,x1,x7,x8,x9,x10,hn,W,H⟩
   rcases n with _ | k
   ·cases H
   refine W.good ?_
   rw [strings_IndexRune.g1_0] at H
   refine Sw<|Sk<|Sw<|Rg hN<|Sw<|Rg hN<|Sw ?_
   obtain ⟨t152,h153,H⟩:=bindS H
   rcases (ifC H).symm with ⟨c154,H⟩ | ⟨c154,H⟩
   ·exact Rh hN [B true,I t152,B false,B false,B false,B false] (.c6 (rfl:true=true) (bytealg_Cutover.con h153).c (df c154) (rfl:false=false) (rfl:false=false) (rfl:false=false))<|Good.cond false (by kernel_rfl)<|Sk<|⟨k,by omega,x0,x1,x7,x8,wrap64 (x9+1),wrap64 (x10+1),by omega,Wo [(0,0),(1,0),(7,0),(8,0),(9,0),(10,0)],H⟩
   rcases ifC H with ⟨c155,H⟩ | ⟨c155,H⟩
   ·exact Rh hN [B true,I t152,B true,B true] (.c4 (rfl:true=true) (bytealg_Cutover.con h153).c (dt c154) (dt c155))<|Good.cond true (by kernel_rfl)<|Good.goto<|⟨by kernel_rfl,⟨k,(by first | trivial | omega),x0,x1,x7,x8,wrap64 (x9+1),by omega,Wo [(0,0),(1,0),(7,0),(8,0),(9,0)],H⟩⟩
   exact Rh hN [B true,I t152,B true,B false,B false,B false] (.c6 (rfl:true=true) (bytealg_Cutover.con h153).c (dt c154) (df c155) (rfl:false=false) (rfl:false=false))<|Good.cond false (by kernel_rfl)<|Sk<|⟨k,by omega,x0,x1,x7,x8,wrap64 (x9+1),wrap64 (x10+1),by omega,Wo [(0,0),(1,0),(7,0),(8,0),(9,0),(10,0)],H⟩
 ·clear H
  rintro n st ⟨x0,x1,x7,x8,x9,hn,W,H⟩
  rcases n with _ | k
  ·cases H
  refine W.good ?_
  rw [strings_IndexRune.g0_1] at H
  refine Sw<|Sk<|Sw<|Good.cond true (by kernel_rfl)<|Sw ?_
  obtain ⟨c156,H⟩:=ifS H
  obtain ⟨c157,H⟩:=ifS H
  cases H
def strings_ContainsRune.f (k:Nat) (a0:ByteArray) (a1:Int):Option (Bool):=(strings_IndexRune.f k a0 a1).bind fun t158=>(some (decide (t158≥0)))
theorem strings_ContainsRune.con {k:Nat} {a0:ByteArray} {a1:Int} {r:(Bool)} (H:strings_ContainsRune.f k a0 a1=some r):Con Tryz.prog 131 [S a0,K .i32 a1] (B r):=by
 refine Cg Tryz.func131 rfl fun C hN hL=>?_
 unfold strings_ContainsRune.f at H
 refine Sw<|Rg hN<|Sw ?_
 obtain ⟨t158,h159,H⟩:=bindS H
 refine Rh hN [I t158] (.c1 (strings_IndexRune.con h159).c) ?_
 cases H
 exact Rt dR
def strs_Printable_1.j1:Nat→Int→Bool→Option (Bool)
 | 0,_,_=>none
 | k+1,x0,x3=>if x3=true then (some false) else (if x0≥48 then (if x0≤57 then (some false) else ((strings_ContainsRune.f k (⟨#[32,39,40,41,43,44,45,46,47,58,61,63]⟩:ByteArray) x0).bind fun t166=>(some (!t166)))) else ((strings_ContainsRune.f k (⟨#[32,39,40,41,43,44,45,46,47,58,61,63]⟩:ByteArray) x0).bind fun t168=>(some (!t168))))
def strs_Printable_1.j0:Nat→Int→Bool→Option (Bool)
 | 0,_,_=>none
 | k+1,x0,x3=>if x3=true then (some false) else (if x0≥97 then (strs_Printable_1.j1 k x0 (decide (x0≤122))) else (strs_Printable_1.j1 k x0 false))
def strs_Printable_1.f (k:Nat) (a0:Int):Option (Bool):=if a0≥65 then (strs_Printable_1.j0 k a0 (decide (a0≤90))) else (strs_Printable_1.j0 k a0 false)
theorem strs_Printable_1.con {k:Nat} {a0:Int} {r:(Bool)} (H:strs_Printable_1.f k a0=some r):Con Tryz.prog 159 [K .i32 a0] (B r):=by
 refine Cg Tryz.func159 rfl fun C hN hL=>?_
 unfold strs_Printable_1.f at H
 refine Sw<|Rg hN<|Sw<|Bl<|Sw<|Sw<|Good.cut (fun st=>∃ n':Nat,n'≤k∧∃ (x0:Int) (x3:Bool),Wk C st ⟨[(0,.w (K .i32 x0)),(3,.w (B x3))],[]⟩∧strs_Printable_1.j0 n' x0 x3=some r) ?_ ?_
 ·rcases ifC H with ⟨c160,H⟩ | ⟨c160,H⟩
  ·exact Rh hN [B true] (.c1 (dt c160))<|⟨k,by omega,a0,decide (a0≤90),Wo [(0,0),(3,0)],H⟩
  exact Rh hN [B false] (.c1 (df c160))<|⟨k,by omega,a0,false,Wo [(0,0),(3,0)],H⟩
 clear H
 rintro st ⟨n',hn',x0,x3,W,H⟩
 rcases n' with _ | k
 ·cases H
 refine W.good ?_
 rw [strs_Printable_1.j0] at H
 rcases ifC H with ⟨c161,H⟩ | ⟨c161,H⟩
 ·refine Ct c161<|Sk<|Ct c161<|Sw<|Rg hN ?_
  cases H
  exact Rt dR
 refine Cf (bf c161)<|Sw<|Good.cut (fun st=>∃ n':Nat,n'≤k∧∃ (x0:Int) (x3:Bool),Wk C st ⟨[(0,.w (K .i32 x0)),(3,.w (B x3))],[]⟩∧strs_Printable_1.j1 n' x0 x3=some r) ?_ ?_
 ·rcases ifC H with ⟨c162,H⟩ | ⟨c162,H⟩
  ·exact Rh hN [B true] (.c1 (dt c162))<|⟨k,by omega,x0,decide (x0≤122),Wo [(0,0),(3,0)],H⟩
  exact Rh hN [B false] (.c1 (df c162))<|⟨k,by omega,x0,false,Wo [(0,0),(3,0)],H⟩
 clear H
 rintro st ⟨n',hn',x0,x3,W,H⟩
 rcases n' with _ | k
 ·cases H
 refine W.good ?_
 rw [strs_Printable_1.j1] at H
 rcases ifC H with ⟨c163,H⟩ | ⟨c163,H⟩
 ·refine Ct c163<|Sk<|Ct c163<|Sw<|Rg hN ?_
  cases H
  exact Rt dR
 refine Cf (bf c163) ?_
 rcases (ifC H).symm with ⟨c164,H⟩ | ⟨c164,H⟩
 ·refine Rh hN [B false] (.c1 (df c164))<|Good.cond false (by kernel_rfl)<|Sk<|Sw ?_
  obtain ⟨t168,h169,H⟩:=bindS H
  refine Rh hN [B t168] (.c1 (strings_ContainsRune.con h169).c) ?_
  cases H
  exact Rt dR
 refine Rh hN [B true] (.c1 (dt c164)) ?_
 rcases ifC H with ⟨c165,H⟩ | ⟨c165,H⟩
 ·refine Ct (dt c165)<|Sw<|Rg hN ?_
  cases H
  exact Rt dR
 refine Cf (df c165)<|Sk<|Sw ?_
 obtain ⟨t166,h167,H⟩:=bindS H
 refine Rh hN [B t166] (.c1 (strings_ContainsRune.con h167).c) ?_
 cases H
 exact Rt dR
def strings_indexFunc.l0:Nat→(Int→Option (Bool))→Bool→ByteArray→Nat→Option (Int)
 | 0,_,_,_,_=>none
 | k+1,g1,x2,x1000,x1001=>if x1001 < x1000.size then ((g1 ((Utf8.decode x1000 x1001).1:Int)).bind fun t171=>(if (t171 == x2)=true then (some ((x1001:Nat):Int)) else (strings_indexFunc.l0 k g1 x2 x1000 (x1001+(Utf8.decode x1000 x1001).2)))) else (some (-1))
def strings_indexFunc.f (k:Nat) (a0:ByteArray) (g1:Int→Option (Bool)) (a2:Bool):Option (Int):=strings_indexFunc.l0 k g1 a2 a0 0
theorem strings_indexFunc.con {k:Nat} {a0:ByteArray} {g1:Int→Option (Bool)} {a2:Bool} {f1:FuncId} {c1:List V} (hg1:∀ (az0:Int) r,g1 az0=some r→Con Tryz.prog f1 ([K .i32 az0]++c1) (B r)) {r:(Int)} (H:strings_indexFunc.f k a0 g1 a2=some r):Con Tryz.prog 186 [S a0,.clo f1 c1,B a2] (I r):=by
 refine Cg Tryz.func186 rfl fun C hN hL=>?_
 unfold strings_indexFunc.f at H
 refine Sw<|Rg hN<|Sw<|Sw<|Rg hN<|Bl<|Good.loopN (fun k' st=>∃ (x2:Bool) (x1000:ByteArray) (x1001:Nat),k'≤k∧Wk C st ⟨[(1,.w (.clo f1 c1)),(2,.w (B x2)),(10,.d (.ptr 0 0))],[.iter x1000 x1001]⟩∧strings_indexFunc.l0 k' g1 x2 x1000 x1001=some r) k ⟨a2,a0,0,Nat.le_refl _,Wo [(1,0),(2,0),(10,0)],H⟩ fun k=>⟨fun st h=>(by obtain ⟨_,_,_,_,_,H⟩:=h;cases H),?_⟩
 clear H
 rintro st ⟨x2,x1000,x1001,hk,W,H⟩
 refine W.good ?_
 rw [strings_indexFunc.l0] at H
 refine Sw ?_
 rcases (ifC H).symm with ⟨c170,H⟩ | ⟨c170,H⟩
 ·refine Rh hN [.kb false] (.c1 c170)<|Sw<|Good.cond false (by kernel_rfl)<|Ex<|Sw<|Rg hN ?_
  cases H
  exact Rt dR
 refine Rh hN [.kb true] (.c1 c170)<|Sw<|Good.cond true (by kernel_rfl)<|Sk<|Bl<|Sw<|Rg hN<|Sw ?_
 obtain ⟨t171,h172,H⟩:=bindS H
 refine Rh hN [B t171] (.c1 (hg1 _ _ h172).c) ?_
 rcases (ifC H).symm with ⟨c173,H⟩ | ⟨c173,H⟩
 ·exact Cf (bf c173)<|Sk<|⟨k,by omega,x2,x1000,x1001+(Utf8.decode x1000 x1001).2,by omega,Wo [(1,0),(2,0),(10,0)],H⟩
 refine Ct c173<|Sw<|Rg hN ?_
 cases H
 exact Rt dR
def strings_IndexFunc.f (k:Nat) (a0:ByteArray) (g1:Int→Option (Bool)):Option (Int):=(strings_indexFunc.f k a0 g1 true).bind fun t174=>(some t174)
theorem strings_IndexFunc.con {k:Nat} {a0:ByteArray} {g1:Int→Option (Bool)} {f1:FuncId} {c1:List V} (hg1:∀ (az0:Int) r,g1 az0=some r→Con Tryz.prog f1 ([K .i32 az0]++c1) (B r)) {r:(Int)} (H:strings_IndexFunc.f k a0 g1=some r):Con Tryz.prog 176 [S a0,.clo f1 c1] (I r):=by
 refine Cg Tryz.func176 rfl fun C hN hL=>?_
 unfold strings_IndexFunc.f at H
 refine Sw<|Rg hN<|Sw ?_
 obtain ⟨t174,h175,H⟩:=bindS H
 refine Rh hN [I t174] (.c1 (strings_indexFunc.con (f1:=f1) (c1:=c1) hg1 h175).c) ?_
 cases H
 exact Rt dR
def strings_ContainsFunc.f (k:Nat) (a0:ByteArray) (g1:Int→Option (Bool)):Option (Bool):=(strings_IndexFunc.f k a0 g1).bind fun t176=>(some (decide (t176≥0)))
theorem strings_ContainsFunc.con {k:Nat} {a0:ByteArray} {g1:Int→Option (Bool)} {f1:FuncId} {c1:List V} (hg1:∀ (az0:Int) r,g1 az0=some r→Con Tryz.prog f1 ([K .i32 az0]++c1) (B r)) {r:(Bool)} (H:strings_ContainsFunc.f k a0 g1=some r):Con Tryz.prog 160 [S a0,.clo f1 c1] (B r):=by
 refine Cg Tryz.func160 rfl fun C hN hL=>?_
 unfold strings_ContainsFunc.f at H
 refine Sw<|Rg hN<|Sw ?_
 obtain ⟨t176,h177,H⟩:=bindS H
 refine Rh hN [I t176] (.c1 (strings_IndexFunc.con (f1:=f1) (c1:=c1) hg1 h177).c) ?_
 cases H
 exact Rt dR
def strs_Printable.f (k:Nat) (a0:ByteArray):Option (Bool):=(strings_ContainsFunc.f k a0 (fun z0=>strs_Printable_1.f k z0)).bind fun t178=>(some (!t178))
theorem strs_Printable.con {k:Nat} {a0:ByteArray} {r:(Bool)} (H:strs_Printable.f k a0=some r):Con Tryz.prog 140 [S a0] (B r):=by
 refine Cg Tryz.func140 rfl fun C hN hL=>?_
 unfold strs_Printable.f at H
 refine Sw<|Rg hN<|Sw<|Rg hN<|Sw ?_
 obtain ⟨t178,h179,H⟩:=bindS H
 refine Rh hN [B t178] (.c1 (strings_ContainsFunc.con (f1:=159) (c1:=[]) (fun _ _ h=>strs_Printable_1.con h) h179).c) ?_
 cases H
 exact Rt dR
def strs_Right.f (k:Nat) (a0:Int) (a1:ByteArray):Option (Bool):=if a0=1 then ((strs_Unbool.f a1).bind fun t181=>(some t181.2)) else (if a0=2 then ((whole_Right.f a1).bind fun t184=>(some t184)) else (if a0=3 then ((strs_Unbits.f k a1).bind fun t187=>(some t187.2.2)) else (if a0=4 then (some true) else (if a0=5 then (some (a1.toList == ([]:List UInt8))) else (if a0=6 then ((oid_Decode.f k a1).bind fun t192=>(some t192.2)) else (if a0=12 then ((strs_Utf.f a1).bind fun t195=>(some t195)) else (if a0=19 then ((strs_Printable.f k a1).bind fun t198=>(some t198)) else (some false))))))))
theorem strs_Right.con {k:Nat} {a0:Int} {a1:ByteArray} {r:(Bool)} (H:strs_Right.f k a0 a1=some r):Con Tryz.prog 121 [I a0,S a1] (B r):=by
 refine Cg Tryz.func121 rfl fun C hN hL=>?_
 unfold strs_Right.f at H
 refine Sw<|Rg hN<|Sw<|Rg hN<|Sw<|Sw<|Rg hN<|Bl<|Sw<|Rg hN ?_
 rcases ifC H with ⟨c180,H⟩ | ⟨c180,H⟩
 ·refine Ct (bq c180) ?_
  obtain ⟨t181,h182,H⟩:=bindS H
  refine Rh hN [.tup [B t181.1,B t181.2]] (.c1 (strs_Unbool.con h182).c)<|Sw<|Rg hN ?_
  cases H
  exact Rt dR
 refine Cf (bn c180)<|Sw<|Rg hN ?_
 rcases ifC H with ⟨c183,H⟩ | ⟨c183,H⟩
 ·refine Ct (bq c183) ?_
  obtain ⟨t184,h185,H⟩:=bindS H
  refine Rh hN [B t184] (.c1 (whole_Right.con h185).c)<|Sw<|Rg hN ?_
  cases H
  exact Rt dR
 refine Cf (bn c183)<|Sw<|Rg hN ?_
 rcases ifC H with ⟨c186,H⟩ | ⟨c186,H⟩
 ·refine Ct (bq c186) ?_
  obtain ⟨t187,h188,H⟩:=bindS H
  refine Rh hN [.tup [S t187.1,I t187.2.1,B t187.2.2]] (.c1 (strs_Unbits.con h188).c)<|Sw<|Rg hN ?_
  cases H
  exact Rt dR
 refine Cf (bn c186)<|Sw<|Rg hN ?_
 rcases ifC H with ⟨c189,H⟩ | ⟨c189,H⟩
 ·refine Ct (bq c189)<|Rg hN<|Sw<|Rg hN ?_
  cases H
  exact Rt dR
 refine Cf (bn c189)<|Sw<|Rg hN ?_
 rcases ifC H with ⟨c190,H⟩ | ⟨c190,H⟩
 ·refine Ct (bq c190)<|Ri hN [] (.c1 (strV (rfl:a1.toList=a1.toList) (litL ([]:List UInt8)))) [(31,.bool (a1.toList == ([]:List UInt8)))]<|Sw<|Rg hN ?_
  cases H
  exact Rt dR
 refine Cf (bn c190)<|Sw<|Rg hN ?_
 rcases ifC H with ⟨c191,H⟩ | ⟨c191,H⟩
 ·refine Ct (bq c191) ?_
  obtain ⟨t192,h193,H⟩:=bindS H
  refine Rh hN [.tup [.row none 1 (List.map I t192.1),B t192.2]] (.c1 (oid_Decode.con h193).c)<|Sw<|Rg hN ?_
  cases H
  exact Rt dR
 refine Cf (bn c191)<|Sw<|Rg hN ?_
 rcases ifC H with ⟨c194,H⟩ | ⟨c194,H⟩
 ·refine Ct (bq c194) ?_
  obtain ⟨t195,h196,H⟩:=bindS H
  refine Rh hN [B t195] (.c1 (strs_Utf.con h196).c)<|Sw<|Rg hN ?_
  cases H
  exact Rt dR
 refine Cf (bn c194)<|Sw<|Rg hN ?_
 rcases (ifC H).symm with ⟨c197,H⟩ | ⟨c197,H⟩
 ·refine Cf (bn c197)<|Sk<|Sw<|Rg hN ?_
  cases H
  exact Rt dR
 refine Ct (bq c197) ?_
 obtain ⟨t198,h199,H⟩:=bindS H
 refine Rh hN [B t198] (.c1 (strs_Printable.con h199).c)<|Sw<|Rg hN ?_
 cases H
 exact Rt dR
def tree_one.j0:Nat→Bool→Int→Int→Bool→ByteArray→List Int→Option (Bool)
 | 0,_,_,_,_,_,_=>none
 | k+1,x18,x1000,x1001,x1002,x1003,x1004=>if x18=true then (some false) else (if x1002=true then (if x1003.toList=([]:List UInt8) then (if x1000=0 then (if x1001=16 then (some true) else (some (x1001 == 17))) else (some true)) else (some false)) else (if (x1004.length:Int)=0 then (if x1000=0 then ((strs_Right.f k x1001 x1003).bind fun t209=>(some t209)) else (some true)) else (some false)))
def tree_one.f (k:Nat) (a0_0:Int) (a0_1:Int) (a0_2:Bool) (a0_3:ByteArray) (l0_4:List Int):Option (Bool):=if (mn a0_0 a0_1) < 0 then (tree_one.j0 k true a0_0 a0_1 a0_2 a0_3 l0_4) else (if a0_0 > 3 then (tree_one.j0 k true a0_0 a0_1 a0_2 a0_3 l0_4) else (tree_one.j0 k (decide (a0_1 > 2097151)) a0_0 a0_1 a0_2 a0_3 l0_4))
theorem tree_one.con {k:Nat} {a0_0:Int} {a0_1:Int} {a0_2:Bool} {a0_3:ByteArray} {l0_4:List Int} {r:(Bool)} (H:tree_one.f k a0_0 a0_1 a0_2 a0_3 l0_4=some r):Con Tryz.prog 110 [.agg [I a0_0,I a0_1,B a0_2,S a0_3,.row none 1 (List.map I l0_4)]] (B r):=by
 refine Cg Tryz.func110 rfl fun C hN hL=>?_
 unfold tree_one.f at H
 refine Sw<|Rg hN<|Sw<|Sw<|Good.cut (fun st=>∃ n':Nat,n'≤k∧∃ (x18:Bool) (x1000:Int) (x1001:Int) (x1002:Bool) (x1003:ByteArray) (x1004:List Int),Wk C st ⟨[(1,.d (.ptr 0 0)),(18,.w (B x18))],[.cells [.v (I x1000),.v (I x1001),.v (B x1002),.v (S x1003),.v (.row none 1 (List.map I x1004))]]⟩∧tree_one.j0 n' x18 x1000 x1001 x1002 x1003 x1004=some r) ?_ ?_
 ·rcases ifC H with ⟨c200,H⟩ | ⟨c200,H⟩
  ·exact Rh hN [B true,B true] (.c2 (dt c200) (rfl:true=true))<|⟨k,by omega,true,a0_0,a0_1,a0_2,a0_3,l0_4,Wo [(1,0),(18,0)],H⟩
  rcases ifC H with ⟨c201,H⟩ | ⟨c201,H⟩
  ·exact Rh hN [B false,B true] (.c2 (df c200) (dt c201))<|⟨k,by omega,true,a0_0,a0_1,a0_2,a0_3,l0_4,Wo [(1,0),(18,0)],H⟩
  exact Rh hN [B false,B false] (.c2 (df c200) (df c201))<|⟨k,by omega,decide (a0_1 > 2097151),a0_0,a0_1,a0_2,a0_3,l0_4,Wo [(1,0),(18,0)],H⟩
 clear H
 rintro st ⟨n',hn',x18,x1000,x1001,x1002,x1003,x1004,W,H⟩
 rcases n' with _ | k
 ·cases H
 refine W.good ?_
 rw [tree_one.j0] at H
 rcases ifC H with ⟨c202,H⟩ | ⟨c202,H⟩
 ·refine Ct c202<|Sw<|Rg hN ?_
  cases H
  exact Rt dR
 refine Cf (bf c202)<|Sk<|Sw<|Sw<|Rg hN ?_
 rcases (ifC H).symm with ⟨c203,H⟩ | ⟨c203,H⟩
 ·refine Cf (bf c203)<|Sk<|Sw ?_
  rcases (ifC H).symm with ⟨c207,H⟩ | ⟨c207,H⟩
  ·refine Rh hN [I (x1004.length:Int),B false] (.c2 (lenM I x1004) (bn c207)) ?_
   cases H
   exact Rt dR
  rcases (ifC H).symm with ⟨c208,H⟩ | ⟨c208,H⟩
  ·refine Rh hN [I (x1004.length:Int),B true,B true] (.c3 (lenM I x1004) (bq c207) (nq c208)) ?_
   cases H
   exact Rt dR
  obtain ⟨t209,h210,H⟩:=bindS H
  refine Rh hN [I (x1004.length:Int),B true,B false,B t209] (.c4 (lenM I x1004) (bq c207) (bneF c208) (strs_Right.con h210).c) ?_
  cases H
  exact Rt dR
 refine Ct c203<|Sw ?_
 rcases (ifC H).symm with ⟨c204,H⟩ | ⟨c204,H⟩
 ·refine Ri hN [B false] (.c2 (strV (rfl:x1003.toList=x1003.toList) (litL ([]:List UInt8))) (bn c204)) [(23,.bool (x1003.toList == ([]:List UInt8)))] ?_
  cases H
  exact Rt dR
 rcases (ifC H).symm with ⟨c205,H⟩ | ⟨c205,H⟩
 ·refine Ri hN [B true,B true,B true] (.c4 (strV (rfl:x1003.toList=x1003.toList) (litL ([]:List UInt8))) (bq c204) (nq c205) (rfl:true=true)) [(23,.bool (x1003.toList == ([]:List UInt8)))] ?_
  cases H
  exact Rt dR
 rcases ifC H with ⟨c206,H⟩ | ⟨c206,H⟩
 ·refine Ri hN [B true,B false,B true] (.c4 (strV (rfl:x1003.toList=x1003.toList) (litL ([]:List UInt8))) (bq c204) (bneF c205) (bq c206)) [(23,.bool (x1003.toList == ([]:List UInt8)))] ?_
  cases H
  exact Rt dR
 refine Ri hN [B true,B false,B false] (.c4 (strV (rfl:x1003.toList=x1003.toList) (litL ([]:List UInt8))) (bq c204) (bneF c205) (bn c206)) [(23,.bool (x1003.toList == ([]:List UInt8)))] ?_
 cases H
 exact Rt dR
def tree_depth.l2:Nat→List S55→List S158→Int→Int→Int→Option (Int)
 | 0,_,_,_,_,_=>none
 | k+1,x0,x3,x4,x102,x103=>if x103 < x102 then (if 0≤x103 then (if x103 < (x3.length:Int) then (if 0≤((rd_T158 x3 x103).f0) then (if ((rd_T158 x3 x103).f0) < (x0.length:Int) then (if ((rd_T158 x3 x103).f1)=(((rd_T55 x0 ((rd_T158 x3 x103).f0)).f4).length:Int) then (tree_depth.l2 k x0 x3 x4 x102 (wrap64 (x103+1))) else (some 0)) else (none)) else (none)) else (none)) else (none)) else (if x4 > 16 then (some 0) else (some x4))
mutual
def tree_depth.l0:Nat→List S55→List S158→Int→List S55→Int→Int→Option (Int)
 | 0,_,_,_,_,_,_=>none
 | k+1,x0,x3,x4,x18,x19,x20=>if x20 < x19 then (if 0≤x20 then (if x20 < (x18.length:Int) then ((tree_one.f k ((rd_T55 x18 x20).f0) ((rd_T55 x18 x20).f1) ((rd_T55 x18 x20).f2) ((rd_T55 x18 x20).f3) ((rd_T55 x18 x20).f4)).bind fun t227=>(if t227=true then (tree_depth.l1 k x0 x3 x4 x20 x18 x19 x20) else (some 0))) else (none)) else (none)) else (tree_depth.l2 k x0 x3 x4 (x3.length:Int) 0)
def tree_depth.l1:Nat→List S55→List S158→Int→Int→List S55→Int→Int→Option (Int)
 | 0,_,_,_,_,_,_,_=>none
 | k+1,x0,x3,x4,x5,x18,x19,x20=>if (x3.length:Int) > 0 then (if 0≤(wrap64 ((x3.length:Int) - 1)) then (if (wrap64 ((x3.length:Int) - 1)) < (x3.length:Int) then (if 0≤((rd_T158 x3 (wrap64 ((x3.length:Int) - 1))).f0) then (if ((rd_T158 x3 (wrap64 ((x3.length:Int) - 1))).f0) < (x0.length:Int) then (if ((rd_T158 x3 (wrap64 ((x3.length:Int) - 1))).f1)=(((rd_T55 x0 ((rd_T158 x3 (wrap64 ((x3.length:Int) - 1))).f0)).f4).length:Int) then (if (wrap64 ((x3.length:Int) - 1))≤(x3.length:Int) then (tree_depth.l1 k x0 (x3.take ((wrap64 ((x3.length:Int) - 1)):Int).toNat) x4 x5 x18 x19 x20) else (none)) else (tree_depth.j3 k x0 x3 x4 x5 x18 x19 x20)) else (none)) else (none)) else (none)) else (none)) else (tree_depth.j3 k x0 x3 x4 x5 x18 x19 x20)
def tree_depth.j3:Nat→List S55→List S158→Int→Int→List S55→Int→Int→Option (Int)
 | 0,_,_,_,_,_,_,_=>none
 | k+1,x0,x3,x4,x5,x18,x19,x20=>if x5 > 0 then (if (x3.length:Int)=0 then (some 0) else (if 0≤(wrap64 ((x3.length:Int) - 1)) then (if (wrap64 ((x3.length:Int) - 1)) < (x3.length:Int) then (if 0≤((rd_T158 x3 (wrap64 ((x3.length:Int) - 1))).f0) then (if ((rd_T158 x3 (wrap64 ((x3.length:Int) - 1))).f0) < (x0.length:Int) then (if 0≤((rd_T158 x3 (wrap64 ((x3.length:Int) - 1))).f1) then (if ((rd_T158 x3 (wrap64 ((x3.length:Int) - 1))).f1) < (((rd_T55 x0 ((rd_T158 x3 (wrap64 ((x3.length:Int) - 1))).f0)).f4).length:Int) then (if (rd ((rd_T55 x0 ((rd_T158 x3 (wrap64 ((x3.length:Int) - 1))).f0)).f4) ((rd_T158 x3 (wrap64 ((x3.length:Int) - 1))).f1))=x5 then ((some (x3.set ((wrap64 ((x3.length:Int) - 1)):Int).toNat (⟨(rd_T158 x3 (wrap64 ((x3.length:Int) - 1))).f0,wrap64 (((rd_T158 x3 (wrap64 ((x3.length:Int) - 1))).f1)+1)⟩:S158):List S158)).bind fun y246=>(if y246.length < 8796093022208 then ((some (y246++[(⟨x5,0⟩:S158)]:List S158)).bind fun y248=>(tree_depth.l0 k x0 y248 (mx x4 (y248.length:Int)) x18 x19 (wrap64 (x20+1)))) else (none))) else (some 0)) else (none)) else (none)) else (none)) else (none)) else (none)) else (none))) else (if x3.length < 8796093022208 then ((some (x3++[(⟨x5,0⟩:S158)]:List S158)).bind fun y250=>(tree_depth.l0 k x0 y250 (mx x4 (y250.length:Int)) x18 x19 (wrap64 (x20+1)))) else (none))
end
def tree_depth.j0:Nat→List S55→Bool→Option (Int)
 | 0,_,_=>none
 | k+1,x0,x17=>if x17=true then (some 0) else (tree_depth.l0 k x0 ([]:List S158) 0 x0 (x0.length:Int) 0)
def tree_depth.f (k:Nat) (l0:List S55):Option (Int):=if (l0.length:Int)=0 then (tree_depth.j0 k l0 true) else (tree_depth.j0 k l0 (decide ((l0.length:Int) > 1000)))
theorem tree_depth.con {k:Nat} {l0:List S55} {r:(Int)} (H:tree_depth.f k l0=some r):Con Tryz.prog 69 [.row none 5 (List.map (v55 0) l0)] (I r):=by
 refine Cg Tryz.func69 rfl fun C hN hL=>?_
 unfold tree_depth.f at H
 refine Sw<|Rg hN<|Sw<|Sw<|Good.cut (fun st=>∃ n':Nat,n'≤k∧∃ (x0:List S55) (x17:Bool),Wk C st ⟨[(0,.w (.row none 5 (List.map (v55 0) x0))),(17,.w (B x17))],[]⟩∧tree_depth.j0 n' x0 x17=some r) ?_ ?_
 ·rcases ifC H with ⟨c222,H⟩ | ⟨c222,H⟩
  ·exact Rh hN [I (l0.length:Int),B true] (.c2 (lenM (v55 0) l0) (bq c222))<|⟨k,by omega,l0,true,Wo [(0,0),(17,0)],H⟩
  exact Rh hN [I (l0.length:Int),B false,I (l0.length:Int)] (.c3 (lenM (v55 0) l0) (bn c222) (lenM (v55 0) l0))<|⟨k,by omega,l0,decide ((l0.length:Int) > 1000),Wo [(0,0),(17,0)],H⟩
 clear H
 rintro st ⟨n',hn',x0,x17,W,H⟩
 rcases n' with _ | k
 ·cases H
 refine W.good ?_
 rw [tree_depth.j0] at H
 rcases ifC H with ⟨c223,H⟩ | ⟨c223,H⟩
 ·refine Ct c223<|Sw<|Rg hN ?_
  cases H
  exact Rt dR
 refine Cf (bf c223)<|Sk<|Sw<|Rg hN<|Sw<|Rg hN<|Sw<|Sw<|Rh hN [I (x0.length:Int)] (.c1 (lenM (v55 0) x0))<|Bl<|Good.loopN (fun k' st=>∃ (x0:List S55) (x3:List S158) (x4:Int) (x18:List S55) (x19:Int) (x20:Int),k'≤k∧Wk C st ⟨[(0,.w (.row none 5 (List.map (v55 0) x0))),(3,.w (.row (some 158) 2 (List.map v158 x3))),(4,.w (I x4)),(18,.w (.row none 5 (List.map (v55 0) x18))),(19,.w (I x19)),(20,.w (I x20))],[]⟩∧tree_depth.l0 k' x0 x3 x4 x18 x19 x20=some r) k ⟨x0,([]:List S158),0,x0,(x0.length:Int),0,Nat.le_refl _,Wo [(0,0),(3,1),(4,0),(18,0),(19,0),(20,0)],H⟩ fun k=>⟨fun st h=>(by obtain ⟨_,_,_,_,_,_,_,_,H⟩:=h;cases H),?_⟩
 clear H
 rintro st ⟨x0,x3,x4,x18,x19,x20,hk,W,H⟩
 refine W.good ?_
 rw [tree_depth.l0] at H
 refine Sw<|Rg hN<|Sw ?_
 rcases (ifC H).symm with ⟨c224,H⟩ | ⟨c224,H⟩
 ·refine Cf (df c224)<|Ex<|Sw<|Sw<|Rh hN [I (x3.length:Int)] (.c1 (lenM v158 x3))<|Bl<|Good.loopN (fun k' st=>∃ (x0:List S55) (x3:List S158) (x4:Int) (x102:Int) (x103:Int),k'≤k∧Wk C st ⟨[(0,.w (.row none 5 (List.map (v55 0) x0))),(3,.w (.row (some 158) 2 (List.map v158 x3))),(4,.w (I x4)),(101,.al (.top (.t 3))),(102,.w (I x102)),(103,.w (I x103))],[]⟩∧tree_depth.l2 k' x0 x3 x4 x102 x103=some r) k ⟨x0,x3,x4,(x3.length:Int),0,Nat.le_refl _,Wo [(0,0),(3,0),(4,0),(101,0),(102,0),(103,0)],H⟩ fun k=>⟨fun st h=>(by obtain ⟨_,_,_,_,_,_,_,H⟩:=h;cases H),?_⟩
  clear H
  rintro st ⟨x0,x3,x4,x102,x103,hk,W,H⟩
  refine W.good ?_
  rw [tree_depth.l2] at H
  refine Sw<|Rg hN<|Sw ?_
  rcases (ifC H).symm with ⟨c251,H⟩ | ⟨c251,H⟩
  ·refine Cf (df c251)<|Ex<|Sw<|Sw<|Rg hN ?_
   rcases ifC H with ⟨c257,H⟩ | ⟨c257,H⟩
   ·refine Ct (dt c257)<|Sw<|Rg hN ?_
    cases H
    exact Rt dR
   refine Cf (df c257)<|Sk<|Sw<|Rg hN ?_
   cases H
   exact Rt dR
  refine Ct (dt c251)<|Sk<|Sw<|Bl<|Sw ?_
  obtain ⟨c252,H⟩:=ifS H
  obtain ⟨c253,H⟩:=ifS H
  refine Rh hN [v158 (rd_T158 x3 x103)] (.c3 c252 (ltM v158 c253) (atM v158 z158 c252 c253))<|Sw ?_
  obtain ⟨c254,H⟩:=ifS H
  obtain ⟨c255,H⟩:=ifS H
  refine Rd hm hN (.qs 9 0 (.q 9 [] .z)) [(0,none),(9,some (.pt [I ((rd_T158 x3 x103).f0),I ((rd_T158 x3 x103).f1)]))] (.c1 (ptS (shrC (rfl:(V.shr (I ((rd_T158 x3 x103).f0)))=I ((rd_T158 x3 x103).f0)) (shrC (rfl:(V.shr (I ((rd_T158 x3 x103).f1)))=I ((rd_T158 x3 x103).f1)) (rfl:shrL []=[]))))) [(v55 0) (rd_T55 x0 ((rd_T158 x3 x103).f0)),I (((rd_T55 x0 ((rd_T158 x3 x103).f0)).f4).length:Int)] [(v55 0) (rd_T55 x0 ((rd_T158 x3 x103).f0)),I (((rd_T55 x0 ((rd_T158 x3 x103).f0)).f4).length:Int)] (.c3 c254 (atM (v55 0) z55 c254 c255) (lenM I ((rd_T55 x0 ((rd_T158 x3 x103).f0)).f4))) (.c3 c254 (atM (v55 0) z55 c254 c255) (lenM I ((rd_T55 x0 ((rd_T158 x3 x103).f0)).f4))) [] [] ?_
  rcases ifC H with ⟨c256,H⟩ | ⟨c256,H⟩
  ·exact Cf (bneF c256)<|Sk<|Rg hN<|⟨k,by omega,x0,x3,x4,x102,wrap64 (x103+1),by omega,Wk.ofB hL 0 [(0,0),(3,0),(4,0),(101,0),(102,0),(103,0)] (by kernel_rfl) (by kernel_rfl) (by kernel_rfl),H⟩
  refine Ct (nq c256)<|Sw<|Rg hN ?_
  cases H
  exact Rt dR
 refine Ct (dt c224)<|Sk<|Sw<|Bl<|Sw ?_
 obtain ⟨c225,H⟩:=ifS H
 obtain ⟨c226,H⟩:=ifS H
 refine Rh hN [(v55 0) (rd_T55 x18 x20)] (.c2 c225 (atM (v55 0) z55 c225 c226))<|Sw<|Sw ?_
 obtain ⟨t227,h228,H⟩:=bindS H
 refine Rh hN [B t227] (.c1 (tree_one.con h228).c) ?_
 rcases (ifC H).symm with ⟨c229,H⟩ | ⟨c229,H⟩
 ·refine Ct (notT (bf c229))<|Sw<|Rg hN ?_
  cases H
  exact Rt dR
 refine Cf (notF c229)<|Sk<|Sw<|Good.cut (fun st=>∃ n':Nat,n'≤k∧∃ (x0:List S55) (x3:List S158) (x4:Int) (x5:Int) (x18:List S55) (x19:Int) (x20:Int) (x1000:Int) (x1001:Int) (x1002:Bool) (x1003:ByteArray) (x1004:List Int),Wk C st ⟨[(0,.w (.row none 5 (List.map (v55 0) x0))),(3,.w (.row (some 158) 2 (List.map v158 x3))),(4,.w (I x4)),(5,.w (I x5)),(18,.w (.row none 5 (List.map (v55 0) x18))),(19,.w (I x19)),(20,.w (I x20))],[.cells [.v (I x1000),.v (I x1001),.v (B x1002),.v (S x1003),.v (.row none 1 (List.map I x1004))]]⟩∧tree_depth.j3 n' x0 x3 x4 x5 x18 x19 x20=some r) ?_ ?_
 ·refine Bl<|Good.loopN (fun k' st=>∃ (x0:List S55) (x3:List S158) (x4:Int) (x5:Int) (x18:List S55) (x19:Int) (x20:Int) (x1000:Int) (x1001:Int) (x1002:Bool) (x1003:ByteArray) (x1004:List Int),k'≤k∧Wk C st ⟨[(0,.w (.row none 5 (List.map (v55 0) x0))),(3,.w (.row (some 158) 2 (List.map v158 x3))),(4,.w (I x4)),(5,.w (I x5)),(18,.w (.row none 5 (List.map (v55 0) x18))),(19,.w (I x19)),(20,.w (I x20))],[.cells [.v (I x1000),.v (I x1001),.v (B x1002),.v (S x1003),.v (.row none 1 (List.map I x1004))]]⟩∧tree_depth.l1 k' x0 x3 x4 x5 x18 x19 x20=some r) k ⟨x0,x3,x4,x20,x18,x19,x20,(rd_T55 x18 x20).f0,(rd_T55 x18 x20).f1,(rd_T55 x18 x20).f2,(rd_T55 x18 x20).f3,(rd_T55 x18 x20).f4,Nat.le_refl _,Wo [(0,0),(3,0),(4,0),(5,0),(18,0),(19,0),(20,0)],H⟩ fun k=>⟨fun st h=>(by obtain ⟨_,_,_,_,_,_,_,_,_,_,_,_,_,_,H⟩:=h;cases H),?_⟩
  clear H
  rintro st ⟨x0,x3,x4,x5,x18,x19,x20,x1000,x1001,x1002,x1003,x1004,hk,W,H⟩
  refine W.good ?_
  rw [tree_depth.l1] at H
  refine Sw<|Sw ?_
  rcases (ifC H).symm with ⟨c230,H⟩ | ⟨c230,H⟩
  ·exact Rd hm hN (.qs 4 0 (.k 31 (.is 20 4 (.q 24 [] .z)))) [(0,none),(3,some (.row none 2 (List.map v158 x3)))] (.c1 (shrM (some 158) 2 v158 v158 x3 (fun _=>rfl))) [I (x3.length:Int),B false] [I (x3.length:Int)] (.c2 (lenM v158 x3) (df c230)) (.c2 (lenM v158 x3) (df c230)) [] []<|Good.cond false (by kernel_rfl)<|Ex<|⟨k,by omega,x0,x3,x4,x5,x18,x19,x20,x1000,x1001,x1002,x1003,x1004,Wo [(0,0),(3,0),(4,0),(5,0),(18,0),(19,0),(20,0)],H⟩
  obtain ⟨c231,H⟩:=ifS H
  obtain ⟨c232,H⟩:=ifS H
  obtain ⟨c233,H⟩:=ifS H
  obtain ⟨c234,H⟩:=ifS H
  refine Rd hm hN (.qs 4 0 (.k 31 (.qs 20 4 (.q 24 [] .z)))) [(0,none),(3,some (.row none 2 (List.map v158 x3)))] (.c1 (shrM (some 158) 2 v158 v158 x3 (fun _=>rfl))) [I (x3.length:Int),B true,I (x3.length:Int),v158 (rd_T158 x3 (wrap64 ((x3.length:Int) - 1))),I (x3.length:Int),v158 (rd_T158 x3 (wrap64 ((x3.length:Int) - 1))),(v55 0) (rd_T55 x0 ((rd_T158 x3 (wrap64 ((x3.length:Int) - 1))).f0)),I (((rd_T55 x0 ((rd_T158 x3 (wrap64 ((x3.length:Int) - 1))).f0)).f4).length:Int)] [I (x3.length:Int),I (x3.length:Int),v158 (rd_T158 x3 (wrap64 ((x3.length:Int) - 1))),I (x3.length:Int),v158 (rd_T158 x3 (wrap64 ((x3.length:Int) - 1))),(v55 0) (rd_T55 x0 ((rd_T158 x3 (wrap64 ((x3.length:Int) - 1))).f0)),I (((rd_T55 x0 ((rd_T158 x3 (wrap64 ((x3.length:Int) - 1))).f0)).f4).length:Int)] (.cons (lenM v158 x3) (.cons (dt c230) (.cons (lenM v158 x3) (.cons c231 (.cons (ltM v158 c232) (.c8 (atM v158 z158 c231 c232) (lenM v158 x3) c231 (ltM v158 c232) (atM v158 z158 c231 c232) c233 (atM (v55 0) z55 c233 c234) (lenM I ((rd_T55 x0 ((rd_T158 x3 (wrap64 ((x3.length:Int) - 1))).f0)).f4)))))))) (.cons (lenM v158 x3) (.cons (dt c230) (.cons (lenM v158 x3) (.c8 c231 (atM v158 z158 c231 c232) (lenM v158 x3) c231 (atM v158 z158 c231 c232) c233 (atM (v55 0) z55 c233 c234) (lenM I ((rd_T55 x0 ((rd_T158 x3 (wrap64 ((x3.length:Int) - 1))).f0)).f4)))))) [] [] ?_
  rcases (ifC H).symm with ⟨c235,H⟩ | ⟨c235,H⟩
  ·exact Cf (bn c235)<|Ex<|⟨k,by omega,x0,x3,x4,x5,x18,x19,x20,x1000,x1001,x1002,x1003,x1004,Wo [(0,0),(3,0),(4,0),(5,0),(18,0),(19,0),(20,0)],H⟩
  refine Ct (bq c235)<|Sk<|Bl ?_
  obtain ⟨c236,H⟩:=ifS H
  exact Rh hN [I (x3.length:Int),.row (some 158) 2 (List.map v158 (x3.take ((wrap64 ((x3.length:Int) - 1)):Int).toNat))] (.c4 (lenM v158 x3) c231 (leM v158 c236) (takeM v158 (l:=x3) (n:=((wrap64 ((x3.length:Int) - 1)):Int).toNat)))<|⟨k,by omega,x0,x3.take ((wrap64 ((x3.length:Int) - 1)):Int).toNat,x4,x5,x18,x19,x20,x1000,x1001,x1002,x1003,x1004,by omega,Wo [(0,0),(3,0),(4,0),(5,0),(18,0),(19,0),(20,0)],H⟩
 clear H
 rintro st ⟨n',hn',x0,x3,x4,x5,x18,x19,x20,x1000,x1001,x1002,x1003,x1004,W,H⟩
 rcases n' with _ | k
 ·cases H
 refine W.good ?_
 rw [tree_depth.j3] at H
 refine Sw<|Sw<|Rg hN ?_
 rcases (ifC H).symm with ⟨c237,H⟩ | ⟨c237,H⟩
 ·refine Cf (df c237)<|Sk<|Sw ?_
  obtain ⟨c249,H⟩:=ifS H
  replace H:=bindI H
  exact Rh hN [.kb true,.row (some 158) 2 (List.map v158 (x3++[(⟨x5,0⟩:S158)]))] (.c2 (fitM v158 x3 [(⟨x5,0⟩:S158)] (.refl _)) (limM1 v158 c249))<|Rh hN [I ((x3++[(⟨x5,0⟩:S158)]).length:Int)] (.c1 (lenM v158 (x3++[(⟨x5,0⟩:S158)])))<|Rg hN<|⟨k,by omega,x0,(x3++[(⟨x5,0⟩:S158)]),mx x4 ((x3++[(⟨x5,0⟩:S158)]).length:Int),x18,x19,wrap64 (x20+1),by omega,Wk.ofB hL 0 [(0,0),(3,0),(4,0),(18,0),(19,0),(20,0)] (by kernel_rfl) (by kernel_rfl) (by kernel_rfl),H⟩
 refine Ct (dt c237)<|Sw<|Sw<|Rh hN [I (x3.length:Int)] (.c1 (lenM v158 x3)) ?_
 rcases ifC H with ⟨c238,H⟩ | ⟨c238,H⟩
 ·refine Ct (bq c238)<|Sw<|Rg hN ?_
  cases H
  exact Rt dR
 refine Cf (bn c238)<|Sk<|Sw ?_
 obtain ⟨c239,H⟩:=ifS H
 obtain ⟨c240,H⟩:=ifS H
 refine Rh hN [I (x3.length:Int)] (.c3 (lenM v158 x3) c239 (ltM v158 c240))<|Sw<|Sw ?_
 obtain ⟨c241,H⟩:=ifS H
 obtain ⟨c242,H⟩:=ifS H
 obtain ⟨c243,H⟩:=ifS H
 obtain ⟨c244,H⟩:=ifS H
 refine Rd hm hN (.qs 15 0 (.q 15 [] .z)) [(0,none),(5,none),(7,some (.tup [v158 (rd_T158 x3 (wrap64 ((x3.length:Int) - 1))),.pt [I ((rd_T158 x3 (wrap64 ((x3.length:Int) - 1))).f0),I ((rd_T158 x3 (wrap64 ((x3.length:Int) - 1))).f1)]]))] (.c2 (atM v158 z158 c239 c240) (ptS (shrC (rfl:(V.shr (I ((rd_T158 x3 (wrap64 ((x3.length:Int) - 1))).f0)))=I ((rd_T158 x3 (wrap64 ((x3.length:Int) - 1))).f0)) (shrC (rfl:(V.shr (I ((rd_T158 x3 (wrap64 ((x3.length:Int) - 1))).f1)))=I ((rd_T158 x3 (wrap64 ((x3.length:Int) - 1))).f1)) (rfl:shrL []=[]))))) [v158 (rd_T158 x3 (wrap64 ((x3.length:Int) - 1))),(v55 0) (rd_T55 x0 ((rd_T158 x3 (wrap64 ((x3.length:Int) - 1))).f0)),v158 (rd_T158 x3 (wrap64 ((x3.length:Int) - 1))),I (rd ((rd_T55 x0 ((rd_T158 x3 (wrap64 ((x3.length:Int) - 1))).f0)).f4) ((rd_T158 x3 (wrap64 ((x3.length:Int) - 1))).f1))] [(v55 0) (rd_T55 x0 ((rd_T158 x3 (wrap64 ((x3.length:Int) - 1))).f0)),I (rd ((rd_T55 x0 ((rd_T158 x3 (wrap64 ((x3.length:Int) - 1))).f0)).f4) ((rd_T158 x3 (wrap64 ((x3.length:Int) - 1))).f1))] (.c6 (atM v158 z158 c239 c240) c241 (atM (v55 0) z55 c241 c242) (atM v158 z158 c239 c240) c243 (atM I (0:Int) c243 c244)) (.c4 c241 (atM (v55 0) z55 c241 c242) c243 (atM I (0:Int) c243 c244)) [] [] ?_
 rcases (ifC H).symm with ⟨c245,H⟩ | ⟨c245,H⟩
 ·refine Ct (nq c245)<|Sw<|Rg hN ?_
  cases H
  exact Rt dR
 refine Cf (bneF c245)<|Sk ?_
 replace H:=bindI H
 refine Rh hN [v158 (rd_T158 x3 (wrap64 ((x3.length:Int) - 1))),v158 (rd_T158 x3 (wrap64 ((x3.length:Int) - 1))),v158 (⟨(rd_T158 x3 (wrap64 ((x3.length:Int) - 1))).f0,wrap64 (((rd_T158 x3 (wrap64 ((x3.length:Int) - 1))).f1)+1)⟩:S158),.row (some 158) 2 (List.map v158 (x3.set ((wrap64 ((x3.length:Int) - 1)):Int).toNat (⟨(rd_T158 x3 (wrap64 ((x3.length:Int) - 1))).f0,wrap64 (((rd_T158 x3 (wrap64 ((x3.length:Int) - 1))).f1)+1)⟩:S158)))] (.c4 (atM v158 z158 c239 c240) (atM v158 z158 c239 c240) (Fit.refl (v158 (⟨(rd_T158 x3 (wrap64 ((x3.length:Int) - 1))).f0,wrap64 (((rd_T158 x3 (wrap64 ((x3.length:Int) - 1))).f1)+1)⟩:S158))) (setM v158 (l:=x3) (n:=((wrap64 ((x3.length:Int) - 1)):Int).toNat) (x:=(⟨(rd_T158 x3 (wrap64 ((x3.length:Int) - 1))).f0,wrap64 (((rd_T158 x3 (wrap64 ((x3.length:Int) - 1))).f1)+1)⟩:S158))))<|Sw ?_
 obtain ⟨c247,H⟩:=ifS H
 replace H:=bindI H
 exact Rh hN [.kb true,.row (some 158) 2 (List.map v158 ((x3.set ((wrap64 ((x3.length:Int) - 1)):Int).toNat (⟨(rd_T158 x3 (wrap64 ((x3.length:Int) - 1))).f0,wrap64 (((rd_T158 x3 (wrap64 ((x3.length:Int) - 1))).f1)+1)⟩:S158))++[(⟨x5,0⟩:S158)]))] (.c2 (fitM v158 (x3.set ((wrap64 ((x3.length:Int) - 1)):Int).toNat (⟨(rd_T158 x3 (wrap64 ((x3.length:Int) - 1))).f0,wrap64 (((rd_T158 x3 (wrap64 ((x3.length:Int) - 1))).f1)+1)⟩:S158)) [(⟨x5,0⟩:S158)] (.refl _)) (limM1 v158 c247))<|Rh hN [I (((x3.set ((wrap64 ((x3.length:Int) - 1)):Int).toNat (⟨(rd_T158 x3 (wrap64 ((x3.length:Int) - 1))).f0,wrap64 (((rd_T158 x3 (wrap64 ((x3.length:Int) - 1))).f1)+1)⟩:S158))++[(⟨x5,0⟩:S158)]).length:Int)] (.c1 (lenM v158 ((x3.set ((wrap64 ((x3.length:Int) - 1)):Int).toNat (⟨(rd_T158 x3 (wrap64 ((x3.length:Int) - 1))).f0,wrap64 (((rd_T158 x3 (wrap64 ((x3.length:Int) - 1))).f1)+1)⟩:S158))++[(⟨x5,0⟩:S158)])))<|Rg hN<|⟨k,by omega,x0,((x3.set ((wrap64 ((x3.length:Int) - 1)):Int).toNat (⟨(rd_T158 x3 (wrap64 ((x3.length:Int) - 1))).f0,wrap64 (((rd_T158 x3 (wrap64 ((x3.length:Int) - 1))).f1)+1)⟩:S158))++[(⟨x5,0⟩:S158)]),mx x4 (((x3.set ((wrap64 ((x3.length:Int) - 1)):Int).toNat (⟨(rd_T158 x3 (wrap64 ((x3.length:Int) - 1))).f0,wrap64 (((rd_T158 x3 (wrap64 ((x3.length:Int) - 1))).f1)+1)⟩:S158))++[(⟨x5,0⟩:S158)]).length:Int),x18,x19,wrap64 (x20+1),by omega,Wk.ofB hL 0 [(0,0),(3,0),(4,0),(18,0),(19,0),(20,0)] (by kernel_rfl) (by kernel_rfl) (by kernel_rfl),H⟩
def tree_Right.f (k:Nat) (l0:List S55):Option (Bool):=(tree_depth.f k l0).bind fun t258=>(some (decide (t258 > 0)))
theorem tree_Right.con {k:Nat} {l0:List S55} {r:(Bool)} (H:tree_Right.f k l0=some r):Con Tryz.prog 34 [.row none 5 (List.map (v55 0) l0)] (B r):=by
 refine Cg Tryz.func34 rfl fun C hN hL=>?_
 unfold tree_Right.f at H
 refine Sw<|Rg hN<|Sw ?_
 obtain ⟨t258,h259,H⟩:=bindS H
 refine Rh hN [I t258] (.c1 (tree_depth.con h259).c) ?_
 cases H
 exact Rt dR
def head_Head_may.f (a0_0:Int) (a0_1:Int) (a0_2:Bool) (a0_3:Int):Option (Bool):=if (mn (mn a0_0 a0_1) a0_3)≥0 then (if a0_0≤3 then (if a0_1≤2097151 then (some (decide (a0_3≤65535))) else (some false)) else (some false)) else (some false)
theorem head_Head_may.con {a0_0:Int} {a0_1:Int} {a0_2:Bool} {a0_3:Int} {r:(Bool)} (H:head_Head_may.f a0_0 a0_1 a0_2 a0_3=some r):Con Tryz.prog 71 [.agg [I a0_0,I a0_1,B a0_2,I a0_3]] (B r):=by
 refine Cg Tryz.func71 rfl fun C hN hL=>?_
 unfold head_Head_may.f at H
 refine Sw<|Rg hN<|Sw ?_
 rcases (ifC H).symm with ⟨c260,H⟩ | ⟨c260,H⟩
 ·refine Rh hN [B false,B false,B false] (.c3 (df c260) (rfl:false=false) (rfl:false=false)) ?_
  cases H
  exact Rt dR
 rcases (ifC H).symm with ⟨c261,H⟩ | ⟨c261,H⟩
 ·refine Rh hN [B true,B false,B false] (.c3 (dt c260) (df c261) (rfl:false=false)) ?_
  cases H
  exact Rt dR
 rcases ifC H with ⟨c262,H⟩ | ⟨c262,H⟩
 ·refine Rh hN [B true,B true,B true] (.c3 (dt c260) (dt c261) (dt c262)) ?_
  cases H
  exact Rt dR
 refine Rh hN [B true,B true,B false] (.c3 (dt c260) (dt c261) (df c262)) ?_
 cases H
 exact Rt dR
def head_Encode.j2:Nat→List Int→Int→Option (ByteArray × Int)
 | 0,_,_=>none
 | k+1,x4,x1003=>if x1003 < 128 then (if x4.length < 140737488355328 then (some (strOfNums (x4++[(x1003) % 256]),0)) else (none)) else (if x1003 < 256 then (if x4.length+2 < 140737488355328 then (some (strOfNums (x4++[129,(x1003) % 256]),0)) else (none)) else (if x4.length+3 < 140737488355328 then (some (strOfNums (x4++[130,(x1003 / 256) % 256,(x1003) % 256]),0)) else (none)))
def head_Encode.l0:Nat→List Int→Int→Int→Int→Option (ByteArray × Int)
 | 0,_,_,_,_=>none
 | k+1,x4,x6,x1001,x1003=>if x6≥0 then (if 0≤x6 then (if (shr .i64 x1001 x6)=0 then (head_Encode.l0 k x4 (wrap64 (x6 - 7)) x1001 x1003) else (if x4.length < 140737488355328 then (head_Encode.l0 k (x4++[(Go.bits .or .i64 (Go.bits .and .i64 (shr .i64 x1001 x6) 127) 128) % 256]) (wrap64 (x6 - 7)) x1001 x1003) else (none))) else (none)) else (if 0≤(wrap64 ((x4.length:Int) - 1)) then (if (wrap64 ((x4.length:Int) - 1)) < (x4.length:Int) then (head_Encode.j2 k (x4.set ((wrap64 ((x4.length:Int) - 1)):Int).toNat (Go.bits .and .u8 (rd x4 (wrap64 ((x4.length:Int) - 1))) 127)) x1003) else (none)) else (none))
def head_Encode.j0:Nat→List Int→Int→Int→Int→Option (ByteArray × Int)
 | 0,_,_,_,_=>none
 | k+1,x4,x5,x1001,x1003=>if x1001 < 31 then (if x4.length < 140737488355328 then (head_Encode.j2 k (x4++[Go.bits .or .u8 x5 ((x1001) % 256)]) x1003) else (none)) else (if x4.length < 140737488355328 then (head_Encode.l0 k (x4++[Go.bits .or .u8 x5 31]) 14 x1001 x1003) else (none))
def head_Encode.f (k:Nat) (a0_0:Int) (a0_1:Int) (a0_2:Bool) (a0_3:Int):Option (ByteArray × Int):=(head_Head_may.f a0_0 a0_1 a0_2 a0_3).bind fun t263=>(if t263=true then (if a0_2=true then (head_Encode.j0 k (List.replicate 0 0) (Go.bits .or .u8 ((wrap64 (a0_0*64)) % 256) 32) a0_1 a0_3) else (head_Encode.j0 k (List.replicate 0 0) ((wrap64 (a0_0*64)) % 256) a0_1 a0_3)) else (some ((⟨#[]⟩:ByteArray),1)))
theorem head_Encode.con {k:Nat} {a0_0:Int} {a0_1:Int} {a0_2:Bool} {a0_3:Int} {r:(ByteArray × Int)} (H:head_Encode.f k a0_0 a0_1 a0_2 a0_3=some r):Con Tryz.prog 36 [.agg [I a0_0,I a0_1,B a0_2,I a0_3]] (.tup [S r.1,I r.2]):=by
 refine Cg Tryz.func36 rfl fun C hN hL=>?_
 unfold head_Encode.f at H
 refine Sw<|Rg hN<|Sw<|Sw ?_
 obtain ⟨t263,h264,H⟩:=bindS H
 refine Rh hN [B t263] (.c1 (head_Head_may.con h264).c) ?_
 rcases (ifC H).symm with ⟨c265,H⟩ | ⟨c265,H⟩
 ·refine Ct (notT (bf c265))<|Sw<|Rg hN ?_
  cases H
  exact Rt dR
 refine Cf (notF c265)<|Sk<|Sw<|Rh hN [.row (some 5) 1 (List.map (K .u8) (List.replicate 0 0))] (.c4 (show (0:Int)≤0 by decide) (show (0:Int)≤7 by decide) (show (7:Int)≤281474976710656 by decide) (repM0 (K .u8) 0 0))<|Sw<|Rh hN [] (.c1 (show (0:Int)≤6 by decide))<|Sw<|Sw<|Rg hN<|Good.cut (fun st=>∃ n':Nat,n'≤k∧∃ (x4:List Int) (x5:Int) (x1000:Int) (x1001:Int) (x1002:Bool) (x1003:Int),Wk C st ⟨[(1,.d (.ptr 0 0)),(4,.w (.row (some 5) 1 (List.map (K .u8) x4))),(5,.w (K .u8 x5))],[.cells [.v (I x1000),.v (I x1001),.v (B x1002),.v (I x1003)]]⟩∧head_Encode.j0 n' x4 x5 x1001 x1003=some r) ?_ ?_
 ·rcases ifC H with ⟨c266,H⟩ | ⟨c266,H⟩
  ·exact Ct c266<|Rg hN<|⟨k,by omega,List.replicate 0 0,Go.bits .or .u8 ((wrap64 (a0_0*64)) % 256) 32,a0_0,a0_1,a0_2,a0_3,Wo [(1,0),(4,0),(5,0)],H⟩
  exact Cf (bf c266)<|Sk<|⟨k,by omega,List.replicate 0 0,(wrap64 (a0_0*64)) % 256,a0_0,a0_1,a0_2,a0_3,Wo [(1,0),(4,0),(5,0)],H⟩
 clear H
 rintro st ⟨n',hn',x4,x5,x1000,x1001,x1002,x1003,W,H⟩
 rcases n' with _ | k
 ·cases H
 refine W.good ?_
 rw [head_Encode.j0] at H
 refine Sw<|Good.cut (fun st=>∃ n':Nat,n'≤k∧∃ (x4:List Int) (x1000:Int) (x1001:Int) (x1002:Bool) (x1003:Int),Wk C st ⟨[(1,.d (.ptr 0 0)),(4,.w (.row (some 5) 1 (List.map (K .u8) x4)))],[.cells [.v (I x1000),.v (I x1001),.v (B x1002),.v (I x1003)]]⟩∧head_Encode.j2 n' x4 x1003=some r) ?_ ?_
 ·refine Bl<|Sw<|Rg hN ?_
  rcases ifC H with ⟨c267,H⟩ | ⟨c267,H⟩
  ·refine Ct (dt c267) ?_
   obtain ⟨c268,H⟩:=ifS H
   exact Rh hN [.kb true,.row (some 5) 1 (List.map (K .u8) (x4++[Go.bits .or .u8 x5 ((x1001) % 256)]))] (.c2 (fitM (K .u8) x4 [Go.bits .or .u8 x5 ((x1001) % 256)] (.refl _)) (limM1 (K .u8) c268))<|⟨k,by omega,(x4++[Go.bits .or .u8 x5 ((x1001) % 256)]),x1000,x1001,x1002,x1003,Wo [(1,0),(4,0)],H⟩
  refine Cf (df c267)<|Sw ?_
  obtain ⟨c270,H⟩:=ifS H
  refine Rh hN [.kb true,.row (some 5) 1 (List.map (K .u8) (x4++[Go.bits .or .u8 x5 31]))] (.c2 (fitM (K .u8) x4 [Go.bits .or .u8 x5 31] (.refl _)) (limM1 (K .u8) c270))<|Sw<|Sw<|Rg hN<|Bl<|Good.loopN (fun k' st=>∃ (x4:List Int) (x6:Int) (x1000:Int) (x1001:Int) (x1002:Bool) (x1003:Int),k'≤k∧Wk C st ⟨[(1,.d (.ptr 0 0)),(4,.w (.row (some 5) 1 (List.map (K .u8) x4))),(6,.w (I x6))],[.cells [.v (I x1000),.v (I x1001),.v (B x1002),.v (I x1003)]]⟩∧head_Encode.l0 k' x4 x6 x1001 x1003=some r) k ⟨(x4++[Go.bits .or .u8 x5 31]),14,x1000,x1001,x1002,x1003,Nat.le_refl _,Wo [(1,0),(4,0),(6,0)],H⟩ fun k=>⟨fun st h=>(by obtain ⟨_,_,_,_,_,_,_,_,H⟩:=h;cases H),?_⟩
  clear H
  rintro st ⟨x4,x6,x1000,x1001,x1002,x1003,hk,W,H⟩
  refine W.good ?_
  rw [head_Encode.l0] at H
  refine Sw<|Sw<|Rg hN ?_
  rcases (ifC H).symm with ⟨c272,H⟩ | ⟨c272,H⟩
  ·refine Cf (df c272)<|Ex ?_
   obtain ⟨c277,H⟩:=ifS H
   obtain ⟨c278,H⟩:=ifS H
   exact Rh hN [I (x4.length:Int),(K .u8) (rd x4 (wrap64 ((x4.length:Int) - 1))),(K .u8) (rd x4 (wrap64 ((x4.length:Int) - 1))),(K .u8) (Go.bits .and .u8 (rd x4 (wrap64 ((x4.length:Int) - 1))) 127),.row (some 5) 1 (List.map (K .u8) (x4.set ((wrap64 ((x4.length:Int) - 1)):Int).toNat (Go.bits .and .u8 (rd x4 (wrap64 ((x4.length:Int) - 1))) 127)))] (.cons (lenM (K .u8) x4) (.c8 c277 (ltM (K .u8) c278) (atM (K .u8) (0:Int) c277 c278) c277 (ltM (K .u8) c278) (atM (K .u8) (0:Int) c277 c278) (Fit.refl ((K .u8) (Go.bits .and .u8 (rd x4 (wrap64 ((x4.length:Int) - 1))) 127))) (setM (K .u8) (l:=x4) (n:=((wrap64 ((x4.length:Int) - 1)):Int).toNat) (x:=Go.bits .and .u8 (rd x4 (wrap64 ((x4.length:Int) - 1))) 127))))<|⟨k,by omega,(x4.set ((wrap64 ((x4.length:Int) - 1)):Int).toNat (Go.bits .and .u8 (rd x4 (wrap64 ((x4.length:Int) - 1))) 127)),x1000,x1001,x1002,x1003,Wo [(1,0),(4,0)],H⟩
  refine Ct (dt c272)<|Sk<|Sw<|Bl<|Sw ?_
  obtain ⟨c273,H⟩:=ifS H
  refine Rh hN [] (.c1 c273)<|Sw<|Sw<|Rg hN ?_
  rcases ifC H with ⟨c274,H⟩ | ⟨c274,H⟩
  ·exact Ct (bq c274)<|Ex<|Rg hN<|⟨k,by omega,x4,wrap64 (x6 - 7),x1000,x1001,x1002,x1003,by omega,Wo [(1,0),(4,0),(6,0)],H⟩
  refine Cf (bn c274)<|Sk ?_
  obtain ⟨c275,H⟩:=ifS H
  exact Rh hN [.kb true,.row (some 5) 1 (List.map (K .u8) (x4++[(Go.bits .or .i64 (Go.bits .and .i64 (shr .i64 x1001 x6) 127) 128) % 256]))] (.c2 (fitM (K .u8) x4 [(Go.bits .or .i64 (Go.bits .and .i64 (shr .i64 x1001 x6) 127) 128) % 256] (.refl _)) (limM1 (K .u8) c275))<|Rg hN<|⟨k,by omega,(x4++[(Go.bits .or .i64 (Go.bits .and .i64 (shr .i64 x1001 x6) 127) 128) % 256]),wrap64 (x6 - 7),x1000,x1001,x1002,x1003,by omega,Wo [(1,0),(4,0),(6,0)],H⟩
 clear H
 rintro st ⟨n',hn',x4,x1000,x1001,x1002,x1003,W,H⟩
 rcases n' with _ | k
 ·cases H
 refine W.good ?_
 rw [head_Encode.j2] at H
 refine Sw<|Bl<|Sw<|Rg hN ?_
 rcases ifC H with ⟨c280,H⟩ | ⟨c280,H⟩
 ·refine Ct (dt c280) ?_
  obtain ⟨c281,H⟩:=ifS H
  refine Rh hN [.kb true,.row (some 5) 1 (List.map (K .u8) (x4++[(x1003) % 256]))] (.c2 (fitM (K .u8) x4 [(x1003) % 256] (.refl _)) (limM1 (K .u8) c281))<|Sw<|Rh hN [S (strOfNums (x4++[(x1003) % 256]))] (.c1 (strN (x4++[(x1003) % 256]))) ?_
  cases H
  exact Rt dR
 refine Cf (df c280)<|Sw<|Rg hN ?_
 rcases ifC H with ⟨c283,H⟩ | ⟨c283,H⟩
 ·refine Ct (dt c283) ?_
  obtain ⟨c284,H⟩:=ifS H
  refine Rh hN [.kb true,.row (some 5) 1 (List.map (K .u8) (x4++[129,(x1003) % 256]))] (.c2 (fitM (K .u8) x4 [129,(x1003) % 256] (.refl _)) (limMn (K .u8) c284))<|Sw<|Rh hN [S (strOfNums (x4++[129,(x1003) % 256]))] (.c1 (strN (x4++[129,(x1003) % 256]))) ?_
  cases H
  exact Rt dR
 refine Cf (df c283) ?_
 obtain ⟨c286,H⟩:=ifS H
 refine Rh hN [.kb true,.row (some 5) 1 (List.map (K .u8) (x4++[130,(x1003 / 256) % 256,(x1003) % 256]))] (.c3 (show (0:Int)≤8 by decide) (fitM (K .u8) x4 [130,(x1003 / 256) % 256,(x1003) % 256] (.refl _)) (limMn (K .u8) c286))<|Sw<|Rh hN [S (strOfNums (x4++[130,(x1003 / 256) % 256,(x1003) % 256]))] (.c1 (strN (x4++[130,(x1003 / 256) % 256,(x1003) % 256]))) ?_
 cases H
 exact Rt dR
def head_Size.f (k:Nat) (a0_0:Int) (a0_1:Int) (a0_2:Bool) (a0_3:Int):Option (Int):=(head_Encode.f k a0_0 a0_1 a0_2 a0_3).bind fun t288=>(some (t288.1.size:Int))
theorem head_Size.con {k:Nat} {a0_0:Int} {a0_1:Int} {a0_2:Bool} {a0_3:Int} {r:(Int)} (H:head_Size.f k a0_0 a0_1 a0_2 a0_3=some r):Con Tryz.prog 70 [.agg [I a0_0,I a0_1,B a0_2,I a0_3]] (I r):=by
 refine Cg Tryz.func70 rfl fun C hN hL=>?_
 unfold head_Size.f at H
 refine Sw<|Rg hN<|Sw ?_
 obtain ⟨t288,h289,H⟩:=bindS H
 refine Rh hN [.tup [S t288.1,I t288.2]] (.c1 (head_Encode.con h289).c)<|Sw<|Rg hN ?_
 cases H
 exact Rt dR
mutual
def tree_sizes.l0:Nat→List S55→List (Nat × Nat)→Int→Option (List (Nat × Nat) × Bool)
 | 0,_,_,_=>none
 | k+1,x0,x4,x5=>if x5≥0 then (if 0≤x5 then (if x5 < (x0.length:Int) then (tree_sizes.l1 k x0 x4 x5 (((rd_T55 x0 x5).f3).size:Int) ((rd_T55 x0 x5).f4) (((rd_T55 x0 x5).f4).length:Int) 0) else (none)) else (none)) else (some (x4,true))
def tree_sizes.l1:Nat→List S55→List (Nat × Nat)→Int→Int→List Int→Int→Int→Option (List (Nat × Nat) × Bool)
 | 0,_,_,_,_,_,_,_=>none
 | k+1,x0,x4,x5,x6,x30,x31,x32=>if x32 < x31 then (if 0≤x32 then (if x32 < (x30.length:Int) then (if 0≤(rd x30 x32) then (if (rd x30 x32) < (x4.length:Int) then (if fok ((rdOf ((0,0):Nat × Nat) x4 (rd x30 x32)).1) ((rdOf ((0,0):Nat × Nat) x4 (rd x30 x32)).2)=true then (if fiok (fadd ((rdOf ((0,0):Nat × Nat) x4 (rd x30 x32)).1) ((rdOf ((0,0):Nat × Nat) x4 (rd x30 x32)).2))=true then (tree_sizes.l1 k x0 x4 x5 (wrap64 (x6+(fint (fadd ((rdOf ((0,0):Nat × Nat) x4 (rd x30 x32)).1) ((rdOf ((0,0):Nat × Nat) x4 (rd x30 x32)).2))))) x30 x31 (wrap64 (x32+1))) else (none)) else (none)) else (none)) else (none)) else (none)) else (none)) else (if 0≤x5 then (if x5 < (x0.length:Int) then ((head_Size.f k ((rd_T55 x0 x5).f0) ((rd_T55 x0 x5).f1) ((rd_T55 x0 x5).f2) x6).bind fun t304=>(if t304=0 then (some (([]:List (Nat × Nat)),false)) else (if (wrap64 (t304+x6)) > 65535 then (some (([]:List (Nat × Nat)),false)) else (if x5 < (x4.length:Int) then (tree_sizes.l0 k x0 (x4.set (x5:Int).toNat (floatOfInt .f64 t304,floatOfInt .f64 x6)) (wrap64 (x5 - 1))) else (none))))) else (none)) else (none))
end
def tree_sizes.f (k:Nat) (l0:List S55):Option (List (Nat × Nat) × Bool):=if 0≤(l0.length:Int) then (if ((l0.length:Int):Int).toNat≤17592186044416 then (tree_sizes.l0 k l0 (List.replicate ((l0.length:Int):Int).toNat ((0,0):Nat × Nat)) (wrap64 ((l0.length:Int) - 1))) else (none)) else (none)
theorem tree_sizes.con {k:Nat} {l0:List S55} {r:(List (Nat × Nat) × Bool)} (H:tree_sizes.f k l0=some r):Con Tryz.prog 35 [.row none 5 (List.map (v55 0) l0)] (.tup [.row (some 67) 1 (List.map Cx r.1),B r.2]):=by
 refine Cg Tryz.func35 rfl fun C hN hL=>?_
 unfold tree_sizes.f at H
 refine Sw<|Rg hN<|Sw ?_
 obtain ⟨c290,H⟩:=ifS H
 obtain ⟨c291,H⟩:=ifS H
 refine Rh hN [I (l0.length:Int),.row (some 67) 1 (List.map Cx (List.replicate ((l0.length:Int):Int).toNat ((0,0):Nat × Nat)))] (.c5 (lenM (v55 0) l0) c290 (Int.le_refl (l0.length:Int)) (natLe c291) (repM0 Cx (((l0.length:Int):Int).toNat) ((0,0):Nat × Nat)))<|Sw<|Sw<|Rh hN [I (l0.length:Int)] (.c1 (lenM (v55 0) l0))<|Bl<|Good.loopN (fun k' st=>∃ (x0:List S55) (x4:List (Nat × Nat)) (x5:Int),k'≤k∧Wk C st ⟨[(0,.w (.row none 5 (List.map (v55 0) x0))),(4,.w (.row (some 67) 1 (List.map Cx x4))),(5,.w (I x5))],[]⟩∧tree_sizes.l0 k' x0 x4 x5=some r) k ⟨l0,List.replicate ((l0.length:Int):Int).toNat ((0,0):Nat × Nat),wrap64 ((l0.length:Int) - 1),Nat.le_refl _,Wo [(0,0),(4,0),(5,0)],H⟩ fun k=>⟨fun st h=>(by obtain ⟨_,_,_,_,_,H⟩:=h;cases H),?_⟩
 clear H
 rintro st ⟨x0,x4,x5,hk,W,H⟩
 refine W.good ?_
 rw [tree_sizes.l0] at H
 refine Sw<|Sw<|Rg hN ?_
 rcases (ifC H).symm with ⟨c292,H⟩ | ⟨c292,H⟩
 ·refine Cf (df c292)<|Ex<|Sw<|Rg hN ?_
  cases H
  exact Rt dR
 refine Ct (dt c292)<|Sk<|Sw<|Bl<|Sw ?_
 obtain ⟨c293,H⟩:=ifS H
 obtain ⟨c294,H⟩:=ifS H
 refine Rh hN [(v55 0) (rd_T55 x0 x5)] (.c2 c293 (atM (v55 0) z55 c293 c294))<|Sw<|Sw<|Rh hN [(v55 0) (rd_T55 x0 x5),I (((rd_T55 x0 x5).f4).length:Int)] (.c3 c293 (atM (v55 0) z55 c293 c294) (lenM I ((rd_T55 x0 x5).f4)))<|Bl<|Good.loopN (fun k' st=>∃ (x0:List S55) (x4:List (Nat × Nat)) (x5:Int) (x6:Int) (x30:List Int) (x31:Int) (x32:Int),k'≤k∧Wk C st ⟨[(0,.w (.row none 5 (List.map (v55 0) x0))),(4,.w (.row (some 67) 1 (List.map Cx x4))),(5,.w (I x5)),(6,.w (I x6)),(30,.w (.row none 1 (List.map I x30))),(31,.w (I x31)),(32,.w (I x32))],[]⟩∧tree_sizes.l1 k' x0 x4 x5 x6 x30 x31 x32=some r) k ⟨x0,x4,x5,(((rd_T55 x0 x5).f3).size:Int),(rd_T55 x0 x5).f4,(((rd_T55 x0 x5).f4).length:Int),0,Nat.le_refl _,Wo [(0,0),(4,0),(5,0),(6,0),(30,0),(31,0),(32,0)],H⟩ fun k=>⟨fun st h=>(by obtain ⟨_,_,_,_,_,_,_,_,_,H⟩:=h;cases H),?_⟩
 clear H
 rintro st ⟨x0,x4,x5,x6,x30,x31,x32,hk,W,H⟩
 refine W.good ?_
 rw [tree_sizes.l1] at H
 refine Sw<|Rg hN<|Sw ?_
 rcases ifC H with ⟨c295,H⟩ | ⟨c295,H⟩
 ·refine Ct (dt c295)<|Sk<|Sw<|Bl<|Sw ?_
  obtain ⟨c296,H⟩:=ifS H
  obtain ⟨c297,H⟩:=ifS H
  refine Rh hN [I (rd x30 x32)] (.c2 c296 (atM I (0:Int) c296 c297)) ?_
  obtain ⟨c298,H⟩:=ifS H
  obtain ⟨c299,H⟩:=ifS H
  obtain ⟨c300,H⟩:=ifS H
  obtain ⟨c301,H⟩:=ifS H
  exact Rd hm hN (.qs 14 0 (.q 14 [] .z)) [(4,some (.row none 1 (List.map Cx x4))),(6,none),(8,none)] (.c1 (shrM (some 67) 1 Cx Cx x4 (fun _=>rfl))) [Cx (rdOf ((0,0):Nat × Nat) x4 (rd x30 x32)),Cx (rdOf ((0,0):Nat × Nat) x4 (rd x30 x32))] [Cx (rdOf ((0,0):Nat × Nat) x4 (rd x30 x32)),Cx (rdOf ((0,0):Nat × Nat) x4 (rd x30 x32))] (.c8 c298 (ltM Cx c299) (atM Cx ((0,0):Nat × Nat) c298 c299) c298 (ltM Cx c299) (atM Cx ((0,0):Nat × Nat) c298 c299) c300 c301) (.c6 c298 (atM Cx ((0,0):Nat × Nat) c298 c299) c298 (atM Cx ((0,0):Nat × Nat) c298 c299) c300 c301) [] []<|Rg hN<|⟨k,by omega,x0,x4,x5,wrap64 (x6+(fint (fadd ((rdOf ((0,0):Nat × Nat) x4 (rd x30 x32)).1) ((rdOf ((0,0):Nat × Nat) x4 (rd x30 x32)).2)))),x30,x31,wrap64 (x32+1),by omega,Wo [(0,0),(4,0),(5,0),(6,0),(30,0),(31,0),(32,0)],H⟩
 refine Cf (df c295)<|Ex<|Sw ?_
 obtain ⟨c302,H⟩:=ifS H
 obtain ⟨c303,H⟩:=ifS H
 obtain ⟨t304,h305,H⟩:=bindS H
 refine Rd hm hN (.qs 17 0 (.e 17 (.q 18 [] .z))) [(0,none),(5,none),(6,none)] .nil [(v55 0) (rd_T55 x0 x5),(v55 0) (rd_T55 x0 x5),(v55 0) (rd_T55 x0 x5),I t304] [(v55 0) (rd_T55 x0 x5),(v55 0) (rd_T55 x0 x5),(v55 0) (rd_T55 x0 x5)] (.c7 c302 (atM (v55 0) z55 c302 c303) c302 (atM (v55 0) z55 c302 c303) c302 (atM (v55 0) z55 c302 c303) (head_Size.con h305).c) (.c6 c302 (atM (v55 0) z55 c302 c303) c302 (atM (v55 0) z55 c302 c303) c302 (atM (v55 0) z55 c302 c303)) [] []<|Sw<|Sw ?_
 rcases ifC H with ⟨c306,H⟩ | ⟨c306,H⟩
 ·refine Rh hN [B true] (.c1 (bq c306))<|Good.cond true (by kernel_rfl)<|Sw<|Rg hN ?_
  cases H
  exact Good.ret (fin_fit (u:=.tup [.nil 67 1,B false]) (.tup (.c2 (.nilO 67 1) (.refl _))) (by kernel_rfl))
 refine Rh hN [B false] (.c1 (bn c306)) ?_
 rcases ifC H with ⟨c307,H⟩ | ⟨c307,H⟩
 ·refine Ct (dt c307)<|Sw<|Rg hN ?_
  cases H
  exact Good.ret (fin_fit (u:=.tup [.nil 67 1,B false]) (.tup (.c2 (.nilO 67 1) (.refl _))) (by kernel_rfl))
 refine Cf (df c307)<|Sk ?_
 obtain ⟨c308,H⟩:=ifS H
 exact Rh hN [Cx (rdOf ((0,0):Nat × Nat) x4 x5),Cx (floatOfInt .f64 t304,floatOfInt .f64 x6),.row (some 67) 1 (List.map Cx (x4.set (x5:Int).toNat (floatOfInt .f64 t304,floatOfInt .f64 x6)))] (.c5 c302 (ltM Cx c308) (atM Cx ((0,0):Nat × Nat) c302 c308) (Fit.refl (Cx (floatOfInt .f64 t304,floatOfInt .f64 x6))) (setM Cx (l:=x4) (n:=(x5:Int).toNat) (x:=(floatOfInt .f64 t304,floatOfInt .f64 x6))))<|Rg hN<|⟨k,by omega,x0,(x4.set (x5:Int).toNat (floatOfInt .f64 t304,floatOfInt .f64 x6)),wrap64 (x5 - 1),by omega,Wo [(0,0),(4,0),(5,0)],H⟩
def tree_Encode.l0:Nat→List (Nat × Nat)→List Int→List S55→Int→Int→Option (ByteArray × Int)
 | 0,_,_,_,_,_=>none
 | k+1,x4,x6,x21,x22,x23=>if x23 < x22 then (if 0≤x23 then (if x23 < (x21.length:Int) then (if x23 < (x4.length:Int) then (if fiok ((rdOf ((0,0):Nat × Nat) x4 x23).2)=true then ((head_Encode.f k ((rd_T55 x21 x23).f0) ((rd_T55 x21 x23).f1) ((rd_T55 x21 x23).f2) (fint ((rdOf ((0,0):Nat × Nat) x4 x23).2))).bind fun t338=>(if x6.length+t338.1.size < 140737488355328 then ((some (x6++bytesOf t338.1:List Int)).bind fun y341=>(if y341.length+((rd_T55 x21 x23).f3).size < 140737488355328 then (tree_Encode.l0 k x4 (y341++bytesOf ((rd_T55 x21 x23).f3)) x21 x22 (wrap64 (x23+1))) else (none))) else (none))) else (none)) else (none)) else (none)) else (none)) else (some (strOfNums x6,0))
def tree_Encode.f (k:Nat) (l0:List S55):Option (ByteArray × Int):=(tree_Right.f k l0).bind fun t327=>(if t327=true then ((tree_sizes.f k l0).bind fun t330=>(if t330.2=true then (tree_Encode.l0 k t330.1 ([]:List Int) l0 (l0.length:Int) 0) else (some ((⟨#[]⟩:ByteArray),4)))) else (some ((⟨#[]⟩:ByteArray),1)))
theorem tree_Encode.con {k:Nat} {l0:List S55} {r:(ByteArray × Int)} (H:tree_Encode.f k l0=some r):Con Tryz.prog 13 [.row none 5 (List.map (v55 0) l0)] (.tup [S r.1,I r.2]):=by
 refine Cg Tryz.func13 rfl fun C hN hL=>?_
 unfold tree_Encode.f at H
 refine Sw<|Rg hN<|Sw<|Sw ?_
 obtain ⟨t327,h328,H⟩:=bindS H
 refine Rh hN [B t327] (.c1 (tree_Right.con h328).c) ?_
 rcases (ifC H).symm with ⟨c329,H⟩ | ⟨c329,H⟩
 ·refine Ct (notT (bf c329))<|Sw<|Rg hN ?_
  cases H
  exact Rt dR
 refine Cf (notF c329)<|Sk<|Sw ?_
 obtain ⟨t330,h331,H⟩:=bindS H
 refine Rh hN [.tup [.row (some 67) 1 (List.map Cx t330.1),B t330.2]] (.c1 (tree_sizes.con h331).c)<|Sw<|Sw<|Rg hN ?_
 rcases (ifC H).symm with ⟨c332,H⟩ | ⟨c332,H⟩
 ·refine Ct (notT (bf c332))<|Sw<|Rg hN ?_
  cases H
  exact Rt dR
 refine Cf (notF c332)<|Sk<|Sw<|Rg hN<|Sw<|Sw<|Rh hN [I (l0.length:Int)] (.c1 (lenM (v55 0) l0))<|Bl<|Good.loopN (fun k' st=>∃ (x4:List (Nat × Nat)) (x6:List Int) (x21:List S55) (x22:Int) (x23:Int),k'≤k∧Wk C st ⟨[(4,.w (.row (some 67) 1 (List.map Cx x4))),(6,.w (.row (some 5) 1 (List.map (K .u8) x6))),(21,.w (.row none 5 (List.map (v55 0) x21))),(22,.w (I x22)),(23,.w (I x23))],[]⟩∧tree_Encode.l0 k' x4 x6 x21 x22 x23=some r) k ⟨t330.1,([]:List Int),l0,(l0.length:Int),0,Nat.le_refl _,Wo [(4,0),(6,1),(21,0),(22,0),(23,0)],H⟩ fun k=>⟨fun st h=>(by obtain ⟨_,_,_,_,_,_,_,H⟩:=h;cases H),?_⟩
 clear H
 rintro st ⟨x4,x6,x21,x22,x23,hk,W,H⟩
 refine W.good ?_
 rw [tree_Encode.l0] at H
 refine Sw<|Rg hN<|Sw ?_
 rcases (ifC H).symm with ⟨c333,H⟩ | ⟨c333,H⟩
 ·refine Cf (df c333)<|Ex<|Sw<|Rh hN [S (strOfNums x6)] (.c1 (strN x6)) ?_
  cases H
  exact Rt dR
 refine Ct (dt c333)<|Sk<|Sw<|Bl<|Sw ?_
 obtain ⟨c334,H⟩:=ifS H
 obtain ⟨c335,H⟩:=ifS H
 refine Rh hN [(v55 0) (rd_T55 x21 x23)] (.c2 c334 (atM (v55 0) z55 c334 c335))<|Sw ?_
 obtain ⟨c336,H⟩:=ifS H
 obtain ⟨c337,H⟩:=ifS H
 obtain ⟨t338,h339,H⟩:=bindS H
 refine Rd hm hN (.qs 13 0 (.e 13 (.qs 4 14 (.q 18 [] .z)))) [(4,some (.row none 1 (List.map Cx x4))),(7,none),(8,some (.pt [I ((rd_T55 x21 x23).f0),I ((rd_T55 x21 x23).f1),B ((rd_T55 x21 x23).f2),S ((rd_T55 x21 x23).f3),.row none 1 (List.map I ((rd_T55 x21 x23).f4))]))] (.c2 (shrM (some 67) 1 Cx Cx x4 (fun _=>rfl)) (ptS (shrC (rfl:(V.shr (I ((rd_T55 x21 x23).f0)))=I ((rd_T55 x21 x23).f0)) (shrC (rfl:(V.shr (I ((rd_T55 x21 x23).f1)))=I ((rd_T55 x21 x23).f1)) (shrC (rfl:(V.shr (B ((rd_T55 x21 x23).f2)))=B ((rd_T55 x21 x23).f2)) (shrC (rfl:(V.shr (S ((rd_T55 x21 x23).f3)))=S ((rd_T55 x21 x23).f3)) (shrC (shrM none 1 I I ((rd_T55 x21 x23).f4) (fun _=>rfl)) (rfl:shrL []=[])))))))) [Cx (rdOf ((0,0):Nat × Nat) x4 x23),.tup [S t338.1,I t338.2]] [Cx (rdOf ((0,0):Nat × Nat) x4 x23)] (.c5 c334 (ltM Cx c336) (atM Cx ((0,0):Nat × Nat) c334 c336) c337 (head_Encode.con h339).c) (.c3 c334 (atM Cx ((0,0):Nat × Nat) c334 c336) c337) [] [] ?_
 obtain ⟨c340,H⟩:=ifS H
 replace H:=bindI H
 obtain ⟨c342,H⟩:=ifS H
 exact Rb 2 hm hN hL (.q 0 [[],[2]] (.q 1 [[],[2]] (.i 3 (.b 2 [.kb false,.row (some 5) 1 (List.map (K .u8) (x6++bytesOf t338.1)),.kb false,.row (some 5) 1 (List.map (K .u8) ((x6++bytesOf t338.1)++bytesOf ((rd_T55 x21 x23).f3)))] [] (.e 4 (.e 5 (.e 6 .z))) [.kb false,.row (some 5) 1 (List.map (K .u8) (x6++bytesOf t338.1)),.kb false,.row (some 5) 1 (List.map (K .u8) ((x6++bytesOf t338.1)++bytesOf ((rd_T55 x21 x23).f3)))] [] (.e 4 (.e 2 (.e 5 (.e 6 .z)))))))) [(6,some (.row none 1 (List.map (K .u8) x6))),(8,some (.pt [I ((rd_T55 x21 x23).f0),I ((rd_T55 x21 x23).f1),B ((rd_T55 x21 x23).f2),S ((rd_T55 x21 x23).f3),.row none 1 (List.map I ((rd_T55 x21 x23).f4))])),(9,none)] (.c2 (shrM (some 5) 1 (K .u8) (K .u8) x6 (fun _=>rfl)) (ptS (shrC (rfl:(V.shr (I ((rd_T55 x21 x23).f0)))=I ((rd_T55 x21 x23).f0)) (shrC (rfl:(V.shr (I ((rd_T55 x21 x23).f1)))=I ((rd_T55 x21 x23).f1)) (shrC (rfl:(V.shr (B ((rd_T55 x21 x23).f2)))=B ((rd_T55 x21 x23).f2)) (shrC (rfl:(V.shr (S ((rd_T55 x21 x23).f3)))=S ((rd_T55 x21 x23).f3)) (shrC (shrM none 1 I I ((rd_T55 x21 x23).f4) (fun _=>rfl)) (rfl:shrL []=[])))))))) [] [] (.cons (.c4 (fitB x6 t338.1) (limB (K .u8) c340) (fitB (x6++bytesOf t338.1) ((rd_T55 x21 x23).f3)) (limB (K .u8) c342)) .nil (.cons (.c4 (fitB x6 t338.1) (limB (K .u8) c340) (fitB (x6++bytesOf t338.1) ((rd_T55 x21 x23).f3)) (limB (K .u8) c342)) .nil .nil)) [] [] [[],[]] [(4,0),(6,0),(21,0),(22,0),(23,0)] [(4,.w (.row (some 67) 1 (List.map Cx x4))),(6,.w (.row (some 5) 1 (List.map (K .u8) ((x6++bytesOf t338.1)++bytesOf ((rd_T55 x21 x23).f3))))),(21,.w (.row none 5 (List.map (v55 0) x21))),(22,.w (I x22)),(23,.w (I x23))] [.cells [.v (I ((rd_T55 x21 x23).f0)),.v (I ((rd_T55 x21 x23).f1)),.v (B ((rd_T55 x21 x23).f2)),.v (S ((rd_T55 x21 x23).f3)),.v (.row none 1 (List.map I ((rd_T55 x21 x23).f4)))]]<|Rg hN<|⟨k,by omega,x4,((x6++bytesOf t338.1)++bytesOf ((rd_T55 x21 x23).f3)),x21,x22,wrap64 (x23+1),by omega,Wk.ofB hL 0 [(4,0),(6,0),(21,0),(22,0),(23,0)] (by kernel_rfl) (by kernel_rfl) (by kernel_rfl),H⟩
def encD:Nat→Int→Int→Option (List Int)
 | 0,_,_=>none
 | k+1,n,m=>if n / 128=0 then some [Go.bits .or .u8 ((Go.bits .and .i64 n 127) % 256) m] else (encD k (n / 128) 128).bind fun r=>some (Go.bits .or .u8 ((Go.bits .and .i64 n 127) % 256) m :: r)
def encA (k:Nat):List Int→Option (List Int)
 | []=>some []
 | x :: xs=>(encD k x 0).bind fun d=>if d.length≤10 then (encA k xs).bind fun r=>some (d++r) else none
def encNums (l0:List Int):List Int:=[wrap64 ((wrap64 (40*(rd l0 0)))+(rd l0 1))]++l0.drop 2
def oid_Encode.f (k:Nat) (l0:List Int):Option (ByteArray × Bool):=(oid_Right.f k l0).bind fun t108=>if t108=true then (if 2≤l0.length∧l0.length≤1000 then (encA k (encNums l0).reverse).bind fun bs=>some (strOfNums bs.reverse,true) else none) else some ((⟨#[]⟩:ByteArray),false)
section
open Go.Shelf
attribute [local go_sem] Oper.semAt_some
set_option linter.unusedSimpArgs false
theorem bw64 {x:Int} (h0 : -9223372036854775808≤x) (h1:x≤9223372036854775807):wrap64 x=x:=by unfold wrap64;omega
def bwK (n₀ Bs:Nat) (sv:Value) (W W':World):Prop:=Below n₀ W W'∧(Boxed W Bs 41 sv→Boxed W' Bs 41 sv)
def bw_upto {α:Type} (f:Nat→α) (k:Nat):List α:=(List.range k).map f
theorem bw_upto_succ {α:Type} (f:Nat→α) (k:Nat):bw_upto f (k+1)=bw_upto f k++[f k]:=by simp [bw_upto,List.range_succ]
theorem bw_upto_length {α:Type} (f:Nat→α) (k:Nat):(bw_upto f k).length=k:=by simp [bw_upto]
set_option maxRecDepth 100000 in
set_option maxHeartbeats 2000000 in
theorem backward1_in {α:Type} (encs:α→Array Value) (al:Nat→α) (F:Fence) (n:Nat) (h8:F.fn 111) (hro:F.round=none) (hn:1≤n) (l Bs n₀ b off len cap:Nat) (zs:List Int) (hreach:len*8≤140737488351232) (hb:b < n₀) (J Jx:List α→World→Prop)
 (henc:∀ j,j < len→encs (al j) = #[.int .i64 ((len:Int) - 1 - (j:Int)),.int .i64 (zs[len - 1 - j]?.getD 0)])
 (hY:∀ pre x W,J pre W→pre.length < len→YieldAt F (n - 1) Tryz.prog l (encs x) W fun e W' =>
  (e=.returned (.bool true)∧J (pre++[x]) W'∧bwK n₀ Bs (.slice (some ⟨b,off,none⟩) len cap) W W')∨(e=.returned (.bool false)∧Jx (pre++[x]) W'))
 (W:World) (hBs:Boxed W Bs 41 (.slice (some ⟨b,off,none⟩) len cap)) (hc:∀ j,j < len→W.cell? ⟨b,off+j,none⟩=some (.int .i64 (zs[j]?.getD 0))) (h0:J [] W) :
 CallsIn F n Tryz.prog 111 #[.func (.yield l) #[] #[],.pointer (some ⟨Bs,0,none⟩)] W fun e W'=>(∃ v,e=.returned v) ∧
  ((∃ ys,ys=bw_upto al len∧J ys W')∨(∃ pre,(∃ k,k≤len∧pre=bw_upto al k)∧Jx pre W')):=by
 refine callsIn_of_wp Tryz.func111 rfl h8 ?_ hro
 simp only [Tryz.ntmps111,List.size_toArray,List.length_cons,List.length_nil,Nat.reduceAdd,Nat.reduceSub,Array.replicate_succ,Array.replicate_zero,List.push_toArray,List.append_toArray,List.nil_append,List.cons_append]
 have hw0:wrap64 ((len:Int) - 1)=(len:Int) - 1:=bw64 (by omega) (by omega)
 have hB0:=hBs.cell
 gi_wp2
 gi_loopw [3] (fun i wr=>∃ k:Nat,k≤len∧i=.int .i64 ((len:Int) - 1 - (k:Int))∧J (bw_upto al k) wr∧Below n₀ W wr∧Boxed wr Bs 41 (.slice (some ⟨b,off,none⟩) len cap))
  (fun i _=>(RowKit.intOf i+1).toNat)
 case atStart=>exact ⟨0,Nat.zero_le _,by simp [hw0],h0,Below.refl _ _,hBs⟩
 case round =>
  obtain ⟨k,hk,rfl,hJs,hnx,hbb⟩:=hrel
  have hbx:=hbb.cell
  by_cases hlt:k < len
  ·have hcx':wr.cell? ⟨b,off+(len - 1 - k),none⟩=some (.int .i64 (zs[len - 1 - k]?.getD 0)):=(hnx.cell (p:=⟨b,off+(len - 1 - k),none⟩) hb).trans (hc _ (by omega))
   obtain ⟨fn,tmps,assign,body,hy,hR⟩:=hY _ (al k) wr hJs (by rw [bw_upto_length];exact hlt)
   rw [henc k hlt] at hy
   have hge:(0:Int)≤(len:Int) - 1 - (k:Int):=by omega
   have hl:(len:Int) - 1 - (k:Int) < (len:Int):=by omega
   have ht:((len:Int) - 1 - (k:Int)).toNat=len - 1 - k:=by omega
   have hw1:wrap64 ((len:Int) - 1 - (k:Int) - 1)=(len:Int) - 1 - ((k+1:Nat):Int):=by rw [bw64 (by omega) (by omega)];omega
   gi_wp2
   refine hR.mono ?_
   rintro e W3 (⟨rfl,hJ3,hk3⟩ | ⟨rfl,hJx3⟩)
   ·gi_wp2
    go_roundw
    case rel=>exact ⟨k+1,by omega,congrArg (Value.int .i64) (by omega),by rw [bw_upto_succ];exact hJ3,hnx.trans hk3.1,hk3.2 hbb⟩
    case measure=>simp [RowKit.intOf];omega
   ·gi_wp2
    refine bodyPost_ret (results_none rfl _ _ _) rfl ?_
    exact ⟨⟨_,rfl⟩,.inr ⟨_,⟨k+1,by omega,(bw_upto_succ _ _).symm⟩,hJx3⟩⟩
  ·obtain rfl:k=len:=by omega
   have hge:¬ (0:Int)≤(k:Int) - 1 - (k:Int):=by omega
   gi_wp2
   go_end0
   first | exact ⟨⟨_,rfl⟩,.inl ⟨_,rfl,hJs⟩⟩ | exact ⟨⟨_,rfl⟩,.inl hJs⟩
theorem bwK_t {n₀ Bs:Nat} {sv:Value} {A B C:World} (h:bwK n₀ Bs sv A B) (k:bwK n₀ Bs sv B C):bwK n₀ Bs sv A C:=⟨h.1.trans k.1,fun x=>k.2 (h.2 x)⟩
theorem bwK_b {n₀ Bs:Nat} {sv:Value} {w:World} (hn:n₀≤w.heap.size) (W:World) (l:Nat) (o o':Obj) (hl:w.heap.size≤l) (h:W.heap[l]? = some o) (h1:o.isCells=false) (h2:o.isWalk=false):bwK n₀ Bs sv W (W.putObj l o') :=
 ⟨belowK_b hn W l o o' hl h h1 h2,fun x=>x.kept (grownBy_putObj' W l o') (fun e=>by
  cases e
  rw [show W.heap[Bs]? = _ from x] at h
  cases h
  cases h1)⟩
theorem backward_stops {α:Type} (encs:α→Array Value) (al:Nat→α) (F:Fence) (n:Nat) (h8:F.fn 111) (hro:F.round=none) (hn:1≤n) (Bs n₀ b off len cap:Nat) (zs:List Int) (hreach:len*8≤140737488351232) (hb:b < n₀)
 (henc:∀ j,j < len→encs (al j) = #[.int .i64 ((len:Int) - 1 - (j:Int)),.int .i64 (zs[len - 1 - j]?.getD 0)]) (w:World) (hn₀:n₀≤w.heap.size)
 (hBs:Boxed w Bs 41 (.slice (some ⟨b,off,none⟩) len cap)) (hc:∀ j,j < len→w.cell? ⟨b,off+j,none⟩=some (.int .i64 (zs[j]?.getD 0))) :
 SeqStopsK F n Tryz.prog 111 #[.pointer (some ⟨Bs,0,none⟩)] encs (bwK n₀ Bs (.slice (some ⟨b,off,none⟩) len cap)) (fun ys=>ys=bw_upto al len) (fun _=>True) len w:=fun l J Jx W hW _ _ hY h0=>by
 refine (backward1_in encs al F n h8 hro hn l Bs n₀ b off len cap zs hreach hb J Jx henc hY W ((hW.block Bs hBs.lt).trans hBs) (fun j hj=>((hW.mono hn₀).cell (p:=⟨b,off+j,none⟩) hb).trans (hc j hj)) h0).mono ?_
 rintro e W' ⟨he,⟨ys,rfl,hj⟩ | ⟨pre,_,hj⟩⟩
 ·exact ⟨he,.inl ⟨_,rfl,hj⟩⟩
 ·exact ⟨he,.inr ⟨_,trivial,hj⟩⟩
theorem backward_calls (a:Option Addr) (len cap:Nat) (w:World) :
 Calls Tryz.prog 72 #[.slice a len cap] w fun e w'=>e=.returned (.func (.func 111) #[] #[.pointer (some ⟨w.heap.size,0,none⟩)])∧w'=w.alloc (.cells #[.slice a len cap] 41):=by
 go_enter Tryz.func72,Tryz.ntmps72
 go_wp2
 go_ret
 exact ⟨rfl,rfl⟩
theorem encA_mem {k:Nat}:∀ {xs bs:List Int},encA k xs=some bs→∀ x∈xs,∃ d,encD k x 0=some d∧d.length≤10
 | [],_,_,x,hx=>by cases hx
 | y :: ys,bs,h,x,hx=>by
  rw [encA] at h
  obtain ⟨d,h1,h⟩:=Option.bind_eq_some_iff.1 h
  by_cases h2:d.length≤10
  ·rw [if_pos h2] at h
   obtain ⟨r,h3,h⟩:=Option.bind_eq_some_iff.1 h
   rcases List.mem_cons.1 hx with rfl | hx
   ·exact ⟨d,h1,h2⟩
   ·exact encA_mem h3 x hx
  ·rw [if_neg h2] at h;cases h
def encF (k:Nat) (xs:List Int):List Int:=xs.flatMap fun x=>(encD k x 0).getD []
abbrev EncX (k:Nat):={ p:Int × Int // ∃ d,encD k p.2 0=some d∧d.length≤10 }
theorem encF_len {k:Nat} (pre:List (EncX k)):(encF k (pre.map fun x=>x.1.2)).length≤10*pre.length:=by
 induction pre with
 | nil=>simp [encF]
 | cons x xs ih =>
  obtain ⟨⟨i,n⟩,d,hd,h10⟩:=x
  have e:encF k (List.map (fun x:EncX k=>x.1.2) (⟨(i,n),d,hd,h10⟩ :: xs))=d++encF k (xs.map fun x=>x.1.2):=by
   simp [encF,hd]
  rw [e,List.length_append,List.length_cons]
  omega
theorem encF_snoc {k:Nat} (pre:List (EncX k)) (x:EncX k) {d:List Int} (hd:encD k x.1.2 0=some d):encF k ((pre++[x]).map fun x=>x.1.2)=encF k (pre.map fun x=>x.1.2)++d:=by
 simp [encF,hd]
theorem encD_pos:∀ {k:Nat} {n m:Int} {d:List Int},encD k n m=some d→0≤n
 | 0,_,_,_,h=>by cases h
 | k+1,n,m,d,h=>by
  rw [encD] at h
  by_cases hs:n / 128=0
  ·omega
  ·rw [if_neg hs] at h
   obtain ⟨r,hr,_⟩:=Option.bind_eq_some_iff.1 h
   have:=encD_pos hr
   omega
theorem encA_eq {k:Nat}:∀ {xs bs:List Int},encA k xs=some bs→bs=encF k xs
 | [],_,h=>by cases h;rfl
 | y :: ys,bs,h=>by
  rw [encA] at h
  obtain ⟨d,h1,h⟩:=Option.bind_eq_some_iff.1 h
  by_cases h2:d.length≤10
  ·rw [if_pos h2] at h
   obtain ⟨r,h3,h⟩:=Option.bind_eq_some_iff.1 h
   cases h
   rw [encA_eq h3]
   simp [encF,h1]
  ·rw [if_neg h2] at h;cases h
theorem encInfo:(Tryz.prog.info? 5).map (fun i=>(i.zero,i.size,i.bytes))=some (some (.int .u8 0),1,1):=by kernel_rfl
theorem encA_ne {k:Nat}:∀ {xs bs:List Int},encA k xs=some bs→0 < xs.length→0 < bs.length
 | [],_,_,h=>by simp at h
 | y :: ys,bs,h,_=>by
  rw [encA] at h
  obtain ⟨d,h1,h⟩:=Option.bind_eq_some_iff.1 h
  by_cases h2:d.length≤10
  ·rw [if_pos h2] at h
   obtain ⟨r,h3,h⟩:=Option.bind_eq_some_iff.1 h
   cases h
   have:0 < d.length:=by
    cases k with
    | zero=>cases h1
    | succ k =>
     rw [encD] at h1
     split at h1
     ·cases h1;simp
     ·obtain ⟨r,_,h1⟩:=Option.bind_eq_some_iff.1 h1
      cases h1;simp
   rw [List.length_append]
   omega
  ·rw [if_neg h2] at h;cases h
theorem oid_Encode.ansR {C:Ctx} {w w':World} {s:ByteArray} {b:Bool} (h:Calm C.W w) (k:Below w.heap.size w w'):Ans C (.tup [S s,B b]) (.returned (.tuple #[.string s,.bool b])) w' :=
 ⟨_,[],fun _=>False,rfl,⟨k.os.trans h.os,k.tape.trans h.tape,k.output.trans h.output,Nat.le_trans h.size k.size,fun b hb=>(k.block b (Nat.lt_of_lt_of_le hb h.size)).trans (h.same b hb)⟩,fun _ h=>h.elim,List.nodup_nil,fun _ h=>(by cases h),.tup (vs:=[.string s,.bool b]) (.cons (A:=[]) (.lit _) (.cons (A:=[]) (.lit _) .nil))⟩
def oid_Encode.ren:Go.Shelf.Ren:=⟨fun | 35=>73 | n=>n,fun | 22=>64 | 23=>5 | 3=>3 | 4=>4 | 0=>0 | n=>n,fun | n=>n⟩
theorem oid_Encode.lays:SlLaysE.n35 Tryz.prog oid_Encode.ren:={
  mixed:=by kernel_rfl
  f35:=⟨Tryz.f73.name,by decide,Tryz.func73.trans (congrArg some (by kernel_rfl))⟩
  t0:=Tryz.underlying0
  a0:=Tryz.isAgg0
  z0:=Tryz.sizeOf0
  v0:=Tryz.zeroValue0
  t3:=Tryz.underlying3
  a3:=Tryz.isAgg3
  z3:=Tryz.sizeOf3
  v3:=Tryz.zeroValue3
  t4:=Tryz.underlying4
  a4:=Tryz.isAgg4
  z4:=Tryz.sizeOf4
  v4:=Tryz.zeroValue4
  t22:=Tryz.underlying64
  a22:=Tryz.isAgg64
  z22:=Tryz.sizeOf64
  v22:=Tryz.zeroValue64
  a23:=Tryz.isAgg5
  z23:=Tryz.sizeOf5 }
theorem oid_Encode.reverse_calls (g1 cap1:Nat) (bs:List Int) (w:World) (hc:∀ j,j < bs.length→w.cell? ⟨g1,j,none⟩=some (.int .u8 (bs[j]?.getD 0))∧w.frozen? ⟨g1,j,none⟩=false) (hl:bs.length≤9223372036854775807) :
 Calls Tryz.prog 73 #[.slice (some ⟨g1,0,none⟩) bs.length cap1] w fun e w'=>e=.returned (.tuple #[])∧(∀ j,j < bs.length→w'.cell? ⟨g1,j,none⟩=some (.int .u8 (bs.reverse[j]?.getD 0)))∧w'.os=w.os∧w'.tape=w.tape∧w'.output=w.output∧w'.heap.size=w.heap.size∧∀ b,b≠g1→w'.heap[b]? = w.heap[b]?:=by
 have hH:Go.Sort.Holds (Value.int .u8) w g1 0 bs.toArray:=fun j hj=>by
  rw [List.size_toArray] at hj
  have:=hc j hj
  rw [Nat.zero_add]
  refine ⟨this.1.trans ?_,this.2⟩
  simp [List.getElem?_eq_getElem hj,getElem!_pos,hj]
 refine (AnyE.slices_Reverse oid_Encode.lays (Value.int .u8) (fun x=>by simp [Value.oneCell']) g1 0 cap1 bs w hH hl).mono ?_
 rintro e w' ⟨rfl,n,rfl⟩
 have hH2:Go.Sort.Holds (Value.int .u8) (Go.Sort.ahead w n) g1 0 bs.toArray:=fun j hj=>hH j hj
 refine ⟨rfl,fun j hj=>?_,rfl,rfl,rfl,?_,fun b hb=>?_⟩
 ·have h1:=(Go.Sort.holds_putRow (Value.int .u8) (Go.Sort.ahead w n) g1 0 bs.toArray bs.reverse.toArray hH2 (by simp) j (by simpa using hj)).1
  rw [Nat.zero_add] at h1
  rw [h1]
  simp [List.getElem?_eq_getElem,getElem!_pos,hj]
 ·simp [Go.Sort.putRow,Go.Sort.mapBlock,Go.Sort.ahead]
 ·simp [Go.Sort.putRow,Go.Sort.mapBlock,Go.Sort.ahead,Array.getElem?_modify,Ne.symm hb]
set_option maxHeartbeats 8000000 in
set_option maxRecDepth 100000 in
theorem oid_Encode.con {k:Nat} {l0:List Int} {r:ByteArray × Bool} (H:oid_Encode.f k l0=some r):Con Tryz.prog 37 [.row none 1 (List.map I l0)] (.tup [S r.1,B r.2]):=by
 refine con_of_man Tryz.func37 rfl (by kernel_rfl) (by kernel_rfl) fun C hN hL hF=>?_
 unfold oid_Encode.f at H
 refine Man.seq<|Rg hN<|Man.seq<|Sw ?_
 obtain ⟨t19,h20,H⟩:=bindS H
 refine Rh hN [B t19] (.c1 (oid_Right.con h20).c) ?_
 rcases (ifC H).symm with ⟨c21,H⟩ | ⟨c21,H⟩
 ·refine Ct (notT (bf c21))<|Sw<|Rg hN ?_
  cases H
  exact Good.ret (Man.fin hF (fin.doneR (by kernel_rfl)))
 refine Cf (notF c21)<|Sk<|Man.seq ?_
 obtain ⟨cL,H⟩:=ifS H
 obtain ⟨bs,hbs,H⟩:=bindS H
 have c22:0 < (l0.length:Int):=by omega
 have c23:1 < (l0.length:Int):=by omega
 have c24:2≤(l0.length:Int):=by omega
 have c25:([wrap64 ((wrap64 (40*(rd l0 0)))+(rd l0 1))]:List Int).length+(l0.drop 2).length < 17592186044416:=by rw [List.length_drop];simp only [List.length_cons,List.length_nil];omega
 refine Rb 2 hm hN hL (.q 0 [[8,7,3,2,1]] (.q 1 [[8,7,3,2]] (.q 2 [[8,7,3]] (.q 3 [[8,7]] (.q 4 [[8,7,6,5]] (.q 5 [[8,7,6]] (.q 6 [[8,7]] (.q 7 [[8]] (.q 9 [[10]] (.b 8 [.row none 1 (List.map I (l0.drop 2)),.kb false,.row (some 3) 1 (List.map I (([wrap64 ((wrap64 (40*(rd l0 0)))+(rd l0 1))]:List Int)++(l0.drop 2)))] [] (.e 10 (.e 11 (.e 12 .z))) [.row none 1 (List.map I (l0.drop 2)),.kb false,.row (some 3) 1 (List.map I (([wrap64 ((wrap64 (40*(rd l0 0)))+(rd l0 1))]:List Int)++(l0.drop 2)))] [] (.e 10 (.e 8 (.e 11 (.e 12 .z)))))))))))))) [(0,none)] .nil [I (rd l0 0),I (rd l0 1)] [I (rd l0 0),I (rd l0 1)] (.cons (.cons (show (0:Int)≤0 by decide) (.c8 (atM I (0:Int) (show (0:Int)≤0 by decide) c22) (show (0:Int)≤1 by decide) (atM I (0:Int) (show (0:Int)≤1 by decide) c23) (show (0:Int)≤2 by decide) (leM I c24) (cutMlo I (l:=l0) (n:=2)) (fitM I ([wrap64 ((wrap64 (40*(rd l0 0)))+(rd l0 1))]:List Int) (l0.drop 2) (.refl _)) (limM2 I I c25))) (.c4 (show (0:Int)≤0 by decide) (atM I (0:Int) (show (0:Int)≤0 by decide) c22) (show (0:Int)≤1 by decide) (atM I (0:Int) (show (0:Int)≤1 by decide) c23)) (.cons (.cons (show (0:Int)≤0 by decide) (.c8 (atM I (0:Int) (show (0:Int)≤0 by decide) c22) (show (0:Int)≤1 by decide) (atM I (0:Int) (show (0:Int)≤1 by decide) c23) (show (0:Int)≤2 by decide) (leM I c24) (cutMlo I (l:=l0) (n:=2)) (fitM I ([wrap64 ((wrap64 (40*(rd l0 0)))+(rd l0 1))]:List Int) (l0.drop 2) (.refl _)) (limM2 I I c25))) (.c4 (show (0:Int)≤0 by decide) (atM I (0:Int) (show (0:Int)≤0 by decide) c22) (show (0:Int)≤1 by decide) (atM I (0:Int) (show (0:Int)≤1 by decide) c23)) .nil)) [] [] [[],[]] [(4,0)] [(4,.w (.row (some 3) 1 (List.map I (([wrap64 ((wrap64 (40*(rd l0 0)))+(rd l0 1))]:List Int)++(l0.drop 2)))))] [] ?_
 obtain ⟨y115,hy⟩:∃ y:List Int,y=([wrap64 ((wrap64 (40*(rd l0 0)))+(rd l0 1))]:List Int)++(l0.drop 2):=⟨_,rfl⟩
 have hy0:y115.length=l0.length - 1:=by rw [hy,List.length_append,List.length_drop];simp only [List.length_cons,List.length_nil];omega
 have A3:Asd (encA k y115.reverse=some bs):=⟨by rw [hy];exact hbs⟩
 rw [← hy]
 cases H
 clear H hbs hy c22 c23 c24 c25 h20 c21
 intro g0 a w13 S
 have HY0:=Asd.mk hy0
 have HL:=Asd.mk cL
 clear hy0 cL
 have e4:=RepD.inv (S.env 4 (.w (.row (some 3) 1 (List.map I y115))) rfl).2.1
 have hrow0:=Rep.own_lits (enc:=Value.int .i64) e4
 rcases hrow0.2 with ⟨_,h0⟩ | ⟨g,cap,cur0,hv4,hg0,hb0,hr0⟩
 ·have:=HY0.out;have:=HL.out;omega
 have HG1:=Asd.mk (show y115.length≤cap from hr0.1)
 have HG2:=Asd.mk (show g < w13.heap.size from (Array.getElem?_eq_some_iff.1 hb0).1)
 have hcell0:Asd (∀ j,j < y115.length→w13.cell? ⟨g,j,none⟩=some (.int .i64 (y115[j]?.getD 0))):=⟨fun j hj=>by
  have h1:=(hv4 ▸ hrow0).cells (g:=g) rfl j (.int .i64 (y115[j]?.getD 0)) (by simp [List.getElem?_eq_getElem hj])
  have ha:(⟨g,0,none⟩:Addr).add j=⟨g,j,none⟩:=by unfold Addr.add;split<;>simp_all
  rwa [ha] at h1⟩
 have HR:Asd (Calm C.W w13):=⟨⟨S.os,S.tape,S.output,S.size,fun b hb=>S.frame b hb (hF b)⟩⟩
 have htm:a.tmps=((List.range 44).map fun i=>a.tmps.getD i undef).toArray:=tm_lits (S.tmps.trans hN)
 have hdf:=S.defers
 obtain ⟨tms,dfs⟩:=a
 replace hdf:dfs=[]:=hdf
 subst hdf
 obtain ⟨f,hf⟩:∃ f:Nat→Value,f=fun i=>tms.getD i undef:=⟨_,rfl⟩
 have hf4:f 4=.slice (some ⟨g,0,none⟩) y115.length cap:=by rw [hf];exact hv4
 replace htm:tms=((List.range 44).map f).toArray:=by rw [hf];exact htm
 rw [htm]
 clear S e4 hrow0 hb0 hr0 hg0 hN hL htm hf hv4 tms
 show Code.wp _ _ _ ⟨#[f 0,f 1,f 2,f 3,f 4,f 5,f 6,f 7,f 8,f 9,f 10,f 11,f 12,f 13,f 14,f 15,f 16,f 17,f 18,f 19,f 20,f 21,f 22,f 23,f 24,f 25,f 26,f 27,f 28,f 29,f 30,f 31,f 32,f 33,f 34,f 35,f 36,f 37,f 38,f 39,f 40,f 41,f 42,f 43],[]⟩ _
 dsimp only
 rw [hf4]
 go_upto_region 5 with fail
 iterate 6 (try (first | go_values | go_skip | go_guarded | go_step | go_upon))
 refine (backward_calls _ _ _ _).mono ?_
 rintro e w' ⟨rfl,rfl⟩
 dsimp only
 iterate 4 (try (first | go_values | go_skip | go_guarded | go_step | go_upon | go_back))
 rw [World.size_alloc]
 refine wp_block<|(wpIn_wide (n:=3)).1 ?_
 have bO:=Boxed.new w13 64 (.slice none 0 0)
 have bS:=Boxed.new (w13.alloc (.cells #[.slice none 0 0] 64)) 41 (.slice (some ⟨g,0,none⟩) y115.length cap)
 rw [World.size_alloc] at bS
 have hB0:Below w13.heap.size w13 ((w13.alloc (.cells #[.slice none 0 0] 64)).alloc (.cells #[.slice (some ⟨g,0,none⟩) y115.length cap] 41)):=((Below.refl _ w13).alloc (Nat.le_refl _) _).alloc (by simp) _
 have hcell:∀ j,j < y115.length→((w13.alloc (.cells #[.slice none 0 0] 64)).alloc (.cells #[.slice (some ⟨g,0,none⟩) y115.length cap] 41)).cell? ⟨g,0+j,none⟩=some (.int .i64 (y115[j]?.getD 0)):=fun j hj=>by
  have h1:=hcell0.out j hj
  have h2:=(Below.cell ((((Below.refl w13.heap.size w13).alloc (Nat.le_refl _) (.cells #[.slice none 0 0] 64))).alloc (by simp) (.cells #[.slice (some ⟨g,0,none⟩) y115.length cap] 41)) (World.block_lt_of_cell? _ _ h1)).trans h1
  rw [Nat.zero_add]
  exact h2
 have hmem:∀ x∈y115.reverse,∃ d,encD k x 0=some d∧d.length≤10:=encA_mem A3.out
 have hal:∀ j,∃ d,encD k (y115[y115.length - 1 - j]?.getD 0) 0=some d∧d.length≤10:=fun j=>by
  have hj:y115.length - 1 - j < y115.length:=by have:=HY0.out;have:=HL.out;omega
  refine hmem _ ?_
  rw [List.getElem?_eq_getElem hj,Option.getD_some]
  exact List.mem_reverse.2 (List.getElem_mem hj)
 refine wpIn_rangeFunc_ownG (α:=EncX k) (encs:=fun x=>#[.int .i64 x.1.1,.int .i64 x.1.2]) rfl (by omega) (gf:=111) (lb:=#[.pointer (some ⟨w13.heap.size+1,0,none⟩)]) rfl trivial (enters_of Tryz.func111 (by kernel_rfl) rfl)
  (backward_stops (fun x:EncX k=>#[.int .i64 x.1.1,.int .i64 x.1.2]) (fun j=>⟨((y115.length:Int) - 1 - (j:Int),y115[y115.length - 1 - j]?.getD 0),hal j⟩) Fence.wide (3 - 1) trivial rfl (by omega) (w13.heap.size+1) w13.heap.size g 0 y115.length cap y115 (by have:=HY0.out;have:=HL.out;omega) (by have:=HG2.out;omega) (fun j _=>rfl) _ (by simp;omega) bS hcell)
  bwK_t (bwK_b (by simp;omega)) (Below.refl _ _) (fun _=>rfl)
  (fun pre W=>(∃ v,Boxed W w13.heap.size 64 v∧W.ownsRow w13.heap.size 5 1 v (encF k (pre.map fun x=>x.1.2)).length ((encF k (pre.map fun x=>x.1.2)).map (Value.int .u8))∧True)∧Below w13.heap.size w13 W)
  (fun _ _ _=>False)
  (OwnFrom.and (Own.from (holdsRow_own w13.heap.size w13.heap.size 64 5 1 (fun pre:List (EncX k)=>(encF k (pre.map fun x=>x.1.2)).length) (fun pre=>(encF k (pre.map fun x=>x.1.2)).map (Value.int .u8)) (fun _ _=>True)) _) (ownFrom_below (Nat.le_refl _) (by simp;omega)))
  (fun _ _ _ _ _ hs _ _=>hs)
  ⟨⟨_,bO.alloc _,World.ownsRow_nil _ _ _ _,trivial⟩,hB0⟩
   (fun x=>{ tmps:=#[f 0,f 1,f 2,f 3,.slice (some ⟨g,0,none⟩) y115.length cap,.pointer (some ⟨w13.heap.size,0,none⟩),f 6,.int .i64 x.1.2,f 8,f 9,f 10,f 11,f 12,f 13,f 14,f 15,f 16,f 17,f 18,f 19,f 20,f 21,f 22,f 23,.slice (some ⟨g,0,none⟩) y115.length cap,.func (.func 111) #[] #[.pointer (some ⟨w13.heap.size+1,0,none⟩)],.int .i64 x.1.1,.int .i64 x.1.2,f 28,f 29,f 30,f 31,f 32,f 33,f 34,f 35,f 36,f 37,f 38,f 39,f 40,f 41,f 42,f 43],defers:=[] }) ?assign ?body ?done ?stop
 case assign =>
  intro l x W K hK
  gi_wp2
  exact hK
 case stop =>
  rintro D c pre W _ _ h _
  exact h.elim
 case body =>
  rintro l pre ⟨⟨xi,xn⟩,d,hd,hd10⟩ W ⟨⟨v,hv,hrow,_⟩,hB⟩ hlt
  dsimp only
  gi_wp2
  gi_loopw [7,8] (fun vn vm wr=>∃ (kq:Nat) (n' m':Int) (cur rest:List Int),vn=.int .i64 n'∧vm=.int .u8 m'∧encD kq n' m'=some rest∧cur++rest=encF k (pre.map fun x=>x.1.2)++d ∧
   (∃ v,Boxed wr w13.heap.size 64 v∧wr.ownsRow w13.heap.size 5 1 v cur.length (cur.map (Value.int .u8)))∧bwK w13.heap.size (w13.heap.size+1) (.slice (some ⟨g,0,none⟩) y115.length cap) W wr∧KeepsFrom w13.heap.size W wr)
   (fun vn _ _=>(RowKit.intOf vn).toNat)
  case atStart=>exact ⟨k,xn,0,_,d,rfl,rfl,hd,rfl,⟨v,hv,hrow⟩,⟨Below.refl _ _,fun h=>h⟩,KeepsFrom.refl _ _⟩
  case round =>
   obtain ⟨kq,n',m',cur,rest,rfl,rfl,hq,hcr,⟨v2,hv2,hrow2⟩,hbk,hkf⟩:=hrel
   have hc:=hv2.cell
   have hcl:cur.length≤10010:=by
    have h1:=congrArg List.length hcr
    have h2:=encF_len pre
    have h3:=HY0.out
    have h4:=HL.out
    simp only [List.length_append] at h1
    omega
   have hsz:w13.heap.size≤wr.heap.size:=Nat.le_trans hB.size hbk.1.size
   have hml:cur.length+1≤maxLen:=by unfold maxLen;omega
   obtain ⟨i0,hi,hz0,hz1,hz2⟩:=info_parts encInfo
   cases kq with
   | zero=>cases hq
   | succ kq =>
    rw [encD] at hq
    by_cases hs:n' / 128=0
    ·rw [if_pos hs] at hq
     have hs0:(n' / 128 == 0)=true:=by simp [hs]
     gi_wp2_with (gi_at_builtin;refine wpListIn_append_own _ rfl _ _ 64 rfl w13.heap.size 5 i0 (.int .u8 0) 1 1 Tryz.underlying64 hi hz0 hz1 hz2 rfl (by decide) _ _ _ rfl (hrow2.alloc _) ⟨wr.heap.size,0,none⟩ 1 1 [.int .u8 (Go.bits .or .u8 ((Go.bits .and .i64 n' 127) % 256) m')] rfl rfl (cell_one_new _ _ _) (by simp [Value.oneCell']) hml (by omega) (by simp;omega) ?_;intro v' w1 hown' hgrow _;obtain ⟨g',cap',rfl⟩:=ownsRow_succ hown';obtain ⟨hv3,hv4,hr4,hk4,hb4⟩:=hv2.appended (by decide) hrow2 hsz (Nat.le_refl _) hown' hgrow;have hc1:=hv3.cell;have hf1:=hv3.frozen;have hS1:=fun hS:Boxed wr (w13.heap.size+1) 41 (.slice (some ⟨g,0,none⟩) y115.length cap)=>((hS.alloc _).kept hgrow (hS.not_row (by decide) hrow2)).kept (grownBy_setCell' w1 w13.heap.size (.slice (some ⟨g',0,none⟩) (cur.length+1) cap')) (by simp))
     obtain rfl:=Option.some.inj hq
     have e:=encF_snoc pre ⟨(xi,xn),d,hd,hd10⟩ hd
     rw [← hcr] at e
     refine ⟨⟨Nat.le_trans hkf.size (hk4.from w13.heap.size).size,fun k o hk=>(hkf.trans (hk4.from _)).same k o (by simp at hk;omega)⟩,⟨hbk.1.trans hb4,fun h=>hS1 (hbk.2 h)⟩,⟨_,hv4,?_,trivial⟩,hB.trans (hbk.1.trans hb4)⟩
     rw [e]
     simpa using hr4
    ·rw [if_neg hs] at hq
     have hs0:(n' / 128 == 0)=false:=by simp [hs]
     obtain ⟨r,hr,hq⟩:=Option.bind_eq_some_iff.1 hq
     obtain rfl:=Option.some.inj hq
     have hpos:=encD_pos hr
     gi_wp2_with (gi_at_builtin;refine wpListIn_append_own _ rfl _ _ 64 rfl w13.heap.size 5 i0 (.int .u8 0) 1 1 Tryz.underlying64 hi hz0 hz1 hz2 rfl (by decide) _ _ _ rfl (hrow2.alloc _) ⟨wr.heap.size,0,none⟩ 1 1 [.int .u8 (Go.bits .or .u8 ((Go.bits .and .i64 n' 127) % 256) m')] rfl rfl (cell_one_new _ _ _) (by simp [Value.oneCell']) hml (by omega) (by simp;omega) ?_;intro v' w1 hown' hgrow _;obtain ⟨g',cap',rfl⟩:=ownsRow_succ hown';obtain ⟨hv3,hv4,hr4,hk4,hb4⟩:=hv2.appended (by decide) hrow2 hsz (Nat.le_refl _) hown' hgrow;have hc1:=hv3.cell;have hf1:=hv3.frozen;have hS1:=fun hS:Boxed wr (w13.heap.size+1) 41 (.slice (some ⟨g,0,none⟩) y115.length cap)=>((hS.alloc _).kept hgrow (hS.not_row (by decide) hrow2)).kept (grownBy_setCell' w1 w13.heap.size (.slice (some ⟨g',0,none⟩) (cur.length+1) cap')) (by simp))
     refine ⟨⟨kq,n' / 128,128,cur++[Go.bits .or .u8 ((Go.bits .and .i64 n' 127) % 256) m'],r,rfl,rfl,hr,?_,⟨_,hv4,?_⟩,⟨hbk.1.trans hb4,fun h=>hS1 (hbk.2 h)⟩,hkf.trans (hk4.from _)⟩,?_⟩
     ·rw [← hcr];simp
     ·simpa using hr4
     ·simp only [RowKit.intOf];omega
 case done =>
  rintro D ys W hD rfl ⟨⟨v,hv,hrow,_⟩,hB2⟩ hK
  have e:encF k ((bw_upto (fun j=>(⟨((y115.length:Int) - 1 - (j:Int),y115[y115.length - 1 - j]?.getD 0),hal j⟩:EncX k)) y115.length).map fun x=>x.1.2)=bs:=by
   have h1:=encA_eq A3.out
   rw [h1]
   congr 1
   refine List.ext_getElem (by simp [bw_upto]) (fun i h2 h3=>?_)
   rw [List.length_reverse] at h3
   simp only [bw_upto,List.getElem_map,List.getElem_range,List.getElem_reverse]
   rw [List.getElem?_eq_getElem (by omega),Option.getD_some]
  rw [e] at hrow
  clear e
  have hbl:0 < bs.length:=encA_ne A3.out (by rw [List.length_reverse];have:=HY0.out;have:=HL.out;omega)
  rcases hrow.2 with ⟨_,h0⟩ | ⟨g1,cap1,cur1,rfl,hg1,hb1,hr1⟩
  ·omega
  have hnB:g1≠w13.heap.size:=fun e=>hv.not_row (by decide) hrow (by simp [Value.ownBlock,e])
  have hnD:g1≠D:=fun e=>by
   subst e
   rw [hb1] at hK
   cases hK
  have hcell1:∀ j,j < bs.length→W.cell? ⟨g1,j,none⟩=some (.int .u8 (bs[j]?.getD 0))∧W.frozen? ⟨g1,j,none⟩=false:=fun j hj=>by
   have h1:=hrow.cells (g:=g1) rfl j (.int .u8 (bs[j]?.getD 0)) (by simp [List.getElem?_eq_getElem hj])
   have ha:(⟨g1,0,none⟩:Addr).add j=⟨g1,j,none⟩:=by unfold Addr.add;split<;>simp_all
   rw [ha] at h1
   exact ⟨h1,by simp [World.frozen?,hb1]⟩
  have hlen:bs.length≤9223372036854775807:=Nat.le_trans hr1.1 (Nat.le_trans hr1.2.1 (by decide))
  have HK:=Asd.mk hK
  have HV:=Asd.mk hv
  have HROW:=Asd.mk hcell1
  have HB2:=Asd.mk hB2
  have HNB:=Asd.mk hnB
  have HND:=Asd.mk hnD
  have HD:=Asd.mk hD
  have HG1:=Asd.mk hg1
  have hc:=HV.out.cell
  clear hv hrow hB2 hK hnB hnD hcell1 hD hmem hal hcell bO bS hB0 hr1 hb1 hg1
  go_wp2_with (go_at_call 73;refine (oid_Encode.reverse_calls g1 cap1 bs W HROW.out hlen).mono ?_;rintro e w2 ⟨rfl,ho,o1,o2,o3,o4,o5⟩;have hc2:=(Boxed.cell ((o5 _ (Ne.symm HNB.out)).trans HV.out:Boxed w2 w13.heap.size 64 (.slice (some ⟨g1,0,none⟩) bs.length cap1)));have hcv:=run_convert_bytes_arg (P:=Tryz.prog) w2 64 5 Tryz.underlying64 Tryz.underlying5 g1 0 bs.length cap1 bs.reverse (by simp) (fun i hi=>by rw [Nat.zero_add];exact (ho i (by simpa using hi)).trans (by rw [List.getD_eq_getElem?_getD])) 9 Tryz.underlying9;have HK2:=Asd.mk ((o5 D (Ne.symm HND.out)).trans HK.out);have HB3:Asd (Below w13.heap.size w13 w2):=⟨HB2.out.trans ⟨o1,o2,o3,by omega,fun i hi=>o5 i (by have:=HG1.out;omega)⟩⟩;clear ho)
  refine ⟨by simp,.inl ⟨_,_,rfl,run_takeDeferred HK2.out,?_⟩⟩
  refine ⟨_,results_tmp2 rfl _ _ _,oid_Encode.ansR HR.out (HB3.out.trans (belowK_b (w:=w13) (Nat.le_refl _) w2 D _ _ (by have:=HD.out;simp at this;omega) HK2.out rfl rfl))⟩
end
def strconv_Itoa.f (a0:Int):Option ByteArray:=if -9223372036854775808≤a0∧a0≤9223372036854775807 then some ⟨(Lib.itoa a0).toArray⟩ else none
theorem strconv_Itoa.later {w W:World} {name:String} {cs:Array Value} (hB:∀ b,b < W.heap.size→w.heap[b]? = W.heap[b]?) (h:W.var? Tryz.prog name=some cs):w.var? Tryz.prog name=some cs:=by
 unfold World.var? at *
 cases hg:Tryz.prog.globalNamed name with
 | none=>simp [hg] at h
 | some g =>
  simp only [hg,Option.bind_some] at h ⊢
  have hlt:g < W.heap.size:=by
   rcases Nat.lt_or_ge g W.heap.size with h' | h'
   ·exact h'
   ·rw [Array.getElem?_eq_none h'] at h;simp at h
  rw [hB g hlt]
  exact h
theorem strconv_Itoa.tab {p:Pub} {w:World} (h:Tabs.t p w):Lib.TabIs Tryz.prog w "internal/strconv.uint64pow10" .u64 Lib.pow10Tab:=by
 obtain ⟨W,hW,hB⟩:=h
 rw [MakeChecks.laidMetH_plain _ _ _ (by kernel_rfl)] at hW
 have hm:("internal/strconv.uint64pow10",Lib.tabData (H:=Unit) .u64 Lib.pow10Tab)∈laidL:=by
  have e:Lib.tabData (H:=Unit) .u64 Lib.pow10Tab=Rows.laid_internal_strconv_uint64pow10:=by kernel_rfl
  rw [e];unfold laidL
  repeat (first | exact List.mem_cons_self | apply List.mem_cons_of_mem)
 obtain ⟨g',t',cs,fuel,p,hg',ht',hvar,hd⟩:=Lib.laidMet.reads hW hm
 have hg:Tryz.prog.globalNamed "internal/strconv.uint64pow10" = some 5:=by kernel_rfl
 obtain rfl:=Option.some.inj (hg.symm.trans hg')
 have ht:(Tryz.prog.globals[5]?).map (·.type)=some 225:=by kernel_rfl
 obtain rfl:=Option.some.inj (ht.symm.trans ht')
 have hc:=Lib.cells_of_tab (n:=20) Tryz.underlying225 Tryz.underlying116 (by kernel_rfl) (by kernel_rfl) hd
 unfold Lib.TabIs
 rw [strconv_Itoa.later (fun b hb=>(hB b hb).2) hvar,← hc]
theorem strconv_Itoa.con {a0:Int} {r:ByteArray} (H:strconv_Itoa.f a0=some r):Con Tryz.prog 124 [I a0] (S r):=by
 unfold strconv_Itoa.f at H
 obtain ⟨hc,H⟩:=ifS H
 cases H
 exact con_lits Tryz.func124 rfl (by kernel_rfl) rfl fun p w ht=>(Tryz.strconv_Itoa a0 hc.1 hc.2 w (strconv_Itoa.tab ht)).mono (by rintro e w' ⟨rfl,k,os,rfl⟩;exact ⟨rfl,Go.Lib.below_grow _ w (Nat.le_refl _) k os⟩)
def digits_Num.f (a0:Int):Option (ByteArray):=(strconv_Itoa.f a0).bind fun t344=>(some t344)
theorem digits_Num.con {a0:Int} {r:(ByteArray)} (H:digits_Num.f a0=some r):Con Tryz.prog 90 [I a0] (S r):=by
 refine Cg Tryz.func90 rfl fun C hN hL=>?_
 unfold digits_Num.f at H
 refine Sw<|Rg hN<|Sw ?_
 obtain ⟨t344,h345,H⟩:=bindS H
 refine Rh hN [S t344] (.c1 (strconv_Itoa.con h345).c) ?_
 cases H
 exact Rt dR
def digits_Unnum.of (a0:ByteArray):Int × Bool:=match Lib.atoiAll a0.data.toList with
 | .ok v=>if (⟨(Lib.itoa v).toArray⟩:ByteArray).toList=a0.toList then (v,true) else (0,false)
 | _=>(0,false)
def digits_Unnum.f (a0:ByteArray):Option (Int × Bool):=if a0.size≤281474976710656 then some (digits_Unnum.of a0) else none
theorem digits_Unnum.err {p:Pub} {w:World} {name:String} {d:DataW Unit} {nm:String} {ti:TypeId} {ms:Array (String × TypeId)} {gn:Nat} (h:Tabs.t p w) (hm:(name,DataW.iface nm d)∈laidL) (hg:Tryz.prog.globalNamed name=some gn)
 (ht:(Tryz.prog.globals[gn]?).map (·.type)=some ti) (hi:Tryz.prog.underlying ti=some (.interface ms)):∃ t p,w.cell? ⟨gn,0,none⟩=some (.iface t p):=by
 obtain ⟨W,hW,hB⟩:=h
 rw [MakeChecks.laidMetH_plain _ _ _ (by kernel_rfl)] at hW
 obtain ⟨g',t',cs,fuel,p,hg',ht',hvar,hd⟩:=Lib.laidMet.reads hW hm
 obtain rfl:=Option.some.inj (hg.symm.trans hg')
 obtain rfl:=Option.some.inj (ht.symm.trans ht')
 obtain ⟨f',u,v,hc,_,_⟩:=iface_of_trod hi hd
 have h0:=World.var?_cell hg hvar 0
 have hcs:cs = #[.iface u v]:=by
  rw [← Array.toList_inj]
  exact hc
 rw [hcs] at h0
 have h1:W.cell? ⟨gn,0,none⟩=some (.iface u v):=by simpa using h0
 exact ⟨u,v,(cell?_same (hB _ (World.block_lt_of_cell? _ _ h1)).2).trans h1⟩
theorem digits_Unnum.syn {p:Pub} {w:World} (h:Tabs.t p w):∃ t p,w.cell? ⟨3,0,none⟩=some (.iface t p) :=
 digits_Unnum.err h (show ("strconv.ErrSyntax",Rows.laid_strconv_ErrSyntax)∈laidL by unfold laidL;repeat (first | exact List.mem_cons_self | apply List.mem_cons_of_mem)) (by kernel_rfl) (by kernel_rfl) Tryz.underlying103
theorem digits_Unnum.ran {p:Pub} {w:World} (h:Tabs.t p w):∃ t p,w.cell? ⟨4,0,none⟩=some (.iface t p) :=
 digits_Unnum.err h (show ("strconv.ErrRange",Rows.laid_strconv_ErrRange)∈laidL by unfold laidL;repeat (first | exact List.mem_cons_self | apply List.mem_cons_of_mem)) (by kernel_rfl) (by kernel_rfl) Tryz.underlying103
theorem digits_Unnum.bw {w w':World} {e:TypeId} (h:w'=w∨∃ t,w'=Lib.bytesWorld w e t):Below w.heap.size w w':=by
 rcases h with rfl | ⟨t,rfl⟩
 ·exact Below.refl _ _
 ·exact Lib.bytesWorld_below w e t
set_option maxHeartbeats 8000000 in
set_option maxRecDepth 100000 in
theorem digits_Unnum.calls (a0:ByteArray) (r1:Int) (r2:Bool) (p:Pub) (w:World) (hp:∀ b,p b→b < w.heap.size) (ht:Tabs.t p w) (h:digits_Unnum.f a0=some (r1,r2)) :
 Calls Tryz.prog 113 #[.string a0] w fun e w'=>e=.returned (.tuple #[.int .i64 r1,.bool r2])∧Below w.heap.size w w':=by
 have HP:=Asd.mk hp
 have HT_:=Asd.mk ht
 clear hp ht
 unfold digits_Unnum.f at h
 split at h
 case isFalse=>cases h
 rename_i hs
 have hs2:a0.size≤9223372036854775806:=by omega
 have h0:=Option.some.inj h
 clear h
 have HS:=Asd.mk hs
 have HS2:=Asd.mk hs2
 clear hs hs2
 unfold digits_Unnum.of at h0
 cases hq:Lib.atoiAll a0.data.toList with
 | ok v =>
  rw [hq] at h0
  dsimp only at h0
  have HQ:=Asd.mk hq
  have HV:=Asd.mk (Lib.atoiAll_bounds hq)
  clear hq
  have hn:digits_Num.f v=some (⟨(Lib.itoa v).toArray⟩:ByteArray):=by
   unfold digits_Num.f strconv_Itoa.f
   rw [if_pos HV.out]
   rfl
  have HN:=Asd.mk hn
  clear hn
  generalize (⟨(Lib.itoa v).toArray⟩:ByteArray)=x at HN h0
  by_cases he:x.toList=a0.toList
  ·rw [if_pos he] at h0
   cases h0
   have c29b0:(x.toList == a0.toList)=true:=beq_iff_eq.mpr he
   clear he
   go_enter Tryz.func113,Tryz.ntmps113
   go_wp2_with (first | (go_at_call 136;refine (Tryz.strconv_Atoi_ok a0 HS2.out _ HQ.out _).mono ?_;rintro e w3 ⟨rfl,hw⟩;have HB:=Asd.mk (digits_Unnum.bw hw);clear hw) | (go_at_call 90;refine ((digits_Num.con HN.out).lits rfl (hp_below HP.out HB.out) (tabs_below HP.out HT_.out HB.out)).mono ?_;rintro e w4 ⟨rfl,hb⟩;have HC:=Asd.mk (bl_step HB.out hb);clear hb))
   go_ret2
   exact ⟨rfl,HC.out⟩
  ·rw [if_neg he] at h0
   cases h0
   have c29b0:(x.toList == a0.toList)=false:=beq_eq_false_iff_ne.mpr he
   clear he
   go_enter Tryz.func113,Tryz.ntmps113
   go_wp2_with (first | (go_at_call 136;refine (Tryz.strconv_Atoi_ok a0 HS2.out _ HQ.out _).mono ?_;rintro e w3 ⟨rfl,hw⟩;have HB:=Asd.mk (digits_Unnum.bw hw);clear hw) | (go_at_call 90;refine ((digits_Num.con HN.out).lits rfl (hp_below HP.out HB.out) (tabs_below HP.out HT_.out HB.out)).mono ?_;rintro e w4 ⟨rfl,hb⟩;have HC:=Asd.mk (bl_step HB.out hb);clear hb))
   go_ret2
   exact ⟨rfl,HC.out⟩
 | «syntax» =>
  rw [hq] at h0
  cases h0
  have HQ:=Asd.mk hq
  clear hq
  obtain ⟨t,p,hc⟩:=digits_Unnum.syn HT_.out
  have HC:=Asd.mk hc
  clear hc
  go_enter Tryz.func113,Tryz.ntmps113
  go_wp2_with (go_at_call 136;refine (Tryz.strconv_Atoi_syntax a0 HS.out HQ.out _ _ HC.out (Or.inr ⟨_,_,rfl⟩)).mono ?_;rintro e w3 ⟨N9,rfl,_,_,hb⟩;have HB:=Asd.mk hb;clear hb)
  go_ret2
  exact ⟨rfl,HB.out⟩
 | range =>
  rw [hq] at h0
  cases h0
  have HQ:=Asd.mk hq
  clear hq
  obtain ⟨t,p,hc⟩:=digits_Unnum.ran HT_.out
  have HC:=Asd.mk hc
  clear hc
  go_enter Tryz.func113,Tryz.ntmps113
  go_wp2_with (go_at_call 136;refine (Tryz.strconv_Atoi_range a0 HS.out HQ.out _ _ HC.out (Or.inr ⟨_,_,rfl⟩)).mono ?_;rintro e w3 ⟨N9,rfl,_,_,hb⟩;have HB:=Asd.mk hb;clear hb)
  go_ret2
  exact ⟨rfl,HB.out⟩
theorem digits_Unnum.con {a0:ByteArray} {r:Int × Bool} (H:digits_Unnum.f a0=some r):Con Tryz.prog 113 [S a0] (.tup [I r.1,B r.2]):=by
 refine con_litsX Tryz.func113 rfl (by kernel_rfl) rfl fun p w hp ht=>(digits_Unnum.calls a0 r.1 r.2 p w hp ht H).mono ?_
 rintro e w' ⟨rfl,hb⟩
 exact ⟨_,[],rfl,hb,List.nodup_nil,fun _ h=>(by cases h),fun _=>.tup (vs:=[.int .i64 r.1,.bool r.2]) (.cons (A:=[]) (.lit _) (.cons (A:=[]) (.lit _) .nil))⟩
def dots:List UInt8→List (List UInt8)
 | []=>[[]]
 | b :: r=>if b=46 then [] :: dots r else match dots r with
  | []=>[[b]]
  | p :: ps=>(b :: p) :: ps
def partP (x:{ s:ByteArray // s.size≤1000000 }):Int × Bool:=digits_Unnum.of x.1
def parseP (l:List (List UInt8)):Option (List Int):=if (l.all fun x=>(digits_Unnum.of ⟨x.toArray⟩).2)=true then some (l.map fun x=>(digits_Unnum.of ⟨x.toArray⟩).1) else none
def oid_Parse.f (k:Nat) (a0:ByteArray):Option (List Int × Bool):=if a0.size≤1000000 then (match parseP (dots a0.data.toList) with
 | none=>some ([],false)
 | some arcs=>(oid_Right.f k arcs).bind fun t=>if t=true then some (arcs,true) else some ([],false)) else none
section
open Go.Shelf
attribute [local go_sem] Oper.semAt_some
section
variable {F:Fence} {n:Nat} {P:Program}
theorem setCell_at (W:World) (B l:Nat) (v:Value) (h:l≠B):(W.setCell ⟨B,0,none⟩ v).heap[l]? = W.heap[l]?:=Below.heap_setCell W ⟨B,0,none⟩ v l h
theorem wpIn_rangeFunc_box {α:Type} {g:Operand} {ps:Array Tmp} {assign body:Code} {Q:Exit→Act→World→Prop} {a:Act} {w:World}
 (hro:F.round=none) (h1:1≤n) {gf:Nat} {lb:Array Value} (hg:a.eval g=.func (.func gf) #[] lb) (hFg:F.fn gf) (eg:∀ args w,(callFunc gf args).run P w=.ok (.enter gf args) w)
 {encs:α→Array Value} {Kp:World→World→Prop} {S Sp:List α→Prop} {N:Nat} {Bs:Nat} (hBs:Bs < w.heap.size)
 (hseq:∀ (l:Nat) (J Jx:List α→World→Prop) (W:World),Below w.heap.size w W→(∀ pre A v,J pre A→J pre (A.setCell ⟨Bs,0,none⟩ v)) →
  (∀ pre x W1,J pre W1→pre.length < N→YieldAt F (n - 1 - 1) P l (encs x) W1 fun e W' =>
   (e=.returned (.bool true)∧J (pre++[x]) W'∧Kp W1 W')∨(e=.returned (.bool false)∧Jx (pre++[x]) W')) →
  J [] W→CallsIn F (n - 1) P gf (#[.func (.yield l) #[] #[]]++lb) W fun e W'=>(∃ v,e=.returned v)∧((∃ xs,S xs∧J xs W')∨(∃ pre,Sp pre∧Jx pre W')))
 (hKt:∀ {A B C:World},Kp A B→Kp B C→Kp A C) (hKb:∀ (W:World) (l:Nat) (o o':Obj),w.heap.size≤l→W.heap[l]? = some o→o.isCells=false→o.isWalk=false→Kp W (W.putObj l o')) (hps:∀ x,(encs x).size=ps.size)
 (I:List α→World→Prop) (Ix:Code→List α→World→Prop) (hI:OwnFrom w.heap.size I) (hIs:∀ pre A v,I pre A→I pre (A.setCell ⟨Bs,0,none⟩ v)) (hIx:∀ c,OwnFrom w.heap.size (Ix c)) (h0:I [] w) (a₁:α→Act)
 (hassign:∀ (l:Nat) (x:α) (W:World) (K:Act→World→Prop),K (a₁ x) W →
  assign.wpIn (F.inRound l) (n - 1 - 1) P (Exit.then K (fun _ _ _=>False)) { tmps:=(ps.zip (encs x)).foldl (fun t (p,v)=>t.setIfInBounds p v) a.tmps,defers:=[] } W)
 (hbody:∀ (l:Nat) (pre:List α) (x:α) (W:World),I pre W→pre.length < N→body.wpIn (F.inRound l) (n - 1 - 1) P (ownPostG w.heap.size Kp I Ix (pre++[x]) W) (a₁ x) W)
 (hdone:∀ (D:Nat) (xs:List α) (W:World),w.heap.size≤D→S xs→I xs W→W.heap[D]? = some (.deferred (some []))→Q .normal { a with defers:={ target:=.collected D,args:=#[] } :: a.defers } W)
 (hstop:∀ (D:Nat) (c:Code) (pre:List α) (W:World),w.heap.size≤D→Sp pre→Ix c pre W→W.heap[D]? = some (.deferred (some []))→c.wpIn F n P Q { a with defers:={ target:=.collected D,args:=#[] } :: a.defers } W) :
 (Code.rangeFunc g ps assign body).wpIn F n P Q a w:=by
 refine wpIn_rangeFunc (fun fn hfn=>?_)
 rw [hro]
 let L:LoopState→Option Code→Loop:=fun st pe=>{ state:=st,pending:=pe,fn,tmps:=a.tmps,params:=ps,assign,body,defers:=w.heap.size }
 obtain ⟨W1,hW1⟩:∃ W1,(w.alloc (.deferred (some []))).alloc (.loop (L .ready none))=W1:=⟨_,rfl⟩
 have hb:Below w.heap.size w W1:=by rw [← hW1];exact ((Below.refl w.heap.size w).alloc (by omega) _).alloc (by simp) _
 let bk:LoopState→Option Code→World→Prop:=fun st pe W=>W.heap[w.heap.size+1]? = some (.loop (L st pe))∧W.heap[w.heap.size]? = some (.deferred (some []))
 have hk1:bk .ready none W1:=by
  have e1:=World.alloc_heap_new (w.alloc (.deferred (some []))) (.loop (L .ready none))
  rw [World.size_alloc] at e1
  have e2:=World.alloc_heap_new w (.deferred (some []))
  rw [← hW1]
  exact ⟨e1,(Below.heap_alloc _ _ _ (by simp)).trans e2⟩
 have hset:∀ st pe W v,bk st pe W→bk st pe (W.setCell ⟨Bs,0,none⟩ v):=fun st pe W v h=>⟨(setCell_at W Bs (w.heap.size+1) v (by omega)).trans h.1,(setCell_at W Bs w.heap.size v (by omega)).trans h.2⟩
 have hput:∀ st pe st' pe' W,bk st pe W→bk st' pe' (W.putObj (w.heap.size+1) (.loop (L st' pe'))):=fun st pe st' pe' W h =>
  ⟨World.putObj_heap_same (Array.getElem?_eq_some_iff.1 h.1).1,(World.putObj_heap_other (by omega)).trans h.2⟩
 refine ⟨w.heap.size+1,[{ target:=.collected w.heap.size,args:=#[] }],W1,{ target:=.fn (.func gf) lb,args:=#[.func (.yield (w.heap.size+1)) #[] #[]] },W1,gf,#[.func (.yield (w.heap.size+1)) #[] #[]]++lb,W1,?_,?_,?_,?_,fun _=>h1,?_⟩
 ·rw [← hW1];exact run_enterLoop_outer _ _ _ _ _
 ·simp only [resolve,hg]
  simp [go_sem]
 ·intro f' hf'
  simp [Target.leads] at hf'
  subst hf'
  exact hFg
 ·simp [invoke,go_sem,eg]
 refine (hseq (w.heap.size+1) (fun pre W=>I pre W∧bk .ready none W) (fun pre W=>∃ c,Ix c pre W∧bk .done (some c) W) W1 hb (fun pre A v h=>⟨hIs pre A v h.1,hset _ _ _ _ h.2⟩) ?_ ⟨by rw [← hW1];exact hI.alloc _ (hI.alloc _ h0),hk1⟩).mono ?_
 ·rintro pre x W ⟨hi,hl⟩ hlen
  refine ⟨fn,_,assign,body,run_yield (P:=P) (args:=encs x) hl.1 (hps x),roundIn_of_wpIn hfn (hassign _ x W _ ⟨_,run_beginRound hl.1 rfl,?_⟩)⟩
  have hb2:bk .busy none (W.putObj (w.heap.size+1) (.loop (L .busy none))):=hput _ _ _ _ _ hl
  refine wpIn_mono (hbody _ pre x _ (hI.putObj _ hi (by omega) hl.1 rfl) hlen) ?_
  have fin:∀ (jump:Option Code) (W3:World),KeepsFrom w.heap.size (W.putObj (w.heap.size+1) (.loop (L .busy none))) W3→bk .busy none W3 ∧
   (Instr.endRound (w.heap.size+1) jump).run P W3=.ok (.bool jump.isNone) (W3.putObj (w.heap.size+1) (.loop (L (if jump.isNone then .ready else .done) jump))):=fun jump W3 hk3=>by
   have h3:bk .busy none W3:=⟨hk3.same _ _ (by omega) hb2.1 rfl,hk3.same _ _ (Nat.le_refl _) hb2.2 rfl⟩
   exact ⟨h3,run_endRound (P:=P) jump h3.1⟩
  rintro e a3 W3 hp
  match e,hp with
  | .normal,⟨hk3,hkp3,hi3⟩ =>
   obtain ⟨h3,hr⟩:=fin none W3 hk3
   exact ⟨_,_,hr,.inl ⟨rfl,⟨hI.putObj _ hi3 (by omega) h3.1 rfl,hput _ _ _ _ _ h3⟩,hKt (hKt (hKb _ _ _ _ (by omega) hl.1 rfl rfl) hkp3) (hKb _ _ _ _ (by omega) h3.1 rfl rfl)⟩⟩
  | .ret,⟨hk3,hi3⟩ =>
   obtain ⟨h3,hr⟩:=fin (some .ret) W3 hk3
   exact ⟨_,_,hr,.inr ⟨rfl,.ret,(hIx _).putObj _ hi3 (by omega) h3.1 rfl,hput _ _ _ _ _ h3⟩⟩
  | .exit id,⟨hk3,hi3⟩ =>
   obtain ⟨h3,hr⟩:=fin (some (.exit id)) W3 hk3
   exact ⟨_,_,hr,.inr ⟨rfl,.exit id,(hIx _).putObj _ hi3 (by omega) h3.1 rfl,hput _ _ _ _ _ h3⟩⟩
  | .goto t,⟨hk3,hi3⟩ =>
   obtain ⟨h3,hr⟩:=fin (some (.goto t)) W3 hk3
   exact ⟨_,_,hr,.inr ⟨rfl,.goto t,(hIx _).putObj _ hi3 (by omega) h3.1 rfl,hput _ _ _ _ _ h3⟩⟩
 ·rintro e W2 ⟨⟨v,rfl⟩,(⟨xs,hS,hi,hl⟩ | ⟨pre,hSp,c,hi,hl⟩)⟩
  ·exact ⟨none,_,run_endLoop (P:=P) hl.1 (by simp [L]),hdone _ xs _ (by omega) hS (hI.putObj _ hi (by omega) hl.1 rfl) ((World.putObj_heap_other (by omega)).trans hl.2)⟩
  ·exact ⟨some c,_,run_endLoop (P:=P) hl.1 (by simp [L]),hstop _ c pre _ (by omega) hSp ((hIx c).putObj _ hi (by omega) hl.1 rfl) ((World.putObj_heap_other (by omega)).trans hl.2)⟩
end
def strAt (W:World) (B:Nat):Nat:=match W.cell? ⟨B,0,none⟩ with
 | some (.string s)=>s.size
 | _=>0
theorem strAt_of {W:World} {B:Nat} {s:ByteArray} (h:W.cell? ⟨B,0,none⟩=some (.string s)):strAt W B=s.size:=by unfold strAt;rw [h]
def spK (Bp Bs Bv:Nat) (W W':World):Prop:=∀ b t v,(b=Bp∨b=Bs∨b=Bv)→Boxed W b t v→Boxed W' b t v
theorem dots_ne:∀ l,dots l≠[]
 | []=>by simp [dots]
 | b :: r=>by
  rw [dots]
  split
  ·simp
  ·split<;>simp
theorem dots_none:∀ {l:List UInt8},Lib.indexByte l 46 < 0→dots l=[l]
 | [],_=>rfl
 | b :: r,h=>by
  rw [Lib.indexByte] at h
  have hg:=Lib.indexByte_ge r 46
  by_cases hb:(b == 46)=true
  ·rw [if_pos hb] at h;omega
  ·rw [if_neg hb] at h
   have hr:Lib.indexByte r 46 < 0:=by
    by_cases h1:(Lib.indexByte r 46 == -1)=true
    ·have:=eq_of_beq h1;omega
    ·rw [if_neg h1] at h;omega
   rw [dots,if_neg (fun e=>hb (by rw [e];rfl)),dots_none hr]
theorem dots_some:∀ {l:List UInt8} {i:Nat},Lib.indexByte l 46=i→dots l=l.take i :: dots (l.drop (i+1))
 | [],i,h=>by rw [Lib.indexByte] at h;omega
 | b :: r,i,h=>by
  rw [Lib.indexByte] at h
  have hg:=Lib.indexByte_ge r 46
  by_cases hb:(b == 46)=true
  ·rw [if_pos hb] at h
   obtain rfl:i=0:=by omega
   rw [dots,if_pos (eq_of_beq hb)]
   rfl
  ·rw [if_neg hb] at h
   by_cases h1:(Lib.indexByte r 46 == -1)=true
   ·rw [if_pos h1] at h;omega
   ·rw [if_neg h1] at h
    obtain ⟨j,hj⟩:∃ j:Nat,Lib.indexByte r 46=j:=⟨(Lib.indexByte r 46).toNat,by have:Lib.indexByte r 46≠-1:=fun e=>h1 (by rw [e];rfl);omega⟩
    obtain rfl:i=j+1:=by omega
    rw [dots,if_neg (fun e=>hb (by rw [e];rfl)),dots_some hj]
    rfl
set_option maxRecDepth 100000 in
set_option maxHeartbeats 2000000 in
theorem splitSeq1_in (n:Nat) (hn:1≤n) (l Bp Bs Bv:Nat) (s0:ByteArray) (hs0:s0.size≤1000000) (hne1:Bp≠Bs) (hne2:Bv≠Bs) (J Jx:List { s:ByteArray // s.size≤1000000 }→World→Prop)
 (hJs:∀ pre A v,J pre A→J pre (A.setCell ⟨Bs,0,none⟩ v))
 (hY:∀ pre x W,J pre W→pre.length < 1000002→YieldAt Fence.wide (n - 1) Tryz.prog l #[.string x.1] W fun e W' =>
  (e=.returned (.bool true)∧J (pre++[x]) W'∧spK Bp Bs Bv W W')∨(e=.returned (.bool false)∧Jx (pre++[x]) W'))
 (W:World) (hBp:Boxed W Bp 9 (.string ⟨#[46]⟩)) (hBs:Boxed W Bs 9 (.string s0)) (hBv:Boxed W Bv 3 (.int .i64 0)) (h0:J [] W) :
 CallsIn Fence.wide n Tryz.prog 154 #[.func (.yield l) #[] #[],.pointer (some ⟨Bp,0,none⟩),.pointer (some ⟨Bs,0,none⟩),.pointer (some ⟨Bv,0,none⟩)] W fun e W'=>(∃ v,e=.returned v) ∧
  ((∃ ys,ys.map (fun x=>x.1.data.toList)=dots s0.data.toList∧J ys W')∨(∃ pre,pre.map (fun x=>x.1.data.toList) <+: dots s0.data.toList∧Jx pre W')):=by
 refine callsIn_of_wp Tryz.func154 rfl trivial ?_ rfl
 simp only [Tryz.ntmps154,List.size_toArray,List.length_cons,List.length_nil,Nat.reduceAdd,Nat.reduceSub,Array.replicate_succ,Array.replicate_zero,List.push_toArray,List.append_toArray,List.nil_append,List.cons_append]
 have hB1:=hBp.cell
 gi_wp2
 gi_loopw [7,8] (fun _ _ wr=>∃ (pre:List { s:ByteArray // s.size≤1000000 }) (rest:ByteArray),pre.map (fun x=>x.1.data.toList)++dots rest.data.toList=dots s0.data.toList∧pre.length+rest.size≤s0.size ∧
  Boxed wr Bs 9 (.string rest)∧Boxed wr Bp 9 (.string ⟨#[46]⟩)∧Boxed wr Bv 3 (.int .i64 0)∧J pre wr)
  (fun _ _ wr=>strAt wr Bs)
 case atStart=>exact ⟨[],s0,by simp,by simp,hBs,hBp,hBv,h0⟩
 case round =>
  obtain ⟨pre,rest,hpre,hlen,bS,bP,bV,hJ⟩:=hrel
  have hcS:=bS.cell
  have hfS:=bS.frozen
  have hcP:=bP.cell
  have hcV:=bV.cell
  have hge:=Lib.indexByte_ge rest.data.toList 46
  by_cases hlt:Lib.indexByte rest.data.toList 46 < 0
  ·generalize hix:Lib.indexByte rest.data.toList 46=ix at hge hlt
   have hb0:decide (ix < 0)=true:=decide_eq_true hlt
   obtain ⟨fn,tmps,assign,body,hy,hR⟩:=hY pre ⟨rest,by omega⟩ wr hJ (by omega)
   dsimp only at hy
   gi_wp2_with (refine ⟨trivial,?_⟩;gi_at_call 155;refine (callsIn_wide.2 (Tryz.strings_Index_one rest 46 _)).mono ?_;rintro e w9 ⟨rfl,rfl⟩;rw [hix])
   have hdots:dots rest.data.toList=[rest.data.toList]:=dots_none (by omega)
   refine hR.mono ?_
   rintro e W3 (⟨rfl,hJ3,hk3⟩ | ⟨rfl,hJx3⟩)
   ·gi_wp2
    go_end0
    exact ⟨⟨_,rfl⟩,.inl ⟨_,by rw [← hpre,hdots];simp,hJ3⟩⟩
   ·gi_wp2
    go_end0
    exact ⟨⟨_,rfl⟩,.inr ⟨_,by rw [← hpre,hdots];exact ⟨[],by simp⟩,hJx3⟩⟩
  ·generalize hix:Lib.indexByte rest.data.toList 46=ix at hge hlt
   have hb0:decide (ix < 0)=false:=decide_eq_false hlt
   obtain ⟨i,rfl⟩:∃ i:Nat,ix=i:=⟨ix.toNat,by omega⟩
   obtain ⟨hat,_⟩:=Lib.indexByte_some hix
   have hil:i < rest.size:=by
    have:=(List.getElem?_eq_some_iff.1 hat).1
    have h2:rest.data.toList.length=rest.size:=Array.length_toList
    omega
   have hw0:wrap64 ((i:Int)+0)=(i:Int):=by rw [Int.add_zero];exact (by unfold wrap64;omega)
   have hw1:wrap64 ((i:Int)+1)=(i:Int)+1:=by unfold wrap64;omega
   have hc1:(0:Int)≤(i:Int):=by omega
   have hc2:(i:Int)≤(rest.size:Int):=by omega
   have hc3:(0:Int)≤(i:Int)+1:=by omega
   have hc4:(i:Int)+1≤(rest.size:Int):=by omega
   have hxs:(rest.extract 0 i).size≤1000000:=by rw [ByteArray.size_extract];omega
   have hx1:(rest.extract 0 i).data.toList=rest.data.toList.take i:=by simp
   have hx2:(rest.extract (i+1) rest.size).data.toList=rest.data.toList.drop (i+1):=by
    have h2:rest.data.toList.length=rest.size:=Array.length_toList
    simp [List.take_of_length_le,h2]
   obtain ⟨fn,tmps,assign,body,hy,hR⟩:=hY pre ⟨rest.extract 0 i,hxs⟩ wr hJ (by omega)
   dsimp only at hy
   gi_wp2_with (refine ⟨trivial,?_⟩;gi_at_call 155;refine (callsIn_wide.2 (Tryz.strings_Index_one rest 46 _)).mono ?_;rintro e w9 ⟨rfl,rfl⟩;rw [hix])
   refine hR.mono ?_
   rintro e W3 (⟨rfl,hJ3,hk3⟩ | ⟨rfl,hJx3⟩)
   ·have bS3:=hk3 _ _ _ (Or.inr (Or.inl rfl)) bS
    have bP3:=hk3 _ _ _ (Or.inl rfl) bP
    have bV3:=hk3 _ _ _ (Or.inr (Or.inr rfl)) bV
    have hcS3:=bS3.cell
    have hfS3:=bS3.frozen
    have hcP3:=bP3.cell
    gi_wp2
    go_roundw
    case rel =>
     refine ⟨pre++[⟨rest.extract 0 i,hxs⟩],rest.extract (i+1) rest.size,?_,?_,bS3.set _,bP3.kept (grownBy_setCell' _ _ _) (by simpa using hne1),bV3.kept (grownBy_setCell' _ _ _) (by simpa using hne2),hJs _ _ _ hJ3⟩
     ·rw [hx2,List.map_append,List.append_assoc,← hpre,dots_some hix]
      simp only [List.map_cons,List.map_nil,hx1]
      rfl
     ·simp only [List.length_append,List.length_cons,List.length_nil,ByteArray.size_extract]
      omega
    case measure =>
     rw [strAt_of (bS3.set _).cell,strAt_of hcS,ByteArray.size_extract]
     omega
   ·gi_wp2
    refine bodyPost_ret (results_none rfl _ _ _) rfl ?_
    exact ⟨⟨_,rfl⟩,.inr ⟨_,⟨dots (rest.data.toList.drop (i+1)),by rw [← hpre,dots_some hix,List.map_append,List.append_assoc];simp only [List.map_cons,List.map_nil,hx1];rfl⟩,hJx3⟩⟩
theorem splitSeq_calls (a b:ByteArray) (c:Int) (w:World) :
 Calls Tryz.prog 135 #[.string a,.string b,.int .i64 c] w fun e w'=>e=.returned (.func (.func 154) #[] #[.pointer (some ⟨w.heap.size+1,0,none⟩),.pointer (some ⟨w.heap.size,0,none⟩),.pointer (some ⟨w.heap.size+2,0,none⟩)])∧w'=((w.alloc (.cells #[.string a] 9)).alloc (.cells #[.string b] 9)).alloc (.cells #[.int .i64 c] 3):=by
 go_enter Tryz.func135,Tryz.ntmps135
 go_wp2
 go_ret
 exact ⟨rfl,rfl⟩
theorem SplitSeq_calls (a b:ByteArray) (w:World) :
 Calls Tryz.prog 112 #[.string a,.string b] w fun e w'=>e=.returned (.func (.func 154) #[] #[.pointer (some ⟨w.heap.size+1,0,none⟩),.pointer (some ⟨w.heap.size,0,none⟩),.pointer (some ⟨w.heap.size+2,0,none⟩)])∧w'=((w.alloc (.cells #[.string a] 9)).alloc (.cells #[.string b] 9)).alloc (.cells #[.int .i64 0] 3):=by
 go_enter Tryz.func112,Tryz.ntmps112
 go_wp2_with (go_at_call 135;refine (splitSeq_calls _ _ _ _).mono ?_;rintro e w9 ⟨rfl,rfl⟩)
 go_ret
 exact ⟨rfl,rfl⟩
def parsePost (fn:Func) (R:Ending→World→Prop):Exit→Act→World→Prop
 | .normal,a,w=>LeavesInM Fence.wide 3 Tryz.prog fn a.tmps R a.defers .returning w
 | .ret,a,w=>LeavesInM Fence.wide 3 Tryz.prog fn a.tmps R a.defers .returning w
 | _,_,_=>False
theorem parsePost_to (fn:Func) (R:Ending→World→Prop):∀ (e:Exit) (a:Act) (w:World),parsePost fn R e a w→bodyPostM Fence.wide 3 Tryz.prog fn R e a w
 | .normal,_,_,h=>h
 | .ret,_,_,h=>h
 | .panic _,_,_,h=>h.elim
 | .outgrown,_,_,h=>h.elim
 | .exit _,_,_,h=>h.elim
 | .goto _,_,_,h=>h.elim
theorem parse_results (tmps:Array Value) (w:World) {R1 R2:Nat} {x y:Value} (hp:tmps.getD 2 undef=.pointer (some ⟨R1,0,none⟩)) (hq:tmps.getD 3 undef=.pointer (some ⟨R2,0,none⟩)) (h1:w.cell? ⟨R1,0,none⟩=some x) (h2:w.cell? ⟨R2,0,none⟩=some y) :
 (results Tryz.f74 tmps).run Tryz.prog w=.ok (.tuple #[x,y]) w:=by
 have hp':tmps[2]?.getD undef=.pointer (some ⟨R1,0,none⟩):=by simpa using hp
 have hq':tmps[3]?.getD undef=.pointer (some ⟨R2,0,none⟩):=by simpa using hq
 simp [results,Tryz.f74,hp',hq',asAddr,h1,h2,go_sem]
theorem parse_at {W:World} {b b':Nat} {t:TypeId} {v:Value} (h:b=b') (hb:Boxed W b t v):Boxed W b' t v:=h ▸ hb
def parseI (w:World) (pre:List { s:ByteArray // s.size≤1000000 }) (W:World):Prop :=
 (∀ x∈pre,(partP x).2=true)∧Boxed W w.heap.size 41 (.slice none 0 0)∧Boxed W (w.heap.size+1) 4 (.bool false)∧w.heap.size+6≤W.heap.size ∧
  (∃ v,Boxed W (w.heap.size+2) 41 v∧W.ownsRow (w.heap.size+6) 3 1 v pre.length (pre.map fun x=>Value.int .i64 (partP x).1))∧Below w.heap.size w W
def parseX (w:World) (c:Code) (pre:List { s:ByteArray // s.size≤1000000 }) (W:World):Prop :=
 c=.ret∧(∃ x∈pre,(partP x).2=false)∧Boxed W w.heap.size 41 (.slice none 0 0)∧Boxed W (w.heap.size+1) 4 (.bool false)∧Below w.heap.size w W
theorem boxed_turn {A B:World} {row:Option Nat} {b:Nat} {t:TypeId} {v:Value} (h:Boxed A b t v) (hg:A.grownBy B row) (hr:∀ r,row=some r→∃ o:Obj,A.heap[r]? = some o∧o.isCells=false):Boxed B b t v :=
 h.kept hg (fun e=>by
  obtain ⟨o,ho,hc⟩:=hr b e.symm
  rw [show A.heap[b]? = _ from h] at ho
  cases ho
  cases hc)
theorem row_turn {A B:World} {row:Option Nat} {base:Nat} {e:TypeId} {size:Nat} {v:Value} {n:Nat} {xs:List Value} (h:A.ownsRow base e size v n xs) (hg:A.grownBy B row) (hr:∀ r,row=some r→∃ o:Obj,A.heap[r]? = some o∧o.isCells=false):B.ownsRow base e size v n xs :=
 h.kept hg (by
  rcases h.2 with ⟨rfl,_⟩ | ⟨g,cap,cur,rfl,_,hgb,_⟩
  ·exact .inl rfl
  ·refine .inr fun e'=>?_
   obtain ⟨o,ho,hc⟩:=hr g (by simpa [Value.ownBlock] using e'.symm)
   rw [hgb] at ho
   cases ho
   cases hc)
theorem row_above {A:World} {base b:Nat} {e:TypeId} {size:Nat} {v:Value} {n:Nat} {xs:List Value} (h:A.ownsRow base e size v n xs) (hb:b < base):v.ownBlock≠some b:=by
 rcases h.2 with ⟨rfl,_⟩ | ⟨g,cap,cur,rfl,hg,_⟩
 ·simp [Value.ownBlock]
 ·intro e'
  obtain rfl:g=b:=by simpa [Value.ownBlock] using e'
  omega
theorem row_turn_none {A:World} {base:Nat} {e:TypeId} {size:Nat} {v:Value} {n:Nat} {xs:List Value} (h:A.ownsRow base e size v n xs):v.ownBlock=none∨v.ownBlock≠none:=by
 cases v.ownBlock with
 | none=>exact .inl rfl
 | some b=>exact .inr (by simp)
theorem row_app {W w1:World} {n₀:Nat} {e:TypeId} {size:Nat} {v:Value} {k:Nat} {xs:List Value} {tmp:Obj} (hrow:W.ownsRow n₀ e size v k xs) (hgrow:(W.alloc tmp).grownBy w1 v.ownBlock):KeepsOthers W w1 :=
 (KeepsOthers.alloc W tmp).trans (KeepsOthers.of_grownBy hgrow fun j o ej hj=>by
  rcases (hrow.alloc tmp).2 with ⟨rfl,_⟩ | ⟨g,cap,cur,rfl,_,hgb,_⟩
  ·simp [Value.ownBlock] at ej
  ·obtain rfl:g=j:=by simpa [Value.ownBlock] using ej
   rw [hgb] at hj
   cases hj
   rfl)
theorem keeps_below {W W':World} (B:Nat) (hb:Below W.heap.size W W'):KeepsFrom B W W':=⟨hb.size,fun k o _ hk _=>(hb.block k (Array.getElem?_eq_some_iff.1 hk).1).trans hk⟩
theorem parseI_own (w:World) (B:Nat) (hB:w.heap.size≤B):OwnFrom B (parseI w):=fun pre X Y row hs hg hr=>by
 obtain ⟨h1,h2,h3,h4,⟨v,h5,h6⟩,h7⟩:=hs
 have hr2:=fun r e=>(hr r e).2
 exact ⟨h1,boxed_turn h2 hg hr2,boxed_turn h3 hg hr2,Nat.le_trans h4 hg.size,⟨v,boxed_turn h5 hg hr2,row_turn h6 hg hr2⟩,ownFrom_below (β:=Unit) (Nat.le_refl _) hB () X Y row h7 hg hr⟩
theorem parseX_own (w:World) (B:Nat) (hB:w.heap.size≤B) (c:Code):OwnFrom B (parseX w c):=fun pre X Y row hs hg hr=>by
 obtain ⟨h1,h2,h3,h4,h7⟩:=hs
 have hr2:=fun r e=>(hr r e).2
 exact ⟨h1,h2,boxed_turn h3 hg hr2,boxed_turn h4 hg hr2,ownFrom_below (β:=Unit) (Nat.le_refl _) hB () X Y row h7 hg hr⟩
theorem parseI_set (w:World) (pre:List { s:ByteArray // s.size≤1000000 }) (A:World) (v:Value) (h:parseI w pre A):parseI w pre (A.setCell ⟨w.heap.size+3,0,none⟩ v):=by
 obtain ⟨h1,h2,h3,h4,⟨v',h5,h6⟩,h7⟩:=h
 exact ⟨h1,h2.other (by omega) v,h3.other (by omega) v,Nat.le_trans h4 (grownBy_setCell' A _ v).size,⟨v',h5.other (by omega) v,h6.kept (grownBy_setCell' A _ v) (.inr (row_above h6 (by omega)))⟩,h7.setCell (p:=⟨w.heap.size+3,0,none⟩) (by simp) v⟩
theorem parseInfo:(Tryz.prog.info? 3).map (fun i=>(i.zero,i.size,i.bytes))=some (some (.int .i64 0),1,8):=by kernel_rfl
theorem oid_Parse.right {k:Nat} {arcs:List Int} {t:Bool} {p:Pub} {W:World} {g cap:Nat} (h:oid_Right.f k arcs=some t) (hp:∀ b,p b→b < W.heap.size) (ht:Tabs.t p W) (hc:arcs.length≤cap) (hg:g < W.heap.size)
 (hs:∀ j x,arcs[j]? = some x→∃ b o,some (⟨g,0,none⟩:Addr)=some ⟨b,o,none⟩∧(p b∨b=g)∧W.cell? ⟨b,o+j,none⟩=some (Value.int .i64 x)) :
 Calls Tryz.prog 53 #[.slice (some ⟨g,0,none⟩) arcs.length cap] W fun e w'=>e=.returned (.bool t)∧Below W.heap.size W w':=by
 refine ((oid_Right.con h).2 (fun b=>p b∨b=g) W [.slice (some ⟨g,0,none⟩) arcs.length cap] (fun b hb=>hb.elim (hp b) (fun e=>e ▸ hg)) (Tabs.s (p:=p) ⟨fun b hb=>.inl hb,fun _ _=>rfl⟩ ht)
  (RepL.cons (A:=[]) (B:=[]) (Rep.of_shared (enc:=Value.int .i64) rfl (fun x=>by simp [Value.oneCell']) hc hs) .nil)).mono ?_
 rintro e w' ⟨v,T,q,he,hb,_,_,_,hv⟩
 exact ⟨by rw [he,hv.lit_inv],below_of_calm hb⟩
theorem oid_Parse.lower {w:World} {b b':Nat} {e:TypeId} {size:Nat} {v:Value} {n:Nat} {xs:List Value} (h:w.ownsRow b e size v n xs) (hb:b'≤b):w.ownsRow b' e size v n xs:=by
 refine ⟨h.1,?_⟩
 rcases h.2 with h | ⟨g,cap,cur,a,hg,r⟩
 ·exact .inl h
 ·exact .inr ⟨g,cap,cur,a,Nat.le_trans hb hg,r⟩
set_option maxHeartbeats 8000000 in
set_option maxRecDepth 100000 in
theorem oid_Parse.calls (k:Nat) (a0:ByteArray) (r1:List Int) (r2:Bool) (p:Pub) (w:World) (hp:∀ b,p b→b < w.heap.size) (ht:Tabs.t p w) (h:oid_Parse.f k a0=some (r1,r2)) :
 Calls Tryz.prog 74 #[.string a0] w fun e w'=>∃ v0_:Value,e=.returned (.tuple #[v0_,.bool r2])∧w'.ownsRow w.heap.size 3 1 v0_ r1.length (r1.map (Value.int .i64))∧Below w.heap.size w w':=by
 have H:=Asd.mk h
 have HP:=Asd.mk hp
 have HT_:=Asd.mk ht
 clear h hp ht
 have hsz:a0.size≤1000000:=by
  have h:=H.out
  unfold oid_Parse.f at h
  by_cases hc:a0.size≤1000000
  ·exact hc
  ·rw [if_neg hc] at h;cases h
 refine callsIn_wide.1 (callsIn_of_wp_marks (F:=Fence.wide) (n:=3) Tryz.func74 rfl trivial ?_ rfl)
 refine wpIn_mono (wpIn_wide.2 ?_) (parsePost_to Tryz.f74 _)
 simp only [Tryz.ntmps74,List.size_toArray,List.length_cons,List.length_nil,Nat.reduceAdd,Nat.reduceSub,Array.replicate_succ,Array.replicate_zero,List.push_toArray,List.append_toArray,List.nil_append,List.cons_append]
 go_upto_region 2 with fail
 iterate 6 (try (first | go_values | go_skip | go_guarded | go_step | go_upon))
 refine (SplitSeq_calls _ _ _).mono ?_
 rintro e w' ⟨rfl,rfl⟩
 dsimp only
 iterate 4 (try (first | go_values | go_skip | go_guarded | go_step | go_upon | go_back))
 refine wp_block ?_
 refine (wpIn_wide (n:=3)).1 ?_
 simp only [World.size_alloc,Nat.add_assoc,Nat.reduceAdd]
 obtain ⟨W0,hW0⟩:∃ W0,((((((w.alloc (.cells #[.slice none 0 0] 41)).alloc (.cells #[.bool false] 4)).alloc (.cells #[.slice none 0 0] 41)).alloc (.cells #[.string a0] 9)).alloc (.cells #[.string ⟨#[46]⟩] 9)).alloc (.cells #[.int .i64 0] 3))=W0:=⟨_,rfl⟩
 rw [hW0]
 have hsz0:W0.heap.size=w.heap.size+6:=by rw [← hW0];simp
 have g0:Boxed W0 w.heap.size 41 (.slice none 0 0):=by rw [← hW0];exact (((((Boxed.new w 41 _).alloc _).alloc _).alloc _).alloc _).alloc _
 have g1:Boxed W0 (w.heap.size+1) 4 (.bool false):=by rw [← hW0];exact parse_at (by simp) ((((Boxed.new (w.alloc (.cells #[.slice none 0 0] 41)) 4 _).alloc _).alloc _).alloc _ |>.alloc _)
 have g2:Boxed W0 (w.heap.size+2) 41 (.slice none 0 0):=by rw [← hW0];exact parse_at (by simp) (((Boxed.new ((w.alloc (.cells #[.slice none 0 0] 41)).alloc (.cells #[.bool false] 4)) 41 _).alloc _).alloc _ |>.alloc _)
 have g3:Boxed W0 (w.heap.size+3) 9 (.string a0):=by rw [← hW0];exact parse_at (by simp) ((Boxed.new (((w.alloc (.cells #[.slice none 0 0] 41)).alloc (.cells #[.bool false] 4)).alloc (.cells #[.slice none 0 0] 41)) 9 _).alloc _ |>.alloc _)
 have g4:Boxed W0 (w.heap.size+4) 9 (.string ⟨#[46]⟩):=by rw [← hW0];exact parse_at (by simp) (Boxed.new ((((w.alloc (.cells #[.slice none 0 0] 41)).alloc (.cells #[.bool false] 4)).alloc (.cells #[.slice none 0 0] 41)).alloc (.cells #[.string a0] 9)) 9 _ |>.alloc _)
 have g5:Boxed W0 (w.heap.size+5) 3 (.int .i64 0):=by rw [← hW0];exact parse_at (by simp) (Boxed.new (((((w.alloc (.cells #[.slice none 0 0] 41)).alloc (.cells #[.bool false] 4)).alloc (.cells #[.slice none 0 0] 41)).alloc (.cells #[.string a0] 9)).alloc (.cells #[.string ⟨#[46]⟩] 9)) 3 _)
 have gB:Below w.heap.size w W0:=by rw [← hW0];exact (((((((Below.refl _ w).alloc (Nat.le_refl _) _).alloc (by simp) _).alloc (by simp;omega) _).alloc (by simp;omega) _).alloc (by simp;omega) _).alloc (by simp;omega) _)
 clear hW0
 refine wpIn_rangeFunc_box (α:={ s:ByteArray // s.size≤1000000 }) (encs:=fun x=>#[.string x.1]) (Kp:=spK (w.heap.size+4) (w.heap.size+3) (w.heap.size+5)) (S:=fun xs=>xs.map (fun x=>x.1.data.toList)=dots a0.data.toList) (Sp:=fun pre=>pre.map (fun x=>x.1.data.toList) <+: dots a0.data.toList) (N:=1000002) (Bs:=w.heap.size+3) rfl (by omega) (gf:=154)
  (lb:=#[.pointer (some ⟨w.heap.size+4,0,none⟩),.pointer (some ⟨w.heap.size+3,0,none⟩),.pointer (some ⟨w.heap.size+5,0,none⟩)]) rfl trivial (enters_of Tryz.func154 (by kernel_rfl) rfl) (by omega)
  (fun l J Jx W hW hJs hY h0=>splitSeq1_in (3 - 1) (by omega) l _ _ _ a0 hsz (by omega) (by omega) J Jx hJs hY W ((hW.block _ g4.lt).trans g4) ((hW.block _ g3.lt).trans g3) ((hW.block _ g5.lt).trans g5) h0)
  (fun h k b t v hb hx=>k b t v hb (h b t v hb hx)) (fun W l o o' _ ho h1 _ b t v hb hx=>boxed_turn hx (grownBy_putObj' W l o') (fun r e=>by cases e;exact ⟨o,ho,h1⟩)) (fun _=>rfl)
  (parseI w) (parseX w) (parseI_own w _ (by omega)) (parseI_set w) (fun c=>parseX_own w _ (by omega) c) ⟨by simp,g0,g1,by omega,⟨_,g2,World.ownsRow_nil _ _ _ _⟩,gB⟩
  (fun x=>{ tmps:=#[.string a0,undef,.pointer (some ⟨w.heap.size,0,none⟩),.pointer (some ⟨w.heap.size+1,0,none⟩),.pointer (some ⟨w.heap.size+2,0,none⟩),.string x.1,undef,undef,.string a0,
    .func (.func 154) #[] #[.pointer (some ⟨w.heap.size+4,0,none⟩),.pointer (some ⟨w.heap.size+3,0,none⟩),.pointer (some ⟨w.heap.size+5,0,none⟩)],.string x.1,undef,undef,undef,undef,undef,undef,undef,undef,undef,undef,undef,undef,undef,undef,undef],defers:=[] }) ?assign ?body ?done ?stop
 case assign =>
  intro l x W K hK
  gi_wp2
  exact hK
 case body =>
  rintro l pre x W ⟨h1,b0,b1,b3,⟨v,b2,hrow⟩,hB⟩ hlt
  have hu:digits_Unnum.f x.1=some (digits_Unnum.of x.1):=by
   unfold digits_Unnum.f
   rw [if_pos (by have:=x.2;omega)]
  have HTB:=Asd.mk (tabs_below HP.out HT_.out hB)
  have HPB:=Asd.mk (hp_below HP.out hB)
  cases hp:digits_Unnum.of x.1 with
  | mk pn pb =>
   rw [hp] at hu
   have HU:=Asd.mk hu
   have HI:=Asd.mk h1
   clear hu h1
   cases pb with
   | false =>
    have HX:=Asd.mk (And.intro b0 (And.intro b1 hB))
    clear b2 b3 hrow hB
    gi_wp2_with (refine ⟨trivial,?_⟩;gi_at_call 113;refine (CallsIn.inRound l (callsIn_wide.2 (digits_Unnum.calls x.1 pn false p W HPB.out HTB.out HU.out))).mono ?_;rintro e w9 ⟨rfl,hb⟩;have c0:Boxed w9 _ _ _:=(hb.block _ b0.lt).trans b0;have c1:Boxed w9 _ _ _:=(hb.block _ b1.lt).trans b1;have d0:=c0.cell;have d1:=c1.cell;have e0:=c0.frozen;have e1:=(c1.other (by omega) (.slice none 0 0):Boxed (w9.setCell ⟨w.heap.size,0,none⟩ _) _ _ _).frozen;have HC:=Asd.mk (And.intro c0 (And.intro c1 hb));clear c0 c1 hb)
    obtain ⟨b0,b1,hB⟩:=HX.out
    obtain ⟨c0,c1,hb⟩:=HC.out
    refine ⟨(keeps_below _ hb).trans (((KeepsOthers.setCell _ _ _).trans (KeepsOthers.setCell _ _ _)).from _),rfl,⟨x,by simp,by unfold partP;rw [hp]⟩,(c0.set _).other (by omega) _,(c1.other (by omega) _).set _,((hB.trans (hb.mono hB.size)).setCell (p:=⟨w.heap.size,0,none⟩) (Nat.le_refl _) _).setCell (p:=⟨w.heap.size+1,0,none⟩) (by simp) _⟩
   | true =>
    have hml:pre.length+1≤maxLen:=by unfold maxLen;omega
    obtain ⟨i0,hi,hz0,hz1,hz2⟩:=info_parts parseInfo
    gi_wp2_with (first | (refine ⟨trivial,?_⟩;gi_at_call 113;refine (CallsIn.inRound l (callsIn_wide.2 (digits_Unnum.calls x.1 pn true p W HPB.out HTB.out HU.out))).mono ?_;rintro e w9 ⟨rfl,hb⟩;have c2:Boxed w9 (w.heap.size+2) 41 v:=(hb.block _ b2.lt).trans b2;have d2:=c2.cell;have hrow9:w9.ownsRow (w.heap.size+6) 3 1 v pre.length (pre.map fun x=>Value.int .i64 (partP x).1):=hrow.kept (grown_below hb none) (row_turn_none hrow);have hs9:w.heap.size+6≤w9.heap.size:=Nat.le_trans b3 hb.size) | (gi_at_builtin;refine wpListIn_append_own _ rfl _ _ 41 rfl (w.heap.size+6) 3 i0 (.int .i64 0) 1 8 Tryz.underlying41 hi hz0 hz1 hz2 rfl (by decide) _ _ _ rfl (hrow9.alloc _) ⟨w9.heap.size,0,none⟩ 1 1 [.int .i64 pn] rfl rfl (cell_one_new _ _ _) (by simp [Value.oneCell']) hml (by omega) (by simp;omega) ?_;intro v' w1 hown' hgrow _;obtain ⟨g',cap',rfl⟩:=ownsRow_succ hown';have hgr:(w9.alloc (.cells #[.int .i64 pn] 3)).grownBy w1 v.ownBlock:=hgrow;clear hgrow;have hv3:Boxed w1 (w.heap.size+2) 41 v:=(c2.alloc _).kept hgr (row_above hrow9 (by omega)).symm;have hc1:=hv3.cell;have hf1:=hv3.frozen))
    have mv:∀ b t v2,b < w.heap.size+6→b≠w.heap.size+2→Boxed W b t v2→Boxed (w1.setCell ⟨w.heap.size+2,0,none⟩ (.slice (some ⟨g',0,none⟩) (pre.length+1) cap')) b t v2:=fun b t v2 h1 h2 hx =>
     Boxed.other ((Boxed.alloc (show Boxed w9 b t v2 from (hb.block _ hx.lt).trans hx) _).kept hgr (row_above hrow9 h1).symm) h2 _
    refine ⟨(keeps_below _ hb).trans (((row_app hrow9 hgr).trans (KeepsOthers.setCell _ _ _)).from _),fun b t v2 hbx hx=>mv b t v2 (by omega) (by omega) hx,⟨?_,mv _ _ _ (by omega) (by omega) b0,mv _ _ _ (by omega) (by omega) b1,?_,⟨_,hv3.set _,?_⟩,?_⟩⟩
    ·intro y hy
     rcases List.mem_append.1 hy with h | h
     ·exact HI.out y h
     ·rw [List.mem_singleton] at h
      subst h
      unfold partP
      rw [hp]
    ·have e1:=hgr.size
     have e2:=(grownBy_setCell' w1 (w.heap.size+2) (.slice (some ⟨g',0,none⟩) (pre.length+1) cap')).size
     rw [World.size_alloc] at e1
     omega
    ·have e:=hown'.kept (grownBy_setCell' w1 (w.heap.size+2) (.slice (some ⟨g',0,none⟩) (pre.length+1) cap')) (.inr (row_above hown' (by omega)))
     have e3:(partP x).1=pn:=by unfold partP;rw [hp]
     rw [List.length_append,List.map_append,List.map_cons,List.map_nil,e3]
     exact e
    ·exact (((((hB.trans (hb.mono hB.size)).alloc (by omega) _).grown hgr (by simp;omega) (fun j ej=>by
      rcases hrow9.2 with ⟨rfl,_⟩ | ⟨g2,cap2,cur2,rfl,hg2,_,_⟩
      ·simp [Value.ownBlock] at ej
      ·obtain rfl:g2=j:=by simpa [Value.ownBlock] using ej
       omega))).setCell (p:=⟨w.heap.size+2,0,none⟩) (by simp) _)
 case stop =>
  rintro D c pre W hD hSp ⟨rfl,⟨x,hx,hxf⟩,b0,b1,hB⟩ hK
  have hn:parseP (dots a0.data.toList)=none:=by
   obtain ⟨r,hr⟩:=hSp
   unfold parseP
   rw [if_neg]
   intro hall
   have:=List.all_eq_true.1 hall x.1.data.toList (by rw [← hr];exact List.mem_append_left _ (List.mem_map_of_mem hx))
   unfold partP at hxf
   rw [show (⟨x.1.data.toList.toArray⟩:ByteArray)=x.1 from by simp] at this
   rw [hxf] at this
   cases this
  have h:=H.out
  unfold oid_Parse.f at h
  rw [if_pos hsz,hn] at h
  cases h
  have d0:=b0.cell
  have d1:=b1.cell
  have HK:=Asd.mk hK
  have HX:=Asd.mk (And.intro b0 (And.intro b1 hB))
  clear b0 b1 hB hK
  refine wpIn_ret ?_
  refine ⟨by simp,.inl ⟨_,_,rfl,run_takeDeferred HK.out,?_⟩⟩
  obtain ⟨b0,b1,hB⟩:=HX.out
  have hr:=fun r (e:some D=some r)=>(by cases e;exact ⟨_,HK.out,rfl⟩:∃ o:Obj,W.heap[r]? = some o∧o.isCells=false)
  exact ⟨_,parse_results _ _ rfl rfl (boxed_turn b0 (grownBy_putObj' W D _) hr).cell (boxed_turn b1 (grownBy_putObj' W D _) hr).cell,_,rfl,World.ownsRow_nil _ _ _ _,hB.grown (grownBy_putObj' W D _) hB.size (fun j e=>by cases e;omega)⟩
 case done =>
  rintro D ys W hD hS ⟨h1,b0,b1,b3,⟨v,b2,hrow⟩,hB⟩ hK
  obtain ⟨arcs,harcs⟩:∃ arcs:List Int,arcs=ys.map fun x=>(partP x).1:=⟨_,rfl⟩
  have hn:parseP (dots a0.data.toList)=some arcs:=by
   unfold parseP
   rw [← hS,if_pos,harcs,List.map_map]
   ·rfl
   ·rw [List.all_map,List.all_eq_true]
    exact fun y hy=>h1 y hy
  have hpos:0 < arcs.length:=by
   rw [harcs,List.length_map]
   rcases ys with _ | ⟨y,ys⟩
   ·exact absurd hS.symm (dots_ne _)
   ·simp
  have h:=H.out
  unfold oid_Parse.f at h
  rw [if_pos hsz,hn] at h
  obtain ⟨t,ht,h⟩:=Option.bind_eq_some_iff.1 h
  have hrow2:W.ownsRow (w.heap.size+6) 3 1 v arcs.length (arcs.map (Value.int .i64)):=by
   rw [harcs,List.length_map]
   have e:(ys.map fun x=>(partP x).1).map (Value.int .i64)=ys.map fun x=>Value.int .i64 (partP x).1:=by simp
   rw [e]
   exact hrow
  have ho:=hrow2
  rcases hrow2.2 with ⟨_,h0⟩ | ⟨g,cap,cur0,rfl,hg1,hg2,hg3⟩
  ·omega
  have HCP:=Asd.mk hg3.1
  have HGL:=Asd.mk (Array.getElem?_eq_some_iff.1 hg2).1
  have HQP:=Asd.mk (hp_below HP.out hB)
  have HQT:=Asd.mk (tabs_below HP.out HT_.out hB)
  clear hg2 hg3
  have HCS:Asd (∀ j x,arcs[j]? = some x→∃ b o,some (⟨g,0,none⟩:Addr)=some ⟨b,o,none⟩∧(p b∨b=g)∧W.cell? ⟨b,o+j,none⟩=some (Value.int .i64 x)):=⟨fun j x hj=>⟨g,0,rfl,.inr rfl,by
   have h1:=ho.cells (g:=g) rfl j (.int .i64 x) (by rw [List.getElem?_map,hj];rfl)
   have ha:(⟨g,0,none⟩:Addr).add j=⟨g,j,none⟩:=by unfold Addr.add;split<;>simp_all
   rw [ha] at h1
   rw [Nat.zero_add]
   exact h1⟩⟩
  have HO:=Asd.mk ho
  have HT:=Asd.mk ht
  have HG:=Asd.mk hg1
  have d0:=b0.cell
  have d1:=b1.cell
  have d2:=b2.cell
  have e0:=b0.frozen
  have HK:=Asd.mk hK
  have HX:=Asd.mk (And.intro b0 (And.intro b1 hB))
  have HD:=Asd.mk hD
  have HB2:=Asd.mk b2
  have HR2:=Asd.mk hrow2
  clear ho ht hg1 b0 b1 b2 hB hK hrow hrow2 hD hS h1 hn harcs
  cases t with
  | true =>
   rw [if_pos rfl] at h
   simp only [Option.some.injEq,Prod.mk.injEq] at h
   obtain ⟨h2,rfl⟩:=h
   subst h2
   go_wp2_with (go_at_call 53;refine (oid_Parse.right HT.out HQP.out HQT.out HCP.out HGL.out HCS.out).mono ?_;rintro e w9 ⟨rfl,hb⟩;have c0:Boxed w9 _ _ _:=(hb.block _ HX.out.1.lt).trans HX.out.1;have c1:Boxed w9 _ _ _:=(hb.block _ HX.out.2.1.lt).trans HX.out.2.1;have c2:Boxed w9 _ _ _:=(hb.block _ HB2.out.lt).trans HB2.out;have d0:=c0.cell;have d1:=c1.cell;have d2:=c2.cell;have e0:=c0.frozen;have e1:=(c1.other (by omega) (.slice (some ⟨g,0,none⟩) arcs.length cap):Boxed (w9.setCell ⟨w.heap.size,0,none⟩ _) _ _ _).frozen;have HC:=Asd.mk (And.intro c0 (And.intro c1 hb));clear c0 c1 c2 hb)
   obtain ⟨c0,c1,hb⟩:=HC.out
   obtain ⟨W2,hW2⟩:∃ W2,((w9.setCell ⟨w.heap.size,0,none⟩ (.slice (some ⟨g,0,none⟩) arcs.length cap)).setCell ⟨w.heap.size+1,0,none⟩ (.bool true))=W2:=⟨_,rfl⟩
   have hd:w.heap.size+6≤D:=by have:=HD.out;omega
   have hk2:W2.heap[D]? = some (.deferred (some [])):=by
    rw [← hW2,setCell_at _ _ _ _ (by omega),setCell_at _ _ _ _ (by omega)]
    exact (hb.block D (Array.getElem?_eq_some_iff.1 HK.out).1).trans HK.out
   have f0:Boxed W2 w.heap.size 41 (.slice (some ⟨g,0,none⟩) arcs.length cap):=by rw [← hW2];exact (c0.set _).other (by omega) _
   have f1:Boxed W2 (w.heap.size+1) 4 (.bool true):=by rw [← hW2];exact (c1.other (by omega) _).set _
   have hB2:Below w.heap.size w W2:=by rw [← hW2];exact ((HX.out.2.2.trans (hb.mono HX.out.2.2.size)).setCell (p:=⟨w.heap.size,0,none⟩) (Nat.le_refl _) _).setCell (p:=⟨w.heap.size+1,0,none⟩) (by simp) _
   have fr:W2.ownsRow (w.heap.size+6) 3 1 (.slice (some ⟨g,0,none⟩) arcs.length cap) arcs.length (arcs.map (Value.int .i64)):=by
    rw [← hW2]
    have q0:=HR2.out.kept (grown_below hb none) (row_turn_none HR2.out)
    have q1:=q0.kept (grownBy_setCell' w9 w.heap.size (.slice (some ⟨g,0,none⟩) arcs.length cap)) (.inr (row_above q0 (by omega)))
    exact q1.kept (grownBy_setCell' _ (w.heap.size+1) (.bool true)) (.inr (row_above q1 (by omega)))
   rw [hW2]
   clear hW2
   have hr:=fun r (e:some D=some r)=>(by cases e;exact ⟨_,hk2,rfl⟩:∃ o:Obj,W2.heap[r]? = some o∧o.isCells=false)
   refine ⟨by simp,.inl ⟨_,_,rfl,run_takeDeferred hk2,?_⟩⟩
   exact ⟨_,parse_results _ _ rfl rfl (boxed_turn f0 (grownBy_putObj' W2 D _) hr).cell (boxed_turn f1 (grownBy_putObj' W2 D _) hr).cell,_,rfl,oid_Parse.lower (ownsRow_putObj fr _ hk2 rfl) (Nat.le_add_right _ 6),hB2.grown (grownBy_putObj' W2 D _) hB2.size (fun j e=>by cases e;omega)⟩
  | false =>
   rw [if_neg (by decide)] at h
   cases h
   go_wp2_with (go_at_call 53;refine (oid_Parse.right HT.out HQP.out HQT.out HCP.out HGL.out HCS.out).mono ?_;rintro e w9 ⟨rfl,hb⟩;have c0:Boxed w9 _ _ _:=(hb.block _ HX.out.1.lt).trans HX.out.1;have c1:Boxed w9 _ _ _:=(hb.block _ HX.out.2.1.lt).trans HX.out.2.1;have c2:Boxed w9 _ _ _:=(hb.block _ HB2.out.lt).trans HB2.out;have d0:=c0.cell;have d1:=c1.cell;have d2:=c2.cell;have e0:=c0.frozen;have e1:=(c1.other (by omega) (.slice none 0 0):Boxed (w9.setCell ⟨w.heap.size,0,none⟩ _) _ _ _).frozen;have HC:=Asd.mk (And.intro c0 (And.intro c1 hb));clear c0 c1 c2 hb)
   obtain ⟨c0,c1,hb⟩:=HC.out
   obtain ⟨W2,hW2⟩:∃ W2,((w9.setCell ⟨w.heap.size,0,none⟩ (.slice none 0 0)).setCell ⟨w.heap.size+1,0,none⟩ (.bool false))=W2:=⟨_,rfl⟩
   have hd:w.heap.size+6≤D:=by have:=HD.out;omega
   have hk2:W2.heap[D]? = some (.deferred (some [])):=by
    rw [← hW2,setCell_at _ _ _ _ (by omega),setCell_at _ _ _ _ (by omega)]
    exact (hb.block D (Array.getElem?_eq_some_iff.1 HK.out).1).trans HK.out
   have f0:Boxed W2 w.heap.size 41 (.slice none 0 0):=by rw [← hW2];exact (c0.set _).other (by omega) _
   have f1:Boxed W2 (w.heap.size+1) 4 (.bool false):=by rw [← hW2];exact (c1.other (by omega) _).set _
   have hB2:Below w.heap.size w W2:=by rw [← hW2];exact ((HX.out.2.2.trans (hb.mono HX.out.2.2.size)).setCell (p:=⟨w.heap.size,0,none⟩) (Nat.le_refl _) _).setCell (p:=⟨w.heap.size+1,0,none⟩) (by simp) _
   rw [hW2]
   clear hW2
   have hr:=fun r (e:some D=some r)=>(by cases e;exact ⟨_,hk2,rfl⟩:∃ o:Obj,W2.heap[r]? = some o∧o.isCells=false)
   refine ⟨by simp,.inl ⟨_,_,rfl,run_takeDeferred hk2,?_⟩⟩
   exact ⟨_,parse_results _ _ rfl rfl (boxed_turn f0 (grownBy_putObj' W2 D _) hr).cell (boxed_turn f1 (grownBy_putObj' W2 D _) hr).cell,_,rfl,World.ownsRow_nil _ _ _ _,hB2.grown (grownBy_putObj' W2 D _) hB2.size (fun j e=>by cases e;omega)⟩
theorem oid_Parse.con {k:Nat} {a0:ByteArray} {r:List Int × Bool} (H:oid_Parse.f k a0=some r):Con Tryz.prog 74 [S a0] (.tup [.row (some 3) 1 (List.map I r.1),B r.2]):=by
 refine con_litsX Tryz.func74 rfl (by kernel_rfl) rfl fun p w hp ht=>(oid_Parse.calls k a0 r.1 r.2 p w hp ht H).mono ?_
 rintro e w' ⟨v,rfl,hr,hb⟩
 exact ⟨_,(v.ownBlock.toList++[])++([]++[]),rfl,hb,by simpa using ownBlock_nodup v,by simpa using ownBlock_in hr,fun _=>.tup (vs:=[v,.bool r.2]) (.cons (Rep.of_own (enc:=Value.int .i64) (fun x=>by simp [Value.oneCell']) hr) (.cons (A:=[]) (.lit _) .nil))⟩
end
def curve_Arcs.f (k:Nat) (a0:Int):Option (List Int):=(curve_line.f a0).bind fun t346=>((oid_Parse.f k t346.2.1).bind fun t348=>(some t348.1))
theorem curve_Arcs.con {k:Nat} {a0:Int} {r:(List Int)} (H:curve_Arcs.f k a0=some r):Con Tryz.prog 38 [I a0] (.row (some 3) 1 (List.map I r)):=by
 refine Cg Tryz.func38 rfl fun C hN hL=>?_
 unfold curve_Arcs.f at H
 refine Sw<|Rg hN<|Sw ?_
 obtain ⟨t346,h347,H⟩:=bindS H
 obtain ⟨t348,h349,H⟩:=bindS H
 refine Rh hN [.agg [S t346.1,S t346.2.1,S t346.2.2.1,I t346.2.2.2],.tup [.row (some 3) 1 (List.map I t348.1),B t348.2]] (.c2 (curve_line.con h347).c (oid_Parse.con h349).c)<|Sw<|Rg hN ?_
 cases H
 exact Rt dR
def tree_Leaf.f (a0:Int) (a1:Int) (a2:ByteArray):Option (List S55):=some ([(⟨a0,a1,false,a2,([]:List Int)⟩:S55)]:List S55)
theorem tree_Leaf.con {a0:Int} {a1:Int} {a2:ByteArray} {r:(List S55)} (H:tree_Leaf.f a0 a1 a2=some r):Con Tryz.prog 39 [I a0,I a1,S a2] (.row (some 55) 5 (List.map (v55 0) r)):=by
 refine Cg Tryz.func39 rfl fun C hN hL=>?_
 unfold tree_Leaf.f at H
 refine Sw<|Rg hN<|Sw<|Rj hN [] (.c1 (fitR (o:=some 55) (sz:=5) (n:=[.agg [I a0,I a1,B false,S a2,.row none 1 (List.map I ([]:List Int))]]) (.c1 (.agg (.c5 (.refl _) (.refl _) (.refl _) (.refl _) (.nilS 3 1 _)))))) [] [(11,.row (some 55) 5 (List.map (v55 0) ([(⟨a0,a1,false,a2,([]:List Int)⟩:S55)]:List S55)))] ?_
 cases H
 exact Rt dR
def putNums (n:Int):List Int:=[n / 72057594037927936 % 256,n / 281474976710656 % 256,n / 1099511627776 % 256,n / 4294967296 % 256,n / 16777216 % 256,n / 65536 % 256,n / 256 % 256,n % 256]
def octets_Put.f (a0:Int) (a1:Int):Option ByteArray:=if a1 < 1 then some (⟨#[]⟩:ByteArray) else if a1 > 8 then some (⟨#[]⟩:ByteArray) else some (strOfNums ((putNums a0).drop (8 - a1.toNat)))
theorem octets_Put.cells (w:World) (x0 x1 x2 x3 x4 x5 x6 x7:Int) (i:Nat) (hi:i < 8) :
 (w.alloc (.cells #[.int .u8 x0,.int .u8 x1,.int .u8 x2,.int .u8 x3,.int .u8 x4,.int .u8 x5,.int .u8 x6,.int .u8 x7] 164)).cell? ⟨w.heap.size,i,none⟩=some (.int .u8 ([x0,x1,x2,x3,x4,x5,x6,x7].getD i 0)):=by
 rw [World.cell?_alloc_new]
 match i,hi with
 | 0,_=>rfl
 | 1,_=>rfl
 | 2,_=>rfl
 | 3,_=>rfl
 | 4,_=>rfl
 | 5,_=>rfl
 | 6,_=>rfl
 | 7,_=>rfl
theorem octets_Put.conv (w:World) (k:Nat) (hk:k < 8) (x0 x1 x2 x3 x4 x5 x6 x7:Int) :
 (convert 64 9 (.slice (some ⟨w.heap.size,k,none⟩) (8 - k) (8 - k))).run Tryz.prog (w.alloc (.cells #[.int .u8 x0,.int .u8 x1,.int .u8 x2,.int .u8 x3,.int .u8 x4,.int .u8 x5,.int .u8 x6,.int .u8 x7] 164))=.ok (.string (strOfNums ([x0,x1,x2,x3,x4,x5,x6,x7].drop k))) (w.alloc (.cells #[.int .u8 x0,.int .u8 x1,.int .u8 x2,.int .u8 x3,.int .u8 x4,.int .u8 x5,.int .u8 x6,.int .u8 x7] 164)):=by
 refine run_convert_bytes_arg _ 64 5 Tryz.underlying64 Tryz.underlying5 w.heap.size k (8 - k) (8 - k) _ (by simp) (fun i hi=>?_) 9 Tryz.underlying9
 have:=octets_Put.cells w x0 x1 x2 x3 x4 x5 x6 x7 (k+i) (by omega)
 rw [this]
 simp [List.getD_eq_getElem?_getD]
set_option maxHeartbeats 8000000 in
set_option maxRecDepth 100000 in
theorem octets_Put.calls (a0:Int) (a1:Int) (r:ByteArray) (w:World) (h:octets_Put.f a0 a1=some r) :
 Calls Tryz.prog 75 #[.int .u64 a0,.int .i64 a1] w fun e w'=>e=.returned (.string r)∧Below w.heap.size w w':=by
 by_cases h1:a1 < 1
 ·have hr:r=(⟨#[]⟩:ByteArray):=by unfold octets_Put.f at h;rw [if_pos h1] at h;exact (Option.some.inj h).symm
  subst hr
  clear h
  go_enter Tryz.func75,Tryz.ntmps75
  go_wp2
  go_ret
  exact ⟨rfl,Below.refl _ _⟩
 by_cases h2:8 < a1
 ·have hr:r=(⟨#[]⟩:ByteArray):=by unfold octets_Put.f at h;rw [if_neg h1,if_pos h2] at h;exact (Option.some.inj h).symm
  subst hr
  clear h
  go_enter Tryz.func75,Tryz.ntmps75
  go_wp2
  go_ret
  exact ⟨rfl,Below.refl _ _⟩
 have hr:r=strOfNums ((putNums a0).drop (8 - a1.toNat)):=by unfold octets_Put.f at h;rw [if_neg h1,if_neg (by omega)] at h;exact (Option.some.inj h).symm
 subst hr
 clear h
 rcases (by omega:a1=1∨a1=2∨a1=3∨a1=4∨a1=5∨a1=6∨a1=7∨a1=8) with rfl | rfl | rfl | rfl | rfl | rfl | rfl | rfl
 ·have hcv:=octets_Put.conv w 7 (by omega)
  clear h1 h2
  go_enter Tryz.func75,Tryz.ntmps75
  go_wp2
  refine wp_loop_rounds 9 ?_
  repeat any_goals (rw [rounds_succ];go_wp2)
  go_ret
  exact ⟨rfl,by repeat (first | exact Below.refl _ _ | apply bl_alloc)⟩
 ·have hcv:=octets_Put.conv w 6 (by omega)
  clear h1 h2
  go_enter Tryz.func75,Tryz.ntmps75
  go_wp2
  refine wp_loop_rounds 9 ?_
  repeat any_goals (rw [rounds_succ];go_wp2)
  go_ret
  exact ⟨rfl,by repeat (first | exact Below.refl _ _ | apply bl_alloc)⟩
 ·have hcv:=octets_Put.conv w 5 (by omega)
  clear h1 h2
  go_enter Tryz.func75,Tryz.ntmps75
  go_wp2
  refine wp_loop_rounds 9 ?_
  repeat any_goals (rw [rounds_succ];go_wp2)
  go_ret
  exact ⟨rfl,by repeat (first | exact Below.refl _ _ | apply bl_alloc)⟩
 ·have hcv:=octets_Put.conv w 4 (by omega)
  clear h1 h2
  go_enter Tryz.func75,Tryz.ntmps75
  go_wp2
  refine wp_loop_rounds 9 ?_
  repeat any_goals (rw [rounds_succ];go_wp2)
  go_ret
  exact ⟨rfl,by repeat (first | exact Below.refl _ _ | apply bl_alloc)⟩
 ·have hcv:=octets_Put.conv w 3 (by omega)
  clear h1 h2
  go_enter Tryz.func75,Tryz.ntmps75
  go_wp2
  refine wp_loop_rounds 9 ?_
  repeat any_goals (rw [rounds_succ];go_wp2)
  go_ret
  exact ⟨rfl,by repeat (first | exact Below.refl _ _ | apply bl_alloc)⟩
 ·have hcv:=octets_Put.conv w 2 (by omega)
  clear h1 h2
  go_enter Tryz.func75,Tryz.ntmps75
  go_wp2
  refine wp_loop_rounds 9 ?_
  repeat any_goals (rw [rounds_succ];go_wp2)
  go_ret
  exact ⟨rfl,by repeat (first | exact Below.refl _ _ | apply bl_alloc)⟩
 ·have hcv:=octets_Put.conv w 1 (by omega)
  clear h1 h2
  go_enter Tryz.func75,Tryz.ntmps75
  go_wp2
  refine wp_loop_rounds 9 ?_
  repeat any_goals (rw [rounds_succ];go_wp2)
  go_ret
  exact ⟨rfl,by repeat (first | exact Below.refl _ _ | apply bl_alloc)⟩
 ·have hcv:=octets_Put.conv w 0 (by omega)
  clear h1 h2
  go_enter Tryz.func75,Tryz.ntmps75
  go_wp2
  refine wp_loop_rounds 9 ?_
  repeat any_goals (rw [rounds_succ];go_wp2)
  go_ret
  exact ⟨rfl,by repeat (first | exact Below.refl _ _ | apply bl_alloc)⟩
theorem octets_Put.con {a0:Int} {a1:Int} {r:ByteArray} (H:octets_Put.f a0 a1=some r):Con Tryz.prog 75 [K .u64 a0,I a1] (S r) :=
 con_lits Tryz.func75 rfl (by kernel_rfl) rfl fun p w ht=>octets_Put.calls a0 a1 r w H
def whole_Encode.l0:Nat→ByteArray→Option (ByteArray)
 | 0,_=>none
 | k+1,x3=>if (x3.size:Int) > 1 then ((whole_Right.f x3).bind fun t353=>(if t353=true then (some x3) else (if 1≤(x3.size:Int) then (whole_Encode.l0 k (x3.extract 1 x3.size)) else (none)))) else (some x3)
def whole_Encode.f (k:Nat) (a0:Int):Option (ByteArray):=(octets_Put.f (IntKind.u64.wrap (a0)) 8).bind fun t350=>(whole_Encode.l0 k t350)
theorem whole_Encode.con {k:Nat} {a0:Int} {r:(ByteArray)} (H:whole_Encode.f k a0=some r):Con Tryz.prog 40 [I a0] (S r):=by
 refine Cg Tryz.func40 rfl fun C hN hL=>?_
 unfold whole_Encode.f at H
 refine Sw<|Rg hN<|Sw ?_
 obtain ⟨t350,h351,H⟩:=bindS H
 refine Rh hN [S t350] (.c1 (octets_Put.con h351).c)<|Sw<|Bl<|Good.loopN (fun k' st=>∃ (x3:ByteArray),k'≤k∧Wk C st ⟨[(3,.w (S x3))],[]⟩∧whole_Encode.l0 k' x3=some r) k ⟨t350,Nat.le_refl _,Wo [(3,0)],H⟩ fun k=>⟨fun st h=>(by obtain ⟨_,_,_,H⟩:=h;cases H),?_⟩
 clear H
 rintro st ⟨x3,hk,W,H⟩
 refine W.good ?_
 rw [whole_Encode.l0] at H
 refine Sw<|Sw ?_
 rcases (ifC H).symm with ⟨c352,H⟩ | ⟨c352,H⟩
 ·refine Rh hN [B false] (.c1 (df c352))<|Good.cond false (by kernel_rfl)<|Ex<|Sw<|Rg hN ?_
  cases H
  exact Rt dR
 obtain ⟨t353,h354,H⟩:=bindS H
 refine Rh hN [B true,B t353] (.c2 (dt c352) (whole_Right.con h354).c) ?_
 rcases ifC H with ⟨c355,H⟩ | ⟨c355,H⟩
 ·refine Cf (notF c355)<|Ex<|Sw<|Rg hN ?_
  cases H
  exact Rt dR
 refine Ct (notT (bf c355))<|Sk<|Bl ?_
 obtain ⟨c356,H⟩:=ifS H
 exact Rh hN [] (.c2 (show (0:Int)≤1 by decide) c356)<|⟨k,by omega,x3.extract 1 x3.size,by omega,Wo [(3,0)],H⟩
def slices_Clone_int_int.f (l0:List Int):Option (List Int):=if ([]:List Int).length+l0.length < 17592186044416 then (some (([]:List Int)++l0)) else (none)
theorem slices_Clone_int_int.con {l0:List Int} {r:(List Int)} (H:slices_Clone_int_int.f l0=some r):Con Tryz.prog 114 [.row none 1 (List.map I l0)] (.row (some 3) 1 (List.map I r)):=by
 refine Cg Tryz.func114 rfl fun C hN hL=>?_
 unfold slices_Clone_int_int.f at H
 refine Sw<|Rg hN<|Sw<|Sw<|Good.regNil 1 4 0 (List.map I l0) hN [] .nil (by kernel_rfl) (by kernel_rfl) (fun hes=>?_) ?_
 ·refine Good.cond true (by kernel_rfl)<|Sw<|Rg hN ?_
  obtain rfl:l0=[]:=List.map_eq_nil_iff.1 hes
  obtain ⟨_,H⟩:=ifS H
  cases H
  exact Good.ret (fin_fit (u:=.nil 3 1) (.nilO 3 1) (by kernel_rfl))
 refine Good.cond false (by kernel_rfl)<|Sk<|Sw ?_
 obtain ⟨c357,H⟩:=ifS H
 refine Rh hN [.kb false,.row (some 3) 1 (List.map I (([]:List Int)++l0))] (.c2 (fitM I ([]:List Int) l0 (.refl _)) (limM2 I I c357)) ?_
 cases H
 exact Rt dR
def tree_moved.l0:Nat→Int→Int→Int→Int→Int→Bool→ByteArray→List Int→Option (Int × Int × Bool × ByteArray × List Int)
 | 0,_,_,_,_,_,_,_,_=>none
 | k+1,x1,x12,x13,x1000,x1001,x1002,x1003,x1004=>if x13 < x12 then (if 0≤x13 then (if x13 < (x1004.length:Int) then (tree_moved.l0 k x1 x12 (wrap64 (x13+1)) x1000 x1001 x1002 x1003 (x1004.set (x13:Int).toNat (wrap64 ((rd x1004 x13)+x1)))) else (none)) else (none)) else (some (x1000,x1001,x1002,x1003,x1004))
def tree_moved.f (k:Nat) (a0_0:Int) (a0_1:Int) (a0_2:Bool) (a0_3:ByteArray) (l0_4:List Int) (a1:Int):Option (Int × Int × Bool × ByteArray × List Int):=(slices_Clone_int_int.f l0_4).bind fun t359=>(tree_moved.l0 k a1 (t359.length:Int) 0 a0_0 a0_1 a0_2 a0_3 t359)
theorem tree_moved.con {k:Nat} {a0_0:Int} {a0_1:Int} {a0_2:Bool} {a0_3:ByteArray} {l0_4:List Int} {a1:Int} {r:(Int × Int × Bool × ByteArray × List Int)} (H:tree_moved.f k a0_0 a0_1 a0_2 a0_3 l0_4 a1=some r):Con Tryz.prog 77 [.agg [I a0_0,I a0_1,B a0_2,S a0_3,.row none 1 (List.map I l0_4)],I a1] (.agg [I r.1,I r.2.1,B r.2.2.1,S r.2.2.2.1,.row (some 3) 1 (List.map I r.2.2.2.2)]):=by
 refine Cg Tryz.func77 rfl fun C hN hL=>?_
 unfold tree_moved.f at H
 refine Sw<|Rg hN<|Sw ?_
 obtain ⟨t359,h360,H⟩:=bindS H
 refine Rh hN [.row (some 3) 1 (List.map I t359)] (.c1 (slices_Clone_int_int.con h360).c)<|Sw<|Sw<|Rh hN [I (t359.length:Int)] (.c1 (lenM I t359))<|Bl<|Good.loopN (fun k' st=>∃ (x1:Int) (x12:Int) (x13:Int) (x1000:Int) (x1001:Int) (x1002:Bool) (x1003:ByteArray) (x1004:List Int) (x2000:Int) (x2001:Int) (x2002:Bool) (x2003:ByteArray),k'≤k∧Wk C st ⟨[(1,.w (I x1)),(2,.d (.ptr 0 0)),(4,.d (.ptr 1 0)),(12,.w (I x12)),(13,.w (I x13))],[.cells [.v (I x1000),.v (I x1001),.v (B x1002),.v (S x1003),.v (.row (some 3) 1 (List.map I x1004))],.cells [.v (I x2000),.v (I x2001),.v (B x2002),.v (S x2003),.v (.nil 3 1)]]⟩∧tree_moved.l0 k' x1 x12 x13 x1000 x1001 x1002 x1003 x1004=some r) k ⟨a1,(t359.length:Int),0,a0_0,a0_1,a0_2,a0_3,t359,0,0,false,(⟨#[]⟩:ByteArray),Nat.le_refl _,Wo [(1,0),(2,0),(4,0),(12,0),(13,0)],H⟩ fun k=>⟨fun st h=>(by obtain ⟨_,_,_,_,_,_,_,_,_,_,_,_,_,_,H⟩:=h;cases H),?_⟩
 clear H
 rintro st ⟨x1,x12,x13,x1000,x1001,x1002,x1003,x1004,x2000,x2001,x2002,x2003,hk,W,H⟩
 refine W.good ?_
 rw [tree_moved.l0] at H
 refine Sw<|Rg hN<|Sw ?_
 rcases (ifC H).symm with ⟨c361,H⟩ | ⟨c361,H⟩
 ·refine Cf (df c361)<|Ex<|Sw<|Rg hN ?_
  cases H
  exact Rt dR
 refine Ct (dt c361)<|Sk<|Sw<|Bl<|Sw<|Rg hN ?_
 obtain ⟨c362,H⟩:=ifS H
 obtain ⟨c363,H⟩:=ifS H
 exact Rh hN [I (rd x1004 x13),I (rd x1004 x13),I (wrap64 ((rd x1004 x13)+x1)),.row (some 3) 1 (List.map I (x1004.set (x13:Int).toNat (wrap64 ((rd x1004 x13)+x1))))] (.c8 c362 (ltM I c363) (atM I (0:Int) c362 c363) c362 (ltM I c363) (atM I (0:Int) c362 c363) (Fit.refl (I (wrap64 ((rd x1004 x13)+x1)))) (setM I (l:=x1004) (n:=(x13:Int).toNat) (x:=wrap64 ((rd x1004 x13)+x1))))<|Rg hN<|⟨k,by omega,x1,x12,wrap64 (x13+1),x1000,x1001,x1002,x1003,(x1004.set (x13:Int).toNat (wrap64 ((rd x1004 x13)+x1))),x2000,x2001,x2002,x2003,by omega,Wo [(1,0),(2,0),(4,0),(12,0),(13,0)],H⟩
mutual
def tree_Of.l0:Nat→List S55→List (List S55)→Int→Int→Option (List S55)
 | 0,_,_,_,_=>none
 | k+1,x7,x17,x18,x19=>if x19 < x18 then (if 0≤x19 then (if x19 < (x17.length:Int) then (if ((rd_L55 x17 x19).length:Int) > 0 then (if 0 < (x7.length:Int) then (if ((rd_T55 x7 0).f4).length < 17592186044416 then (tree_Of.j1 k (x7.set (0:Int).toNat (⟨(rd_T55 x7 0).f0,(rd_T55 x7 0).f1,(rd_T55 x7 0).f2,(rd_T55 x7 0).f3,(((rd_T55 x7 0).f4)++[(x7.length:Int)])⟩:S55)) (rd_L55 x17 x19) (x7.length:Int) x17 x18 x19) else (none)) else (none)) else (tree_Of.j1 k x7 (rd_L55 x17 x19) (x7.length:Int) x17 x18 x19)) else (none)) else (none)) else (some x7)
def tree_Of.j1:Nat→List S55→List S55→Int→List (List S55)→Int→Int→Option (List S55)
 | 0,_,_,_,_,_,_=>none
 | k+1,x7,x9,x10,x17,x18,x19=>tree_Of.l1 k x7 x10 x17 x18 x19 x9 (x9.length:Int) 0
def tree_Of.l1:Nat→List S55→Int→List (List S55)→Int→Int→List S55→Int→Int→Option (List S55)
 | 0,_,_,_,_,_,_,_,_=>none
 | k+1,x7,x10,x17,x18,x19,x38,x39,x40=>if x40 < x39 then (if 0≤x40 then (if x40 < (x38.length:Int) then ((tree_moved.f k ((rd_T55 x38 x40).f0) ((rd_T55 x38 x40).f1) ((rd_T55 x38 x40).f2) ((rd_T55 x38 x40).f3) ((rd_T55 x38 x40).f4) x10).bind fun t381=>(if x7.length < 2199023255552 then (tree_Of.l1 k (x7++[(⟨t381.1,t381.2.1,t381.2.2.1,t381.2.2.2.1,t381.2.2.2.2⟩:S55)]) x10 x17 x18 x19 x38 x39 (wrap64 (x40+1))) else (none))) else (none)) else (none)) else (tree_Of.l0 k x7 x17 x18 (wrap64 (x19+1)))
end
def tree_Of.f (k:Nat) (a0:Int) (a1:Int) (l2:List (List S55)):Option (List S55):=tree_Of.l0 k ([(⟨a0,a1,true,(⟨#[]⟩:ByteArray),([]:List Int)⟩:S55)]:List S55) l2 (l2.length:Int) 0
theorem tree_Of.con {k:Nat} {a0:Int} {a1:Int} {l2:List (List S55)} {r:(List S55)} (H:tree_Of.f k a0 a1 l2=some r):Con Tryz.prog 41 [I a0,I a1,.row none 1 (List.map (vL55 0) l2)] (.row (some 55) 5 (List.map (v55 1) r)):=by
 refine Cg Tryz.func41 rfl fun C hN hL=>?_
 unfold tree_Of.f at H
 refine Sw<|Rg hN<|Sw<|Rj hN [] (.c1 (fitR (o:=some 55) (sz:=5) (n:=[.agg [I a0,I a1,B true,S (⟨#[]⟩:ByteArray),.row (some 3) 1 (List.map I ([]:List Int))]]) (.c1 (.agg (.c5 (.refl _) (.refl _) (.refl _) (.refl _) (.nilO 3 1)))))) [] [(16,.row (some 55) 5 (List.map (v55 1) ([(⟨a0,a1,true,(⟨#[]⟩:ByteArray),([]:List Int)⟩:S55)]:List S55)))]<|Sw<|Sw<|Rh hN [I (l2.length:Int)] (.c1 (lenM (vL55 0) l2))<|Bl<|Good.loopN (fun k' st=>∃ (x7:List S55) (x17:List (List S55)) (x18:Int) (x19:Int),k'≤k∧Wk C st ⟨[(7,.w (.row (some 55) 5 (List.map (v55 1) x7))),(17,.w (.row none 1 (List.map (vL55 0) x17))),(18,.w (I x18)),(19,.w (I x19))],[]⟩∧tree_Of.l0 k' x7 x17 x18 x19=some r) k ⟨([(⟨a0,a1,true,(⟨#[]⟩:ByteArray),([]:List Int)⟩:S55)]:List S55),l2,(l2.length:Int),0,Nat.le_refl _,Wo [(7,0),(17,0),(18,0),(19,0)],H⟩ fun k=>⟨fun st h=>(by obtain ⟨_,_,_,_,_,_,H⟩:=h;cases H),?_⟩
 clear H
 rintro st ⟨x7,x17,x18,x19,hk,W,H⟩
 refine W.good ?_
 rw [tree_Of.l0] at H
 refine Sw<|Rg hN<|Sw ?_
 rcases (ifC H).symm with ⟨c370,H⟩ | ⟨c370,H⟩
 ·refine Cf (df c370)<|Ex<|Sw<|Rg hN ?_
  cases H
  exact Rt dR
 refine Ct (dt c370)<|Sk<|Sw<|Bl<|Sw ?_
 obtain ⟨c371,H⟩:=ifS H
 obtain ⟨c372,H⟩:=ifS H
 refine Rh hN [(vL55 0) (rd_L55 x17 x19)] (.c2 c371 (atM (vL55 0) ([]:List S55) c371 c372))<|Sw<|Rh hN [I (x7.length:Int)] (.c1 (lenM (v55 1) x7))<|Sw<|Sw<|Rh hN [I ((rd_L55 x17 x19).length:Int)] (.c1 (lenM (v55 0) (rd_L55 x17 x19)))<|Good.cut (fun st=>∃ n':Nat,n'≤k∧∃ (x7:List S55) (x9:List S55) (x10:Int) (x17:List (List S55)) (x18:Int) (x19:Int),Wk C st ⟨[(7,.w (.row (some 55) 5 (List.map (v55 1) x7))),(9,.w (.row none 5 (List.map (v55 0) x9))),(10,.w (I x10)),(17,.w (.row none 1 (List.map (vL55 0) x17))),(18,.w (I x18)),(19,.w (I x19))],[]⟩∧tree_Of.j1 n' x7 x9 x10 x17 x18 x19=some r) ?_ ?_
 ·rcases (ifC H).symm with ⟨c373,H⟩ | ⟨c373,H⟩
  ·exact Cf (df c373)<|Sk<|⟨k,by omega,x7,rd_L55 x17 x19,(x7.length:Int),x17,x18,x19,Wo [(7,0),(9,0),(10,0),(17,0),(18,0),(19,0)],H⟩
  refine Ct (dt c373) ?_
  obtain ⟨c374,H⟩:=ifS H
  obtain ⟨c375,H⟩:=ifS H
  exact Rh hN [(v55 1) (rd_T55 x7 0),.kb true,(v55 1) (rd_T55 x7 0),.row (some 3) 1 (List.map I (((rd_T55 x7 0).f4)++[(x7.length:Int)])),setC ((v55 1) (rd_T55 x7 0)) 4 [.any],(v55 1) (⟨(rd_T55 x7 0).f0,(rd_T55 x7 0).f1,(rd_T55 x7 0).f2,(rd_T55 x7 0).f3,(((rd_T55 x7 0).f4)++[(x7.length:Int)])⟩:S55),.row (some 55) 5 (List.map (v55 1) (x7.set (0:Int).toNat (⟨(rd_T55 x7 0).f0,(rd_T55 x7 0).f1,(rd_T55 x7 0).f2,(rd_T55 x7 0).f3,(((rd_T55 x7 0).f4)++[(x7.length:Int)])⟩:S55)))] (.cons (show (0:Int)≤0 by decide) (.cons (ltM (v55 1) c374) (.cons (atM (v55 1) z55 (show (0:Int)≤0 by decide) c374) (.c8 (atM (v55 1) z55 (show (0:Int)≤0 by decide) c374) (fitM I ((rd_T55 x7 0).f4) [(x7.length:Int)] (.refl _)) (limM1 I c375) (show (0:Int)≤0 by decide) (ltH (v55 1) (m:=(0:Int).toNat) (X:=setC ((v55 1) (rd_T55 x7 0)) 4 [.any]) c374) (atH (v55 1) (X:=setC ((v55 1) (rd_T55 x7 0)) 4 [.any]) (show (0:Int)≤0 by decide) c374) (Fit.refl ((v55 1) (⟨(rd_T55 x7 0).f0,(rd_T55 x7 0).f1,(rd_T55 x7 0).f2,(rd_T55 x7 0).f3,(((rd_T55 x7 0).f4)++[(x7.length:Int)])⟩:S55))) (setH (v55 1) (l:=x7) (n:=(0:Int).toNat) (x:=(⟨(rd_T55 x7 0).f0,(rd_T55 x7 0).f1,(rd_T55 x7 0).f2,(rd_T55 x7 0).f3,(((rd_T55 x7 0).f4)++[(x7.length:Int)])⟩:S55)) (X:=setC ((v55 1) (rd_T55 x7 0)) 4 [.any]))))))<|⟨k,by omega,(x7.set (0:Int).toNat (⟨(rd_T55 x7 0).f0,(rd_T55 x7 0).f1,(rd_T55 x7 0).f2,(rd_T55 x7 0).f3,(((rd_T55 x7 0).f4)++[(x7.length:Int)])⟩:S55)),rd_L55 x17 x19,(x7.length:Int),x17,x18,x19,Wo [(7,0),(9,0),(10,0),(17,0),(18,0),(19,0)],H⟩
 clear H
 rintro st ⟨n',hn',x7,x9,x10,x17,x18,x19,W,H⟩
 rcases n' with _ | k
 ·cases H
 refine W.good ?_
 rw [tree_Of.j1] at H
 refine Sw<|Rh hN [I (x9.length:Int)] (.c1 (lenM (v55 0) x9))<|Bl<|Good.loopN (fun k' st=>∃ (x7:List S55) (x10:Int) (x17:List (List S55)) (x18:Int) (x19:Int) (x38:List S55) (x39:Int) (x40:Int),k'≤k∧Wk C st ⟨[(7,.w (.row (some 55) 5 (List.map (v55 1) x7))),(10,.w (I x10)),(17,.w (.row none 1 (List.map (vL55 0) x17))),(18,.w (I x18)),(19,.w (I x19)),(38,.w (.row none 5 (List.map (v55 0) x38))),(39,.w (I x39)),(40,.w (I x40))],[]⟩∧tree_Of.l1 k' x7 x10 x17 x18 x19 x38 x39 x40=some r) k ⟨x7,x10,x17,x18,x19,x9,(x9.length:Int),0,Nat.le_refl _,Wo [(7,0),(10,0),(17,0),(18,0),(19,0),(38,0),(39,0),(40,0)],H⟩ fun k=>⟨fun st h=>(by obtain ⟨_,_,_,_,_,_,_,_,_,_,H⟩:=h;cases H),?_⟩
 clear H
 rintro st ⟨x7,x10,x17,x18,x19,x38,x39,x40,hk,W,H⟩
 refine W.good ?_
 rw [tree_Of.l1] at H
 refine Sw<|Rg hN<|Sw ?_
 rcases (ifC H).symm with ⟨c378,H⟩ | ⟨c378,H⟩
 ·exact Cf (df c378)<|Ex<|Rg hN<|⟨k,by omega,x7,x17,x18,wrap64 (x19+1),by omega,Wo [(7,0),(17,0),(18,0),(19,0)],H⟩
 refine Ct (dt c378)<|Sk<|Sw<|Bl<|Sw ?_
 obtain ⟨c379,H⟩:=ifS H
 obtain ⟨c380,H⟩:=ifS H
 refine Rh hN [(v55 0) (rd_T55 x38 x40)] (.c2 c379 (atM (v55 0) z55 c379 c380)) ?_
 obtain ⟨t381,h382,H⟩:=bindS H
 obtain ⟨c383,H⟩:=ifS H
 exact Rh hN [.agg [I t381.1,I t381.2.1,B t381.2.2.1,S t381.2.2.2.1,.row (some 3) 1 (List.map I t381.2.2.2.2)],.tup [],.kb true,.row (some 55) 5 (List.map (v55 1) (x7++[(⟨t381.1,t381.2.1,t381.2.2.1,t381.2.2.2.1,t381.2.2.2.2⟩:S55)]))] (.c3 (tree_moved.con h382).c (fitM (v55 1) x7 [(⟨t381.1,t381.2.1,t381.2.2.1,t381.2.2.2.1,t381.2.2.2.2⟩:S55)] (.refl _)) (limM1 (v55 1) c383))<|Rg hN<|⟨k,by omega,(x7++[(⟨t381.1,t381.2.1,t381.2.2.1,t381.2.2.2.1,t381.2.2.2.2⟩:S55)]),x10,x17,x18,x19,x38,x39,wrap64 (x40+1),by omega,Wk.ofB hL 0 [(7,0),(10,0),(17,0),(18,0),(19,0),(38,0),(39,0),(40,0)] (by kernel_rfl) (by kernel_rfl) (by kernel_rfl),H⟩
def sec1_made.f (k:Nat) (a0:Int) (a1:ByteArray):Option (List S55 × List S55 × List S55):=(curve_Arcs.f k a0).bind fun t385=>((oid_Encode.f k t385).bind fun t387=>((whole_Encode.f k 1).bind fun t389=>((tree_Leaf.f 0 2 t389).bind fun t391=>((tree_Leaf.f 0 4 a1).bind fun t393=>((tree_Leaf.f 0 6 t387.1).bind fun t395=>((tree_Of.f k 2 0 ([t395]:List (List S55))).bind fun t397=>(some (t391,t393,t397))))))))
theorem sec1_made.con {k:Nat} {a0:Int} {a1:ByteArray} {r:(List S55 × List S55 × List S55)} (H:sec1_made.f k a0 a1=some r):Con Tryz.prog 14 [I a0,S a1] (.agg [.row none 5 (List.map (v55 0) r.1),.row none 5 (List.map (v55 0) r.2.1),.row none 5 (List.map (v55 0) r.2.2)]):=by
 refine Cg Tryz.func14 rfl fun C hN hL=>?_
 unfold sec1_made.f at H
 refine Sw<|Rg hN<|Sw ?_
 obtain ⟨t385,h386,H⟩:=bindS H
 obtain ⟨t387,h388,H⟩:=bindS H
 refine Rh hN [.row (some 3) 1 (List.map I t385),.row none 1 (List.map I t385),.tup [S t387.1,B t387.2]] (.c3 (curve_Arcs.con h386).c (shrM (some 3) 1 I I t385 (fun _=>rfl)) (oid_Encode.con h388).c)<|Sw ?_
 obtain ⟨t389,h390,H⟩:=bindS H
 obtain ⟨t391,h392,H⟩:=bindS H
 obtain ⟨t393,h394,H⟩:=bindS H
 obtain ⟨t395,h396,H⟩:=bindS H
 obtain ⟨t397,h398,H⟩:=bindS H
 refine Rh hN [S t389,.row (some 55) 5 (List.map (v55 0) t391),.row (some 55) 5 (List.map (v55 0) t393),.row (some 55) 5 (List.map (v55 0) t395),.row none 5 (List.map (v55 0) t395),.row none 1 (List.map (vL55 0) ([t395]:List (List S55))),.row (some 55) 5 (List.map (v55 1) t397),.row none 5 (List.map (v55 0) t391),.row none 5 (List.map (v55 0) t393),.row none 5 (List.map (v55 0) t397)] (.cons (whole_Encode.con h390).c (.cons (tree_Leaf.con h392).c (.c8 (tree_Leaf.con h394).c (tree_Leaf.con h396).c (shrM (some 55) 5 (v55 0) (v55 0) t395 (v55.shr _)) (shrM (some 33) 1 (vL55 0) (vL55 0) ([t395]:List (List S55)) (vL55.shr _)) (tree_Of.con h398).c (shrM (some 55) 5 (v55 0) (v55 0) t391 (v55.shr _)) (shrM (some 55) 5 (v55 0) (v55 0) t393 (v55.shr _)) (shrM (some 55) 5 (v55 1) (v55 0) t397 (v55.shr _))))) ?_
 cases H
 exact Rt dR
def sec1_parts_tree.f (k:Nat) (l0_0:List S55) (l0_1:List S55) (l0_2:List S55):Option (List S55):=(tree_Of.f k 0 16 ([l0_0,l0_1,l0_2]:List (List S55))).bind fun t399=>(some t399)
theorem sec1_parts_tree.con {k:Nat} {l0_0:List S55} {l0_1:List S55} {l0_2:List S55} {r:(List S55)} (H:sec1_parts_tree.f k l0_0 l0_1 l0_2=some r):Con Tryz.prog 15 [.agg [.row none 5 (List.map (v55 0) l0_0),.row none 5 (List.map (v55 0) l0_1),.row none 5 (List.map (v55 0) l0_2)]] (.row (some 55) 5 (List.map (v55 1) r)):=by
 refine Cg Tryz.func15 rfl fun C hN hL=>?_
 unfold sec1_parts_tree.f at H
 refine Sw<|Rg hN<|Sw ?_
 obtain ⟨t399,h400,H⟩:=bindS H
 refine Rh hN [.row none 1 (List.map (vL55 0) ([l0_0,l0_1,l0_2]:List (List S55))),.row (some 55) 5 (List.map (v55 1) t399)] (.c2 (shrM (some 33) 1 (vL55 0) (vL55 0) ([l0_0,l0_1,l0_2]:List (List S55)) (vL55.shr _)) (tree_Of.con h400).c) ?_
 cases H
 exact Rt dR
def sec1_Encode.f (k:Nat) (a0:Int) (a1:ByteArray):Option (ByteArray × Int):=(sec1_may.f k a0 a1).bind fun t401=>(if t401=0 then ((sec1_made.f k a0 a1).bind fun t404=>((sec1_parts_tree.f k t404.1 t404.2.1 t404.2.2).bind fun t406=>((tree_Encode.f k t406).bind fun t408=>(some (t408.1,t408.2))))) else (some ((⟨#[]⟩:ByteArray),t401)))
theorem sec1_Encode.con {k:Nat} {a0:Int} {a1:ByteArray} {r:(ByteArray × Int)} (H:sec1_Encode.f k a0 a1=some r):Con Tryz.prog 6 [I a0,S a1] (.tup [S r.1,I r.2]):=by
 refine Cg Tryz.func6 rfl fun C hN hL=>?_
 unfold sec1_Encode.f at H
 refine Sw<|Rg hN<|Sw<|Sw ?_
 obtain ⟨t401,h402,H⟩:=bindS H
 refine Rh hN [I t401] (.c1 (sec1_may.con h402).c)<|Sw<|Rg hN ?_
 rcases (ifC H).symm with ⟨c403,H⟩ | ⟨c403,H⟩
 ·refine Ct (nq c403)<|Sw<|Rg hN ?_
  cases H
  exact Rt dR
 refine Cf (bneF c403)<|Sk<|Sw ?_
 obtain ⟨t404,h405,H⟩:=bindS H
 obtain ⟨t406,h407,H⟩:=bindS H
 obtain ⟨t408,h409,H⟩:=bindS H
 refine Rh hN [.agg [.row none 5 (List.map (v55 0) t404.1),.row none 5 (List.map (v55 0) t404.2.1),.row none 5 (List.map (v55 0) t404.2.2)],.row (some 55) 5 (List.map (v55 1) t406),.row none 5 (List.map (v55 0) t406),.tup [S t408.1,I t408.2]] (.c4 (sec1_made.con h405).c (sec1_parts_tree.con h407).c (shrM (some 55) 5 (v55 1) (v55 0) t406 (v55.shr _)) (tree_Encode.con h409).c) ?_
 cases H
 exact Rt dR
def span_whole.f (a0:Nat):Option (Bool):=if (fge a0 0)=true then (if (fle a0 4679241112349573120)=true then (if fiok a0=true then (some (feq a0 (floatOfInt .f64 (fint a0)))) else (none)) else (some false)) else (some false)
theorem span_whole.con {a0:Nat} {r:(Bool)} (H:span_whole.f a0=some r):Con Tryz.prog 161 [Fl a0] (B r):=by
 refine Cg Tryz.func161 rfl fun C hN hL=>?_
 unfold span_whole.f at H
 refine Sw<|Rg hN<|Sw ?_
 rcases (ifC H).symm with ⟨c410,H⟩ | ⟨c410,H⟩
 ·refine Rh hN [B false,B false] (.c2 (bf c410) (rfl:false=false)) ?_
  cases H
  exact Rt dR
 rcases (ifC H).symm with ⟨c411,H⟩ | ⟨c411,H⟩
 ·refine Rh hN [B true,B false] (.c2 c410 (bf c411)) ?_
  cases H
  exact Rt dR
 obtain ⟨c412,H⟩:=ifS H
 refine Rh hN [B true,B true] (.c3 c410 c411 c412) ?_
 cases H
 exact Rt dR
def span_May.f (a0:(Nat × Nat)):Option (Bool):=(span_whole.f a0.1).bind fun t413=>(if t413=true then ((span_whole.f a0.2).bind fun t416=>(if t416=true then (some (fle a0.1 a0.2)) else (some false))) else (some false))
theorem span_May.con {a0:(Nat × Nat)} {r:(Bool)} (H:span_May.f a0=some r):Con Tryz.prog 141 [Cx a0] (B r):=by
 refine Cg Tryz.func141 rfl fun C hN hL=>?_
 unfold span_May.f at H
 refine Sw<|Rg hN<|Sw ?_
 obtain ⟨t413,h414,H⟩:=bindS H
 rcases (ifC H).symm with ⟨c415,H⟩ | ⟨c415,H⟩
 ·refine Rh hN [B t413,B false,B false] (.c3 (span_whole.con h414).c (bf c415) (rfl:false=false)) ?_
  cases H
  exact Rt dR
 obtain ⟨t416,h417,H⟩:=bindS H
 rcases ifC H with ⟨c418,H⟩ | ⟨c418,H⟩
 ·refine Rh hN [B t413,B true,B t416,B true] (.c4 (span_whole.con h414).c c415 (span_whole.con h417).c c418) ?_
  cases H
  exact Rt dR
 refine Rh hN [B t413,B true,B t416,B false] (.c4 (span_whole.con h414).c c415 (span_whole.con h417).c (bf c418)) ?_
 cases H
 exact Rt dR
def span_sure.f (a0:(Nat × Nat)):Option ((Nat × Nat)):=(span_May.f a0).bind fun t419=>(if t419=true then (if fok a0.1 0=true then (if fok a0.2 0=true then (some (fadd a0.1 0,fadd a0.2 0)) else (none)) else (none)) else (some (0,0)))
theorem span_sure.con {a0:(Nat × Nat)} {r:((Nat × Nat))} (H:span_sure.f a0=some r):Con Tryz.prog 122 [Cx a0] (Cx r):=by
 refine Cg Tryz.func122 rfl fun C hN hL=>?_
 unfold span_sure.f at H
 refine Sw<|Rg hN<|Sw<|Sw ?_
 obtain ⟨t419,h420,H⟩:=bindS H
 refine Rh hN [B t419] (.c1 (span_May.con h420).c) ?_
 rcases (ifC H).symm with ⟨c421,H⟩ | ⟨c421,H⟩
 ·refine Cf (bf c421)<|Sk<|Sw<|Rg hN ?_
  cases H
  exact Rt dR
 refine Ct c421<|Sw ?_
 obtain ⟨c422,H⟩:=ifS H
 obtain ⟨c423,H⟩:=ifS H
 refine Rh hN [] (.c2 c422 c423) ?_
 cases H
 exact Rt dR
def span_To.f (a0:(Nat × Nat)):Option (Int):=(span_sure.f a0).bind fun t424=>(if fiok t424.2=true then (some (fint t424.2)) else (none))
theorem span_To.con {a0:(Nat × Nat)} {r:(Int)} (H:span_To.f a0=some r):Con Tryz.prog 120 [Cx a0] (I r):=by
 refine Cg Tryz.func120 rfl fun C hN hL=>?_
 unfold span_To.f at H
 refine Sw<|Rg hN<|Sw ?_
 obtain ⟨t424,h425,H⟩:=bindS H
 obtain ⟨c426,H⟩:=ifS H
 refine Rh hN [Cx t424] (.c2 (span_sure.con h425).c c426) ?_
 cases H
 exact Rt dR
def tlv_reader_end.f (a0_0:ByteArray) (l0_1:List S55) (l0_2:List (Nat × Nat)) (l0_3:List Int):Option (Int):=if (l0_3.length:Int)=0 then (some (a0_0.size:Int)) else (if 0≤(wrap64 ((l0_3.length:Int) - 1)) then (if (wrap64 ((l0_3.length:Int) - 1)) < (l0_3.length:Int) then (if 0≤(rd l0_3 (wrap64 ((l0_3.length:Int) - 1))) then (if (rd l0_3 (wrap64 ((l0_3.length:Int) - 1))) < (l0_2.length:Int) then ((span_To.f (rdOf ((0,0):Nat × Nat) l0_2 (rd l0_3 (wrap64 ((l0_3.length:Int) - 1))))).bind fun t432=>(some t432)) else (none)) else (none)) else (none)) else (none))
theorem tlv_reader_end.con {a0_0:ByteArray} {l0_1:List S55} {l0_2:List (Nat × Nat)} {l0_3:List Int} {r:(Int)} (H:tlv_reader_end.f a0_0 l0_1 l0_2 l0_3=some r):ConX Tryz.prog 81 [.ptr 0 0] [[S a0_0,.row (some 55) 5 (List.map (v55 1) l0_1),.row (some 67) 1 (List.map Cx l0_2),.row (some 3) 1 (List.map I l0_3)]] (.v (I r)) [[S a0_0,.row (some 55) 5 (List.map (v55 1) l0_1),.row (some 67) 1 (List.map Cx l0_2),.row (some 3) 1 (List.map I l0_3)]]:=by
 refine conX_of_good Tryz.func81 rfl (by kernel_rfl) (by kernel_rfl) fun C hN hL=>?_
 unfold tlv_reader_end.f at H
 refine Sw<|Rg hN<|Sw<|Sw<|Rh hN [I (l0_3.length:Int)] (.c1 (lenM I l0_3)) ?_
 rcases ifC H with ⟨c427,H⟩ | ⟨c427,H⟩
 ·refine Ct (bq c427)<|Sw<|Rg hN ?_
  cases H
  exact Good.ret (finX_fitR (.refl _) (FitLL.refl _) (by kernel_rfl) rfl)
 refine Cf (bn c427)<|Sk<|Sw ?_
 obtain ⟨c428,H⟩:=ifS H
 obtain ⟨c429,H⟩:=ifS H
 obtain ⟨c430,H⟩:=ifS H
 obtain ⟨c431,H⟩:=ifS H
 obtain ⟨t432,h433,H⟩:=bindS H
 refine Rd hm hN (.qs 18 0 (.e 18 (.q 19 [] .z))) [(0,some (.pt [S a0_0,.row none 5 (List.map (v55 0) l0_1),.row none 1 (List.map Cx l0_2),.row none 1 (List.map I l0_3)]))] (.c1 (ptS (shrC (rfl:(V.shr (S a0_0))=S a0_0) (shrC (shrM (some 55) 5 (v55 1) (v55 0) l0_1 (v55.shr _)) (shrC (shrM (some 67) 1 Cx Cx l0_2 (fun _=>rfl)) (shrC (shrM (some 3) 1 I I l0_3 (fun _=>rfl)) (rfl:shrL []=[]))))))) [I (l0_3.length:Int),I (rd l0_3 (wrap64 ((l0_3.length:Int) - 1))),Cx (rdOf ((0,0):Nat × Nat) l0_2 (rd l0_3 (wrap64 ((l0_3.length:Int) - 1)))),I t432] [I (l0_3.length:Int),I (rd l0_3 (wrap64 ((l0_3.length:Int) - 1))),Cx (rdOf ((0,0):Nat × Nat) l0_2 (rd l0_3 (wrap64 ((l0_3.length:Int) - 1))))] (.c8 (lenM I l0_3) c428 (ltM I c429) (atM I (0:Int) c428 c429) c430 (ltM Cx c431) (atM Cx ((0,0):Nat × Nat) c430 c431) (span_To.con h433).c) (.c5 (lenM I l0_3) c428 (atM I (0:Int) c428 c429) c430 (atM Cx ((0,0):Nat × Nat) c430 c431)) [] [] ?_
 cases H
 exact Good.ret (finX_fitR (.refl _) (FitLL.refl _) (by kernel_rfl) rfl)
def head_Decode.l0:Nat→ByteArray→Int→Int→Int→Int→Int→Int→Int→Bool→Int→Option (Int × Int × Bool × Int × Int × Int)
 | 0,_,_,_,_,_,_,_,_,_,_=>none
 | k+1,x0,x6,x7,x8,x107,x108,x2000,x2001,x2002,x2003=>if x108 < x107 then (if 0≤x6 then (if x6 < (x0.size:Int) then (head_Decode.l0 k x0 (wrap64 (x6+1)) x7 x8 x107 (wrap64 (x108+1)) x2000 x2001 x2002 (Go.bits .or .i64 (wrap64 (x2003*256)) (wrap64 (bt x0 x6)))) else (none)) else (none)) else (if 0≤(wrap64 ((wrap64 (8*x7)) - 8)) then (if x2003≥(shl .i64 1 (wrap64 ((wrap64 (8*x7)) - 8))) then (if x2003≥128 then (some (x2000,x2001,x2002,x2003,x6,0)) else (some (0,0,false,0,0,x8))) else (some (0,0,false,0,0,x8))) else (none))
def head_Decode.g0_0:Nat→Int→Option (Int × Int × Bool × Int × Int × Int)
 | 0,_=>none
 | k+1,x8=>some (0,0,false,0,0,x8)
def head_Decode.j1:Nat→ByteArray→Int→Int→Bool→Int→Int→Bool→Int→Option (Int × Int × Bool × Int × Int × Int)
 | 0,_,_,_,_,_,_,_,_=>none
 | k+1,x0,x6,x8,x77,x2000,x2001,x2002,x2003=>if x77=true then (head_Decode.g0_0 k x8) else (if 0≤x6 then (if x6 < (x0.size:Int) then (if (bt x0 x6) > 130 then (head_Decode.g0_0 k 4) else (if (bt x0 x6) < 128 then (some (x2000,x2001,x2002,wrap64 (bt x0 x6),wrap64 (x6+1),0)) else (if (wrap64 ((wrap64 (x6+1))+(wrap64 (Go.bits .and .u8 (bt x0 x6) 127)))) > (x0.size:Int) then (head_Decode.g0_0 k x8) else (head_Decode.l0 k x0 (wrap64 (x6+1)) (wrap64 (Go.bits .and .u8 (bt x0 x6) 127)) x8 (wrap64 (Go.bits .and .u8 (bt x0 x6) 127)) 0 x2000 x2001 x2002 x2003)))) else (none)) else (none))
def head_Decode.j5:Nat→ByteArray→Int→Int→Bool→Int→Int→Bool→Int→Option (Int × Int × Bool × Int × Int × Int)
 | 0,_,_,_,_,_,_,_,_=>none
 | k+1,x0,x6,x8,x77,x2000,x2001,x2002,x2003=>if x77=true then (head_Decode.g0_0 k x8) else (if 0≤x6 then (if x6 < (x0.size:Int) then (if (bt x0 x6) > 130 then (head_Decode.g0_0 k 4) else (if (bt x0 x6) < 128 then (some (x2000,x2001,x2002,wrap64 (bt x0 x6),wrap64 (x6+1),0)) else (if (wrap64 ((wrap64 (x6+1))+(wrap64 (Go.bits .and .u8 (bt x0 x6) 127)))) > (x0.size:Int) then (head_Decode.g0_0 k x8) else (head_Decode.l0 k x0 (wrap64 (x6+1)) (wrap64 (Go.bits .and .u8 (bt x0 x6) 127)) x8 (wrap64 (Go.bits .and .u8 (bt x0 x6) 127)) 0 x2000 x2001 x2002 x2003)))) else (none)) else (none))
def head_Decode.g0_1:Nat→ByteArray→Int→Int→Int→Int→Bool→Int→Option (Int × Int × Bool × Int × Int × Int)
 | 0,_,_,_,_,_,_,_=>none
 | k+1,x0,x6,x8,x2000,x2001,x2002,x2003=>if x6≥(x0.size:Int) then (head_Decode.j5 k x0 x6 x8 true x2000 x2001 x2002 x2003) else (if 0≤x6 then (if x6 < (x0.size:Int) then (head_Decode.j5 k x0 x6 x8 ((bt x0 x6) == 128) x2000 x2001 x2002 x2003) else (none)) else (none))
def head_Decode.j8:Nat→ByteArray→Int→Int→Bool→Int→Int→Bool→Int→Option (Int × Int × Bool × Int × Int × Int)
 | 0,_,_,_,_,_,_,_,_=>none
 | k+1,x0,x6,x8,x77,x2000,x2001,x2002,x2003=>if x77=true then (head_Decode.g0_0 k x8) else (if 0≤x6 then (if x6 < (x0.size:Int) then (if (bt x0 x6) > 130 then (head_Decode.g0_0 k 4) else (if (bt x0 x6) < 128 then (some (x2000,x2001,x2002,wrap64 (bt x0 x6),wrap64 (x6+1),0)) else (if (wrap64 ((wrap64 (x6+1))+(wrap64 (Go.bits .and .u8 (bt x0 x6) 127)))) > (x0.size:Int) then (head_Decode.g0_0 k x8) else (head_Decode.l0 k x0 (wrap64 (x6+1)) (wrap64 (Go.bits .and .u8 (bt x0 x6) 127)) x8 (wrap64 (Go.bits .and .u8 (bt x0 x6) 127)) 0 x2000 x2001 x2002 x2003)))) else (none)) else (none))
mutual
def head_Decode.g0_2:Nat→ByteArray→Int→Int→Int→Int→Int→Bool→Int→Option (Int × Int × Bool × Int × Int × Int)
 | 0,_,_,_,_,_,_,_,_=>none
 | k+1,x0,x6,x7,x8,x2000,x2001,x2002,x2003=>if x6≥(x0.size:Int) then (head_Decode.j7 k x0 x6 x7 x8 true x2000 x2001 x2002 x2003) else (if x7=3 then (head_Decode.j7 k x0 x6 x7 x8 true x2000 x2001 x2002 x2003) else (if x7=0 then (if 0≤x6 then (if x6 < (x0.size:Int) then (head_Decode.j7 k x0 x6 x7 x8 ((bt x0 x6) == 128) x2000 x2001 x2002 x2003) else (none)) else (none)) else (head_Decode.j7 k x0 x6 x7 x8 false x2000 x2001 x2002 x2003)))
def head_Decode.j7:Nat→ByteArray→Int→Int→Int→Bool→Int→Int→Bool→Int→Option (Int × Int × Bool × Int × Int × Int)
 | 0,_,_,_,_,_,_,_,_,_=>none
 | k+1,x0,x6,x7,x8,x45,x2000,x2001,x2002,x2003=>if x45=true then (head_Decode.g0_0 k x8) else (if 0≤x6 then (if x6 < (x0.size:Int) then (if 0≤(wrap64 ((wrap64 (x6+1)) - 1)) then (if (wrap64 ((wrap64 (x6+1)) - 1)) < (x0.size:Int) then (if (bt x0 (wrap64 ((wrap64 (x6+1)) - 1)))≥128 then (head_Decode.g0_2 k x0 (wrap64 (x6+1)) (wrap64 (x7+1)) x8 x2000 (Go.bits .or .i64 (wrap64 (x2001*128)) (wrap64 (Go.bits .and .u8 (bt x0 x6) 127))) x2002 x2003) else (if (Go.bits .or .i64 (wrap64 (x2001*128)) (wrap64 (Go.bits .and .u8 (bt x0 x6) 127))) < 31 then (head_Decode.g0_0 k x8) else (if (wrap64 (x6+1))≥(x0.size:Int) then (head_Decode.j8 k x0 (wrap64 (x6+1)) x8 true x2000 (Go.bits .or .i64 (wrap64 (x2001*128)) (wrap64 (Go.bits .and .u8 (bt x0 x6) 127))) x2002 x2003) else (if 0≤(wrap64 (x6+1)) then (if (wrap64 (x6+1)) < (x0.size:Int) then (head_Decode.j8 k x0 (wrap64 (x6+1)) x8 ((bt x0 (wrap64 (x6+1))) == 128) x2000 (Go.bits .or .i64 (wrap64 (x2001*128)) (wrap64 (Go.bits .and .u8 (bt x0 x6) 127))) x2002 x2003) else (none)) else (none))))) else (none)) else (none)) else (none)) else (none))
end
def head_Decode.j0:Nat→ByteArray→Int→Int→Int→Bool→Int→Int→Bool→Int→Option (Int × Int × Bool × Int × Int × Int)
 | 0,_,_,_,_,_,_,_,_,_=>none
 | k+1,x0,x6,x7,x8,x45,x2000,x2001,x2002,x2003=>if x45=true then (head_Decode.g0_0 k x8) else (if 0≤x6 then (if x6 < (x0.size:Int) then (if 0≤(wrap64 ((wrap64 (x6+1)) - 1)) then (if (wrap64 ((wrap64 (x6+1)) - 1)) < (x0.size:Int) then (if (bt x0 (wrap64 ((wrap64 (x6+1)) - 1)))≥128 then (head_Decode.g0_2 k x0 (wrap64 (x6+1)) (wrap64 (x7+1)) x8 x2000 (Go.bits .or .i64 (wrap64 (x2001*128)) (wrap64 (Go.bits .and .u8 (bt x0 x6) 127))) x2002 x2003) else (if (Go.bits .or .i64 (wrap64 (x2001*128)) (wrap64 (Go.bits .and .u8 (bt x0 x6) 127))) < 31 then (head_Decode.g0_0 k x8) else (if (wrap64 (x6+1))≥(x0.size:Int) then (head_Decode.j1 k x0 (wrap64 (x6+1)) x8 true x2000 (Go.bits .or .i64 (wrap64 (x2001*128)) (wrap64 (Go.bits .and .u8 (bt x0 x6) 127))) x2002 x2003) else (if 0≤(wrap64 (x6+1)) then (if (wrap64 (x6+1)) < (x0.size:Int) then (head_Decode.j1 k x0 (wrap64 (x6+1)) x8 ((bt x0 (wrap64 (x6+1))) == 128) x2000 (Go.bits .or .i64 (wrap64 (x2001*128)) (wrap64 (Go.bits .and .u8 (bt x0 x6) 127))) x2002 x2003) else (none)) else (none))))) else (none)) else (none)) else (none)) else (none))
def head_Decode.f (k:Nat) (a0:ByteArray):Option (Int × Int × Bool × Int × Int × Int):=if a0.toList=([]:List UInt8) then (head_Decode.g0_0 k 5) else (if 0 < (a0.size:Int) then (if (wrap64 (Go.bits .and .u8 (bt a0 0) 31)) < 31 then (head_Decode.g0_1 k a0 1 5 (wrap64 ((bt a0 0) / 64)) (wrap64 (Go.bits .and .u8 (bt a0 0) 31)) ((Go.bits .and .u8 (bt a0 0) 32) != 0) 0) else (if 1≥(a0.size:Int) then (head_Decode.j0 k a0 1 0 5 true (wrap64 ((bt a0 0) / 64)) 0 ((Go.bits .and .u8 (bt a0 0) 32) != 0) 0) else (if 1 < (a0.size:Int) then (head_Decode.j0 k a0 1 0 5 ((bt a0 1) == 128) (wrap64 ((bt a0 0) / 64)) 0 ((Go.bits .and .u8 (bt a0 0) 32) != 0) 0) else (none)))) else (none))
theorem head_Decode.con {k:Nat} {a0:ByteArray} {r:(Int × Int × Bool × Int × Int × Int)} (H:head_Decode.f k a0=some r):Con Tryz.prog 82 [S a0] (.tup [.agg [I r.1,I r.2.1,B r.2.2.1,I r.2.2.2.1],I r.2.2.2.2.1,I r.2.2.2.2.2]):=by
 refine Cg Tryz.func82 rfl fun C hN hL=>?_
 unfold head_Decode.f at H
 refine Sw<|Rg hN<|Good.scope [(0,_,fun n st=>∃ (x8:Int) (x1000:Int) (x1001:Int) (x1002:Bool) (x1003:Int) (x2000:Int) (x2001:Int) (x2002:Bool) (x2003:Int),n≤k∧Wk C st ⟨[(2,.d (.ptr 0 0)),(8,.w (I x8))],[.cells [.v (I x1000),.v (I x1001),.v (B x1002),.v (I x1003)],.cells [.v (I x2000),.v (I x2001),.v (B x2002),.v (I x2003)]]⟩∧head_Decode.g0_0 n x8=some r),(1,_,fun n st=>∃ (x0:ByteArray) (x6:Int) (x8:Int) (x1000:Int) (x1001:Int) (x1002:Bool) (x1003:Int) (x2000:Int) (x2001:Int) (x2002:Bool) (x2003:Int),n≤k∧Wk C st ⟨[(0,.w (S x0)),(2,.d (.ptr 0 0)),(5,.d (.ptr 1 0)),(6,.w (I x6)),(8,.w (I x8))],[.cells [.v (I x1000),.v (I x1001),.v (B x1002),.v (I x1003)],.cells [.v (I x2000),.v (I x2001),.v (B x2002),.v (I x2003)]]⟩∧head_Decode.g0_1 n x0 x6 x8 x2000 x2001 x2002 x2003=some r),(2,_,fun n st=>∃ (x0:ByteArray) (x6:Int) (x7:Int) (x8:Int) (x1000:Int) (x1001:Int) (x1002:Bool) (x1003:Int) (x2000:Int) (x2001:Int) (x2002:Bool) (x2003:Int),n≤k∧Wk C st ⟨[(0,.w (S x0)),(2,.d (.ptr 0 0)),(5,.d (.ptr 1 0)),(6,.w (I x6)),(7,.w (I x7)),(8,.w (I x8))],[.cells [.v (I x1000),.v (I x1001),.v (B x1002),.v (I x1003)],.cells [.v (I x2000),.v (I x2001),.v (B x2002),.v (I x2003)]]⟩∧head_Decode.g0_2 n x0 x6 x7 x8 x2000 x2001 x2002 x2003=some r)] (.c3 rfl rfl rfl) ?_ (.c3 ?_ ?_ ?_)
 ·refine Sw<|Rg hN<|Sw<|Rg hN<|Sw<|Sw<|Ri hN [] (.c1 (strV (rfl:a0.toList=a0.toList) (litL ([]:List UInt8)))) [(10,.bool (a0.toList == ([]:List UInt8)))] ?_
  rcases ifC H with ⟨c434,H⟩ | ⟨c434,H⟩
  ·exact Ct (bq c434)<|Good.goto<|⟨k,(by first | trivial | omega),5,0,0,false,0,0,0,false,0,by omega,Wo [(2,0),(8,0)],H⟩
  refine Cf (bn c434)<|Sk<|Sw ?_
  obtain ⟨c435,H⟩:=ifS H
  refine Rd hm hN (.q 0 [[]] (.q 1 [[]] (.q 2 [[]] (.q 3 [[]] (.q 4 [[]] (.q 5 [[]] (.q 6 [[]] (.q 7 [[]] (.q 8 [[]] (.q 9 [[]] (.q 10 [[]] (.q 11 [[]] (.q 12 [[]] (.e 13 .z)))))))))))))) [(0,none),(5,some (.pt [I 0,I 0,B false,I 0]))] (.c1 (ptS (shrC (rfl:(V.shr (I 0))=I 0) (shrC (rfl:(V.shr (I 0))=I 0) (shrC (rfl:(V.shr (B false))=B false) (shrC (rfl:(V.shr (I 0))=I 0) (rfl:shrL []=[]))))))) [] [] (.c7 (show (0:Int)≤0 by decide) c435 (show (0:Int)≤6 by decide) (show (0:Int)≤0 by decide) c435 (show (0:Int)≤0 by decide) c435) (.c7 (show (0:Int)≤0 by decide) c435 (show (0:Int)≤6 by decide) (show (0:Int)≤0 by decide) c435 (show (0:Int)≤0 by decide) c435) [] []<|Sw<|Rg hN<|Sw<|Sw<|Rg hN ?_
  rcases ifC H with ⟨c436,H⟩ | ⟨c436,H⟩
  ·exact Ct (dt c436)<|Good.goto<|⟨k,(by first | trivial | omega),a0,1,5,0,0,false,0,wrap64 ((bt a0 0) / 64),wrap64 (Go.bits .and .u8 (bt a0 0) 31),((Go.bits .and .u8 (bt a0 0) 32) != 0),0,by omega,Wo [(0,0),(2,0),(5,0),(6,0),(8,0)],H⟩
  refine Cf (df c436)<|Sk<|Sw<|Rg hN<|Sw<|Good.label<|Sw<|Sw<|Good.cut (fun st=>∃ n':Nat,n'≤k∧∃ (x0:ByteArray) (x6:Int) (x7:Int) (x8:Int) (x45:Bool) (x1000:Int) (x1001:Int) (x1002:Bool) (x1003:Int) (x2000:Int) (x2001:Int) (x2002:Bool) (x2003:Int),Wk C st ⟨[(0,.w (S x0)),(2,.d (.ptr 0 0)),(5,.d (.ptr 1 0)),(6,.w (I x6)),(7,.w (I x7)),(8,.w (I x8)),(45,.w (B x45))],[.cells [.v (I x1000),.v (I x1001),.v (B x1002),.v (I x1003)],.cells [.v (I x2000),.v (I x2001),.v (B x2002),.v (I x2003)]]⟩∧head_Decode.j0 n' x0 x6 x7 x8 x45 x2000 x2001 x2002 x2003=some r) ?_ ?_
  ·rcases ifC H with ⟨c437,H⟩ | ⟨c437,H⟩
   ·exact Rh hN [B true,B true] (.c2 (dt c437) (rfl:true=true))<|⟨k,by omega,a0,1,0,5,true,0,0,false,0,wrap64 ((bt a0 0) / 64),0,((Go.bits .and .u8 (bt a0 0) 32) != 0),0,Wo [(0,0),(2,0),(5,0),(6,0),(7,0),(8,0),(45,0)],H⟩
   obtain ⟨c438,H⟩:=ifS H
   exact Rh hN [B false,B false,B true] (.c5 (df c437) (bn (show ¬ ((0:Int)=3) by decide)) (bq (show (0:Int)=0 by decide)) (show (0:Int)≤1 by decide) c438)<|⟨k,by omega,a0,1,0,5,((bt a0 1) == 128),0,0,false,0,wrap64 ((bt a0 0) / 64),0,((Go.bits .and .u8 (bt a0 0) 32) != 0),0,Wo [(0,0),(2,0),(5,0),(6,0),(7,0),(8,0),(45,0)],H⟩
  clear H
  rintro st ⟨n',hn',x0,x6,x7,x8,x45,x1000,x1001,x1002,x1003,x2000,x2001,x2002,x2003,W,H⟩
  rcases n' with _ | k
  ·cases H
  refine W.good ?_
  rw [head_Decode.j0] at H
  rcases ifC H with ⟨c439,H⟩ | ⟨c439,H⟩
  ·exact Ct c439<|Good.goto<|⟨k,(by first | trivial | omega),x8,x1000,x1001,x1002,x1003,x2000,x2001,x2002,x2003,by omega,Wo [(2,0),(8,0)],H⟩
  refine Cf (bf c439)<|Sk<|Sw ?_
  obtain ⟨c440,H⟩:=ifS H
  obtain ⟨c441,H⟩:=ifS H
  refine Rd hm hN (.q 0 [[]] (.q 1 [[]] (.q 2 [[]] (.q 3 [[]] (.q 4 [[]] (.q 5 [[]] (.q 6 [[]] (.q 7 [[]] (.q 8 [[]] (.q 9 [[]] (.e 10 .z))))))))))) [(0,none),(5,some (.pt [I x2000,I x2001,B x2002,I x2003])),(6,none)] (.c1 (ptS (shrC (rfl:(V.shr (I x2000))=I x2000) (shrC (rfl:(V.shr (I x2001))=I x2001) (shrC (rfl:(V.shr (B x2002))=B x2002) (shrC (rfl:(V.shr (I x2003))=I x2003) (rfl:shrL []=[]))))))) [] [] (.c3 (show (0:Int)≤7 by decide) c440 c441) (.c3 (show (0:Int)≤7 by decide) c440 c441) [] []<|Sw<|Rg hN<|Sw<|Rg hN<|Sw<|Sw ?_
  obtain ⟨c442,H⟩:=ifS H
  obtain ⟨c443,H⟩:=ifS H
  refine Rh hN [] (.c2 c442 c443) ?_
  rcases ifC H with ⟨c444,H⟩ | ⟨c444,H⟩
  ·exact Ct (dt c444)<|Good.goto<|⟨k,(by first | trivial | omega),x0,wrap64 (x6+1),wrap64 (x7+1),x8,x1000,x1001,x1002,x1003,x2000,Go.bits .or .i64 (wrap64 (x2001*128)) (wrap64 (Go.bits .and .u8 (bt x0 x6) 127)),x2002,x2003,by omega,Wo [(0,0),(2,0),(5,0),(6,0),(7,0),(8,0)],H⟩
  refine Cf (df c444)<|Sk<|Sw<|Sw<|Rg hN ?_
  rcases ifC H with ⟨c445,H⟩ | ⟨c445,H⟩
  ·exact Ct (dt c445)<|Good.goto<|⟨k,(by first | trivial | omega),x8,x1000,x1001,x1002,x1003,x2000,Go.bits .or .i64 (wrap64 (x2001*128)) (wrap64 (Go.bits .and .u8 (bt x0 x6) 127)),x2002,x2003,by omega,Wo [(2,0),(8,0)],H⟩
  refine Cf (df c445)<|Sk<|Sw<|Good.label<|Sw<|Sw<|Good.cut (fun st=>∃ n':Nat,n'≤k∧∃ (x0:ByteArray) (x6:Int) (x8:Int) (x77:Bool) (x1000:Int) (x1001:Int) (x1002:Bool) (x1003:Int) (x2000:Int) (x2001:Int) (x2002:Bool) (x2003:Int),Wk C st ⟨[(0,.w (S x0)),(2,.d (.ptr 0 0)),(5,.d (.ptr 1 0)),(6,.w (I x6)),(8,.w (I x8)),(77,.w (B x77))],[.cells [.v (I x1000),.v (I x1001),.v (B x1002),.v (I x1003)],.cells [.v (I x2000),.v (I x2001),.v (B x2002),.v (I x2003)]]⟩∧head_Decode.j1 n' x0 x6 x8 x77 x2000 x2001 x2002 x2003=some r) ?_ ?_
  ·rcases ifC H with ⟨c446,H⟩ | ⟨c446,H⟩
   ·exact Rh hN [B true] (.c1 (dt c446))<|⟨k,by omega,x0,wrap64 (x6+1),x8,true,x1000,x1001,x1002,x1003,x2000,Go.bits .or .i64 (wrap64 (x2001*128)) (wrap64 (Go.bits .and .u8 (bt x0 x6) 127)),x2002,x2003,Wo [(0,0),(2,0),(5,0),(6,0),(8,0),(77,0)],H⟩
   obtain ⟨c447,H⟩:=ifS H
   obtain ⟨c448,H⟩:=ifS H
   exact Rh hN [B false] (.c3 (df c446) c447 c448)<|⟨k,by omega,x0,wrap64 (x6+1),x8,((bt x0 (wrap64 (x6+1))) == 128),x1000,x1001,x1002,x1003,x2000,Go.bits .or .i64 (wrap64 (x2001*128)) (wrap64 (Go.bits .and .u8 (bt x0 x6) 127)),x2002,x2003,Wo [(0,0),(2,0),(5,0),(6,0),(8,0),(77,0)],H⟩
  clear H
  rintro st ⟨n',hn',x0,x6,x8,x77,x1000,x1001,x1002,x1003,x2000,x2001,x2002,x2003,W,H⟩
  rcases n' with _ | k
  ·cases H
  refine W.good ?_
  rw [head_Decode.j1] at H
  rcases ifC H with ⟨c449,H⟩ | ⟨c449,H⟩
  ·exact Ct c449<|Good.goto<|⟨k,(by first | trivial | omega),x8,x1000,x1001,x1002,x1003,x2000,x2001,x2002,x2003,by omega,Wo [(2,0),(8,0)],H⟩
  refine Cf (bf c449)<|Sk<|Sw<|Sw ?_
  obtain ⟨c450,H⟩:=ifS H
  obtain ⟨c451,H⟩:=ifS H
  refine Rh hN [] (.c2 c450 c451) ?_
  rcases ifC H with ⟨c452,H⟩ | ⟨c452,H⟩
  ·exact Ct (dt c452)<|Sw<|Rg hN<|Good.goto<|⟨k,(by first | trivial | omega),4,x1000,x1001,x1002,x1003,x2000,x2001,x2002,x2003,by omega,Wo [(2,0),(8,0)],H⟩
  refine Cf (df c452)<|Sk<|Sw<|Sw<|Rh hN [] (.c2 c450 c451) ?_
  rcases ifC H with ⟨c453,H⟩ | ⟨c453,H⟩
  ·refine Ct (dt c453)<|Sw<|Rh hN [] (.c2 c450 c451)<|Sw<|Rg hN ?_
   cases H
   exact Rt dR
  refine Cf (df c453)<|Sk<|Sw<|Rh hN [] (.c2 c450 c451)<|Sw<|Rg hN<|Sw<|Sw<|Rg hN ?_
  rcases ifC H with ⟨c454,H⟩ | ⟨c454,H⟩
  ·exact Ct (dt c454)<|Good.goto<|⟨k,(by first | trivial | omega),x8,x1000,x1001,x1002,x1003,x2000,x2001,x2002,x2003,by omega,Wo [(2,0),(8,0)],H⟩
  refine Cf (df c454)<|Sk<|Sw<|Sw<|Rg hN<|Bl<|Good.loopN (fun k' st=>∃ (x0:ByteArray) (x6:Int) (x7:Int) (x8:Int) (x107:Int) (x108:Int) (x1000:Int) (x1001:Int) (x1002:Bool) (x1003:Int) (x2000:Int) (x2001:Int) (x2002:Bool) (x2003:Int),k'≤k∧Wk C st ⟨[(0,.w (S x0)),(2,.d (.ptr 0 0)),(5,.d (.ptr 1 0)),(6,.w (I x6)),(7,.w (I x7)),(8,.w (I x8)),(107,.w (I x107)),(108,.w (I x108))],[.cells [.v (I x1000),.v (I x1001),.v (B x1002),.v (I x1003)],.cells [.v (I x2000),.v (I x2001),.v (B x2002),.v (I x2003)]]⟩∧head_Decode.l0 k' x0 x6 x7 x8 x107 x108 x2000 x2001 x2002 x2003=some r) k ⟨x0,wrap64 (x6+1),wrap64 (Go.bits .and .u8 (bt x0 x6) 127),x8,wrap64 (Go.bits .and .u8 (bt x0 x6) 127),0,x1000,x1001,x1002,x1003,x2000,x2001,x2002,x2003,Nat.le_refl _,Wo [(0,0),(2,0),(5,0),(6,0),(7,0),(8,0),(107,0),(108,0)],H⟩ fun k=>⟨fun st h=>(by obtain ⟨_,_,_,_,_,_,_,_,_,_,_,_,_,_,_,_,H⟩:=h;cases H),?_⟩
  clear H
  rintro st ⟨x0,x6,x7,x8,x107,x108,x1000,x1001,x1002,x1003,x2000,x2001,x2002,x2003,hk,W,H⟩
  refine W.good ?_
  rw [head_Decode.l0] at H
  refine Sw<|Rg hN<|Sw ?_
  rcases ifC H with ⟨c455,H⟩ | ⟨c455,H⟩
  ·refine Ct (dt c455)<|Sk<|Sw<|Bl<|Sw ?_
   obtain ⟨c456,H⟩:=ifS H
   obtain ⟨c457,H⟩:=ifS H
   exact Rd hm hN (.q 0 [[]] (.q 1 [[]] (.q 2 [[]] (.q 3 [[]] (.q 4 [[]] (.q 5 [[]] (.q 6 [[]] (.q 7 [[]] (.q 8 [[]] (.e 9 .z)))))))))) [(0,none),(5,some (.pt [I x2000,I x2001,B x2002,I x2003])),(6,none)] (.c1 (ptS (shrC (rfl:(V.shr (I x2000))=I x2000) (shrC (rfl:(V.shr (I x2001))=I x2001) (shrC (rfl:(V.shr (B x2002))=B x2002) (shrC (rfl:(V.shr (I x2003))=I x2003) (rfl:shrL []=[]))))))) [] [] (.c3 (show (0:Int)≤8 by decide) c456 c457) (.c3 (show (0:Int)≤8 by decide) c456 c457) [] []<|Rg hN<|Rg hN<|⟨k,by omega,x0,wrap64 (x6+1),x7,x8,x107,wrap64 (x108+1),x1000,x1001,x1002,x1003,x2000,x2001,x2002,Go.bits .or .i64 (wrap64 (x2003*256)) (wrap64 (bt x0 x6)),by omega,Wo [(0,0),(2,0),(5,0),(6,0),(7,0),(8,0),(107,0),(108,0)],H⟩
  refine Cf (df c455)<|Ex<|Sw<|Sw ?_
  obtain ⟨c458,H⟩:=ifS H
  rcases (ifC H).symm with ⟨c459,H⟩ | ⟨c459,H⟩
  ·refine Rd hm hN (.qs 8 0 (.k 129 (.is 3 8 (.q 11 [] .z)))) [(5,some (.pt [I x2000,I x2001,B x2002,I x2003])),(7,none)] (.c1 (ptS (shrC (rfl:(V.shr (I x2000))=I x2000) (shrC (rfl:(V.shr (I x2001))=I x2001) (shrC (rfl:(V.shr (B x2002))=B x2002) (shrC (rfl:(V.shr (I x2003))=I x2003) (rfl:shrL []=[]))))))) [B false] [] (.c2 c458 (df c459)) (.c2 c458 (df c459)) [] []<|Good.cond false (by kernel_rfl)<|Sk<|Sw<|Good.label<|Sw<|Rg hN ?_
   cases H
   exact Rt dR
  refine Rd hm hN (.qs 8 0 (.k 129 (.qs 3 8 (.q 11 [] .z)))) [(5,some (.pt [I x2000,I x2001,B x2002,I x2003])),(7,none)] (.c1 (ptS (shrC (rfl:(V.shr (I x2000))=I x2000) (shrC (rfl:(V.shr (I x2001))=I x2001) (shrC (rfl:(V.shr (B x2002))=B x2002) (shrC (rfl:(V.shr (I x2003))=I x2003) (rfl:shrL []=[]))))))) [B true] [] (.c2 c458 (dt c459)) (.c2 c458 (dt c459)) [] [] ?_
  rcases ifC H with ⟨c460,H⟩ | ⟨c460,H⟩
  ·refine Ct (dt c460)<|Sw<|Rg hN ?_
   cases H
   exact Rt dR
  refine Cf (df c460)<|Sk<|Sw<|Good.label<|Sw<|Rg hN ?_
  cases H
  exact Rt dR
 ·clear H
  rintro n st ⟨x8,x1000,x1001,x1002,x1003,x2000,x2001,x2002,x2003,hn,W,H⟩
  rcases n with _ | k
  ·cases H
  refine W.good ?_
  rw [head_Decode.g0_0] at H
  refine Sw<|Sk<|Sw<|Rg hN ?_
  cases H
  exact Rt dR
 ·clear H
  rintro n st ⟨x0,x6,x8,x1000,x1001,x1002,x1003,x2000,x2001,x2002,x2003,hn,W,H⟩
  rcases n with _ | k
  ·cases H
  refine W.good ?_
  rw [head_Decode.g0_1] at H
  refine Sw<|Sk<|Sw<|Sw<|Good.cut (fun st=>∃ n':Nat,n'≤k∧∃ (x0:ByteArray) (x6:Int) (x8:Int) (x77:Bool) (x1000:Int) (x1001:Int) (x1002:Bool) (x1003:Int) (x2000:Int) (x2001:Int) (x2002:Bool) (x2003:Int),Wk C st ⟨[(0,.w (S x0)),(2,.d (.ptr 0 0)),(5,.d (.ptr 1 0)),(6,.w (I x6)),(8,.w (I x8)),(77,.w (B x77))],[.cells [.v (I x1000),.v (I x1001),.v (B x1002),.v (I x1003)],.cells [.v (I x2000),.v (I x2001),.v (B x2002),.v (I x2003)]]⟩∧head_Decode.j5 n' x0 x6 x8 x77 x2000 x2001 x2002 x2003=some r) ?_ ?_
  ·rcases ifC H with ⟨c461,H⟩ | ⟨c461,H⟩
   ·exact Rh hN [B true] (.c1 (dt c461))<|⟨k,by omega,x0,x6,x8,true,x1000,x1001,x1002,x1003,x2000,x2001,x2002,x2003,Wo [(0,0),(2,0),(5,0),(6,0),(8,0),(77,0)],H⟩
   obtain ⟨c462,H⟩:=ifS H
   obtain ⟨c463,H⟩:=ifS H
   exact Rh hN [B false] (.c3 (df c461) c462 c463)<|⟨k,by omega,x0,x6,x8,((bt x0 x6) == 128),x1000,x1001,x1002,x1003,x2000,x2001,x2002,x2003,Wo [(0,0),(2,0),(5,0),(6,0),(8,0),(77,0)],H⟩
  clear H
  rintro st ⟨n',hn',x0,x6,x8,x77,x1000,x1001,x1002,x1003,x2000,x2001,x2002,x2003,W,H⟩
  rcases n' with _ | k
  ·cases H
  refine W.good ?_
  rw [head_Decode.j5] at H
  rcases ifC H with ⟨c464,H⟩ | ⟨c464,H⟩
  ·exact Ct c464<|Good.goto<|⟨k,(by first | trivial | omega),x8,x1000,x1001,x1002,x1003,x2000,x2001,x2002,x2003,by omega,Wo [(2,0),(8,0)],H⟩
  refine Cf (bf c464)<|Sk<|Sw<|Sw ?_
  obtain ⟨c465,H⟩:=ifS H
  obtain ⟨c466,H⟩:=ifS H
  refine Rh hN [] (.c2 c465 c466) ?_
  rcases ifC H with ⟨c467,H⟩ | ⟨c467,H⟩
  ·exact Ct (dt c467)<|Sw<|Rg hN<|Good.goto<|⟨k,(by first | trivial | omega),4,x1000,x1001,x1002,x1003,x2000,x2001,x2002,x2003,by omega,Wo [(2,0),(8,0)],H⟩
  refine Cf (df c467)<|Sk<|Sw<|Sw<|Rh hN [] (.c2 c465 c466) ?_
  rcases ifC H with ⟨c468,H⟩ | ⟨c468,H⟩
  ·refine Ct (dt c468)<|Sw<|Rh hN [] (.c2 c465 c466)<|Sw<|Rg hN ?_
   cases H
   exact Rt dR
  refine Cf (df c468)<|Sk<|Sw<|Rh hN [] (.c2 c465 c466)<|Sw<|Rg hN<|Sw<|Sw<|Rg hN ?_
  rcases ifC H with ⟨c469,H⟩ | ⟨c469,H⟩
  ·exact Ct (dt c469)<|Good.goto<|⟨k,(by first | trivial | omega),x8,x1000,x1001,x1002,x1003,x2000,x2001,x2002,x2003,by omega,Wo [(2,0),(8,0)],H⟩
  refine Cf (df c469)<|Sk<|Sw<|Sw<|Rg hN<|Bl<|Good.loopN (fun k' st=>∃ (x0:ByteArray) (x6:Int) (x7:Int) (x8:Int) (x107:Int) (x108:Int) (x1000:Int) (x1001:Int) (x1002:Bool) (x1003:Int) (x2000:Int) (x2001:Int) (x2002:Bool) (x2003:Int),k'≤k∧Wk C st ⟨[(0,.w (S x0)),(2,.d (.ptr 0 0)),(5,.d (.ptr 1 0)),(6,.w (I x6)),(7,.w (I x7)),(8,.w (I x8)),(107,.w (I x107)),(108,.w (I x108))],[.cells [.v (I x1000),.v (I x1001),.v (B x1002),.v (I x1003)],.cells [.v (I x2000),.v (I x2001),.v (B x2002),.v (I x2003)]]⟩∧head_Decode.l0 k' x0 x6 x7 x8 x107 x108 x2000 x2001 x2002 x2003=some r) k ⟨x0,wrap64 (x6+1),wrap64 (Go.bits .and .u8 (bt x0 x6) 127),x8,wrap64 (Go.bits .and .u8 (bt x0 x6) 127),0,x1000,x1001,x1002,x1003,x2000,x2001,x2002,x2003,Nat.le_refl _,Wo [(0,0),(2,0),(5,0),(6,0),(7,0),(8,0),(107,0),(108,0)],H⟩ fun k=>⟨fun st h=>(by obtain ⟨_,_,_,_,_,_,_,_,_,_,_,_,_,_,_,_,H⟩:=h;cases H),?_⟩
  clear H
  rintro st ⟨x0,x6,x7,x8,x107,x108,x1000,x1001,x1002,x1003,x2000,x2001,x2002,x2003,hk,W,H⟩
  refine W.good ?_
  rw [head_Decode.l0] at H
  refine Sw<|Rg hN<|Sw ?_
  rcases ifC H with ⟨c455,H⟩ | ⟨c455,H⟩
  ·refine Ct (dt c455)<|Sk<|Sw<|Bl<|Sw ?_
   obtain ⟨c456,H⟩:=ifS H
   obtain ⟨c457,H⟩:=ifS H
   exact Rd hm hN (.q 0 [[]] (.q 1 [[]] (.q 2 [[]] (.q 3 [[]] (.q 4 [[]] (.q 5 [[]] (.q 6 [[]] (.q 7 [[]] (.q 8 [[]] (.e 9 .z)))))))))) [(0,none),(5,some (.pt [I x2000,I x2001,B x2002,I x2003])),(6,none)] (.c1 (ptS (shrC (rfl:(V.shr (I x2000))=I x2000) (shrC (rfl:(V.shr (I x2001))=I x2001) (shrC (rfl:(V.shr (B x2002))=B x2002) (shrC (rfl:(V.shr (I x2003))=I x2003) (rfl:shrL []=[]))))))) [] [] (.c3 (show (0:Int)≤8 by decide) c456 c457) (.c3 (show (0:Int)≤8 by decide) c456 c457) [] []<|Rg hN<|Rg hN<|⟨k,by omega,x0,wrap64 (x6+1),x7,x8,x107,wrap64 (x108+1),x1000,x1001,x1002,x1003,x2000,x2001,x2002,Go.bits .or .i64 (wrap64 (x2003*256)) (wrap64 (bt x0 x6)),by omega,Wo [(0,0),(2,0),(5,0),(6,0),(7,0),(8,0),(107,0),(108,0)],H⟩
  refine Cf (df c455)<|Ex<|Sw<|Sw ?_
  obtain ⟨c458,H⟩:=ifS H
  rcases (ifC H).symm with ⟨c459,H⟩ | ⟨c459,H⟩
  ·refine Rd hm hN (.qs 8 0 (.k 129 (.is 3 8 (.q 11 [] .z)))) [(5,some (.pt [I x2000,I x2001,B x2002,I x2003])),(7,none)] (.c1 (ptS (shrC (rfl:(V.shr (I x2000))=I x2000) (shrC (rfl:(V.shr (I x2001))=I x2001) (shrC (rfl:(V.shr (B x2002))=B x2002) (shrC (rfl:(V.shr (I x2003))=I x2003) (rfl:shrL []=[]))))))) [B false] [] (.c2 c458 (df c459)) (.c2 c458 (df c459)) [] []<|Good.cond false (by kernel_rfl)<|Sk<|Sw<|Good.label<|Sw<|Rg hN ?_
   cases H
   exact Rt dR
  refine Rd hm hN (.qs 8 0 (.k 129 (.qs 3 8 (.q 11 [] .z)))) [(5,some (.pt [I x2000,I x2001,B x2002,I x2003])),(7,none)] (.c1 (ptS (shrC (rfl:(V.shr (I x2000))=I x2000) (shrC (rfl:(V.shr (I x2001))=I x2001) (shrC (rfl:(V.shr (B x2002))=B x2002) (shrC (rfl:(V.shr (I x2003))=I x2003) (rfl:shrL []=[]))))))) [B true] [] (.c2 c458 (dt c459)) (.c2 c458 (dt c459)) [] [] ?_
  rcases ifC H with ⟨c460,H⟩ | ⟨c460,H⟩
  ·refine Ct (dt c460)<|Sw<|Rg hN ?_
   cases H
   exact Rt dR
  refine Cf (df c460)<|Sk<|Sw<|Good.label<|Sw<|Rg hN ?_
  cases H
  exact Rt dR
 ·clear H
  rintro n st ⟨x0,x6,x7,x8,x1000,x1001,x1002,x1003,x2000,x2001,x2002,x2003,hn,W,H⟩
  rcases n with _ | k
  ·cases H
  refine W.good ?_
  rw [head_Decode.g0_2] at H
  refine Sw<|Sk<|Sw<|Sw<|Good.cut (fun st=>∃ n':Nat,n'≤k∧∃ (x0:ByteArray) (x6:Int) (x7:Int) (x8:Int) (x45:Bool) (x1000:Int) (x1001:Int) (x1002:Bool) (x1003:Int) (x2000:Int) (x2001:Int) (x2002:Bool) (x2003:Int),Wk C st ⟨[(0,.w (S x0)),(2,.d (.ptr 0 0)),(5,.d (.ptr 1 0)),(6,.w (I x6)),(7,.w (I x7)),(8,.w (I x8)),(45,.w (B x45))],[.cells [.v (I x1000),.v (I x1001),.v (B x1002),.v (I x1003)],.cells [.v (I x2000),.v (I x2001),.v (B x2002),.v (I x2003)]]⟩∧head_Decode.j7 n' x0 x6 x7 x8 x45 x2000 x2001 x2002 x2003=some r) ?_ ?_
  ·rcases ifC H with ⟨c470,H⟩ | ⟨c470,H⟩
   ·exact Rh hN [B true,B true] (.c2 (dt c470) (rfl:true=true))<|⟨k,by omega,x0,x6,x7,x8,true,x1000,x1001,x1002,x1003,x2000,x2001,x2002,x2003,Wo [(0,0),(2,0),(5,0),(6,0),(7,0),(8,0),(45,0)],H⟩
   rcases ifC H with ⟨c471,H⟩ | ⟨c471,H⟩
   ·exact Rh hN [B false,B true] (.c2 (df c470) (bq c471))<|⟨k,by omega,x0,x6,x7,x8,true,x1000,x1001,x1002,x1003,x2000,x2001,x2002,x2003,Wo [(0,0),(2,0),(5,0),(6,0),(7,0),(8,0),(45,0)],H⟩
   rcases (ifC H).symm with ⟨c472,H⟩ | ⟨c472,H⟩
   ·exact Rh hN [B false,B false,B false] (.c3 (df c470) (bn c471) (bn c472))<|⟨k,by omega,x0,x6,x7,x8,false,x1000,x1001,x1002,x1003,x2000,x2001,x2002,x2003,Wo [(0,0),(2,0),(5,0),(6,0),(7,0),(8,0),(45,0)],H⟩
   obtain ⟨c473,H⟩:=ifS H
   obtain ⟨c474,H⟩:=ifS H
   exact Rh hN [B false,B false,B true] (.c5 (df c470) (bn c471) (bq c472) c473 c474)<|⟨k,by omega,x0,x6,x7,x8,((bt x0 x6) == 128),x1000,x1001,x1002,x1003,x2000,x2001,x2002,x2003,Wo [(0,0),(2,0),(5,0),(6,0),(7,0),(8,0),(45,0)],H⟩
  clear H
  rintro st ⟨n',hn',x0,x6,x7,x8,x45,x1000,x1001,x1002,x1003,x2000,x2001,x2002,x2003,W,H⟩
  rcases n' with _ | k
  ·cases H
  refine W.good ?_
  rw [head_Decode.j7] at H
  rcases ifC H with ⟨c475,H⟩ | ⟨c475,H⟩
  ·exact Ct c475<|Good.goto<|⟨k,(by first | trivial | omega),x8,x1000,x1001,x1002,x1003,x2000,x2001,x2002,x2003,by omega,Wo [(2,0),(8,0)],H⟩
  refine Cf (bf c475)<|Sk<|Sw ?_
  obtain ⟨c476,H⟩:=ifS H
  obtain ⟨c477,H⟩:=ifS H
  refine Rd hm hN (.q 0 [[]] (.q 1 [[]] (.q 2 [[]] (.q 3 [[]] (.q 4 [[]] (.q 5 [[]] (.q 6 [[]] (.q 7 [[]] (.q 8 [[]] (.q 9 [[]] (.e 10 .z))))))))))) [(0,none),(5,some (.pt [I x2000,I x2001,B x2002,I x2003])),(6,none)] (.c1 (ptS (shrC (rfl:(V.shr (I x2000))=I x2000) (shrC (rfl:(V.shr (I x2001))=I x2001) (shrC (rfl:(V.shr (B x2002))=B x2002) (shrC (rfl:(V.shr (I x2003))=I x2003) (rfl:shrL []=[]))))))) [] [] (.c3 (show (0:Int)≤7 by decide) c476 c477) (.c3 (show (0:Int)≤7 by decide) c476 c477) [] []<|Sw<|Rg hN<|Sw<|Rg hN<|Sw<|Sw ?_
  obtain ⟨c478,H⟩:=ifS H
  obtain ⟨c479,H⟩:=ifS H
  refine Rh hN [] (.c2 c478 c479) ?_
  rcases ifC H with ⟨c480,H⟩ | ⟨c480,H⟩
  ·exact Ct (dt c480)<|Good.goto<|⟨k,(by first | trivial | omega),x0,wrap64 (x6+1),wrap64 (x7+1),x8,x1000,x1001,x1002,x1003,x2000,Go.bits .or .i64 (wrap64 (x2001*128)) (wrap64 (Go.bits .and .u8 (bt x0 x6) 127)),x2002,x2003,by omega,Wo [(0,0),(2,0),(5,0),(6,0),(7,0),(8,0)],H⟩
  refine Cf (df c480)<|Sk<|Sw<|Sw<|Rg hN ?_
  rcases ifC H with ⟨c481,H⟩ | ⟨c481,H⟩
  ·exact Ct (dt c481)<|Good.goto<|⟨k,(by first | trivial | omega),x8,x1000,x1001,x1002,x1003,x2000,Go.bits .or .i64 (wrap64 (x2001*128)) (wrap64 (Go.bits .and .u8 (bt x0 x6) 127)),x2002,x2003,by omega,Wo [(2,0),(8,0)],H⟩
  refine Cf (df c481)<|Sk<|Sw<|Good.label<|Sw<|Sw<|Good.cut (fun st=>∃ n':Nat,n'≤k∧∃ (x0:ByteArray) (x6:Int) (x8:Int) (x77:Bool) (x1000:Int) (x1001:Int) (x1002:Bool) (x1003:Int) (x2000:Int) (x2001:Int) (x2002:Bool) (x2003:Int),Wk C st ⟨[(0,.w (S x0)),(2,.d (.ptr 0 0)),(5,.d (.ptr 1 0)),(6,.w (I x6)),(8,.w (I x8)),(77,.w (B x77))],[.cells [.v (I x1000),.v (I x1001),.v (B x1002),.v (I x1003)],.cells [.v (I x2000),.v (I x2001),.v (B x2002),.v (I x2003)]]⟩∧head_Decode.j8 n' x0 x6 x8 x77 x2000 x2001 x2002 x2003=some r) ?_ ?_
  ·rcases ifC H with ⟨c482,H⟩ | ⟨c482,H⟩
   ·exact Rh hN [B true] (.c1 (dt c482))<|⟨k,by omega,x0,wrap64 (x6+1),x8,true,x1000,x1001,x1002,x1003,x2000,Go.bits .or .i64 (wrap64 (x2001*128)) (wrap64 (Go.bits .and .u8 (bt x0 x6) 127)),x2002,x2003,Wo [(0,0),(2,0),(5,0),(6,0),(8,0),(77,0)],H⟩
   obtain ⟨c483,H⟩:=ifS H
   obtain ⟨c484,H⟩:=ifS H
   exact Rh hN [B false] (.c3 (df c482) c483 c484)<|⟨k,by omega,x0,wrap64 (x6+1),x8,((bt x0 (wrap64 (x6+1))) == 128),x1000,x1001,x1002,x1003,x2000,Go.bits .or .i64 (wrap64 (x2001*128)) (wrap64 (Go.bits .and .u8 (bt x0 x6) 127)),x2002,x2003,Wo [(0,0),(2,0),(5,0),(6,0),(8,0),(77,0)],H⟩
  clear H
  rintro st ⟨n',hn',x0,x6,x8,x77,x1000,x1001,x1002,x1003,x2000,x2001,x2002,x2003,W,H⟩
  rcases n' with _ | k
  ·cases H
  refine W.good ?_
  rw [head_Decode.j8] at H
  rcases ifC H with ⟨c485,H⟩ | ⟨c485,H⟩
  ·exact Ct c485<|Good.goto<|⟨k,(by first | trivial | omega),x8,x1000,x1001,x1002,x1003,x2000,x2001,x2002,x2003,by omega,Wo [(2,0),(8,0)],H⟩
  refine Cf (bf c485)<|Sk<|Sw<|Sw ?_
  obtain ⟨c486,H⟩:=ifS H
  obtain ⟨c487,H⟩:=ifS H
  refine Rh hN [] (.c2 c486 c487) ?_
  rcases ifC H with ⟨c488,H⟩ | ⟨c488,H⟩
  ·exact Ct (dt c488)<|Sw<|Rg hN<|Good.goto<|⟨k,(by first | trivial | omega),4,x1000,x1001,x1002,x1003,x2000,x2001,x2002,x2003,by omega,Wo [(2,0),(8,0)],H⟩
  refine Cf (df c488)<|Sk<|Sw<|Sw<|Rh hN [] (.c2 c486 c487) ?_
  rcases ifC H with ⟨c489,H⟩ | ⟨c489,H⟩
  ·refine Ct (dt c489)<|Sw<|Rh hN [] (.c2 c486 c487)<|Sw<|Rg hN ?_
   cases H
   exact Rt dR
  refine Cf (df c489)<|Sk<|Sw<|Rh hN [] (.c2 c486 c487)<|Sw<|Rg hN<|Sw<|Sw<|Rg hN ?_
  rcases ifC H with ⟨c490,H⟩ | ⟨c490,H⟩
  ·exact Ct (dt c490)<|Good.goto<|⟨k,(by first | trivial | omega),x8,x1000,x1001,x1002,x1003,x2000,x2001,x2002,x2003,by omega,Wo [(2,0),(8,0)],H⟩
  refine Cf (df c490)<|Sk<|Sw<|Sw<|Rg hN<|Bl<|Good.loopN (fun k' st=>∃ (x0:ByteArray) (x6:Int) (x7:Int) (x8:Int) (x107:Int) (x108:Int) (x1000:Int) (x1001:Int) (x1002:Bool) (x1003:Int) (x2000:Int) (x2001:Int) (x2002:Bool) (x2003:Int),k'≤k∧Wk C st ⟨[(0,.w (S x0)),(2,.d (.ptr 0 0)),(5,.d (.ptr 1 0)),(6,.w (I x6)),(7,.w (I x7)),(8,.w (I x8)),(107,.w (I x107)),(108,.w (I x108))],[.cells [.v (I x1000),.v (I x1001),.v (B x1002),.v (I x1003)],.cells [.v (I x2000),.v (I x2001),.v (B x2002),.v (I x2003)]]⟩∧head_Decode.l0 k' x0 x6 x7 x8 x107 x108 x2000 x2001 x2002 x2003=some r) k ⟨x0,wrap64 (x6+1),wrap64 (Go.bits .and .u8 (bt x0 x6) 127),x8,wrap64 (Go.bits .and .u8 (bt x0 x6) 127),0,x1000,x1001,x1002,x1003,x2000,x2001,x2002,x2003,Nat.le_refl _,Wo [(0,0),(2,0),(5,0),(6,0),(7,0),(8,0),(107,0),(108,0)],H⟩ fun k=>⟨fun st h=>(by obtain ⟨_,_,_,_,_,_,_,_,_,_,_,_,_,_,_,_,H⟩:=h;cases H),?_⟩
  clear H
  rintro st ⟨x0,x6,x7,x8,x107,x108,x1000,x1001,x1002,x1003,x2000,x2001,x2002,x2003,hk,W,H⟩
  refine W.good ?_
  rw [head_Decode.l0] at H
  refine Sw<|Rg hN<|Sw ?_
  rcases ifC H with ⟨c455,H⟩ | ⟨c455,H⟩
  ·refine Ct (dt c455)<|Sk<|Sw<|Bl<|Sw ?_
   obtain ⟨c456,H⟩:=ifS H
   obtain ⟨c457,H⟩:=ifS H
   exact Rd hm hN (.q 0 [[]] (.q 1 [[]] (.q 2 [[]] (.q 3 [[]] (.q 4 [[]] (.q 5 [[]] (.q 6 [[]] (.q 7 [[]] (.q 8 [[]] (.e 9 .z)))))))))) [(0,none),(5,some (.pt [I x2000,I x2001,B x2002,I x2003])),(6,none)] (.c1 (ptS (shrC (rfl:(V.shr (I x2000))=I x2000) (shrC (rfl:(V.shr (I x2001))=I x2001) (shrC (rfl:(V.shr (B x2002))=B x2002) (shrC (rfl:(V.shr (I x2003))=I x2003) (rfl:shrL []=[]))))))) [] [] (.c3 (show (0:Int)≤8 by decide) c456 c457) (.c3 (show (0:Int)≤8 by decide) c456 c457) [] []<|Rg hN<|Rg hN<|⟨k,by omega,x0,wrap64 (x6+1),x7,x8,x107,wrap64 (x108+1),x1000,x1001,x1002,x1003,x2000,x2001,x2002,Go.bits .or .i64 (wrap64 (x2003*256)) (wrap64 (bt x0 x6)),by omega,Wo [(0,0),(2,0),(5,0),(6,0),(7,0),(8,0),(107,0),(108,0)],H⟩
  refine Cf (df c455)<|Ex<|Sw<|Sw ?_
  obtain ⟨c458,H⟩:=ifS H
  rcases (ifC H).symm with ⟨c459,H⟩ | ⟨c459,H⟩
  ·refine Rd hm hN (.qs 8 0 (.k 129 (.is 3 8 (.q 11 [] .z)))) [(5,some (.pt [I x2000,I x2001,B x2002,I x2003])),(7,none)] (.c1 (ptS (shrC (rfl:(V.shr (I x2000))=I x2000) (shrC (rfl:(V.shr (I x2001))=I x2001) (shrC (rfl:(V.shr (B x2002))=B x2002) (shrC (rfl:(V.shr (I x2003))=I x2003) (rfl:shrL []=[]))))))) [B false] [] (.c2 c458 (df c459)) (.c2 c458 (df c459)) [] []<|Good.cond false (by kernel_rfl)<|Sk<|Sw<|Good.label<|Sw<|Rg hN ?_
   cases H
   exact Rt dR
  refine Rd hm hN (.qs 8 0 (.k 129 (.qs 3 8 (.q 11 [] .z)))) [(5,some (.pt [I x2000,I x2001,B x2002,I x2003])),(7,none)] (.c1 (ptS (shrC (rfl:(V.shr (I x2000))=I x2000) (shrC (rfl:(V.shr (I x2001))=I x2001) (shrC (rfl:(V.shr (B x2002))=B x2002) (shrC (rfl:(V.shr (I x2003))=I x2003) (rfl:shrL []=[]))))))) [B true] [] (.c2 c458 (dt c459)) (.c2 c458 (dt c459)) [] [] ?_
  rcases ifC H with ⟨c460,H⟩ | ⟨c460,H⟩
  ·refine Ct (dt c460)<|Sw<|Rg hN ?_
   cases H
   exact Rt dR
  refine Cf (df c460)<|Sk<|Sw<|Good.label<|Sw<|Rg hN ?_
  cases H
  exact Rt dR
def octets_Cut.f (a0:ByteArray) (a1:Int) (a2:Int):Option (ByteArray):=if a1 < 0 then (some (⟨#[]⟩:ByteArray)) else (if a1≥(a0.size:Int) then (some (⟨#[]⟩:ByteArray)) else (if a2 < 1 then (some (⟨#[]⟩:ByteArray)) else (if 0≤a1 then (if a1≤(wrap64 (a1+(mn a2 (wrap64 ((a0.size:Int) - a1))))) then (if (wrap64 (a1+(mn a2 (wrap64 ((a0.size:Int) - a1)))))≤(a0.size:Int) then (some (a0.extract (a1:Int).toNat ((wrap64 (a1+(mn a2 (wrap64 ((a0.size:Int) - a1))))):Int).toNat)) else (none)) else (none)) else (none))))
theorem octets_Cut.con {a0:ByteArray} {a1:Int} {a2:Int} {r:(ByteArray)} (H:octets_Cut.f a0 a1 a2=some r):Con Tryz.prog 83 [S a0,I a1,I a2] (S r):=by
 refine Cg Tryz.func83 rfl fun C hN hL=>?_
 unfold octets_Cut.f at H
 refine Sw<|Rg hN<|Sw<|Sw ?_
 rcases ifC H with ⟨c491,H⟩ | ⟨c491,H⟩
 ·refine Rh hN [B true,B true] (.c2 (dt c491) (rfl:true=true))<|Good.cond true (by kernel_rfl)<|Sw<|Rg hN ?_
  cases H
  exact Rt dR
 rcases ifC H with ⟨c492,H⟩ | ⟨c492,H⟩
 ·refine Rh hN [B false,B true] (.c2 (df c491) (dt c492))<|Good.cond true (by kernel_rfl)<|Sw<|Rg hN ?_
  cases H
  exact Rt dR
 refine Rh hN [B false,B false] (.c2 (df c491) (df c492)) ?_
 rcases ifC H with ⟨c493,H⟩ | ⟨c493,H⟩
 ·refine Ct (dt c493)<|Sw<|Rg hN ?_
  cases H
  exact Rt dR
 refine Cf (df c493)<|Sk<|Sw ?_
 obtain ⟨c494,H⟩:=ifS H
 obtain ⟨c495,H⟩:=ifS H
 obtain ⟨c496,H⟩:=ifS H
 refine Rh hN [] (.c3 c494 c495 c496) ?_
 cases H
 exact Rt dR
def tlv_reader_may.j0:Nat→ByteArray→Bool→ByteArray→List S55→List (Nat × Nat)→List Int→Int→Bool→Option (Int × ByteArray × List S55 × List (Nat × Nat) × List Int)
 | 0,_,_,_,_,_,_,_,_=>none
 | k+1,x2,x25,x1000,x1001,x1002,x1003,x2001,x2002=>if x25=true then (some (0,x1000,x1001,x1002,x1003)) else (if x2002=true then (some (5,x1000,x1001,x1002,x1003)) else ((strs_Right.f k x2001 x2).bind fun t504=>(if t504=true then (some (0,x1000,x1001,x1002,x1003)) else (some (5,x1000,x1001,x1002,x1003)))))
def tlv_reader_may.f (k:Nat) (a0_0:ByteArray) (l0_1:List S55) (l0_2:List (Nat × Nat)) (l0_3:List Int) (a1_0:Int) (a1_1:Int) (a1_2:Bool) (a1_3:Int) (a2:ByteArray):Option (Int × ByteArray × List S55 × List (Nat × Nat) × List Int):=if (l0_3.length:Int)≥16 then (some (6,a0_0,l0_1,l0_2,l0_3)) else (if (l0_1.length:Int)≥1000 then (some (4,a0_0,l0_1,l0_2,l0_3)) else (if a1_0=0 then (if a1_2=true then (if a1_1=16 then (tlv_reader_may.j0 k a2 true a0_0 l0_1 l0_2 l0_3 a1_1 a1_2) else (tlv_reader_may.j0 k a2 (a1_1 == 17) a0_0 l0_1 l0_2 l0_3 a1_1 a1_2)) else (tlv_reader_may.j0 k a2 false a0_0 l0_1 l0_2 l0_3 a1_1 a1_2)) else (some (0,a0_0,l0_1,l0_2,l0_3))))
theorem tlv_reader_may.con {k:Nat} {a0_0:ByteArray} {l0_1:List S55} {l0_2:List (Nat × Nat)} {l0_3:List Int} {a1_0:Int} {a1_1:Int} {a1_2:Bool} {a1_3:Int} {a2:ByteArray} {r:(Int × ByteArray × List S55 × List (Nat × Nat) × List Int)} (H:tlv_reader_may.f k a0_0 l0_1 l0_2 l0_3 a1_0 a1_1 a1_2 a1_3 a2=some r):ConX Tryz.prog 84 [.ptr 0 0,.v (.agg [I a1_0,I a1_1,B a1_2,I a1_3]),.v (S a2)] [[S a0_0,.row (some 55) 5 (List.map (v55 1) l0_1),.row (some 67) 1 (List.map Cx l0_2),.row (some 3) 1 (List.map I l0_3)]] (.v (I r.1)) [[S r.2.1,.row (some 55) 5 (List.map (v55 1) r.2.2.1),.row (some 67) 1 (List.map Cx r.2.2.2.1),.row (some 3) 1 (List.map I r.2.2.2.2)]]:=by
 refine conX_of_good Tryz.func84 rfl (by kernel_rfl) (by kernel_rfl) fun C hN hL=>?_
 unfold tlv_reader_may.f at H
 refine Sw<|Rg hN<|Sw<|Bl<|Sw<|Rh hN [I (l0_3.length:Int)] (.c1 (lenM I l0_3)) ?_
 rcases ifC H with ⟨c497,H⟩ | ⟨c497,H⟩
 ·refine Ct (dt c497)<|Sw<|Rg hN ?_
  cases H
  exact Good.ret (finX_fitR (.refl _) (FitLL.refl _) (by kernel_rfl) rfl)
 refine Cf (df c497)<|Sw<|Rh hN [I (l0_1.length:Int)] (.c1 (lenM (v55 1) l0_1)) ?_
 rcases ifC H with ⟨c498,H⟩ | ⟨c498,H⟩
 ·refine Ct (dt c498)<|Sw<|Rg hN ?_
  cases H
  exact Good.ret (finX_fitR (.refl _) (FitLL.refl _) (by kernel_rfl) rfl)
 refine Cf (df c498)<|Sw<|Rg hN ?_
 rcases (ifC H).symm with ⟨c499,H⟩ | ⟨c499,H⟩
 ·refine Ct (nq c499)<|Sw<|Rg hN ?_
  cases H
  exact Good.ret (finX_fitR (.refl _) (FitLL.refl _) (by kernel_rfl) rfl)
 refine Cf (bneF c499)<|Sw<|Sw<|Good.cut (fun st=>∃ n':Nat,n'≤k∧∃ (x2:ByteArray) (x25:Bool) (x1000:ByteArray) (x1001:List S55) (x1002:List (Nat × Nat)) (x1003:List Int) (x2000:Int) (x2001:Int) (x2002:Bool) (x2003:Int),Wk C st ⟨[(2,.w (S x2)),(4,.d (.ptr 1 0)),(25,.w (B x25))],[.cells [.v (S x1000),.v (.row (some 55) 5 (List.map (v55 1) x1001)),.v (.row (some 67) 1 (List.map Cx x1002)),.v (.row (some 3) 1 (List.map I x1003))],.cells [.v (I x2000),.v (I x2001),.v (B x2002),.v (I x2003)]]⟩∧tlv_reader_may.j0 n' x2 x25 x1000 x1001 x1002 x1003 x2001 x2002=some r) ?_ ?_
 ·rcases (ifC H).symm with ⟨c500,H⟩ | ⟨c500,H⟩
  ·exact Rh hN [B false] (.c1 (bf c500))<|⟨k,by omega,a2,false,a0_0,l0_1,l0_2,l0_3,a1_0,a1_1,a1_2,a1_3,Wo [(2,0),(4,0),(25,0)],H⟩
  rcases ifC H with ⟨c501,H⟩ | ⟨c501,H⟩
  ·exact Rh hN [B true,B true] (.c2 c500 (bq c501))<|⟨k,by omega,a2,true,a0_0,l0_1,l0_2,l0_3,a1_0,a1_1,a1_2,a1_3,Wo [(2,0),(4,0),(25,0)],H⟩
  exact Rh hN [B true,B false] (.c2 c500 (bn c501))<|⟨k,by omega,a2,(a1_1 == 17),a0_0,l0_1,l0_2,l0_3,a1_0,a1_1,a1_2,a1_3,Wo [(2,0),(4,0),(25,0)],H⟩
 clear H
 rintro st ⟨n',hn',x2,x25,x1000,x1001,x1002,x1003,x2000,x2001,x2002,x2003,W,H⟩
 rcases n' with _ | k
 ·cases H
 refine W.good ?_
 rw [tlv_reader_may.j0] at H
 rcases ifC H with ⟨c502,H⟩ | ⟨c502,H⟩
 ·refine Ct c502<|Sk<|Ct c502<|Sw<|Rg hN ?_
  cases H
  exact Good.ret (finX_fitR (.refl _) (FitLL.refl _) (by kernel_rfl) rfl)
 refine Cf (bf c502) ?_
 rcases ifC H with ⟨c503,H⟩ | ⟨c503,H⟩
 ·refine Rh hN [B false] (.c1 (notF c503))<|Good.cond false (by kernel_rfl)<|Sk<|Sw<|Rg hN ?_
  cases H
  exact Good.ret (finX_fitR (.refl _) (FitLL.refl _) (by kernel_rfl) rfl)
 obtain ⟨t504,h505,H⟩:=bindS H
 refine Rh hN [B true,B t504] (.c2 (notT (bf c503)) (strs_Right.con h505).c) ?_
 rcases ifC H with ⟨c506,H⟩ | ⟨c506,H⟩
 ·refine Ct c506<|Sw<|Rg hN ?_
  cases H
  exact Good.ret (finX_fitR (.refl _) (FitLL.refl _) (by kernel_rfl) rfl)
 refine Cf (bf c506)<|Sk<|Sw<|Rg hN ?_
 cases H
 exact Good.ret (finX_fitR (.refl _) (FitLL.refl _) (by kernel_rfl) rfl)
def tlv_reader_put.f (a0_0:ByteArray) (l0_1:List S55) (l0_2:List (Nat × Nat)) (l0_3:List Int) (a1_0:Int) (a1_1:Int) (a1_2:Bool) (a1_3:Int) (a2:ByteArray) (a3:(Nat × Nat)):Option (List S55 × List (Nat × Nat) × List Int):=if (l0_3.length:Int) > 0 then (if 0≤(wrap64 ((l0_3.length:Int) - 1)) then (if (wrap64 ((l0_3.length:Int) - 1)) < (l0_3.length:Int) then (if 0≤(rd l0_3 (wrap64 ((l0_3.length:Int) - 1))) then (if (rd l0_3 (wrap64 ((l0_3.length:Int) - 1))) < (l0_1.length:Int) then (if ((rd_T55 l0_1 (rd l0_3 (wrap64 ((l0_3.length:Int) - 1)))).f4).length < 17592186044416 then ((some (l0_1.set ((rd l0_3 (wrap64 ((l0_3.length:Int) - 1))):Int).toNat (⟨(rd_T55 l0_1 (rd l0_3 (wrap64 ((l0_3.length:Int) - 1)))).f0,(rd_T55 l0_1 (rd l0_3 (wrap64 ((l0_3.length:Int) - 1)))).f1,(rd_T55 l0_1 (rd l0_3 (wrap64 ((l0_3.length:Int) - 1)))).f2,(rd_T55 l0_1 (rd l0_3 (wrap64 ((l0_3.length:Int) - 1)))).f3,(((rd_T55 l0_1 (rd l0_3 (wrap64 ((l0_3.length:Int) - 1)))).f4)++[(l0_1.length:Int)])⟩:S55):List S55)).bind fun y514=>(if a1_2=true then (if l0_3.length < 17592186044416 then (if y514.length < 2199023255552 then (if l0_2.length < 8796093022208 then (some ((y514++[(⟨a1_0,a1_1,a1_2,(⟨#[]⟩:ByteArray),([]:List Int)⟩:S55)]),(l0_2++[a3]),(l0_3++[(l0_1.length:Int)]))) else (none)) else (none)) else (none)) else (if y514.length < 2199023255552 then (if l0_2.length < 8796093022208 then (some ((y514++[(⟨a1_0,a1_1,a1_2,a2,([]:List Int)⟩:S55)]),(l0_2++[a3]),l0_3)) else (none)) else (none)))) else (none)) else (none)) else (none)) else (none)) else (none)) else (if a1_2=true then (if l0_3.length < 17592186044416 then (if l0_1.length < 2199023255552 then (if l0_2.length < 8796093022208 then (some ((l0_1++[(⟨a1_0,a1_1,a1_2,(⟨#[]⟩:ByteArray),([]:List Int)⟩:S55)]),(l0_2++[a3]),(l0_3++[(l0_1.length:Int)]))) else (none)) else (none)) else (none)) else (if l0_1.length < 2199023255552 then (if l0_2.length < 8796093022208 then (some ((l0_1++[(⟨a1_0,a1_1,a1_2,a2,([]:List Int)⟩:S55)]),(l0_2++[a3]),l0_3)) else (none)) else (none)))
end Go.Rf.T
