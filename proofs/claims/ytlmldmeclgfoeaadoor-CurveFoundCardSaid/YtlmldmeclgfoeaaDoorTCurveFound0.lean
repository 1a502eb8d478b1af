import Derived.Test.YtlmldmeclgfoeaaDoorRCurveFound2
import Derived.Test.YtlmldmeclgfoeaaDoorProg
import Derived.Test.YtlmldmeclgfoeaaDoorSCurveFound0
import Derived.Test.YtlmldmeclgfoeaaDoorRows
import Derived.Lib.LaidU8
import Derived.Lib.LaidTab
import Derived.MakeChecks
import Derived.Lib.AppendIntMem
import Derived.LaidLaws
import Derived.Lib.AtoiAllCases
import Derived.Lib.AtoiErrMem
import Derived.Deep.Cut
import Derived.RangeFuncNested
import Derived.RangeFuncBound
import Derived.RangeFuncCalls
import Derived.RangeFuncLeaves
import Derived.RangeFuncWrites
import Derived.RangeFuncBox
import Derived.Shelf.Abstract
import Derived.Shelf.RegionOpen
import Derived.WalkKit
import Derived.OwnWalkIn
import Derived.TacticsInMore
import Derived.LoopNIn
import Derived.LoopIn
import Derived.Maps.AppendAt
set_option linter.unusedSectionVars false
set_option linter.unusedSimpArgs false
set_option linter.unusedVariables false
namespace Go.Rf.T
open Go Go.Rf Go.Proofs Go.RowKit Go.Proofs.YtlmldmeclgfoeaaDoor
def laidL:=Rows.curveFoundRow.laid
instance:Tabs:=⟨fun p w=>∃ W,laidMetH Tryd.prog laidL W∧∀ b,b < W.heap.size→p b∧w.heap[b]? = W.heap[b]?,fun k h=>let ⟨W,h1,h2⟩:=h;⟨W,h1,fun b hb=>⟨k.pub b (h2 b hb).1,(k.same b (h2 b hb).1).trans (h2 b hb).2⟩⟩⟩
theorem hm:Tryd.prog.follows .mixedOrders=true:=by kernel_rfl
structure S34 where
 f0:ByteArray
 f1:ByteArray
 f2:ByteArray
 f3:Int
 deriving Inhabited,DecidableEq
def z34:S34:=⟨(⟨#[]⟩:ByteArray),(⟨#[]⟩:ByteArray),(⟨#[]⟩:ByteArray),0⟩
def v34 (s:S34):V:=.agg [S s.f0,S s.f1,S s.f2,I s.f3]
def rd_T34 (l:List S34) (i:Int):S34:=l.getD i.toNat z34
def curve_table.f  : Option (ByteArray × ByteArray × ByteArray × Int × ByteArray × ByteArray × ByteArray × Int × ByteArray × ByteArray × ByteArray × Int × ByteArray × ByteArray × ByteArray × Int):=some ((⟨#[80,45,50,50,52]⟩:ByteArray),(⟨#[49,46,51,46,49,51,50,46,48,46,51,51]⟩:ByteArray),(⟨#[70,70,70,70,70,70,70,70,70,70,70,70,70,70,70,70,70,70,70,70,70,70,70,70,70,70,70,70,49,54,65,50,69,48,66,56,70,48,51,69,49,51,68,68,50,57,52,53,53,67,53,67,50,65,51,68]⟩:ByteArray),28,(⟨#[80,45,50,53,54]⟩:ByteArray),(⟨#[49,46,50,46,56,52,48,46,49,48,48,52,53,46,51,46,49,46,55]⟩:ByteArray),(⟨#[70,70,70,70,70,70,70,70,48,48,48,48,48,48,48,48,70,70,70,70,70,70,70,70,70,70,70,70,70,70,70,70,66,67,69,54,70,65,65,68,65,55,49,55,57,69,56,52,70,51,66,57,67,65,67,50,70,67,54,51,50,53,53,49]⟩:ByteArray),32,(⟨#[80,45,51,56,52]⟩:ByteArray),(⟨#[49,46,51,46,49,51,50,46,48,46,51,52]⟩:ByteArray),(⟨#[70,70,70,70,70,70,70,70,70,70,70,70,70,70,70,70,70,70,70,70,70,70,70,70,70,70,70,70,70,70,70,70,70,70,70,70,70,70,70,70,70,70,70,70,70,70,70,70,67,55,54,51,52,68,56,49,70,52,51,55,50,68,68,70,53,56,49,65,48,68,66,50,52,56,66,48,65,55,55,65,69,67,69,67,49,57,54,65,67,67,67,53,50,57,55,51]⟩:ByteArray),48,(⟨#[80,45,53,50,49]⟩:ByteArray),(⟨#[49,46,51,46,49,51,50,46,48,46,51,53]⟩:ByteArray),(⟨#[48,49,70,70,70,70,70,70,70,70,70,70,70,70,70,70,70,70,70,70,70,70,70,70,70,70,70,70,70,70,70,70,70,70,70,70,70,70,70,70,70,70,70,70,70,70,70,70,70,70,70,70,70,70,70,70,70,70,70,70,70,70,70,70,70,70,70,65,53,49,56,54,56,55,56,51,66,70,50,70,57,54,54,66,55,70,67,67,48,49,52,56,70,55,48,57,65,53,68,48,51,66,66,53,67,57,66,56,56,57,57,67,52,55,65,69,66,66,54,70,66,55,49,69,57,49,51,56,54,52,48,57]⟩:ByteArray),66)
theorem curve_table.con {r:(ByteArray × ByteArray × ByteArray × Int × ByteArray × ByteArray × ByteArray × Int × ByteArray × ByteArray × ByteArray × Int × ByteArray × ByteArray × ByteArray × Int)} (H:curve_table.f  = some r):Con Tryd.prog 21 [] (.agg [S r.1,S r.2.1,S r.2.2.1,I r.2.2.2.1,S r.2.2.2.2.1,S r.2.2.2.2.2.1,S r.2.2.2.2.2.2.1,I r.2.2.2.2.2.2.2.1,S r.2.2.2.2.2.2.2.2.1,S r.2.2.2.2.2.2.2.2.2.1,S r.2.2.2.2.2.2.2.2.2.2.1,I r.2.2.2.2.2.2.2.2.2.2.2.1,S r.2.2.2.2.2.2.2.2.2.2.2.2.1,S r.2.2.2.2.2.2.2.2.2.2.2.2.2.1,S r.2.2.2.2.2.2.2.2.2.2.2.2.2.2.1,I r.2.2.2.2.2.2.2.2.2.2.2.2.2.2.2]):=by
 refine Cg Tryd.func21 rfl fun C hN hL=>?_
 unfold curve_table.f at H
 refine Sw<|Rg hN<|Sw<|Rg hN ?_
 cases H
 exact Rt dR
def curve_line.f (a0:Int):Option (ByteArray × ByteArray × ByteArray × Int):=(curve_table.f).bind fun t1=>(if a0 < 1 then (some ((⟨#[]⟩:ByteArray),(⟨#[]⟩:ByteArray),(⟨#[]⟩:ByteArray),0)) else (if a0 > 4 then (some ((⟨#[]⟩:ByteArray),(⟨#[]⟩:ByteArray),(⟨#[]⟩:ByteArray),0)) else (if (wrap64 (a0 - 1))=0 then (some (t1.1,t1.2.1,t1.2.2.1,t1.2.2.2.1)) else (if (wrap64 (a0 - 1))=1 then (some (t1.2.2.2.2.1,t1.2.2.2.2.2.1,t1.2.2.2.2.2.2.1,t1.2.2.2.2.2.2.2.1)) else (if (wrap64 (a0 - 1))=2 then (some (t1.2.2.2.2.2.2.2.2.1,t1.2.2.2.2.2.2.2.2.2.1,t1.2.2.2.2.2.2.2.2.2.2.1,t1.2.2.2.2.2.2.2.2.2.2.2.1)) else (if (wrap64 (a0 - 1))=3 then (some (t1.2.2.2.2.2.2.2.2.2.2.2.2.1,t1.2.2.2.2.2.2.2.2.2.2.2.2.2.1,t1.2.2.2.2.2.2.2.2.2.2.2.2.2.2.1,t1.2.2.2.2.2.2.2.2.2.2.2.2.2.2.2)) else (none)))))))
theorem curve_line.con {a0:Int} {r:(ByteArray × ByteArray × ByteArray × Int)} (H:curve_line.f a0=some r):Con Tryd.prog 12 [I a0] (.agg [S r.1,S r.2.1,S r.2.2.1,I r.2.2.2]):=by
 refine Cg Tryd.func12 rfl fun C hN hL=>?_
 unfold curve_line.f at H
 refine Sw<|Rg hN<|Sw ?_
 obtain ⟨t1,h2,H⟩:=bindS H
 refine Rh hN [.agg [S t1.1,S t1.2.1,S t1.2.2.1,I t1.2.2.2.1,S t1.2.2.2.2.1,S t1.2.2.2.2.2.1,S t1.2.2.2.2.2.2.1,I t1.2.2.2.2.2.2.2.1,S t1.2.2.2.2.2.2.2.2.1,S t1.2.2.2.2.2.2.2.2.2.1,S t1.2.2.2.2.2.2.2.2.2.2.1,I t1.2.2.2.2.2.2.2.2.2.2.2.1,S t1.2.2.2.2.2.2.2.2.2.2.2.2.1,S t1.2.2.2.2.2.2.2.2.2.2.2.2.2.1,S t1.2.2.2.2.2.2.2.2.2.2.2.2.2.2.1,I t1.2.2.2.2.2.2.2.2.2.2.2.2.2.2.2]] (.c1 (curve_table.con h2).c)<|Sw<|Sw ?_
 rcases ifC H with ⟨c3,H⟩ | ⟨c3,H⟩
 ·refine Rh hN [B true] (.c1 (dt c3))<|Good.cond true (by kernel_rfl)<|Sw<|Rg hN ?_
  cases H
  exact Rt dR
 refine Rh hN [B false] (.c1 (df c3)) ?_
 rcases ifC H with ⟨c4,H⟩ | ⟨c4,H⟩
 ·refine Ct (dt c4)<|Sw<|Rg hN ?_
  cases H
  exact Rt dR
 refine Cf (df c4)<|Sk<|Sw ?_
 rcases ifC H with ⟨c5,H⟩ | ⟨c5,H⟩
 ·refine Rj hN [] (.c3 (fitI c5) (show (0:Int)≤0 by decide) (show (0:Int) < ((4:Nat):Int) by decide)) [] [(13,I 0)] ?_
  cases H
  exact Rt dR
 rcases ifC H with ⟨c6,H⟩ | ⟨c6,H⟩
 ·refine Rj hN [] (.c3 (fitI c6) (show (0:Int)≤1 by decide) (show (1:Int) < ((4:Nat):Int) by decide)) [] [(13,I 1)] ?_
  cases H
  exact Rt dR
 rcases ifC H with ⟨c7,H⟩ | ⟨c7,H⟩
 ·refine Rj hN [] (.c3 (fitI c7) (show (0:Int)≤2 by decide) (show (2:Int) < ((4:Nat):Int) by decide)) [] [(13,I 2)] ?_
  cases H
  exact Rt dR
 obtain ⟨c8,H⟩:=ifS H
 refine Rj hN [] (.c3 (fitI c8) (show (0:Int)≤3 by decide) (show (3:Int) < ((4:Nat):Int) by decide)) [] [(13,I 3)] ?_
 cases H
 exact Rt dR
def curve_Width.f (a0:Int):Option (Int):=(curve_line.f a0).bind fun t9=>(some t9.2.2.2)
theorem curve_Width.con {a0:Int} {r:(Int)} (H:curve_Width.f a0=some r):Con Tryd.prog 4 [I a0] (I r):=by
 refine Cg Tryd.func4 rfl fun C hN hL=>?_
 unfold curve_Width.f at H
 refine Sw<|Rg hN<|Sw ?_
 obtain ⟨t9,h10,H⟩:=bindS H
 refine Rh hN [.agg [S t9.1,S t9.2.1,S t9.2.2.1,I t9.2.2.2]] (.c1 (curve_line.con h10).c) ?_
 cases H
 exact Rt dR
def curve_Name.f (a0:Int):Option (ByteArray):=(curve_line.f a0).bind fun t11=>(some t11.1)
theorem curve_Name.con {a0:Int} {r:(ByteArray)} (H:curve_Name.f a0=some r):Con Tryd.prog 5 [I a0] (S r):=by
 refine Cg Tryd.func5 rfl fun C hN hL=>?_
 unfold curve_Name.f at H
 refine Sw<|Rg hN<|Sw ?_
 obtain ⟨t11,h12,H⟩:=bindS H
 refine Rh hN [.agg [S t11.1,S t11.2.1,S t11.2.2.1,I t11.2.2.2]] (.c1 (curve_line.con h12).c) ?_
 cases H
 exact Rt dR
def oid_most.f (l0:List Int) (a1:Int):Option (Int):=if a1=0 then (some 2) else (if a1 > 1 then (some 2147483647) else (if 0 < (l0.length:Int) then (if (rd l0 0) < 2 then (some 39) else (some 2147483567)) else (none)))
theorem oid_most.con {l0:List Int} {a1:Int} {r:(Int)} (H:oid_most.f l0 a1=some r):Con Tryd.prog 39 [.row none 1 (List.map I l0),I a1] (I r):=by
 refine Cg Tryd.func39 rfl fun C hN hL=>?_
 unfold oid_most.f at H
 refine Sw<|Rg hN<|Sw<|Bl<|Sw<|Rg hN ?_
 rcases ifC H with ⟨c13,H⟩ | ⟨c13,H⟩
 ·refine Ct (bq c13)<|Sw<|Rg hN ?_
  cases H
  exact Rt dR
 refine Cf (bn c13)<|Sw<|Rg hN ?_
 rcases ifC H with ⟨c14,H⟩ | ⟨c14,H⟩
 ·refine Ct (dt c14)<|Sw<|Rg hN ?_
  cases H
  exact Rt dR
 refine Cf (df c14)<|Sw ?_
 obtain ⟨c15,H⟩:=ifS H
 refine Rh hN [I (rd l0 0)] (.c2 (show (0:Int)≤0 by decide) (atM I (0:Int) (show (0:Int)≤0 by decide) c15)) ?_
 rcases ifC H with ⟨c16,H⟩ | ⟨c16,H⟩
 ·refine Ct (dt c16)<|Sw<|Rg hN ?_
  cases H
  exact Rt dR
 refine Cf (df c16)<|Sk<|Sw<|Rg hN ?_
 cases H
 exact Rt dR
def oid_Right.l0:Nat→List Int→List Int→Int→Int→Option (Bool)
 | 0,_,_,_,_=>none
 | k+1,x0,x13,x14,x15=>if x15 < x14 then (if 0≤x15 then (if x15 < (x13.length:Int) then (if (rd x13 x15) < 0 then (some false) else ((oid_most.f x0 x15).bind fun t23=>(if (rd x13 x15) > t23 then (some false) else (oid_Right.l0 k x0 x13 x14 (wrap64 (x15+1)))))) else (none)) else (none)) else (some true)
def oid_Right.j0:Nat→List Int→Bool→Option (Bool)
 | 0,_,_=>none
 | k+1,x0,x12=>if x12=true then (some false) else (oid_Right.l0 k x0 x0 (x0.length:Int) 0)
def oid_Right.f (k:Nat) (l0:List Int):Option (Bool):=if (l0.length:Int) < 2 then (oid_Right.j0 k l0 true) else (oid_Right.j0 k l0 (decide ((l0.length:Int) > 20)))
theorem oid_Right.con {k:Nat} {l0:List Int} {r:(Bool)} (H:oid_Right.f k l0=some r):Con Tryd.prog 24 [.row none 1 (List.map I l0)] (B r):=by
 refine Cg Tryd.func24 rfl fun C hN hL=>?_
 unfold oid_Right.f at H
 refine Sw<|Rg hN<|Sw<|Sw<|Good.cut (fun st=>∃ n':Nat,n'≤k∧∃ (x0:List Int) (x12:Bool),Wk C st ⟨[(0,.w (.row none 1 (List.map I x0))),(12,.w (B x12))],[]⟩∧oid_Right.j0 n' x0 x12=some r) ?_ ?_
 ·rcases ifC H with ⟨c17,H⟩ | ⟨c17,H⟩
  ·exact Rh hN [I (l0.length:Int),B true] (.c2 (lenM I l0) (dt c17))<|⟨k,by omega,l0,true,Wo [(0,0),(12,0)],H⟩
  exact Rh hN [I (l0.length:Int),B false,I (l0.length:Int)] (.c3 (lenM I l0) (df c17) (lenM I l0))<|⟨k,by omega,l0,decide ((l0.length:Int) > 20),Wo [(0,0),(12,0)],H⟩
 clear H
 rintro st ⟨n',hn',x0,x12,W,H⟩
 rcases n' with _ | k
 ·cases H
 refine W.good ?_
 rw [oid_Right.j0] at H
 rcases ifC H with ⟨c18,H⟩ | ⟨c18,H⟩
 ·refine Ct c18<|Sw<|Rg hN ?_
  cases H
  exact Rt dR
 refine Cf (bf c18)<|Sk<|Sw<|Sw<|Rh hN [I (x0.length:Int)] (.c1 (lenM I x0))<|Bl<|Good.loopN (fun k' st=>∃ (x0:List Int) (x13:List Int) (x14:Int) (x15:Int),k'≤k∧Wk C st ⟨[(0,.w (.row none 1 (List.map I x0))),(13,.w (.row none 1 (List.map I x13))),(14,.w (I x14)),(15,.w (I x15))],[]⟩∧oid_Right.l0 k' x0 x13 x14 x15=some r) k ⟨x0,x0,(x0.length:Int),0,Nat.le_refl _,Wo [(0,0),(13,0),(14,0),(15,0)],H⟩ fun k=>⟨fun st h=>(by obtain ⟨_,_,_,_,_,_,H⟩:=h;cases H),?_⟩
 clear H
 rintro st ⟨x0,x13,x14,x15,hk,W,H⟩
 refine W.good ?_
 rw [oid_Right.l0] at H
 refine Sw<|Rg hN<|Sw ?_
 rcases (ifC H).symm with ⟨c19,H⟩ | ⟨c19,H⟩
 ·refine Cf (df c19)<|Ex<|Sw<|Rg hN ?_
  cases H
  exact Rt dR
 refine Ct (dt c19)<|Sk<|Sw<|Bl<|Sw ?_
 obtain ⟨c20,H⟩:=ifS H
 obtain ⟨c21,H⟩:=ifS H
 refine Rh hN [I (rd x13 x15)] (.c2 c20 (atM I (0:Int) c20 c21))<|Sw ?_
 rcases ifC H with ⟨c22,H⟩ | ⟨c22,H⟩
 ·refine Rh hN [B true] (.c1 (dt c22))<|Good.cond true (by kernel_rfl)<|Sw<|Rg hN ?_
  cases H
  exact Rt dR
 obtain ⟨t23,h24,H⟩:=bindS H
 refine Rh hN [B false,I t23] (.c2 (df c22) (oid_most.con h24).c) ?_
 rcases (ifC H).symm with ⟨c25,H⟩ | ⟨c25,H⟩
 ·exact Cf (df c25)<|Sk<|Rg hN<|⟨k,by omega,x0,x13,x14,wrap64 (x15+1),by omega,Wo [(0,0),(13,0),(14,0),(15,0)],H⟩
 refine Ct (dt c25)<|Sw<|Rg hN ?_
 cases H
 exact Rt dR
def strconv_Itoa.f (a0:Int):Option ByteArray:=if -9223372036854775808≤a0∧a0≤9223372036854775807 then some ⟨(Lib.itoa a0).toArray⟩ else none
theorem strconv_Itoa.later {w W:World} {name:String} {cs:Array Value} (hB:∀ b,b < W.heap.size→w.heap[b]? = W.heap[b]?) (h:W.var? Tryd.prog name=some cs):w.var? Tryd.prog name=some cs:=by
 unfold World.var? at *
 cases hg:Tryd.prog.globalNamed name with
 | none=>simp [hg] at h
 | some g =>
  simp only [hg,Option.bind_some] at h ⊢
  have hlt:g < W.heap.size:=by
   rcases Nat.lt_or_ge g W.heap.size with h' | h'
   ·exact h'
   ·rw [Array.getElem?_eq_none h'] at h;simp at h
  rw [hB g hlt]
  exact h
theorem strconv_Itoa.tab {p:Pub} {w:World} (h:Tabs.t p w):Lib.TabIs Tryd.prog w "internal/strconv.uint64pow10" .u64 Lib.pow10Tab:=by
 obtain ⟨W,hW,hB⟩:=h
 rw [MakeChecks.laidMetH_plain _ _ _ (by kernel_rfl)] at hW
 have hm:("internal/strconv.uint64pow10",Lib.tabData (H:=Unit) .u64 Lib.pow10Tab)∈laidL:=by
  have e:Lib.tabData (H:=Unit) .u64 Lib.pow10Tab=Rows.laid_internal_strconv_uint64pow10:=by kernel_rfl
  rw [e];unfold laidL
  repeat (first | exact List.mem_cons_self | apply List.mem_cons_of_mem)
 obtain ⟨g',t',cs,fuel,p,hg',ht',hvar,hd⟩:=Lib.laidMet.reads hW hm
 have hg:Tryd.prog.globalNamed "internal/strconv.uint64pow10" = some 5:=by kernel_rfl
 obtain rfl:=Option.some.inj (hg.symm.trans hg')
 have ht:(Tryd.prog.globals[5]?).map (·.type)=some 121:=by kernel_rfl
 obtain rfl:=Option.some.inj (ht.symm.trans ht')
 have hc:=Lib.cells_of_tab (n:=20) Tryd.underlying121 Tryd.underlying101 (by kernel_rfl) (by kernel_rfl) hd
 unfold Lib.TabIs
 rw [strconv_Itoa.later (fun b hb=>(hB b hb).2) hvar,← hc]
theorem strconv_Itoa.con {a0:Int} {r:ByteArray} (H:strconv_Itoa.f a0=some r):Con Tryd.prog 41 [I a0] (S r):=by
 unfold strconv_Itoa.f at H
 obtain ⟨hc,H⟩:=ifS H
 cases H
 exact con_lits Tryd.func41 rfl (by kernel_rfl) rfl fun p w ht=>(Tryd.strconv_Itoa a0 hc.1 hc.2 w (strconv_Itoa.tab ht)).mono (by rintro e w' ⟨rfl,k,os,rfl⟩;exact ⟨rfl,Go.Lib.below_grow _ w (Nat.le_refl _) k os⟩)
def digits_Num.f (a0:Int):Option (ByteArray):=(strconv_Itoa.f a0).bind fun t26=>(some t26)
theorem digits_Num.con {a0:Int} {r:(ByteArray)} (H:digits_Num.f a0=some r):Con Tryd.prog 26 [I a0] (S r):=by
 refine Cg Tryd.func26 rfl fun C hN hL=>?_
 unfold digits_Num.f at H
 refine Sw<|Rg hN<|Sw ?_
 obtain ⟨t26,h27,H⟩:=bindS H
 refine Rh hN [S t26] (.c1 (strconv_Itoa.con h27).c) ?_
 cases H
 exact Rt dR
def digits_Unnum.of (a0:ByteArray):Int × Bool:=match Lib.atoiAll a0.data.toList with
 | .ok v=>if (⟨(Lib.itoa v).toArray⟩:ByteArray).toList=a0.toList then (v,true) else (0,false)
 | _=>(0,false)
def digits_Unnum.f (a0:ByteArray):Option (Int × Bool):=if a0.size≤281474976710656 then some (digits_Unnum.of a0) else none
theorem digits_Unnum.err {p:Pub} {w:World} {name:String} {d:DataW Unit} {nm:String} {ti:TypeId} {ms:Array (String × TypeId)} {gn:Nat} (h:Tabs.t p w) (hm:(name,DataW.iface nm d)∈laidL) (hg:Tryd.prog.globalNamed name=some gn)
 (ht:(Tryd.prog.globals[gn]?).map (·.type)=some ti) (hi:Tryd.prog.underlying ti=some (.interface ms)):∃ t p,w.cell? ⟨gn,0,none⟩=some (.iface t p):=by
 obtain ⟨W,hW,hB⟩:=h
 rw [MakeChecks.laidMetH_plain _ _ _ (by kernel_rfl)] at hW
 obtain ⟨g',t',cs,fuel,p,hg',ht',hvar,hd⟩:=Lib.laidMet.reads hW hm
 obtain rfl:=Option.some.inj (hg.symm.trans hg')
 obtain rfl:=Option.some.inj (ht.symm.trans ht')
 obtain ⟨f',u,v,hc,_,_⟩:=iface_of_trod hi hd
 have h0:=World.var?_cell hg hvar 0
 have hcs:cs = #[.iface u v]:=by
  rw [← Array.toList_inj]
  exact hc
 rw [hcs] at h0
 have h1:W.cell? ⟨gn,0,none⟩=some (.iface u v):=by simpa using h0
 exact ⟨u,v,(cell?_same (hB _ (World.block_lt_of_cell? _ _ h1)).2).trans h1⟩
theorem digits_Unnum.syn {p:Pub} {w:World} (h:Tabs.t p w):∃ t p,w.cell? ⟨3,0,none⟩=some (.iface t p) :=
 digits_Unnum.err h (show ("strconv.ErrSyntax",Rows.laid_strconv_ErrSyntax)∈laidL by unfold laidL;repeat (first | exact List.mem_cons_self | apply List.mem_cons_of_mem)) (by kernel_rfl) (by kernel_rfl) Tryd.underlying68
theorem digits_Unnum.ran {p:Pub} {w:World} (h:Tabs.t p w):∃ t p,w.cell? ⟨4,0,none⟩=some (.iface t p) :=
 digits_Unnum.err h (show ("strconv.ErrRange",Rows.laid_strconv_ErrRange)∈laidL by unfold laidL;repeat (first | exact List.mem_cons_self | apply List.mem_cons_of_mem)) (by kernel_rfl) (by kernel_rfl) Tryd.underlying68
theorem digits_Unnum.bw {w w':World} {e:TypeId} (h:w'=w∨∃ t,w'=Lib.bytesWorld w e t):Below w.heap.size w w':=by
 rcases h with rfl | ⟨t,rfl⟩
 ·exact Below.refl _ _
 ·exact Lib.bytesWorld_below w e t
set_option maxHeartbeats 8000000 in
set_option maxRecDepth 100000 in
theorem digits_Unnum.calls (a0:ByteArray) (r1:Int) (r2:Bool) (p:Pub) (w:World) (hp:∀ b,p b→b < w.heap.size) (ht:Tabs.t p w) (h:digits_Unnum.f a0=some (r1,r2)) :
 Calls Tryd.prog 23 #[.string a0] w fun e w'=>e=.returned (.tuple #[.int .i64 r1,.bool r2])∧Below w.heap.size w w':=by
 have HP:=Asd.mk hp
 have HT_:=Asd.mk ht
 clear hp ht
 unfold digits_Unnum.f at h
 split at h
 case isFalse=>cases h
 rename_i hs
 have hs2:a0.size≤9223372036854775806:=by omega
 have h0:=Option.some.inj h
 clear h
 have HS:=Asd.mk hs
 have HS2:=Asd.mk hs2
 clear hs hs2
 unfold digits_Unnum.of at h0
 cases hq:Lib.atoiAll a0.data.toList with
 | ok v =>
  rw [hq] at h0
  dsimp only at h0
  have HQ:=Asd.mk hq
  have HV:=Asd.mk (Lib.atoiAll_bounds hq)
  clear hq
  have hn:digits_Num.f v=some (⟨(Lib.itoa v).toArray⟩:ByteArray):=by
   unfold digits_Num.f strconv_Itoa.f
   rw [if_pos HV.out]
   rfl
  have HN:=Asd.mk hn
  clear hn
  generalize (⟨(Lib.itoa v).toArray⟩:ByteArray)=x at HN h0
  by_cases he:x.toList=a0.toList
  ·rw [if_pos he] at h0
   cases h0
   have c29b0:(x.toList == a0.toList)=true:=beq_iff_eq.mpr he
   clear he
   go_enter Tryd.func23,Tryd.ntmps23
   go_wp2_with (first | (go_at_call 38;refine (Tryd.strconv_Atoi_ok a0 HS2.out _ HQ.out _).mono ?_;rintro e w3 ⟨rfl,hw⟩;have HB:=Asd.mk (digits_Unnum.bw hw);clear hw) | (go_at_call 26;refine ((digits_Num.con HN.out).lits rfl (hp_below HP.out HB.out) (tabs_below HP.out HT_.out HB.out)).mono ?_;rintro e w4 ⟨rfl,hb⟩;have HC:=Asd.mk (bl_step HB.out hb);clear hb))
   go_ret2
   exact ⟨rfl,HC.out⟩
  ·rw [if_neg he] at h0
   cases h0
   have c29b0:(x.toList == a0.toList)=false:=beq_eq_false_iff_ne.mpr he
   clear he
   go_enter Tryd.func23,Tryd.ntmps23
   go_wp2_with (first | (go_at_call 38;refine (Tryd.strconv_Atoi_ok a0 HS2.out _ HQ.out _).mono ?_;rintro e w3 ⟨rfl,hw⟩;have HB:=Asd.mk (digits_Unnum.bw hw);clear hw) | (go_at_call 26;refine ((digits_Num.con HN.out).lits rfl (hp_below HP.out HB.out) (tabs_below HP.out HT_.out HB.out)).mono ?_;rintro e w4 ⟨rfl,hb⟩;have HC:=Asd.mk (bl_step HB.out hb);clear hb))
   go_ret2
   exact ⟨rfl,HC.out⟩
 | «syntax» =>
  rw [hq] at h0
  cases h0
  have HQ:=Asd.mk hq
  clear hq
  obtain ⟨t,p,hc⟩:=digits_Unnum.syn HT_.out
  have HC:=Asd.mk hc
  clear hc
  go_enter Tryd.func23,Tryd.ntmps23
  go_wp2_with (go_at_call 38;refine (Tryd.strconv_Atoi_syntax a0 HS.out HQ.out _ _ HC.out (Or.inr ⟨_,_,rfl⟩)).mono ?_;rintro e w3 ⟨N9,rfl,_,_,hb⟩;have HB:=Asd.mk hb;clear hb)
  go_ret2
  exact ⟨rfl,HB.out⟩
 | range =>
  rw [hq] at h0
  cases h0
  have HQ:=Asd.mk hq
  clear hq
  obtain ⟨t,p,hc⟩:=digits_Unnum.ran HT_.out
  have HC:=Asd.mk hc
  clear hc
  go_enter Tryd.func23,Tryd.ntmps23
  go_wp2_with (go_at_call 38;refine (Tryd.strconv_Atoi_range a0 HS.out HQ.out _ _ HC.out (Or.inr ⟨_,_,rfl⟩)).mono ?_;rintro e w3 ⟨N9,rfl,_,_,hb⟩;have HB:=Asd.mk hb;clear hb)
  go_ret2
  exact ⟨rfl,HB.out⟩
theorem digits_Unnum.con {a0:ByteArray} {r:Int × Bool} (H:digits_Unnum.f a0=some r):Con Tryd.prog 23 [S a0] (.tup [I r.1,B r.2]):=by
 refine con_litsX Tryd.func23 rfl (by kernel_rfl) rfl fun p w hp ht=>(digits_Unnum.calls a0 r.1 r.2 p w hp ht H).mono ?_
 rintro e w' ⟨rfl,hb⟩
 exact ⟨_,[],rfl,hb,List.nodup_nil,fun _ h=>(by cases h),fun _=>.tup (vs:=[.int .i64 r.1,.bool r.2]) (.cons (A:=[]) (.lit _) (.cons (A:=[]) (.lit _) .nil))⟩
def dots:List UInt8→List (List UInt8)
 | []=>[[]]
 | b :: r=>if b=46 then [] :: dots r else match dots r with
  | []=>[[b]]
  | p :: ps=>(b :: p) :: ps
def partP (x:{ s:ByteArray // s.size≤1000000 }):Int × Bool:=digits_Unnum.of x.1
def parseP (l:List (List UInt8)):Option (List Int):=if (l.all fun x=>(digits_Unnum.of ⟨x.toArray⟩).2)=true then some (l.map fun x=>(digits_Unnum.of ⟨x.toArray⟩).1) else none
def oid_Parse.f (k:Nat) (a0:ByteArray):Option (List Int × Bool):=if a0.size≤1000000 then (match parseP (dots a0.data.toList) with
 | none=>some ([],false)
 | some arcs=>(oid_Right.f k arcs).bind fun t=>if t=true then some (arcs,true) else some ([],false)) else none
section
open Go.Shelf
attribute [local go_sem] Oper.semAt_some
section
variable {F:Fence} {n:Nat} {P:Program}
theorem setCell_at (W:World) (B l:Nat) (v:Value) (h:l≠B):(W.setCell ⟨B,0,none⟩ v).heap[l]? = W.heap[l]?:=Below.heap_setCell W ⟨B,0,none⟩ v l h
theorem wpIn_rangeFunc_box {α:Type} {g:Operand} {ps:Array Tmp} {assign body:Code} {Q:Exit→Act→World→Prop} {a:Act} {w:World}
 (hro:F.round=none) (h1:1≤n) {gf:Nat} {lb:Array Value} (hg:a.eval g=.func (.func gf) #[] lb) (hFg:F.fn gf) (eg:∀ args w,(callFunc gf args).run P w=.ok (.enter gf args) w)
 {encs:α→Array Value} {Kp:World→World→Prop} {S Sp:List α→Prop} {N:Nat} {Bs:Nat} (hBs:Bs < w.heap.size)
 (hseq:∀ (l:Nat) (J Jx:List α→World→Prop) (W:World),Below w.heap.size w W→(∀ pre A v,J pre A→J pre (A.setCell ⟨Bs,0,none⟩ v)) →
  (∀ pre x W1,J pre W1→pre.length < N→YieldAt F (n - 1 - 1) P l (encs x) W1 fun e W' =>
   (e=.returned (.bool true)∧J (pre++[x]) W'∧Kp W1 W')∨(e=.returned (.bool false)∧Jx (pre++[x]) W')) →
  J [] W→CallsIn F (n - 1) P gf (#[.func (.yield l) #[] #[]]++lb) W fun e W'=>(∃ v,e=.returned v)∧((∃ xs,S xs∧J xs W')∨(∃ pre,Sp pre∧Jx pre W')))
 (hKt:∀ {A B C:World},Kp A B→Kp B C→Kp A C) (hKb:∀ (W:World) (l:Nat) (o o':Obj),w.heap.size≤l→W.heap[l]? = some o→o.isCells=false→o.isWalk=false→Kp W (W.putObj l o')) (hps:∀ x,(encs x).size=ps.size)
 (I:List α→World→Prop) (Ix:Code→List α→World→Prop) (hI:OwnFrom w.heap.size I) (hIs:∀ pre A v,I pre A→I pre (A.setCell ⟨Bs,0,none⟩ v)) (hIx:∀ c,OwnFrom w.heap.size (Ix c)) (h0:I [] w) (a₁:α→Act)
 (hassign:∀ (l:Nat) (x:α) (W:World) (K:Act→World→Prop),K (a₁ x) W →
  assign.wpIn (F.inRound l) (n - 1 - 1) P (Exit.then K (fun _ _ _=>False)) { tmps:=(ps.zip (encs x)).foldl (fun t (p,v)=>t.setIfInBounds p v) a.tmps,defers:=[] } W)
 (hbody:∀ (l:Nat) (pre:List α) (x:α) (W:World),I pre W→pre.length < N→body.wpIn (F.inRound l) (n - 1 - 1) P (ownPostG w.heap.size Kp I Ix (pre++[x]) W) (a₁ x) W)
 (hdone:∀ (D:Nat) (xs:List α) (W:World),w.heap.size≤D→S xs→I xs W→W.heap[D]? = some (.deferred (some []))→Q .normal { a with defers:={ target:=.collected D,args:=#[] } :: a.defers } W)
 (hstop:∀ (D:Nat) (c:Code) (pre:List α) (W:World),w.heap.size≤D→Sp pre→Ix c pre W→W.heap[D]? = some (.deferred (some []))→c.wpIn F n P Q { a with defers:={ target:=.collected D,args:=#[] } :: a.defers } W) :
 (Code.rangeFunc g ps assign body).wpIn F n P Q a w:=by
 refine wpIn_rangeFunc (fun fn hfn=>?_)
 rw [hro]
 let L:LoopState→Option Code→Loop:=fun st pe=>{ state:=st,pending:=pe,fn,tmps:=a.tmps,params:=ps,assign,body,defers:=w.heap.size }
 obtain ⟨W1,hW1⟩:∃ W1,(w.alloc (.deferred (some []))).alloc (.loop (L .ready none))=W1:=⟨_,rfl⟩
 have hb:Below w.heap.size w W1:=by rw [← hW1];exact ((Below.refl w.heap.size w).alloc (by omega) _).alloc (by simp) _
 let bk:LoopState→Option Code→World→Prop:=fun st pe W=>W.heap[w.heap.size+1]? = some (.loop (L st pe))∧W.heap[w.heap.size]? = some (.deferred (some []))
 have hk1:bk .ready none W1:=by
  have e1:=World.alloc_heap_new (w.alloc (.deferred (some []))) (.loop (L .ready none))
  rw [World.size_alloc] at e1
  have e2:=World.alloc_heap_new w (.deferred (some []))
  rw [← hW1]
  exact ⟨e1,(Below.heap_alloc _ _ _ (by simp)).trans e2⟩
 have hset:∀ st pe W v,bk st pe W→bk st pe (W.setCell ⟨Bs,0,none⟩ v):=fun st pe W v h=>⟨(setCell_at W Bs (w.heap.size+1) v (by omega)).trans h.1,(setCell_at W Bs w.heap.size v (by omega)).trans h.2⟩
 have hput:∀ st pe st' pe' W,bk st pe W→bk st' pe' (W.putObj (w.heap.size+1) (.loop (L st' pe'))):=fun st pe st' pe' W h =>
  ⟨World.putObj_heap_same (Array.getElem?_eq_some_iff.1 h.1).1,(World.putObj_heap_other (by omega)).trans h.2⟩
 refine ⟨w.heap.size+1,[{ target:=.collected w.heap.size,args:=#[] }],W1,{ target:=.fn (.func gf) lb,args:=#[.func (.yield (w.heap.size+1)) #[] #[]] },W1,gf,#[.func (.yield (w.heap.size+1)) #[] #[]]++lb,W1,?_,?_,?_,?_,fun _=>h1,?_⟩
 ·rw [← hW1];exact run_enterLoop_outer _ _ _ _ _
 ·simp only [resolve,hg]
  simp [go_sem]
 ·intro f' hf'
  simp [Target.leads] at hf'
  subst hf'
  exact hFg
 ·simp [invoke,go_sem,eg]
 refine (hseq (w.heap.size+1) (fun pre W=>I pre W∧bk .ready none W) (fun pre W=>∃ c,Ix c pre W∧bk .done (some c) W) W1 hb (fun pre A v h=>⟨hIs pre A v h.1,hset _ _ _ _ h.2⟩) ?_ ⟨by rw [← hW1];exact hI.alloc _ (hI.alloc _ h0),hk1⟩).mono ?_
 ·rintro pre x W ⟨hi,hl⟩ hlen
  refine ⟨fn,_,assign,body,run_yield (P:=P) (args:=encs x) hl.1 (hps x),roundIn_of_wpIn hfn (hassign _ x W _ ⟨_,run_beginRound hl.1 rfl,?_⟩)⟩
  have hb2:bk .busy none (W.putObj (w.heap.size+1) (.loop (L .busy none))):=hput _ _ _ _ _ hl
  refine wpIn_mono (hbody _ pre x _ (hI.putObj _ hi (by omega) hl.1 rfl) hlen) ?_
  have fin:∀ (jump:Option Code) (W3:World),KeepsFrom w.heap.size (W.putObj (w.heap.size+1) (.loop (L .busy none))) W3→bk .busy none W3 ∧
   (Instr.endRound (w.heap.size+1) jump).run P W3=.ok (.bool jump.isNone) (W3.putObj (w.heap.size+1) (.loop (L (if jump.isNone then .ready else .done) jump))):=fun jump W3 hk3=>by
   have h3:bk .busy none W3:=⟨hk3.same _ _ (by omega) hb2.1 rfl,hk3.same _ _ (Nat.le_refl _) hb2.2 rfl⟩
   exact ⟨h3,run_endRound (P:=P) jump h3.1⟩
  rintro e a3 W3 hp
  match e,hp with
  | .normal,⟨hk3,hkp3,hi3⟩ =>
   obtain ⟨h3,hr⟩:=fin none W3 hk3
   exact ⟨_,_,hr,.inl ⟨rfl,⟨hI.putObj _ hi3 (by omega) h3.1 rfl,hput _ _ _ _ _ h3⟩,hKt (hKt (hKb _ _ _ _ (by omega) hl.1 rfl rfl) hkp3) (hKb _ _ _ _ (by omega) h3.1 rfl rfl)⟩⟩
  | .ret,⟨hk3,hi3⟩ =>
   obtain ⟨h3,hr⟩:=fin (some .ret) W3 hk3
   exact ⟨_,_,hr,.inr ⟨rfl,.ret,(hIx _).putObj _ hi3 (by omega) h3.1 rfl,hput _ _ _ _ _ h3⟩⟩
  | .exit id,⟨hk3,hi3⟩ =>
   obtain ⟨h3,hr⟩:=fin (some (.exit id)) W3 hk3
   exact ⟨_,_,hr,.inr ⟨rfl,.exit id,(hIx _).putObj _ hi3 (by omega) h3.1 rfl,hput _ _ _ _ _ h3⟩⟩
  | .goto t,⟨hk3,hi3⟩ =>
   obtain ⟨h3,hr⟩:=fin (some (.goto t)) W3 hk3
   exact ⟨_,_,hr,.inr ⟨rfl,.goto t,(hIx _).putObj _ hi3 (by omega) h3.1 rfl,hput _ _ _ _ _ h3⟩⟩
 ·rintro e W2 ⟨⟨v,rfl⟩,(⟨xs,hS,hi,hl⟩ | ⟨pre,hSp,c,hi,hl⟩)⟩
  ·exact ⟨none,_,run_endLoop (P:=P) hl.1 (by simp [L]),hdone _ xs _ (by omega) hS (hI.putObj _ hi (by omega) hl.1 rfl) ((World.putObj_heap_other (by omega)).trans hl.2)⟩
  ·exact ⟨some c,_,run_endLoop (P:=P) hl.1 (by simp [L]),hstop _ c pre _ (by omega) hSp ((hIx c).putObj _ hi (by omega) hl.1 rfl) ((World.putObj_heap_other (by omega)).trans hl.2)⟩
end
def strAt (W:World) (B:Nat):Nat:=match W.cell? ⟨B,0,none⟩ with
 | some (.string s)=>s.size
 | _=>0
theorem strAt_of {W:World} {B:Nat} {s:ByteArray} (h:W.cell? ⟨B,0,none⟩=some (.string s)):strAt W B=s.size:=by unfold strAt;rw [h]
def spK (Bp Bs Bv:Nat) (W W':World):Prop:=∀ b t v,(b=Bp∨b=Bs∨b=Bv)→Boxed W b t v→Boxed W' b t v
theorem dots_ne:∀ l,dots l≠[]
 | []=>by simp [dots]
 | b :: r=>by
  rw [dots]
  split
  ·simp
  ·split<;>simp
theorem dots_none:∀ {l:List UInt8},Lib.indexByte l 46 < 0→dots l=[l]
 | [],_=>rfl
 | b :: r,h=>by
  rw [Lib.indexByte] at h
  have hg:=Lib.indexByte_ge r 46
  by_cases hb:(b == 46)=true
  ·rw [if_pos hb] at h;omega
  ·rw [if_neg hb] at h
   have hr:Lib.indexByte r 46 < 0:=by
    by_cases h1:(Lib.indexByte r 46 == -1)=true
    ·have:=eq_of_beq h1;omega
    ·rw [if_neg h1] at h;omega
   rw [dots,if_neg (fun e=>hb (by rw [e];rfl)),dots_none hr]
theorem dots_some:∀ {l:List UInt8} {i:Nat},Lib.indexByte l 46=i→dots l=l.take i :: dots (l.drop (i+1))
 | [],i,h=>by rw [Lib.indexByte] at h;omega
 | b :: r,i,h=>by
  rw [Lib.indexByte] at h
  have hg:=Lib.indexByte_ge r 46
  by_cases hb:(b == 46)=true
  ·rw [if_pos hb] at h
   obtain rfl:i=0:=by omega
   rw [dots,if_pos (eq_of_beq hb)]
   rfl
  ·rw [if_neg hb] at h
   by_cases h1:(Lib.indexByte r 46 == -1)=true
   ·rw [if_pos h1] at h;omega
   ·rw [if_neg h1] at h
    obtain ⟨j,hj⟩:∃ j:Nat,Lib.indexByte r 46=j:=⟨(Lib.indexByte r 46).toNat,by have:Lib.indexByte r 46≠-1:=fun e=>h1 (by rw [e];rfl);omega⟩
    obtain rfl:i=j+1:=by omega
    rw [dots,if_neg (fun e=>hb (by rw [e];rfl)),dots_some hj]
    rfl
set_option maxRecDepth 100000 in
set_option maxHeartbeats 2000000 in
theorem splitSeq1_in (n:Nat) (hn:1≤n) (l Bp Bs Bv:Nat) (s0:ByteArray) (hs0:s0.size≤1000000) (hne1:Bp≠Bs) (hne2:Bv≠Bs) (J Jx:List { s:ByteArray // s.size≤1000000 }→World→Prop)
 (hJs:∀ pre A v,J pre A→J pre (A.setCell ⟨Bs,0,none⟩ v))
 (hY:∀ pre x W,J pre W→pre.length < 1000002→YieldAt Fence.wide (n - 1) Tryd.prog l #[.string x.1] W fun e W' =>
  (e=.returned (.bool true)∧J (pre++[x]) W'∧spK Bp Bs Bv W W')∨(e=.returned (.bool false)∧Jx (pre++[x]) W'))
 (W:World) (hBp:Boxed W Bp 9 (.string ⟨#[46]⟩)) (hBs:Boxed W Bs 9 (.string s0)) (hBv:Boxed W Bv 3 (.int .i64 0)) (h0:J [] W) :
 CallsIn Fence.wide n Tryd.prog 50 #[.func (.yield l) #[] #[],.pointer (some ⟨Bp,0,none⟩),.pointer (some ⟨Bs,0,none⟩),.pointer (some ⟨Bv,0,none⟩)] W fun e W'=>(∃ v,e=.returned v) ∧
  ((∃ ys,ys.map (fun x=>x.1.data.toList)=dots s0.data.toList∧J ys W')∨(∃ pre,pre.map (fun x=>x.1.data.toList) <+: dots s0.data.toList∧Jx pre W')):=by
 refine callsIn_of_wp Tryd.func50 rfl trivial ?_ rfl
 simp only [Tryd.ntmps50,List.size_toArray,List.length_cons,List.length_nil,Nat.reduceAdd,Nat.reduceSub,Array.replicate_succ,Array.replicate_zero,List.push_toArray,List.append_toArray,List.nil_append,List.cons_append]
 have hB1:=hBp.cell
 gi_wp2
 gi_loopw [7,8] (fun _ _ wr=>∃ (pre:List { s:ByteArray // s.size≤1000000 }) (rest:ByteArray),pre.map (fun x=>x.1.data.toList)++dots rest.data.toList=dots s0.data.toList∧pre.length+rest.size≤s0.size ∧
  Boxed wr Bs 9 (.string rest)∧Boxed wr Bp 9 (.string ⟨#[46]⟩)∧Boxed wr Bv 3 (.int .i64 0)∧J pre wr)
  (fun _ _ wr=>strAt wr Bs)
 case atStart=>exact ⟨[],s0,by simp,by simp,hBs,hBp,hBv,h0⟩
 case round =>
  obtain ⟨pre,rest,hpre,hlen,bS,bP,bV,hJ⟩:=hrel
  have hcS:=bS.cell
  have hfS:=bS.frozen
  have hcP:=bP.cell
  have hcV:=bV.cell
  have hge:=Lib.indexByte_ge rest.data.toList 46
  by_cases hlt:Lib.indexByte rest.data.toList 46 < 0
  ·generalize hix:Lib.indexByte rest.data.toList 46=ix at hge hlt
   have hb0:decide (ix < 0)=true:=decide_eq_true hlt
   obtain ⟨fn,tmps,assign,body,hy,hR⟩:=hY pre ⟨rest,by omega⟩ wr hJ (by omega)
   dsimp only at hy
   gi_wp2_with (refine ⟨trivial,?_⟩;gi_at_call 51;refine (callsIn_wide.2 (Tryd.strings_Index_one rest 46 _)).mono ?_;rintro e w9 ⟨rfl,rfl⟩;rw [hix])
   have hdots:dots rest.data.toList=[rest.data.toList]:=dots_none (by omega)
   refine hR.mono ?_
   rintro e W3 (⟨rfl,hJ3,hk3⟩ | ⟨rfl,hJx3⟩)
   ·gi_wp2
    go_end0
    exact ⟨⟨_,rfl⟩,.inl ⟨_,by rw [← hpre,hdots];simp,hJ3⟩⟩
   ·gi_wp2
    go_end0
    exact ⟨⟨_,rfl⟩,.inr ⟨_,by rw [← hpre,hdots];exact ⟨[],by simp⟩,hJx3⟩⟩
  ·generalize hix:Lib.indexByte rest.data.toList 46=ix at hge hlt
   have hb0:decide (ix < 0)=false:=decide_eq_false hlt
   obtain ⟨i,rfl⟩:∃ i:Nat,ix=i:=⟨ix.toNat,by omega⟩
   obtain ⟨hat,_⟩:=Lib.indexByte_some hix
   have hil:i < rest.size:=by
    have:=(List.getElem?_eq_some_iff.1 hat).1
    have h2:rest.data.toList.length=rest.size:=Array.length_toList
    omega
   have hw0:wrap64 ((i:Int)+0)=(i:Int):=by rw [Int.add_zero];exact (by unfold wrap64;omega)
   have hw1:wrap64 ((i:Int)+1)=(i:Int)+1:=by unfold wrap64;omega
   have hc1:(0:Int)≤(i:Int):=by omega
   have hc2:(i:Int)≤(rest.size:Int):=by omega
   have hc3:(0:Int)≤(i:Int)+1:=by omega
   have hc4:(i:Int)+1≤(rest.size:Int):=by omega
   have hxs:(rest.extract 0 i).size≤1000000:=by rw [ByteArray.size_extract];omega
   have hx1:(rest.extract 0 i).data.toList=rest.data.toList.take i:=by simp
   have hx2:(rest.extract (i+1) rest.size).data.toList=rest.data.toList.drop (i+1):=by
    have h2:rest.data.toList.length=rest.size:=Array.length_toList
    simp [List.take_of_length_le,h2]
   obtain ⟨fn,tmps,assign,body,hy,hR⟩:=hY pre ⟨rest.extract 0 i,hxs⟩ wr hJ (by omega)
   dsimp only at hy
   gi_wp2_with (refine ⟨trivial,?_⟩;gi_at_call 51;refine (callsIn_wide.2 (Tryd.strings_Index_one rest 46 _)).mono ?_;rintro e w9 ⟨rfl,rfl⟩;rw [hix])
   refine hR.mono ?_
   rintro e W3 (⟨rfl,hJ3,hk3⟩ | ⟨rfl,hJx3⟩)
   ·have bS3:=hk3 _ _ _ (Or.inr (Or.inl rfl)) bS
    have bP3:=hk3 _ _ _ (Or.inl rfl) bP
    have bV3:=hk3 _ _ _ (Or.inr (Or.inr rfl)) bV
    have hcS3:=bS3.cell
    have hfS3:=bS3.frozen
    have hcP3:=bP3.cell
    gi_wp2
    go_roundw
    case rel =>
     refine ⟨pre++[⟨rest.extract 0 i,hxs⟩],rest.extract (i+1) rest.size,?_,?_,bS3.set _,bP3.kept (grownBy_setCell' _ _ _) (by simpa using hne1),bV3.kept (grownBy_setCell' _ _ _) (by simpa using hne2),hJs _ _ _ hJ3⟩
     ·rw [hx2,List.map_append,List.append_assoc,← hpre,dots_some hix]
      simp only [List.map_cons,List.map_nil,hx1]
      rfl
     ·simp only [List.length_append,List.length_cons,List.length_nil,ByteArray.size_extract]
      omega
    case measure =>
     rw [strAt_of (bS3.set _).cell,strAt_of hcS,ByteArray.size_extract]
     omega
   ·gi_wp2
    refine bodyPost_ret (results_none rfl _ _ _) rfl ?_
    exact ⟨⟨_,rfl⟩,.inr ⟨_,⟨dots (rest.data.toList.drop (i+1)),by rw [← hpre,dots_some hix,List.map_append,List.append_assoc];simp only [List.map_cons,List.map_nil,hx1];rfl⟩,hJx3⟩⟩
theorem splitSeq_calls (a b:ByteArray) (c:Int) (w:World) :
 Calls Tryd.prog 37 #[.string a,.string b,.int .i64 c] w fun e w'=>e=.returned (.func (.func 50) #[] #[.pointer (some ⟨w.heap.size+1,0,none⟩),.pointer (some ⟨w.heap.size,0,none⟩),.pointer (some ⟨w.heap.size+2,0,none⟩)])∧w'=((w.alloc (.cells #[.string a] 9)).alloc (.cells #[.string b] 9)).alloc (.cells #[.int .i64 c] 3):=by
 go_enter Tryd.func37,Tryd.ntmps37
 go_wp2
 go_ret
 exact ⟨rfl,rfl⟩
theorem SplitSeq_calls (a b:ByteArray) (w:World) :
 Calls Tryd.prog 22 #[.string a,.string b] w fun e w'=>e=.returned (.func (.func 50) #[] #[.pointer (some ⟨w.heap.size+1,0,none⟩),.pointer (some ⟨w.heap.size,0,none⟩),.pointer (some ⟨w.heap.size+2,0,none⟩)])∧w'=((w.alloc (.cells #[.string a] 9)).alloc (.cells #[.string b] 9)).alloc (.cells #[.int .i64 0] 3):=by
 go_enter Tryd.func22,Tryd.ntmps22
 go_wp2_with (go_at_call 37;refine (splitSeq_calls _ _ _ _).mono ?_;rintro e w9 ⟨rfl,rfl⟩)
 go_ret
 exact ⟨rfl,rfl⟩
def parsePost (fn:Func) (R:Ending→World→Prop):Exit→Act→World→Prop
 | .normal,a,w=>LeavesInM Fence.wide 3 Tryd.prog fn a.tmps R a.defers .returning w
 | .ret,a,w=>LeavesInM Fence.wide 3 Tryd.prog fn a.tmps R a.defers .returning w
 | _,_,_=>False
theorem parsePost_to (fn:Func) (R:Ending→World→Prop):∀ (e:Exit) (a:Act) (w:World),parsePost fn R e a w→bodyPostM Fence.wide 3 Tryd.prog fn R e a w
 | .normal,_,_,h=>h
 | .ret,_,_,h=>h
 | .panic _,_,_,h=>h.elim
 | .outgrown,_,_,h=>h.elim
 | .exit _,_,_,h=>h.elim
 | .goto _,_,_,h=>h.elim
theorem parse_results (tmps:Array Value) (w:World) {R1 R2:Nat} {x y:Value} (hp:tmps.getD 2 undef=.pointer (some ⟨R1,0,none⟩)) (hq:tmps.getD 3 undef=.pointer (some ⟨R2,0,none⟩)) (h1:w.cell? ⟨R1,0,none⟩=some x) (h2:w.cell? ⟨R2,0,none⟩=some y) :
 (results Tryd.f13 tmps).run Tryd.prog w=.ok (.tuple #[x,y]) w:=by
 have hp':tmps[2]?.getD undef=.pointer (some ⟨R1,0,none⟩):=by simpa using hp
 have hq':tmps[3]?.getD undef=.pointer (some ⟨R2,0,none⟩):=by simpa using hq
 simp [results,Tryd.f13,hp',hq',asAddr,h1,h2,go_sem]
theorem parse_at {W:World} {b b':Nat} {t:TypeId} {v:Value} (h:b=b') (hb:Boxed W b t v):Boxed W b' t v:=h ▸ hb
def parseI (w:World) (pre:List { s:ByteArray // s.size≤1000000 }) (W:World):Prop :=
 (∀ x∈pre,(partP x).2=true)∧Boxed W w.heap.size 24 (.slice none 0 0)∧Boxed W (w.heap.size+1) 4 (.bool false)∧w.heap.size+6≤W.heap.size ∧
  (∃ v,Boxed W (w.heap.size+2) 24 v∧W.ownsRow (w.heap.size+6) 3 1 v pre.length (pre.map fun x=>Value.int .i64 (partP x).1))∧Below w.heap.size w W
def parseX (w:World) (c:Code) (pre:List { s:ByteArray // s.size≤1000000 }) (W:World):Prop :=
 c=.ret∧(∃ x∈pre,(partP x).2=false)∧Boxed W w.heap.size 24 (.slice none 0 0)∧Boxed W (w.heap.size+1) 4 (.bool false)∧Below w.heap.size w W
theorem boxed_turn {A B:World} {row:Option Nat} {b:Nat} {t:TypeId} {v:Value} (h:Boxed A b t v) (hg:A.grownBy B row) (hr:∀ r,row=some r→∃ o:Obj,A.heap[r]? = some o∧o.isCells=false):Boxed B b t v :=
 h.kept hg (fun e=>by
  obtain ⟨o,ho,hc⟩:=hr b e.symm
  rw [show A.heap[b]? = _ from h] at ho
  cases ho
  cases hc)
theorem row_turn {A B:World} {row:Option Nat} {base:Nat} {e:TypeId} {size:Nat} {v:Value} {n:Nat} {xs:List Value} (h:A.ownsRow base e size v n xs) (hg:A.grownBy B row) (hr:∀ r,row=some r→∃ o:Obj,A.heap[r]? = some o∧o.isCells=false):B.ownsRow base e size v n xs :=
 h.kept hg (by
  rcases h.2 with ⟨rfl,_⟩ | ⟨g,cap,cur,rfl,_,hgb,_⟩
  ·exact .inl rfl
  ·refine .inr fun e'=>?_
   obtain ⟨o,ho,hc⟩:=hr g (by simpa [Value.ownBlock] using e'.symm)
   rw [hgb] at ho
   cases ho
   cases hc)
theorem row_above {A:World} {base b:Nat} {e:TypeId} {size:Nat} {v:Value} {n:Nat} {xs:List Value} (h:A.ownsRow base e size v n xs) (hb:b < base):v.ownBlock≠some b:=by
 rcases h.2 with ⟨rfl,_⟩ | ⟨g,cap,cur,rfl,hg,_⟩
 ·simp [Value.ownBlock]
 ·intro e'
  obtain rfl:g=b:=by simpa [Value.ownBlock] using e'
  omega
theorem row_turn_none {A:World} {base:Nat} {e:TypeId} {size:Nat} {v:Value} {n:Nat} {xs:List Value} (h:A.ownsRow base e size v n xs):v.ownBlock=none∨v.ownBlock≠none:=by
 cases v.ownBlock with
 | none=>exact .inl rfl
 | some b=>exact .inr (by simp)
theorem row_app {W w1:World} {n₀:Nat} {e:TypeId} {size:Nat} {v:Value} {k:Nat} {xs:List Value} {tmp:Obj} (hrow:W.ownsRow n₀ e size v k xs) (hgrow:(W.alloc tmp).grownBy w1 v.ownBlock):KeepsOthers W w1 :=
 (KeepsOthers.alloc W tmp).trans (KeepsOthers.of_grownBy hgrow fun j o ej hj=>by
  rcases (hrow.alloc tmp).2 with ⟨rfl,_⟩ | ⟨g,cap,cur,rfl,_,hgb,_⟩
  ·simp [Value.ownBlock] at ej
  ·obtain rfl:g=j:=by simpa [Value.ownBlock] using ej
   rw [hgb] at hj
   cases hj
   rfl)
theorem keeps_below {W W':World} (B:Nat) (hb:Below W.heap.size W W'):KeepsFrom B W W':=⟨hb.size,fun k o _ hk _=>(hb.block k (Array.getElem?_eq_some_iff.1 hk).1).trans hk⟩
theorem parseI_own (w:World) (B:Nat) (hB:w.heap.size≤B):OwnFrom B (parseI w):=fun pre X Y row hs hg hr=>by
 obtain ⟨h1,h2,h3,h4,⟨v,h5,h6⟩,h7⟩:=hs
 have hr2:=fun r e=>(hr r e).2
 exact ⟨h1,boxed_turn h2 hg hr2,boxed_turn h3 hg hr2,Nat.le_trans h4 hg.size,⟨v,boxed_turn h5 hg hr2,row_turn h6 hg hr2⟩,ownFrom_below (β:=Unit) (Nat.le_refl _) hB () X Y row h7 hg hr⟩
theorem parseX_own (w:World) (B:Nat) (hB:w.heap.size≤B) (c:Code):OwnFrom B (parseX w c):=fun pre X Y row hs hg hr=>by
 obtain ⟨h1,h2,h3,h4,h7⟩:=hs
 have hr2:=fun r e=>(hr r e).2
 exact ⟨h1,h2,boxed_turn h3 hg hr2,boxed_turn h4 hg hr2,ownFrom_below (β:=Unit) (Nat.le_refl _) hB () X Y row h7 hg hr⟩
theorem parseI_set (w:World) (pre:List { s:ByteArray // s.size≤1000000 }) (A:World) (v:Value) (h:parseI w pre A):parseI w pre (A.setCell ⟨w.heap.size+3,0,none⟩ v):=by
 obtain ⟨h1,h2,h3,h4,⟨v',h5,h6⟩,h7⟩:=h
 exact ⟨h1,h2.other (by omega) v,h3.other (by omega) v,Nat.le_trans h4 (grownBy_setCell' A _ v).size,⟨v',h5.other (by omega) v,h6.kept (grownBy_setCell' A _ v) (.inr (row_above h6 (by omega)))⟩,h7.setCell (p:=⟨w.heap.size+3,0,none⟩) (by simp) v⟩
theorem parseInfo:(Tryd.prog.info? 3).map (fun i=>(i.zero,i.size,i.bytes))=some (some (.int .i64 0),1,8):=by kernel_rfl
theorem oid_Parse.right {k:Nat} {arcs:List Int} {t:Bool} {p:Pub} {W:World} {g cap:Nat} (h:oid_Right.f k arcs=some t) (hp:∀ b,p b→b < W.heap.size) (ht:Tabs.t p W) (hc:arcs.length≤cap) (hg:g < W.heap.size)
 (hs:∀ j x,arcs[j]? = some x→∃ b o,some (⟨g,0,none⟩:Addr)=some ⟨b,o,none⟩∧(p b∨b=g)∧W.cell? ⟨b,o+j,none⟩=some (Value.int .i64 x)) :
 Calls Tryd.prog 24 #[.slice (some ⟨g,0,none⟩) arcs.length cap] W fun e w'=>e=.returned (.bool t)∧Below W.heap.size W w':=by
 refine ((oid_Right.con h).2 (fun b=>p b∨b=g) W [.slice (some ⟨g,0,none⟩) arcs.length cap] (fun b hb=>hb.elim (hp b) (fun e=>e ▸ hg)) (Tabs.s (p:=p) ⟨fun b hb=>.inl hb,fun _ _=>rfl⟩ ht)
  (RepL.cons (A:=[]) (B:=[]) (Rep.of_shared (enc:=Value.int .i64) rfl (fun x=>by simp [Value.oneCell']) hc hs) .nil)).mono ?_
 rintro e w' ⟨v,T,q,he,hb,_,_,_,hv⟩
 exact ⟨by rw [he,hv.lit_inv],below_of_calm hb⟩
theorem oid_Parse.lower {w:World} {b b':Nat} {e:TypeId} {size:Nat} {v:Value} {n:Nat} {xs:List Value} (h:w.ownsRow b e size v n xs) (hb:b'≤b):w.ownsRow b' e size v n xs:=by
 refine ⟨h.1,?_⟩
 rcases h.2 with h | ⟨g,cap,cur,a,hg,r⟩
 ·exact .inl h
 ·exact .inr ⟨g,cap,cur,a,Nat.le_trans hb hg,r⟩
set_option maxHeartbeats 8000000 in
set_option maxRecDepth 100000 in
theorem oid_Parse.calls (k:Nat) (a0:ByteArray) (r1:List Int) (r2:Bool) (p:Pub) (w:World) (hp:∀ b,p b→b < w.heap.size) (ht:Tabs.t p w) (h:oid_Parse.f k a0=some (r1,r2)) :
 Calls Tryd.prog 13 #[.string a0] w fun e w'=>∃ v0_:Value,e=.returned (.tuple #[v0_,.bool r2])∧w'.ownsRow w.heap.size 3 1 v0_ r1.length (r1.map (Value.int .i64))∧Below w.heap.size w w':=by
 have H:=Asd.mk h
 have HP:=Asd.mk hp
 have HT_:=Asd.mk ht
 clear h hp ht
 have hsz:a0.size≤1000000:=by
  have h:=H.out
  unfold oid_Parse.f at h
  by_cases hc:a0.size≤1000000
  ·exact hc
  ·rw [if_neg hc] at h;cases h
 refine callsIn_wide.1 (callsIn_of_wp_marks (F:=Fence.wide) (n:=3) Tryd.func13 rfl trivial ?_ rfl)
 refine wpIn_mono (wpIn_wide.2 ?_) (parsePost_to Tryd.f13 _)
 simp only [Tryd.ntmps13,List.size_toArray,List.length_cons,List.length_nil,Nat.reduceAdd,Nat.reduceSub,Array.replicate_succ,Array.replicate_zero,List.push_toArray,List.append_toArray,List.nil_append,List.cons_append]
 go_upto_region 2 with fail
 iterate 6 (try (first | go_values | go_skip | go_guarded | go_step | go_upon))
 refine (SplitSeq_calls _ _ _).mono ?_
 rintro e w' ⟨rfl,rfl⟩
 dsimp only
 iterate 4 (try (first | go_values | go_skip | go_guarded | go_step | go_upon | go_back))
 refine wp_block ?_
 refine (wpIn_wide (n:=3)).1 ?_
 simp only [World.size_alloc,Nat.add_assoc,Nat.reduceAdd]
 obtain ⟨W0,hW0⟩:∃ W0,((((((w.alloc (.cells #[.slice none 0 0] 24)).alloc (.cells #[.bool false] 4)).alloc (.cells #[.slice none 0 0] 24)).alloc (.cells #[.string a0] 9)).alloc (.cells #[.string ⟨#[46]⟩] 9)).alloc (.cells #[.int .i64 0] 3))=W0:=⟨_,rfl⟩
 rw [hW0]
 have hsz0:W0.heap.size=w.heap.size+6:=by rw [← hW0];simp
 have g0:Boxed W0 w.heap.size 24 (.slice none 0 0):=by rw [← hW0];exact (((((Boxed.new w 24 _).alloc _).alloc _).alloc _).alloc _).alloc _
 have g1:Boxed W0 (w.heap.size+1) 4 (.bool false):=by rw [← hW0];exact parse_at (by simp) ((((Boxed.new (w.alloc (.cells #[.slice none 0 0] 24)) 4 _).alloc _).alloc _).alloc _ |>.alloc _)
 have g2:Boxed W0 (w.heap.size+2) 24 (.slice none 0 0):=by rw [← hW0];exact parse_at (by simp) (((Boxed.new ((w.alloc (.cells #[.slice none 0 0] 24)).alloc (.cells #[.bool false] 4)) 24 _).alloc _).alloc _ |>.alloc _)
 have g3:Boxed W0 (w.heap.size+3) 9 (.string a0):=by rw [← hW0];exact parse_at (by simp) ((Boxed.new (((w.alloc (.cells #[.slice none 0 0] 24)).alloc (.cells #[.bool false] 4)).alloc (.cells #[.slice none 0 0] 24)) 9 _).alloc _ |>.alloc _)
 have g4:Boxed W0 (w.heap.size+4) 9 (.string ⟨#[46]⟩):=by rw [← hW0];exact parse_at (by simp) (Boxed.new ((((w.alloc (.cells #[.slice none 0 0] 24)).alloc (.cells #[.bool false] 4)).alloc (.cells #[.slice none 0 0] 24)).alloc (.cells #[.string a0] 9)) 9 _ |>.alloc _)
 have g5:Boxed W0 (w.heap.size+5) 3 (.int .i64 0):=by rw [← hW0];exact parse_at (by simp) (Boxed.new (((((w.alloc (.cells #[.slice none 0 0] 24)).alloc (.cells #[.bool false] 4)).alloc (.cells #[.slice none 0 0] 24)).alloc (.cells #[.string a0] 9)).alloc (.cells #[.string ⟨#[46]⟩] 9)) 3 _)
 have gB:Below w.heap.size w W0:=by rw [← hW0];exact (((((((Below.refl _ w).alloc (Nat.le_refl _) _).alloc (by simp) _).alloc (by simp;omega) _).alloc (by simp;omega) _).alloc (by simp;omega) _).alloc (by simp;omega) _)
 clear hW0
 refine wpIn_rangeFunc_box (α:={ s:ByteArray // s.size≤1000000 }) (encs:=fun x=>#[.string x.1]) (Kp:=spK (w.heap.size+4) (w.heap.size+3) (w.heap.size+5)) (S:=fun xs=>xs.map (fun x=>x.1.data.toList)=dots a0.data.toList) (Sp:=fun pre=>pre.map (fun x=>x.1.data.toList) <+: dots a0.data.toList) (N:=1000002) (Bs:=w.heap.size+3) rfl (by omega) (gf:=50)
  (lb:=#[.pointer (some ⟨w.heap.size+4,0,none⟩),.pointer (some ⟨w.heap.size+3,0,none⟩),.pointer (some ⟨w.heap.size+5,0,none⟩)]) rfl trivial (enters_of Tryd.func50 (by kernel_rfl) rfl) (by omega)
  (fun l J Jx W hW hJs hY h0=>splitSeq1_in (3 - 1) (by omega) l _ _ _ a0 hsz (by omega) (by omega) J Jx hJs hY W ((hW.block _ g4.lt).trans g4) ((hW.block _ g3.lt).trans g3) ((hW.block _ g5.lt).trans g5) h0)
  (fun h k b t v hb hx=>k b t v hb (h b t v hb hx)) (fun W l o o' _ ho h1 _ b t v hb hx=>boxed_turn hx (grownBy_putObj' W l o') (fun r e=>by cases e;exact ⟨o,ho,h1⟩)) (fun _=>rfl)
  (parseI w) (parseX w) (parseI_own w _ (by omega)) (parseI_set w) (fun c=>parseX_own w _ (by omega) c) ⟨by simp,g0,g1,by omega,⟨_,g2,World.ownsRow_nil _ _ _ _⟩,gB⟩
  (fun x=>{ tmps:=#[.string a0,undef,.pointer (some ⟨w.heap.size,0,none⟩),.pointer (some ⟨w.heap.size+1,0,none⟩),.pointer (some ⟨w.heap.size+2,0,none⟩),.string x.1,undef,undef,.string a0,
    .func (.func 50) #[] #[.pointer (some ⟨w.heap.size+4,0,none⟩),.pointer (some ⟨w.heap.size+3,0,none⟩),.pointer (some ⟨w.heap.size+5,0,none⟩)],.string x.1,undef,undef,undef,undef,undef,undef,undef,undef,undef,undef,undef,undef,undef,undef,undef],defers:=[] }) ?assign ?body ?done ?stop
 case assign =>
  intro l x W K hK
  gi_wp2
  exact hK
 case body =>
  rintro l pre x W ⟨h1,b0,b1,b3,⟨v,b2,hrow⟩,hB⟩ hlt
  have hu:digits_Unnum.f x.1=some (digits_Unnum.of x.1):=by
   unfold digits_Unnum.f
   rw [if_pos (by have:=x.2;omega)]
  have HTB:=Asd.mk (tabs_below HP.out HT_.out hB)
  have HPB:=Asd.mk (hp_below HP.out hB)
  cases hp:digits_Unnum.of x.1 with
  | mk pn pb =>
   rw [hp] at hu
   have HU:=Asd.mk hu
   have HI:=Asd.mk h1
   clear hu h1
   cases pb with
   | false =>
    have HX:=Asd.mk (And.intro b0 (And.intro b1 hB))
    clear b2 b3 hrow hB
    gi_wp2_with (refine ⟨trivial,?_⟩;gi_at_call 23;refine (CallsIn.inRound l (callsIn_wide.2 (digits_Unnum.calls x.1 pn false p W HPB.out HTB.out HU.out))).mono ?_;rintro e w9 ⟨rfl,hb⟩;have c0:Boxed w9 _ _ _:=(hb.block _ b0.lt).trans b0;have c1:Boxed w9 _ _ _:=(hb.block _ b1.lt).trans b1;have d0:=c0.cell;have d1:=c1.cell;have e0:=c0.frozen;have e1:=(c1.other (by omega) (.slice none 0 0):Boxed (w9.setCell ⟨w.heap.size,0,none⟩ _) _ _ _).frozen;have HC:=Asd.mk (And.intro c0 (And.intro c1 hb));clear c0 c1 hb)
    obtain ⟨b0,b1,hB⟩:=HX.out
    obtain ⟨c0,c1,hb⟩:=HC.out
    refine ⟨(keeps_below _ hb).trans (((KeepsOthers.setCell _ _ _).trans (KeepsOthers.setCell _ _ _)).from _),rfl,⟨x,by simp,by unfold partP;rw [hp]⟩,(c0.set _).other (by omega) _,(c1.other (by omega) _).set _,((hB.trans (hb.mono hB.size)).setCell (p:=⟨w.heap.size,0,none⟩) (Nat.le_refl _) _).setCell (p:=⟨w.heap.size+1,0,none⟩) (by simp) _⟩
   | true =>
    have hml:pre.length+1≤maxLen:=by unfold maxLen;omega
    obtain ⟨i0,hi,hz0,hz1,hz2⟩:=info_parts parseInfo
    gi_wp2_with (first | (refine ⟨trivial,?_⟩;gi_at_call 23;refine (CallsIn.inRound l (callsIn_wide.2 (digits_Unnum.calls x.1 pn true p W HPB.out HTB.out HU.out))).mono ?_;rintro e w9 ⟨rfl,hb⟩;have c2:Boxed w9 (w.heap.size+2) 24 v:=(hb.block _ b2.lt).trans b2;have d2:=c2.cell;have hrow9:w9.ownsRow (w.heap.size+6) 3 1 v pre.length (pre.map fun x=>Value.int .i64 (partP x).1):=hrow.kept (grown_below hb none) (row_turn_none hrow);have hs9:w.heap.size+6≤w9.heap.size:=Nat.le_trans b3 hb.size) | (gi_at_builtin;refine wpListIn_append_own _ rfl _ _ 24 rfl (w.heap.size+6) 3 i0 (.int .i64 0) 1 8 Tryd.underlying24 hi hz0 hz1 hz2 rfl (by decide) _ _ _ rfl (hrow9.alloc _) ⟨w9.heap.size,0,none⟩ 1 1 [.int .i64 pn] rfl rfl (cell_one_new _ _ _) (by simp [Value.oneCell']) hml (by omega) (by simp;omega) ?_;intro v' w1 hown' hgrow _;obtain ⟨g',cap',rfl⟩:=ownsRow_succ hown';have hgr:(w9.alloc (.cells #[.int .i64 pn] 3)).grownBy w1 v.ownBlock:=hgrow;clear hgrow;have hv3:Boxed w1 (w.heap.size+2) 24 v:=(c2.alloc _).kept hgr (row_above hrow9 (by omega)).symm;have hc1:=hv3.cell;have hf1:=hv3.frozen))
    have mv:∀ b t v2,b < w.heap.size+6→b≠w.heap.size+2→Boxed W b t v2→Boxed (w1.setCell ⟨w.heap.size+2,0,none⟩ (.slice (some ⟨g',0,none⟩) (pre.length+1) cap')) b t v2:=fun b t v2 h1 h2 hx =>
     Boxed.other ((Boxed.alloc (show Boxed w9 b t v2 from (hb.block _ hx.lt).trans hx) _).kept hgr (row_above hrow9 h1).symm) h2 _
    refine ⟨(keeps_below _ hb).trans (((row_app hrow9 hgr).trans (KeepsOthers.setCell _ _ _)).from _),fun b t v2 hbx hx=>mv b t v2 (by omega) (by omega) hx,⟨?_,mv _ _ _ (by omega) (by omega) b0,mv _ _ _ (by omega) (by omega) b1,?_,⟨_,hv3.set _,?_⟩,?_⟩⟩
    ·intro y hy
     rcases List.mem_append.1 hy with h | h
     ·exact HI.out y h
     ·rw [List.mem_singleton] at h
      subst h
      unfold partP
      rw [hp]
    ·have e1:=hgr.size
     have e2:=(grownBy_setCell' w1 (w.heap.size+2) (.slice (some ⟨g',0,none⟩) (pre.length+1) cap')).size
     rw [World.size_alloc] at e1
     omega
    ·have e:=hown'.kept (grownBy_setCell' w1 (w.heap.size+2) (.slice (some ⟨g',0,none⟩) (pre.length+1) cap')) (.inr (row_above hown' (by omega)))
     have e3:(partP x).1=pn:=by unfold partP;rw [hp]
     rw [List.length_append,List.map_append,List.map_cons,List.map_nil,e3]
     exact e
    ·exact (((((hB.trans (hb.mono hB.size)).alloc (by omega) _).grown hgr (by simp;omega) (fun j ej=>by
      rcases hrow9.2 with ⟨rfl,_⟩ | ⟨g2,cap2,cur2,rfl,hg2,_,_⟩
      ·simp [Value.ownBlock] at ej
      ·obtain rfl:g2=j:=by simpa [Value.ownBlock] using ej
       omega))).setCell (p:=⟨w.heap.size+2,0,none⟩) (by simp) _)
 case stop =>
  rintro D c pre W hD hSp ⟨rfl,⟨x,hx,hxf⟩,b0,b1,hB⟩ hK
  have hn:parseP (dots a0.data.toList)=none:=by
   obtain ⟨r,hr⟩:=hSp
   unfold parseP
   rw [if_neg]
   intro hall
   have:=List.all_eq_true.1 hall x.1.data.toList (by rw [← hr];exact List.mem_append_left _ (List.mem_map_of_mem hx))
   unfold partP at hxf
   rw [show (⟨x.1.data.toList.toArray⟩:ByteArray)=x.1 from by simp] at this
   rw [hxf] at this
   cases this
  have h:=H.out
  unfold oid_Parse.f at h
  rw [if_pos hsz,hn] at h
  cases h
  have d0:=b0.cell
  have d1:=b1.cell
  have HK:=Asd.mk hK
  have HX:=Asd.mk (And.intro b0 (And.intro b1 hB))
  clear b0 b1 hB hK
  refine wpIn_ret ?_
  refine ⟨by simp,.inl ⟨_,_,rfl,run_takeDeferred HK.out,?_⟩⟩
  obtain ⟨b0,b1,hB⟩:=HX.out
  have hr:=fun r (e:some D=some r)=>(by cases e;exact ⟨_,HK.out,rfl⟩:∃ o:Obj,W.heap[r]? = some o∧o.isCells=false)
  exact ⟨_,parse_results _ _ rfl rfl (boxed_turn b0 (grownBy_putObj' W D _) hr).cell (boxed_turn b1 (grownBy_putObj' W D _) hr).cell,_,rfl,World.ownsRow_nil _ _ _ _,hB.grown (grownBy_putObj' W D _) hB.size (fun j e=>by cases e;omega)⟩
 case done =>
  rintro D ys W hD hS ⟨h1,b0,b1,b3,⟨v,b2,hrow⟩,hB⟩ hK
  obtain ⟨arcs,harcs⟩:∃ arcs:List Int,arcs=ys.map fun x=>(partP x).1:=⟨_,rfl⟩
  have hn:parseP (dots a0.data.toList)=some arcs:=by
   unfold parseP
   rw [← hS,if_pos,harcs,List.map_map]
   ·rfl
   ·rw [List.all_map,List.all_eq_true]
    exact fun y hy=>h1 y hy
  have hpos:0 < arcs.length:=by
   rw [harcs,List.length_map]
   rcases ys with _ | ⟨y,ys⟩
   ·exact absurd hS.symm (dots_ne _)
   ·simp
  have h:=H.out
  unfold oid_Parse.f at h
  rw [if_pos hsz,hn] at h
  obtain ⟨t,ht,h⟩:=Option.bind_eq_some_iff.1 h
  have hrow2:W.ownsRow (w.heap.size+6) 3 1 v arcs.length (arcs.map (Value.int .i64)):=by
   rw [harcs,List.length_map]
   have e:(ys.map fun x=>(partP x).1).map (Value.int .i64)=ys.map fun x=>Value.int .i64 (partP x).1:=by simp
   rw [e]
   exact hrow
  have ho:=hrow2
  rcases hrow2.2 with ⟨_,h0⟩ | ⟨g,cap,cur0,rfl,hg1,hg2,hg3⟩
  ·omega
  have HCP:=Asd.mk hg3.1
  have HGL:=Asd.mk (Array.getElem?_eq_some_iff.1 hg2).1
  have HQP:=Asd.mk (hp_below HP.out hB)
  have HQT:=Asd.mk (tabs_below HP.out HT_.out hB)
  clear hg2 hg3
  have HCS:Asd (∀ j x,arcs[j]? = some x→∃ b o,some (⟨g,0,none⟩:Addr)=some ⟨b,o,none⟩∧(p b∨b=g)∧W.cell? ⟨b,o+j,none⟩=some (Value.int .i64 x)):=⟨fun j x hj=>⟨g,0,rfl,.inr rfl,by
   have h1:=ho.cells (g:=g) rfl j (.int .i64 x) (by rw [List.getElem?_map,hj];rfl)
   have ha:(⟨g,0,none⟩:Addr).add j=⟨g,j,none⟩:=by unfold Addr.add;split<;>simp_all
   rw [ha] at h1
   rw [Nat.zero_add]
   exact h1⟩⟩
  have HO:=Asd.mk ho
  have HT:=Asd.mk ht
  have HG:=Asd.mk hg1
  have d0:=b0.cell
  have d1:=b1.cell
  have d2:=b2.cell
  have e0:=b0.frozen
  have HK:=Asd.mk hK
  have HX:=Asd.mk (And.intro b0 (And.intro b1 hB))
  have HD:=Asd.mk hD
  have HB2:=Asd.mk b2
  have HR2:=Asd.mk hrow2
  clear ho ht hg1 b0 b1 b2 hB hK hrow hrow2 hD hS h1 hn harcs
  cases t with
  | true =>
   rw [if_pos rfl] at h
   simp only [Option.some.injEq,Prod.mk.injEq] at h
   obtain ⟨h2,rfl⟩:=h
   subst h2
   go_wp2_with (go_at_call 24;refine (oid_Parse.right HT.out HQP.out HQT.out HCP.out HGL.out HCS.out).mono ?_;rintro e w9 ⟨rfl,hb⟩;have c0:Boxed w9 _ _ _:=(hb.block _ HX.out.1.lt).trans HX.out.1;have c1:Boxed w9 _ _ _:=(hb.block _ HX.out.2.1.lt).trans HX.out.2.1;have c2:Boxed w9 _ _ _:=(hb.block _ HB2.out.lt).trans HB2.out;have d0:=c0.cell;have d1:=c1.cell;have d2:=c2.cell;have e0:=c0.frozen;have e1:=(c1.other (by omega) (.slice (some ⟨g,0,none⟩) arcs.length cap):Boxed (w9.setCell ⟨w.heap.size,0,none⟩ _) _ _ _).frozen;have HC:=Asd.mk (And.intro c0 (And.intro c1 hb));clear c0 c1 c2 hb)
   obtain ⟨c0,c1,hb⟩:=HC.out
   obtain ⟨W2,hW2⟩:∃ W2,((w9.setCell ⟨w.heap.size,0,none⟩ (.slice (some ⟨g,0,none⟩) arcs.length cap)).setCell ⟨w.heap.size+1,0,none⟩ (.bool true))=W2:=⟨_,rfl⟩
   have hd:w.heap.size+6≤D:=by have:=HD.out;omega
   have hk2:W2.heap[D]? = some (.deferred (some [])):=by
    rw [← hW2,setCell_at _ _ _ _ (by omega),setCell_at _ _ _ _ (by omega)]
    exact (hb.block D (Array.getElem?_eq_some_iff.1 HK.out).1).trans HK.out
   have f0:Boxed W2 w.heap.size 24 (.slice (some ⟨g,0,none⟩) arcs.length cap):=by rw [← hW2];exact (c0.set _).other (by omega) _
   have f1:Boxed W2 (w.heap.size+1) 4 (.bool true):=by rw [← hW2];exact (c1.other (by omega) _).set _
   have hB2:Below w.heap.size w W2:=by rw [← hW2];exact ((HX.out.2.2.trans (hb.mono HX.out.2.2.size)).setCell (p:=⟨w.heap.size,0,none⟩) (Nat.le_refl _) _).setCell (p:=⟨w.heap.size+1,0,none⟩) (by simp) _
   have fr:W2.ownsRow (w.heap.size+6) 3 1 (.slice (some ⟨g,0,none⟩) arcs.length cap) arcs.length (arcs.map (Value.int .i64)):=by
    rw [← hW2]
    have q0:=HR2.out.kept (grown_below hb none) (row_turn_none HR2.out)
    have q1:=q0.kept (grownBy_setCell' w9 w.heap.size (.slice (some ⟨g,0,none⟩) arcs.length cap)) (.inr (row_above q0 (by omega)))
    exact q1.kept (grownBy_setCell' _ (w.heap.size+1) (.bool true)) (.inr (row_above q1 (by omega)))
   rw [hW2]
   clear hW2
   have hr:=fun r (e:some D=some r)=>(by cases e;exact ⟨_,hk2,rfl⟩:∃ o:Obj,W2.heap[r]? = some o∧o.isCells=false)
   refine ⟨by simp,.inl ⟨_,_,rfl,run_takeDeferred hk2,?_⟩⟩
   exact ⟨_,parse_results _ _ rfl rfl (boxed_turn f0 (grownBy_putObj' W2 D _) hr).cell (boxed_turn f1 (grownBy_putObj' W2 D _) hr).cell,_,rfl,oid_Parse.lower (ownsRow_putObj fr _ hk2 rfl) (Nat.le_add_right _ 6),hB2.grown (grownBy_putObj' W2 D _) hB2.size (fun j e=>by cases e;omega)⟩
  | false =>
   rw [if_neg (by decide)] at h
   cases h
   go_wp2_with (go_at_call 24;refine (oid_Parse.right HT.out HQP.out HQT.out HCP.out HGL.out HCS.out).mono ?_;rintro e w9 ⟨rfl,hb⟩;have c0:Boxed w9 _ _ _:=(hb.block _ HX.out.1.lt).trans HX.out.1;have c1:Boxed w9 _ _ _:=(hb.block _ HX.out.2.1.lt).trans HX.out.2.1;have c2:Boxed w9 _ _ _:=(hb.block _ HB2.out.lt).trans HB2.out;have d0:=c0.cell;have d1:=c1.cell;have d2:=c2.cell;have e0:=c0.frozen;have e1:=(c1.other (by omega) (.slice none 0 0):Boxed (w9.setCell ⟨w.heap.size,0,none⟩ _) _ _ _).frozen;have HC:=Asd.mk (And.intro c0 (And.intro c1 hb));clear c0 c1 c2 hb)
   obtain ⟨c0,c1,hb⟩:=HC.out
   obtain ⟨W2,hW2⟩:∃ W2,((w9.setCell ⟨w.heap.size,0,none⟩ (.slice none 0 0)).setCell ⟨w.heap.size+1,0,none⟩ (.bool false))=W2:=⟨_,rfl⟩
   have hd:w.heap.size+6≤D:=by have:=HD.out;omega
   have hk2:W2.heap[D]? = some (.deferred (some [])):=by
    rw [← hW2,setCell_at _ _ _ _ (by omega),setCell_at _ _ _ _ (by omega)]
    exact (hb.block D (Array.getElem?_eq_some_iff.1 HK.out).1).trans HK.out
   have f0:Boxed W2 w.heap.size 24 (.slice none 0 0):=by rw [← hW2];exact (c0.set _).other (by omega) _
   have f1:Boxed W2 (w.heap.size+1) 4 (.bool false):=by rw [← hW2];exact (c1.other (by omega) _).set _
   have hB2:Below w.heap.size w W2:=by rw [← hW2];exact ((HX.out.2.2.trans (hb.mono HX.out.2.2.size)).setCell (p:=⟨w.heap.size,0,none⟩) (Nat.le_refl _) _).setCell (p:=⟨w.heap.size+1,0,none⟩) (by simp) _
   rw [hW2]
   clear hW2
   have hr:=fun r (e:some D=some r)=>(by cases e;exact ⟨_,hk2,rfl⟩:∃ o:Obj,W2.heap[r]? = some o∧o.isCells=false)
   refine ⟨by simp,.inl ⟨_,_,rfl,run_takeDeferred hk2,?_⟩⟩
   exact ⟨_,parse_results _ _ rfl rfl (boxed_turn f0 (grownBy_putObj' W2 D _) hr).cell (boxed_turn f1 (grownBy_putObj' W2 D _) hr).cell,_,rfl,World.ownsRow_nil _ _ _ _,hB2.grown (grownBy_putObj' W2 D _) hB2.size (fun j e=>by cases e;omega)⟩
theorem oid_Parse.con {k:Nat} {a0:ByteArray} {r:List Int × Bool} (H:oid_Parse.f k a0=some r):Con Tryd.prog 13 [S a0] (.tup [.row (some 3) 1 (List.map I r.1),B r.2]):=by
 refine con_litsX Tryd.func13 rfl (by kernel_rfl) rfl fun p w hp ht=>(oid_Parse.calls k a0 r.1 r.2 p w hp ht H).mono ?_
 rintro e w' ⟨v,rfl,hr,hb⟩
 exact ⟨_,(v.ownBlock.toList++[])++([]++[]),rfl,hb,by simpa using ownBlock_nodup v,by simpa using ownBlock_in hr,fun _=>.tup (vs:=[v,.bool r.2]) (.cons (Rep.of_own (enc:=Value.int .i64) (fun x=>by simp [Value.oneCell']) hr) (.cons (A:=[]) (.lit _) .nil))⟩
end
def curve_Arcs.f (k:Nat) (a0:Int):Option (List Int):=(curve_line.f a0).bind fun t28=>((oid_Parse.f k t28.2.1).bind fun t30=>(some t30.1))
theorem curve_Arcs.con {k:Nat} {a0:Int} {r:(List Int)} (H:curve_Arcs.f k a0=some r):Con Tryd.prog 6 [I a0] (.row (some 3) 1 (List.map I r)):=by
 refine Cg Tryd.func6 rfl fun C hN hL=>?_
 unfold curve_Arcs.f at H
 refine Sw<|Rg hN<|Sw ?_
 obtain ⟨t28,h29,H⟩:=bindS H
 obtain ⟨t30,h31,H⟩:=bindS H
 refine Rh hN [.agg [S t28.1,S t28.2.1,S t28.2.2.1,I t28.2.2.2],.tup [.row (some 3) 1 (List.map I t30.1),B t30.2]] (.c2 (curve_line.con h29).c (oid_Parse.con h31).c)<|Sw<|Rg hN ?_
 cases H
 exact Rt dR
def strings_IndexByte.f (a0:ByteArray) (a1:Int):Option Int:=some (Lib.indexByte a0.data.toList a1.toNat.toUInt8)
theorem strings_IndexByte.con {a0:ByteArray} {a1:Int} {r:Int} (H:strings_IndexByte.f a0 a1=some r):Con Tryd.prog 40 [S a0,K .u8 a1] (I r):=by
 cases H
 exact con_lits Tryd.func40 rfl (by kernel_rfl) rfl fun p w ht=>(Tryd.strings_IndexByte a0 a1 w).mono (by rintro e w' ⟨rfl,hw⟩;exact ⟨rfl,by first | (subst hw;exact Below.refl _ _) | exact hw⟩)
def digits_Value.f (a0:Int):Option (Int):=(strings_IndexByte.f (⟨#[48,49,50,51,52,53,54,55,56,57,65,66,67,68,69,70]⟩:ByteArray) a0).bind fun t32=>(some t32)
theorem digits_Value.con {a0:Int} {r:(Int)} (H:digits_Value.f a0=some r):Con Tryd.prog 25 [K .u8 a0] (I r):=by
 refine Cg Tryd.func25 rfl fun C hN hL=>?_
 unfold digits_Value.f at H
 refine Sw<|Rg hN<|Sw ?_
 obtain ⟨t32,h33,H⟩:=bindS H
 refine Rh hN [I t32] (.c1 (strings_IndexByte.con h33).c) ?_
 cases H
 exact Rt dR
def digits_Unhex.l0:Nat→ByteArray→List Int→Int→Int→Option (ByteArray × Bool)
 | 0,_,_,_,_=>none
 | k+1,x0,x4,x16,x17=>if x17 < x16 then (if 0≤(wrap64 (2*x17)) then (if (wrap64 (2*x17)) < (x0.size:Int) then (if 0≤(wrap64 ((wrap64 (2*x17))+1)) then (if (wrap64 ((wrap64 (2*x17))+1)) < (x0.size:Int) then ((digits_Value.f (bt x0 (wrap64 (2*x17)))).bind fun t44=>((digits_Value.f (bt x0 (wrap64 ((wrap64 (2*x17))+1)))).bind fun t46=>(if (mn t44 t46) < 0 then (some ((⟨#[]⟩:ByteArray),false)) else (if 0≤x17 then (if x17 < (x4.length:Int) then (digits_Unhex.l0 k x0 (x4.set (x17:Int).toNat ((Go.bits .or .i64 (wrap64 (t44*16)) t46) % 256)) x16 (wrap64 (x17+1))) else (none)) else (none))))) else (none)) else (none)) else (none)) else (none)) else (some (strOfNums x4,true))
def digits_Unhex.f (k:Nat) (a0:ByteArray):Option (ByteArray × Bool):=if (Go.bits .and .i64 (a0.size:Int) 1)=1 then (some ((⟨#[]⟩:ByteArray),false)) else (if 0≤(wrap64 (Int.tdiv (a0.size:Int) 2)) then (if ((wrap64 (Int.tdiv (a0.size:Int) 2)):Int).toNat≤281474976710656 then (((some (List.replicate ((wrap64 (Int.tdiv (a0.size:Int) 2)):Int).toNat 0:List Int))).bind fun y37=>(digits_Unhex.l0 k a0 y37 (y37.length:Int) 0)) else (none)) else (none))
theorem digits_Unhex.con {k:Nat} {a0:ByteArray} {r:(ByteArray × Bool)} (H:digits_Unhex.f k a0=some r):Con Tryd.prog 14 [S a0] (.tup [S r.1,B r.2]):=by
 refine Cg Tryd.func14 rfl fun C hN hL=>?_
 unfold digits_Unhex.f at H
 refine Sw<|Rg hN<|Sw<|Sw<|Rg hN ?_
 rcases ifC H with ⟨c34,H⟩ | ⟨c34,H⟩
 ·refine Ct (bq c34)<|Sw<|Rg hN ?_
  cases H
  exact Rt dR
 refine Cf (bn c34)<|Sk<|Sw ?_
 obtain ⟨c35,H⟩:=ifS H
 obtain ⟨c36,H⟩:=ifS H
 obtain ⟨y37,h38,H⟩:=bindS H
 refine Rh hN [.row (some 5) 1 (List.map (K .u8) y37)] (.c5 (show (2:Int)≠0 by decide) c35 (Int.le_refl (wrap64 (Int.tdiv (a0.size:Int) 2))) (natLe c36) ((repM0 (K .u8) (((wrap64 (Int.tdiv (a0.size:Int) 2)):Int).toNat) 0).trans (congrArg (List.map (K .u8)) (Option.some.inj h38))))<|Sw<|Sw<|Rh hN [I (y37.length:Int)] (.c1 (lenM (K .u8) y37))<|Bl<|Good.loopN (fun k' st=>∃ (x0:ByteArray) (x4:List Int) (x16:Int) (x17:Int),k'≤k∧Wk C st ⟨[(0,.w (S x0)),(4,.w (.row (some 5) 1 (List.map (K .u8) x4))),(16,.w (I x16)),(17,.w (I x17))],[]⟩∧digits_Unhex.l0 k' x0 x4 x16 x17=some r) k ⟨a0,y37,(y37.length:Int),0,Nat.le_refl _,Wo [(0,0),(4,0),(16,0),(17,0)],H⟩ fun k=>⟨fun st h=>(by obtain ⟨_,_,_,_,_,_,H⟩:=h;cases H),?_⟩
 clear H
 rintro st ⟨x0,x4,x16,x17,hk,W,H⟩
 refine W.good ?_
 rw [digits_Unhex.l0] at H
 refine Sw<|Rg hN<|Sw ?_
 rcases (ifC H).symm with ⟨c39,H⟩ | ⟨c39,H⟩
 ·refine Cf (df c39)<|Ex<|Sw<|Rh hN [S (strOfNums x4)] (.c1 (strN x4)) ?_
  cases H
  exact Rt dR
 refine Ct (dt c39)<|Sk<|Sw<|Bl<|Sw<|Rg hN<|Sw ?_
 obtain ⟨c40,H⟩:=ifS H
 obtain ⟨c41,H⟩:=ifS H
 obtain ⟨c42,H⟩:=ifS H
 obtain ⟨c43,H⟩:=ifS H
 obtain ⟨t44,h45,H⟩:=bindS H
 obtain ⟨t46,h47,H⟩:=bindS H
 refine Rb 3 hm hN hL (.q 0 [[]] (.q 1 [[]] (.q 2 [[]] (.q 3 [[]] (.q 5 [[]] (.q 6 [[]] (.q 7 [[]] (.q 8 [[]] (.q 9 [[]] (.b 4 [I t44] [] (.b 10 [I t46] [] (.q 11 [[]] (.e 12 (.e 13 .z))) [I t46] [] (.e 12 (.e 10 (.q 11 [[]] (.e 13 .z))))) [I t44,I t46] [] (.e 12 (.e 4 (.e 10 (.q 11 [[]] (.e 13 .z))))))))))))))) [(0,none),(5,none)] .nil [] [] (.cons (.c6 c40 c41 c42 c43 (digits_Value.con h45).c (digits_Value.con h47).c) (.c4 c40 c41 c42 c43) (.cons (.c6 c40 c41 c42 c43 (digits_Value.con h45).c (digits_Value.con h47).c) (.c4 c40 c41 c42 c43) (.cons (.c6 c40 c41 c42 c43 (digits_Value.con h45).c (digits_Value.con h47).c) (.c4 c40 c41 c42 c43) .nil))) [] [] [[],[],[]] [(0,0),(4,0),(5,0),(6,0),(16,0),(17,0)] [(0,.w (S x0)),(4,.w (.row (some 5) 1 (List.map (K .u8) x4))),(5,.w (I x17)),(6,.d (.ptr 0 0)),(16,.w (I x16)),(17,.w (I x17))] [.cells [.v (I t44),.v (I t46)]]<|Sw<|Sw<|Rh hN [] (.c4 (show (0:Int)≤0 by decide) (show (0:Int) < ((2:Nat):Int) by decide) (show (0:Int)≤1 by decide) (show (1:Int) < ((2:Nat):Int) by decide)) ?_
 rcases ifC H with ⟨c48,H⟩ | ⟨c48,H⟩
 ·refine Ct (dt c48)<|Sw<|Rg hN ?_
  cases H
  exact Rt dR
 refine Cf (df c48)<|Sk ?_
 obtain ⟨c49,H⟩:=ifS H
 obtain ⟨c50,H⟩:=ifS H
 exact Rh hN [(K .u8) (rd x4 x17),(K .u8) ((Go.bits .or .i64 (wrap64 (t44*16)) t46) % 256),.row (some 5) 1 (List.map (K .u8) (x4.set (x17:Int).toNat ((Go.bits .or .i64 (wrap64 (t44*16)) t46) % 256)))] (.cons (show (0:Int)≤0 by decide) (.cons (show (0:Int) < ((2:Nat):Int) by decide) (.c8 (show (0:Int)≤4 by decide) (show (0:Int)≤1 by decide) (show (1:Int) < ((2:Nat):Int) by decide) c49 (ltM (K .u8) c50) (atM (K .u8) (0:Int) c49 c50) (Fit.refl ((K .u8) ((Go.bits .or .i64 (wrap64 (t44*16)) t46) % 256))) (setM (K .u8) (l:=x4) (n:=(x17:Int).toNat) (x:=(Go.bits .or .i64 (wrap64 (t44*16)) t46) % 256)))))<|Rg hN<|⟨k,by omega,x0,(x4.set (x17:Int).toNat ((Go.bits .or .i64 (wrap64 (t44*16)) t46) % 256)),x16,wrap64 (x17+1),by omega,Wk.ofB hL 0 [(0,0),(4,0),(16,0),(17,0)] (by kernel_rfl) (by kernel_rfl) (by kernel_rfl),H⟩
def curve_Order.f (k:Nat) (a0:Int):Option (ByteArray):=(curve_line.f a0).bind fun t52=>((digits_Unhex.f k t52.2.2.1).bind fun t54=>(some t54.1))
theorem curve_Order.con {k:Nat} {a0:Int} {r:(ByteArray)} (H:curve_Order.f k a0=some r):Con Tryd.prog 7 [I a0] (S r):=by
 refine Cg Tryd.func7 rfl fun C hN hL=>?_
 unfold curve_Order.f at H
 refine Sw<|Rg hN<|Sw ?_
 obtain ⟨t52,h53,H⟩:=bindS H
 obtain ⟨t54,h55,H⟩:=bindS H
 refine Rh hN [.agg [S t52.1,S t52.2.1,S t52.2.2.1,I t52.2.2.2],.tup [S t54.1,B t54.2]] (.c2 (curve_line.con h53).c (digits_Unhex.con h55).c)<|Sw<|Rg hN ?_
 cases H
 exact Rt dR
def strings_Join.f (l0:List ByteArray) (a1:ByteArray):Option ByteArray:=if l0.length≤140737488355328 then (if (Lib.join (l0.map (·.data.toList)) a1.data.toList).length≤140737488355328 then some ⟨(Lib.join (l0.map (·.data.toList)) a1.data.toList).toArray⟩ else none) else none
theorem strings_Join.con {l0:List ByteArray} {a1 r:ByteArray} (H:strings_Join.f l0 a1=some r):Con Tryd.prog 27 [.row none 1 (List.map S l0),S a1] (S r):=by
 refine ⟨enter_of Tryd.func27 rfl (by kernel_rfl),fun p w vs hp ht hr=>?_⟩
 unfold strings_Join.f at H
 obtain ⟨h1,H⟩:=ifS H
 obtain ⟨h2,H⟩:=ifS H
 cases H
 obtain ⟨v,vs1,rfl,r1,hr⟩:=hr.cons_inv
 obtain ⟨v2,vs2,rfl,r2,hr⟩:=hr.cons_inv
 obtain rfl:=r2.lit_inv
 obtain rfl:vs2=[]:=List.eq_nil_of_length_eq_zero (by simpa using hr.length)
 obtain ⟨ao,cap,rfl,h0,hc⟩:=Rep.shared_lits (enc:=Value.string) r1
 have fin:Calls Tryd.prog 27 #[.slice ao l0.length cap,.string a1] w fun e w'=>e=.returned (.string ⟨(Lib.join (l0.map (·.data.toList)) a1.data.toList).toArray⟩)∧Below w.heap.size w w':=by
  cases l0 with
  | nil =>
   refine (Tryd.strings_Join_none ao cap a1 w).mono ?_
   rintro e w' ⟨rfl,rfl⟩
   exact ⟨by simp [Lib.join],Below.refl _ _⟩
  | cons x l0 =>
   obtain ⟨b,o,rfl,hb,_⟩:=hc 0 x rfl
   exact Tryd.strings_Join b o cap (x :: l0) a1 w (fun j y hj=>by obtain ⟨b',o',e',_,h⟩:=hc j y hj;cases e';exact h) (hp b hb) h1 h0 h2
 refine fin.mono ?_
 rintro e w' ⟨rfl,hb⟩
 exact ⟨_,[],fun _=>False,rfl,calm_of_below hb,fun _ h=>h.elim,List.nodup_nil,fun _ h=>(by cases h),.lit _⟩
def oid_Text.l0:Nat→List ByteArray→List Int→Int→Int→Option (ByteArray)
 | 0,_,_,_,_=>none
 | k+1,x3,x12,x13,x14=>if x14 < x13 then (if 0≤x14 then (if x14 < (x12.length:Int) then ((digits_Num.f (rd x12 x14)).bind fun t64=>(if x14 < (x3.length:Int) then (oid_Text.l0 k (x3.set (x14:Int).toNat t64) x12 x13 (wrap64 (x14+1))) else (none))) else (none)) else (none)) else ((strings_Join.f x3 (⟨#[46]⟩:ByteArray)).bind fun t68=>(some t68))
def oid_Text.f (k:Nat) (l0:List Int):Option (ByteArray):=(oid_Right.f k l0).bind fun t56=>(if t56=true then (if 0≤(l0.length:Int) then (if ((l0.length:Int):Int).toNat≤17592186044416 then (oid_Text.l0 k (List.replicate ((l0.length:Int):Int).toNat (⟨#[]⟩:ByteArray)) l0 (l0.length:Int) 0) else (none)) else (none)) else (some (⟨#[]⟩:ByteArray)))
theorem oid_Text.con {k:Nat} {l0:List Int} {r:(ByteArray)} (H:oid_Text.f k l0=some r):Con Tryd.prog 15 [.row none 1 (List.map I l0)] (S r):=by
 refine Cg Tryd.func15 rfl fun C hN hL=>?_
 unfold oid_Text.f at H
 refine Sw<|Rg hN<|Sw<|Sw ?_
 obtain ⟨t56,h57,H⟩:=bindS H
 refine Rh hN [B t56] (.c1 (oid_Right.con h57).c) ?_
 rcases (ifC H).symm with ⟨c58,H⟩ | ⟨c58,H⟩
 ·refine Ct (notT (bf c58))<|Sw<|Rg hN ?_
  cases H
  exact Rt dR
 refine Cf (notF c58)<|Sk<|Sw ?_
 obtain ⟨c59,H⟩:=ifS H
 obtain ⟨c60,H⟩:=ifS H
 refine Rh hN [I (l0.length:Int),.row (some 9) 1 (List.map S (List.replicate ((l0.length:Int):Int).toNat (⟨#[]⟩:ByteArray)))] (.c5 (lenM I l0) c59 (Int.le_refl (l0.length:Int)) (natLe c60) (repM0 S (((l0.length:Int):Int).toNat) (⟨#[]⟩:ByteArray)))<|Sw<|Sw<|Rh hN [I (l0.length:Int)] (.c1 (lenM I l0))<|Bl<|Good.loopN (fun k' st=>∃ (x3:List ByteArray) (x12:List Int) (x13:Int) (x14:Int),k'≤k∧Wk C st ⟨[(3,.w (.row (some 9) 1 (List.map S x3))),(12,.w (.row none 1 (List.map I x12))),(13,.w (I x13)),(14,.w (I x14))],[]⟩∧oid_Text.l0 k' x3 x12 x13 x14=some r) k ⟨List.replicate ((l0.length:Int):Int).toNat (⟨#[]⟩:ByteArray),l0,(l0.length:Int),0,Nat.le_refl _,Wo [(3,0),(12,0),(13,0),(14,0)],H⟩ fun k=>⟨fun st h=>(by obtain ⟨_,_,_,_,_,_,H⟩:=h;cases H),?_⟩
 clear H
 rintro st ⟨x3,x12,x13,x14,hk,W,H⟩
 refine W.good ?_
 rw [oid_Text.l0] at H
 refine Sw<|Rg hN<|Sw ?_
 rcases (ifC H).symm with ⟨c61,H⟩ | ⟨c61,H⟩
 ·refine Cf (df c61)<|Ex<|Sw ?_
  obtain ⟨t68,h69,H⟩:=bindS H
  refine Rh hN [.row none 1 (List.map S x3),S t68] (.c2 (shrM (some 9) 1 S S x3 (fun _=>rfl)) (strings_Join.con h69).c) ?_
  cases H
  exact Rt dR
 refine Ct (dt c61)<|Sk<|Sw<|Bl<|Sw ?_
 obtain ⟨c62,H⟩:=ifS H
 obtain ⟨c63,H⟩:=ifS H
 refine Rh hN [I (rd x12 x14)] (.c2 c62 (atM I (0:Int) c62 c63)) ?_
 obtain ⟨t64,h65,H⟩:=bindS H
 obtain ⟨c66,H⟩:=ifS H
 exact Rh hN [S t64,S (rdOf ByteArray.empty x3 x14),S t64,.row (some 9) 1 (List.map S (x3.set (x14:Int).toNat t64))] (.c6 (digits_Num.con h65).c c62 (ltM S c66) (atM S ByteArray.empty c62 c66) (Fit.refl (S t64)) (setM S (l:=x3) (n:=(x14:Int).toNat) (x:=t64)))<|Rg hN<|⟨k,by omega,(x3.set (x14:Int).toNat t64),x12,x13,wrap64 (x14+1),by omega,Wo [(3,0),(12,0),(13,0),(14,0)],H⟩
def curve_curve.l0:Nat→(ByteArray→ByteArray→ByteArray→Int→Option (Bool))→List S34→Int→Int→Option (Int)
 | 0,_,_,_,_=>none
 | k+1,g1,x0,x7,x8=>if x8 < x7 then (if 0≤x8 then (if x8 < (x0.length:Int) then ((g1 ((rd_T34 x0 x8).f0) ((rd_T34 x0 x8).f1) ((rd_T34 x0 x8).f2) ((rd_T34 x0 x8).f3)).bind fun t73=>(if t73=true then (some x8) else (curve_curve.l0 k g1 x0 x7 (wrap64 (x8+1))))) else (none)) else (none)) else (some (-1))
def curve_curve.f (k:Nat) (l0:List S34) (g1:ByteArray→ByteArray→ByteArray→Int→Option (Bool)):Option (Int):=curve_curve.l0 k g1 l0 (l0.length:Int) 0
theorem curve_curve.con {k:Nat} {l0:List S34} {g1:ByteArray→ByteArray→ByteArray→Int→Option (Bool)} {f1:FuncId} {c1:List V} (hg1:∀ (az0_0:ByteArray) (az0_1:ByteArray) (az0_2:ByteArray) (az0_3:Int) r,g1 az0_0 az0_1 az0_2 az0_3=some r→Con Tryd.prog f1 ([.agg [S az0_0,S az0_1,S az0_2,I az0_3]]++c1) (B r)) {r:(Int)} (H:curve_curve.f k l0 g1=some r):Con Tryd.prog 28 [.row none 4 (List.map v34 l0),.clo f1 c1] (I r):=by
 refine Cg Tryd.func28 rfl fun C hN hL=>?_
 unfold curve_curve.f at H
 refine Sw<|Rg hN<|Sw<|Sw<|Rh hN [I (l0.length:Int)] (.c1 (lenM v34 l0))<|Bl<|Good.loopN (fun k' st=>∃ (x0:List S34) (x7:Int) (x8:Int),k'≤k∧Wk C st ⟨[(0,.w (.row none 4 (List.map v34 x0))),(1,.w (.clo f1 c1)),(7,.w (I x7)),(8,.w (I x8))],[]⟩∧curve_curve.l0 k' g1 x0 x7 x8=some r) k ⟨l0,(l0.length:Int),0,Nat.le_refl _,Wo [(0,0),(1,0),(7,0),(8,0)],H⟩ fun k=>⟨fun st h=>(by obtain ⟨_,_,_,_,_,H⟩:=h;cases H),?_⟩
 clear H
 rintro st ⟨x0,x7,x8,hk,W,H⟩
 refine W.good ?_
 rw [curve_curve.l0] at H
 refine Sw<|Rg hN<|Sw ?_
 rcases (ifC H).symm with ⟨c70,H⟩ | ⟨c70,H⟩
 ·refine Cf (df c70)<|Ex<|Sw<|Rg hN ?_
  cases H
  exact Rt dR
 refine Ct (dt c70)<|Sk<|Sw<|Bl<|Sw<|Rg hN<|Sw ?_
 obtain ⟨c71,H⟩:=ifS H
 obtain ⟨c72,H⟩:=ifS H
 obtain ⟨t73,h74,H⟩:=bindS H
 refine Rh hN [v34 (rd_T34 x0 x8),B t73] (.c3 c71 (atM v34 z34 c71 c72) (hg1 _ _ _ _ _ h74).c) ?_
 rcases (ifC H).symm with ⟨c75,H⟩ | ⟨c75,H⟩
 ·exact Cf (bf c75)<|Sk<|Rg hN<|⟨k,by omega,x0,x7,wrap64 (x8+1),by omega,Wo [(0,0),(1,0),(7,0),(8,0)],H⟩
 refine Ct c75<|Sw<|Rg hN ?_
 cases H
 exact Rt dR
def curve_found.f (k:Nat) (g0:ByteArray→ByteArray→ByteArray→Int→Option (Bool)):Option (Int × Bool):=(curve_table.f).bind fun t76=>((curve_curve.f k ([(⟨t76.1,t76.2.1,t76.2.2.1,t76.2.2.2.1⟩:S34),(⟨t76.2.2.2.2.1,t76.2.2.2.2.2.1,t76.2.2.2.2.2.2.1,t76.2.2.2.2.2.2.2.1⟩:S34),(⟨t76.2.2.2.2.2.2.2.2.1,t76.2.2.2.2.2.2.2.2.2.1,t76.2.2.2.2.2.2.2.2.2.2.1,t76.2.2.2.2.2.2.2.2.2.2.2.1⟩:S34),(⟨t76.2.2.2.2.2.2.2.2.2.2.2.2.1,t76.2.2.2.2.2.2.2.2.2.2.2.2.2.1,t76.2.2.2.2.2.2.2.2.2.2.2.2.2.2.1,t76.2.2.2.2.2.2.2.2.2.2.2.2.2.2.2⟩:S34)]:List S34) g0).bind fun t78=>(some (wrap64 (t78+1),decide (t78≥0))))
theorem curve_found.con {k:Nat} {g0:ByteArray→ByteArray→ByteArray→Int→Option (Bool)} {f0:FuncId} {c0:List V} (hg0:∀ (az0_0:ByteArray) (az0_1:ByteArray) (az0_2:ByteArray) (az0_3:Int) r,g0 az0_0 az0_1 az0_2 az0_3=some r→Con Tryd.prog f0 ([.agg [S az0_0,S az0_1,S az0_2,I az0_3]]++c0) (B r)) {r:(Int × Bool)} (H:curve_found.f k g0=some r):Con Tryd.prog 16 [.clo f0 c0] (.tup [I r.1,B r.2]):=by
 refine Cg Tryd.func16 rfl fun C hN hL=>?_
 unfold curve_found.f at H
 refine Sw<|Rg hN<|Sw ?_
 obtain ⟨t76,h77,H⟩:=bindS H
 refine Rh hN [.agg [S t76.1,S t76.2.1,S t76.2.2.1,I t76.2.2.2.1,S t76.2.2.2.2.1,S t76.2.2.2.2.2.1,S t76.2.2.2.2.2.2.1,I t76.2.2.2.2.2.2.2.1,S t76.2.2.2.2.2.2.2.2.1,S t76.2.2.2.2.2.2.2.2.2.1,S t76.2.2.2.2.2.2.2.2.2.2.1,I t76.2.2.2.2.2.2.2.2.2.2.2.1,S t76.2.2.2.2.2.2.2.2.2.2.2.2.1,S t76.2.2.2.2.2.2.2.2.2.2.2.2.2.1,S t76.2.2.2.2.2.2.2.2.2.2.2.2.2.2.1,I t76.2.2.2.2.2.2.2.2.2.2.2.2.2.2.2]] (.c1 (curve_table.con h77).c)<|Sw<|Good.publish 4 0 0 (us:=[S t76.1,S t76.2.1,S t76.2.2.1,I t76.2.2.2.1,S t76.2.2.2.2.1,S t76.2.2.2.2.2.1,S t76.2.2.2.2.2.2.1,I t76.2.2.2.2.2.2.2.1,S t76.2.2.2.2.2.2.2.2.1,S t76.2.2.2.2.2.2.2.2.2.1,S t76.2.2.2.2.2.2.2.2.2.2.1,I t76.2.2.2.2.2.2.2.2.2.2.2.1,S t76.2.2.2.2.2.2.2.2.2.2.2.2.1,S t76.2.2.2.2.2.2.2.2.2.2.2.2.2.1,S t76.2.2.2.2.2.2.2.2.2.2.2.2.2.2.1,I t76.2.2.2.2.2.2.2.2.2.2.2.2.2.2.2]) (us':=[S t76.1,S t76.2.1,S t76.2.2.1,I t76.2.2.2.1,S t76.2.2.2.2.1,S t76.2.2.2.2.2.1,S t76.2.2.2.2.2.2.1,I t76.2.2.2.2.2.2.2.1,S t76.2.2.2.2.2.2.2.2.1,S t76.2.2.2.2.2.2.2.2.2.1,S t76.2.2.2.2.2.2.2.2.2.2.1,I t76.2.2.2.2.2.2.2.2.2.2.2.1,S t76.2.2.2.2.2.2.2.2.2.2.2.2.1,S t76.2.2.2.2.2.2.2.2.2.2.2.2.2.1,S t76.2.2.2.2.2.2.2.2.2.2.2.2.2.2.1,I t76.2.2.2.2.2.2.2.2.2.2.2.2.2.2.2]) (by kernel_rfl) (by kernel_rfl) (shrC (rfl:(V.shr (S t76.1))=S t76.1) (shrC (rfl:(V.shr (S t76.2.1))=S t76.2.1) (shrC (rfl:(V.shr (S t76.2.2.1))=S t76.2.2.1) (shrC (rfl:(V.shr (I t76.2.2.2.1))=I t76.2.2.2.1) (shrC (rfl:(V.shr (S t76.2.2.2.2.1))=S t76.2.2.2.2.1) (shrC (rfl:(V.shr (S t76.2.2.2.2.2.1))=S t76.2.2.2.2.2.1) (shrC (rfl:(V.shr (S t76.2.2.2.2.2.2.1))=S t76.2.2.2.2.2.2.1) (shrC (rfl:(V.shr (I t76.2.2.2.2.2.2.2.1))=I t76.2.2.2.2.2.2.2.1) (shrC (rfl:(V.shr (S t76.2.2.2.2.2.2.2.2.1))=S t76.2.2.2.2.2.2.2.2.1) (shrC (rfl:(V.shr (S t76.2.2.2.2.2.2.2.2.2.1))=S t76.2.2.2.2.2.2.2.2.2.1) (shrC (rfl:(V.shr (S t76.2.2.2.2.2.2.2.2.2.2.1))=S t76.2.2.2.2.2.2.2.2.2.2.1) (shrC (rfl:(V.shr (I t76.2.2.2.2.2.2.2.2.2.2.2.1))=I t76.2.2.2.2.2.2.2.2.2.2.2.1) (shrC (rfl:(V.shr (S t76.2.2.2.2.2.2.2.2.2.2.2.2.1))=S t76.2.2.2.2.2.2.2.2.2.2.2.2.1) (shrC (rfl:(V.shr (S t76.2.2.2.2.2.2.2.2.2.2.2.2.2.1))=S t76.2.2.2.2.2.2.2.2.2.2.2.2.2.1) (shrC (rfl:(V.shr (S t76.2.2.2.2.2.2.2.2.2.2.2.2.2.2.1))=S t76.2.2.2.2.2.2.2.2.2.2.2.2.2.2.1) (shrC (rfl:(V.shr (I t76.2.2.2.2.2.2.2.2.2.2.2.2.2.2.2))=I t76.2.2.2.2.2.2.2.2.2.2.2.2.2.2.2) (rfl:shrL []=[]))))))))))))))))) ?_
 obtain ⟨t78,h79,H⟩:=bindS H
 refine Rh hN [.row none 4 (List.map v34 ([(⟨t76.1,t76.2.1,t76.2.2.1,t76.2.2.2.1⟩:S34),(⟨t76.2.2.2.2.1,t76.2.2.2.2.2.1,t76.2.2.2.2.2.2.1,t76.2.2.2.2.2.2.2.1⟩:S34),(⟨t76.2.2.2.2.2.2.2.2.1,t76.2.2.2.2.2.2.2.2.2.1,t76.2.2.2.2.2.2.2.2.2.2.1,t76.2.2.2.2.2.2.2.2.2.2.2.1⟩:S34),(⟨t76.2.2.2.2.2.2.2.2.2.2.2.2.1,t76.2.2.2.2.2.2.2.2.2.2.2.2.2.1,t76.2.2.2.2.2.2.2.2.2.2.2.2.2.2.1,t76.2.2.2.2.2.2.2.2.2.2.2.2.2.2.2⟩:S34)]:List S34)),I t78] (.c3 (rfl:List.flatMap V.cells (List.map v34 ([(⟨t76.1,t76.2.1,t76.2.2.1,t76.2.2.2.1⟩:S34),(⟨t76.2.2.2.2.1,t76.2.2.2.2.2.1,t76.2.2.2.2.2.2.1,t76.2.2.2.2.2.2.2.1⟩:S34),(⟨t76.2.2.2.2.2.2.2.2.1,t76.2.2.2.2.2.2.2.2.2.1,t76.2.2.2.2.2.2.2.2.2.2.1,t76.2.2.2.2.2.2.2.2.2.2.2.1⟩:S34),(⟨t76.2.2.2.2.2.2.2.2.2.2.2.2.1,t76.2.2.2.2.2.2.2.2.2.2.2.2.2.1,t76.2.2.2.2.2.2.2.2.2.2.2.2.2.2.1,t76.2.2.2.2.2.2.2.2.2.2.2.2.2.2.2⟩:S34)]:List S34))=[S t76.1,S t76.2.1,S t76.2.2.1,I t76.2.2.2.1,S t76.2.2.2.2.1,S t76.2.2.2.2.2.1,S t76.2.2.2.2.2.2.1,I t76.2.2.2.2.2.2.2.1,S t76.2.2.2.2.2.2.2.2.1,S t76.2.2.2.2.2.2.2.2.2.1,S t76.2.2.2.2.2.2.2.2.2.2.1,I t76.2.2.2.2.2.2.2.2.2.2.2.1,S t76.2.2.2.2.2.2.2.2.2.2.2.2.1,S t76.2.2.2.2.2.2.2.2.2.2.2.2.2.1,S t76.2.2.2.2.2.2.2.2.2.2.2.2.2.2.1,I t76.2.2.2.2.2.2.2.2.2.2.2.2.2.2.2]) (rfl:List.all (List.map v34 ([(⟨t76.1,t76.2.1,t76.2.2.1,t76.2.2.2.1⟩:S34),(⟨t76.2.2.2.2.1,t76.2.2.2.2.2.1,t76.2.2.2.2.2.2.1,t76.2.2.2.2.2.2.2.1⟩:S34),(⟨t76.2.2.2.2.2.2.2.2.1,t76.2.2.2.2.2.2.2.2.2.1,t76.2.2.2.2.2.2.2.2.2.2.1,t76.2.2.2.2.2.2.2.2.2.2.2.1⟩:S34),(⟨t76.2.2.2.2.2.2.2.2.2.2.2.2.1,t76.2.2.2.2.2.2.2.2.2.2.2.2.2.1,t76.2.2.2.2.2.2.2.2.2.2.2.2.2.2.1,t76.2.2.2.2.2.2.2.2.2.2.2.2.2.2.2⟩:S34)]:List S34)) (fun y=>Nat.beq y.cells.length 4)=true) (curve_curve.con (f1:=f0) (c1:=c0) hg0 h79).c)<|Sw<|Rg hN ?_
 cases H
 exact Rt dR
def curve_By_1.f (a0_0:ByteArray) (a0_1:ByteArray) (a0_2:ByteArray) (a0_3:Int) (a1:ByteArray):Option (Bool):=some (a0_1.toList == a1.toList)
theorem curve_By_1.con {a0_0:ByteArray} {a0_1:ByteArray} {a0_2:ByteArray} {a0_3:Int} {a1:ByteArray} {r:(Bool)} (H:curve_By_1.f a0_0 a0_1 a0_2 a0_3 a1=some r):Con Tryd.prog 17 [.agg [S a0_0,S a0_1,S a0_2,I a0_3],.pt [S a1]] (B r):=by
 refine Cg Tryd.func17 rfl fun C hN hL=>?_
 unfold curve_By_1.f at H
 refine Sw<|Rg hN<|Sw<|Rg hN ?_
 cases H
 exact Rt dR
def curve_By.f (k:Nat) (l0:List Int):Option (Int × Bool):=(oid_Text.f k l0).bind fun t80=>((curve_found.f k (fun z0 z1 z2 z3=>curve_By_1.f z0 z1 z2 z3 t80)).bind fun t82=>(some (t82.1,t82.2)))
theorem curve_By.con {k:Nat} {l0:List Int} {r:(Int × Bool)} (H:curve_By.f k l0=some r):Con Tryd.prog 9 [.row none 1 (List.map I l0)] (.tup [I r.1,B r.2]):=by
 refine Cg Tryd.func9 rfl fun C hN hL=>?_
 unfold curve_By.f at H
 refine Sw<|Rg hN<|Sw ?_
 obtain ⟨t80,h81,H⟩:=bindS H
 refine Rh hN [S t80] (.c1 (oid_Text.con h81).c)<|Sw<|Good.publish 4 0 0 (us:=[S t80]) (us':=[S t80]) (by kernel_rfl) (by kernel_rfl) (shrC (rfl:(V.shr (S t80))=S t80) (rfl:shrL []=[])) ?_
 obtain ⟨t82,h83,H⟩:=bindS H
 refine Rh hN [.tup [I t82.1,B t82.2]] (.c1 (curve_found.con (f0:=17) (c0:=[.pt [S t80]]) (fun _ _ _ _ _ h=>curve_By_1.con h) h83).c) ?_
 cases H
 exact Rt dR
def curve_Of_1.f (a0_0:ByteArray) (a0_1:ByteArray) (a0_2:ByteArray) (a0_3:Int) (a1:Int):Option (Bool):=some (a0_3 == a1)
theorem curve_Of_1.con {a0_0:ByteArray} {a0_1:ByteArray} {a0_2:ByteArray} {a0_3:Int} {a1:Int} {r:(Bool)} (H:curve_Of_1.f a0_0 a0_1 a0_2 a0_3 a1=some r):Con Tryd.prog 18 [.agg [S a0_0,S a0_1,S a0_2,I a0_3],.pt [I a1]] (B r):=by
 refine Cg Tryd.func18 rfl fun C hN hL=>?_
 unfold curve_Of_1.f at H
 refine Sw<|Rg hN<|Sw<|Rg hN ?_
 cases H
 exact Rt dR
def curve_Of.f (k:Nat) (a0:Int):Option (Int × Bool):=(curve_found.f k (fun z0 z1 z2 z3=>curve_Of_1.f z0 z1 z2 z3 a0)).bind fun t84=>(some (t84.1,t84.2))
theorem curve_Of.con {k:Nat} {a0:Int} {r:(Int × Bool)} (H:curve_Of.f k a0=some r):Con Tryd.prog 10 [I a0] (.tup [I r.1,B r.2]):=by
 refine Cg Tryd.func10 rfl fun C hN hL=>?_
 unfold curve_Of.f at H
 refine Sw<|Rg hN<|Sw<|Good.publish 1 0 0 (us:=[I a0]) (us':=[I a0]) (by kernel_rfl) (by kernel_rfl) (shrC (rfl:(V.shr (I a0))=I a0) (rfl:shrL []=[])) ?_
 obtain ⟨t84,h85,H⟩:=bindS H
 refine Rh hN [.tup [I t84.1,B t84.2]] (.c1 (curve_found.con (f0:=18) (c0:=[.pt [I a0]]) (fun _ _ _ _ _ h=>curve_Of_1.con h) h85).c) ?_
 cases H
 exact Rt dR
def clavigerlaw22_awake.f (k:Nat)  : Option (Bool):=(curve_By.f k ([1,2,840,10045,3,1,7]:List Int)).bind fun t86=>((curve_Of.f k 66).bind fun t88=>(if t86.1=2 then (if t86.2=true then (if t88.1=4 then (if t88.2=true then ((curve_Width.f 3).bind fun t94=>(if t94=48 then ((curve_Name.f 1).bind fun t97=>(if t97.toList=([80,45,50,50,52]:List UInt8) then ((curve_Order.f k 2).bind fun t100=>(some ((t100.size:Int) == 32))) else (some false))) else (some false))) else (some false)) else (some false)) else (some false)) else (some false)))
theorem clavigerlaw22_awake.con {k:Nat} {r:(Bool)} (H:clavigerlaw22_awake.f k  = some r):Con Tryd.prog 8 [] (B r):=by
 refine Cg Tryd.func8 rfl fun C hN hL=>?_
 unfold clavigerlaw22_awake.f at H
 refine Sw<|Rg hN<|Sw ?_
 obtain ⟨t86,h87,H⟩:=bindS H
 refine Rh hN [.row none 1 (List.map I ([1,2,840,10045,3,1,7]:List Int)),.tup [I t86.1,B t86.2]] (.c2 (shrM (some 3) 1 I I ([1,2,840,10045,3,1,7]:List Int) (fun _=>rfl)) (curve_By.con h87).c)<|Sw ?_
 obtain ⟨t88,h89,H⟩:=bindS H
 refine Rh hN [.tup [I t88.1,B t88.2]] (.c1 (curve_Of.con h89).c)<|Sw ?_
 rcases (ifC H).symm with ⟨c90,H⟩ | ⟨c90,H⟩
 ·refine Rh hN [B false,B false,B false,B false,B false,B false] (.c6 (bn c90) (rfl:false=false) (rfl:false=false) (rfl:false=false) (rfl:false=false) (rfl:false=false)) ?_
  cases H
  exact Rt dR
 rcases (ifC H).symm with ⟨c91,H⟩ | ⟨c91,H⟩
 ·refine Rh hN [B true,B false,B false,B false,B false,B false] (.c6 (bq c90) (bf c91) (rfl:false=false) (rfl:false=false) (rfl:false=false) (rfl:false=false)) ?_
  cases H
  exact Rt dR
 rcases (ifC H).symm with ⟨c92,H⟩ | ⟨c92,H⟩
 ·refine Rh hN [B true,B true,B false,B false,B false,B false] (.c6 (bq c90) c91 (bn c92) (rfl:false=false) (rfl:false=false) (rfl:false=false)) ?_
  cases H
  exact Rt dR
 rcases (ifC H).symm with ⟨c93,H⟩ | ⟨c93,H⟩
 ·refine Rh hN [B true,B true,B true,B false,B false,B false] (.c6 (bq c90) c91 (bq c92) (bf c93) (rfl:false=false) (rfl:false=false)) ?_
  cases H
  exact Rt dR
 obtain ⟨t94,h95,H⟩:=bindS H
 rcases (ifC H).symm with ⟨c96,H⟩ | ⟨c96,H⟩
 ·refine Rh hN [B true,B true,B true,B true,I t94,B false,B false] (.c7 (bq c90) c91 (bq c92) c93 (curve_Width.con h95).c (bn c96) (rfl:false=false)) ?_
  cases H
  exact Rt dR
 obtain ⟨t97,h98,H⟩:=bindS H
 rcases (ifC H).symm with ⟨c99,H⟩ | ⟨c99,H⟩
 ·refine Ri hN [B true,B true,B true,B true,I t94,B true,S t97,B false] (.cons (bq c90) (.c8 c91 (bq c92) c93 (curve_Width.con h95).c (bq c96) (curve_Name.con h98).c (strV (rfl:t97.toList=t97.toList) (litL ([80,45,50,50,52]:List UInt8))) (bn c99))) [(32,.bool (t97.toList == ([80,45,50,50,52]:List UInt8)))] ?_
  cases H
  exact Rt dR
 obtain ⟨t100,h101,H⟩:=bindS H
 refine Ri hN [B true,B true,B true,B true,I t94,B true,S t97,B true,S t100] (.cons (bq c90) (.cons c91 (.c8 (bq c92) c93 (curve_Width.con h95).c (bq c96) (curve_Name.con h98).c (strV (rfl:t97.toList=t97.toList) (litL ([80,45,50,50,52]:List UInt8))) (bq c99) (curve_Order.con h101).c))) [(32,.bool (t97.toList == ([80,45,50,50,52]:List UInt8)))] ?_
 cases H
 exact Rt dR
theorem strings_Trim.one {a:ByteArray} (h:a.size=1):∃ c:UInt8,a=⟨#[c]⟩:=by
 obtain ⟨d⟩:=a
 obtain ⟨c,hc⟩:=Array.size_eq_one_iff.1 h
 exact ⟨c,by rw [hc]⟩
def strings_Trim.f (a0:ByteArray) (a1:ByteArray):Option ByteArray:=if a1.size=1∧a0.size≤9223372036854775807 then (if bt a1 0 < 128 then some ⟨(Lib.trimB a0.data.toList (UInt8.ofNat (bt a1 0).toNat)).toArray⟩ else none) else none
theorem strings_Trim.con {a0 a1 r:ByteArray} (H:strings_Trim.f a0 a1=some r):Con Tryd.prog 19 [S a0,S a1] (S r):=by
 unfold strings_Trim.f at H
 obtain ⟨⟨h1,h3⟩,H⟩:=ifS H
 obtain ⟨c,rfl⟩:=strings_Trim.one h1
 have e:bt (⟨#[c]⟩:ByteArray) 0=(c.toNat:Int):=rfl
 rw [e] at H
 obtain ⟨h2,H⟩:=ifS H
 cases H
 exact con_lits Tryd.func19 rfl (by kernel_rfl) rfl fun p w ht=>(Tryd.strings_Trim_one a0 c (by omega) w h3).mono (by
  rintro e w' ⟨rfl,hw⟩
  refine ⟨by simp,?_⟩
  rcases hw with rfl | rfl
  ·exact Below.refl _ _
  ·exact Below.drew (Below.refl _ _))
def strings_Compare.f (a0:ByteArray) (a1:ByteArray):Option Int:=some (Lib.compareBytes a0.data.toList a1.data.toList)
theorem strings_Compare.con {a0 a1:ByteArray} {r:Int} (H:strings_Compare.f a0 a1=some r):Con Tryd.prog 20 [S a0,S a1] (I r):=by
 cases H
 exact con_lits Tryd.func20 rfl (by kernel_rfl) rfl fun p w ht=>(Tryd.strings_Compare a0 a1 w).mono (by rintro e w' ⟨rfl,rfl⟩;exact ⟨rfl,Below.refl _ _⟩)
def curve_Scalar.j0:Nat→Int→ByteArray→Bool→Option (Bool)
 | 0,_,_,_=>none
 | k+1,x0,x1,x16=>if x16=true then (some false) else ((strings_Trim.f x1 (⟨#[0]⟩:ByteArray)).bind fun t106=>(if t106.toList=([]:List UInt8) then (some false) else ((curve_Order.f k x0).bind fun t109=>((strings_Compare.f x1 t109).bind fun t111=>(some (decide (t111 < 0)))))))
def curve_Scalar.f (k:Nat) (a0:Int) (a1:ByteArray):Option (Bool):=(curve_line.f a0).bind fun t102=>(if t102.2.2.2=0 then (curve_Scalar.j0 k a0 a1 true) else (curve_Scalar.j0 k a0 a1 ((a1.size:Int) != t102.2.2.2)))
theorem curve_Scalar.con {k:Nat} {a0:Int} {a1:ByteArray} {r:(Bool)} (H:curve_Scalar.f k a0 a1=some r):Con Tryd.prog 11 [I a0,S a1] (B r):=by
 refine Cg Tryd.func11 rfl fun C hN hL=>?_
 unfold curve_Scalar.f at H
 refine Sw<|Rg hN<|Sw<|Sw<|Good.cut (fun st=>∃ n':Nat,n'≤k∧∃ (x0:Int) (x1:ByteArray) (x16:Bool),Wk C st ⟨[(0,.w (I x0)),(1,.w (S x1)),(16,.w (B x16))],[]⟩∧curve_Scalar.j0 n' x0 x1 x16=some r) ?_ ?_
 ·obtain ⟨t102,h103,H⟩:=bindS H
  rcases ifC H with ⟨c104,H⟩ | ⟨c104,H⟩
  ·exact Rh hN [.agg [S t102.1,S t102.2.1,S t102.2.2.1,I t102.2.2.2],B true] (.c2 (curve_line.con h103).c (bq c104))<|⟨k,by omega,a0,a1,true,Wo [(0,0),(1,0),(16,0)],H⟩
  exact Rh hN [.agg [S t102.1,S t102.2.1,S t102.2.2.1,I t102.2.2.2],B false,.agg [S t102.1,S t102.2.1,S t102.2.2.1,I t102.2.2.2]] (.c3 (curve_line.con h103).c (bn c104) (curve_line.con h103).c)<|⟨k,by omega,a0,a1,((a1.size:Int) != t102.2.2.2),Wo [(0,0),(1,0),(16,0)],H⟩
 clear H
 rintro st ⟨n',hn',x0,x1,x16,W,H⟩
 rcases n' with _ | k
 ·cases H
 refine W.good ?_
 rw [curve_Scalar.j0] at H
 rcases ifC H with ⟨c105,H⟩ | ⟨c105,H⟩
 ·refine Ct c105<|Sw<|Rg hN ?_
  cases H
  exact Rt dR
 refine Cf (bf c105)<|Sk<|Sw ?_
 obtain ⟨t106,h107,H⟩:=bindS H
 rcases ifC H with ⟨c108,H⟩ | ⟨c108,H⟩
 ·refine Ri hN [S t106,B false] (.c3 (strings_Trim.con h107).c (nstrV (rfl:t106.toList=t106.toList) (litL ([]:List UInt8))) (bneF c108)) [(19,.bool (t106.toList != ([]:List UInt8)))] ?_
  cases H
  exact Rt dR
 obtain ⟨t109,h110,H⟩:=bindS H
 obtain ⟨t111,h112,H⟩:=bindS H
 refine Ri hN [S t106,B true,S t109,I t111] (.c5 (strings_Trim.con h107).c (nstrV (rfl:t106.toList=t106.toList) (litL ([]:List UInt8))) (nq c108) (curve_Order.con h110).c (strings_Compare.con h112).c) [(19,.bool (t106.toList != ([]:List UInt8)))] ?_
 cases H
 exact Rt dR
def clavigerlaw22_CurveFound.l0:Nat→Int→Int→ByteArray→List Int→List Int→Int→Option (Bool)
 | 0,_,_,_,_,_,_=>none
 | k+1,x0,x3,x8,x9,x10,x11=>if x11 < x3 then (if x9.length < 140737488355328 then (if x10.length < 140737488355328 then (clavigerlaw22_CurveFound.l0 k x0 x3 x8 (x9++[0]) (x10++[0]) (wrap64 (x11+1))) else (none)) else (none)) else (if 0≤(wrap64 (x3 - 1)) then (if (wrap64 (x3 - 1)) < (x10.length:Int) then (if x8.size≤140737488355328 then (if (wrap64 (x3 - 1)) < ((bytesOf x8).length:Int) then ((curve_Scalar.f k x0 (strOfNums x9)).bind fun t313=>(if t313=true then (some false) else ((curve_Scalar.f k x0 (strOfNums (x10.set ((wrap64 (x3 - 1)):Int).toNat 1))).bind fun t316=>(if t316=true then ((curve_Scalar.f k x0 (strOfNums ((bytesOf x8).set ((wrap64 (x3 - 1)):Int).toNat (((rd (bytesOf x8) (wrap64 (x3 - 1))) - 1) % 256)))).bind fun t319=>(if t319=true then ((curve_Scalar.f k x0 x8).bind fun t322=>(if t322=true then (some false) else ((clavigerlaw22_awake.f k).bind fun t325=>(some t325)))) else (some false))) else (some false))))) else (none)) else (none)) else (none)) else (none))
def clavigerlaw22_CurveFound.j0:Nat→Int→Int→ByteArray→Bool→Option (Bool)
 | 0,_,_,_,_=>none
 | k+1,x0,x3,x8,x68=>if x68=true then (some false) else (clavigerlaw22_CurveFound.l0 k x0 x3 x8 ([]:List Int) ([]:List Int) 0)
def clavigerlaw22_CurveFound.f (k:Nat) (a0:Int):Option (Bool):=(curve_Width.f a0).bind fun t275=>(if t275 < 1 then ((curve_Name.f a0).bind fun t278=>(if t278.toList=([]:List UInt8) then ((curve_Arcs.f k a0).bind fun t281=>(if (t281.length:Int)=0 then ((curve_Order.f k a0).bind fun t284=>(if t284.toList=([]:List UInt8) then ((clavigerlaw22_awake.f k).bind fun t287=>(some t287)) else (some false))) else (some false))) else (some false))) else ((curve_Arcs.f k a0).bind fun t289=>((curve_By.f k t289).bind fun t291=>((curve_Of.f k t275).bind fun t293=>((curve_Order.f k a0).bind fun t295=>(if t291.1=a0 then (if t291.2=true then (if t293.1=a0 then (if t293.2=true then (clavigerlaw22_CurveFound.j0 k a0 t275 t295 ((t295.size:Int) != t275)) else (clavigerlaw22_CurveFound.j0 k a0 t275 t295 true)) else (clavigerlaw22_CurveFound.j0 k a0 t275 t295 true)) else (clavigerlaw22_CurveFound.j0 k a0 t275 t295 true)) else (clavigerlaw22_CurveFound.j0 k a0 t275 t295 true)))))))
theorem clavigerlaw22_CurveFound.con {k:Nat} {a0:Int} {r:(Bool)} (H:clavigerlaw22_CurveFound.f k a0=some r):Con Tryd.prog 3 [I a0] (B r):=by
 refine Cg Tryd.func3 rfl fun C hN hL=>?_
 unfold clavigerlaw22_CurveFound.f at H
 refine Sw<|Rg hN<|Sw ?_
 obtain ⟨t275,h276,H⟩:=bindS H
 refine Rh hN [I t275] (.c1 (curve_Width.con h276).c)<|Sw<|Sw<|Rg hN ?_
 rcases ifC H with ⟨c277,H⟩ | ⟨c277,H⟩
 ·refine Ct (dt c277)<|Sw ?_
  obtain ⟨t278,h279,H⟩:=bindS H
  rcases (ifC H).symm with ⟨c280,H⟩ | ⟨c280,H⟩
  ·refine Ri hN [S t278,B false,B false,B false] (.c5 (curve_Name.con h279).c (strV (rfl:t278.toList=t278.toList) (litL ([]:List UInt8))) (bn c280) (rfl:false=false) (rfl:false=false)) [(19,.bool (t278.toList == ([]:List UInt8)))] ?_
   cases H
   exact Rt dR
  obtain ⟨t281,h282,H⟩:=bindS H
  rcases (ifC H).symm with ⟨c283,H⟩ | ⟨c283,H⟩
  ·refine Ri hN [S t278,B true,.row (some 3) 1 (List.map I t281),I (t281.length:Int),B false,B false] (.c7 (curve_Name.con h279).c (strV (rfl:t278.toList=t278.toList) (litL ([]:List UInt8))) (bq c280) (curve_Arcs.con h282).c (lenM I t281) (bn c283) (rfl:false=false)) [(19,.bool (t278.toList == ([]:List UInt8)))] ?_
   cases H
   exact Rt dR
  obtain ⟨t284,h285,H⟩:=bindS H
  rcases (ifC H).symm with ⟨c286,H⟩ | ⟨c286,H⟩
  ·refine Ri hN [S t278,B true,.row (some 3) 1 (List.map I t281),I (t281.length:Int),B true,S t284,B false] (.cons (curve_Name.con h279).c (.c8 (strV (rfl:t278.toList=t278.toList) (litL ([]:List UInt8))) (bq c280) (curve_Arcs.con h282).c (lenM I t281) (bq c283) (curve_Order.con h285).c (strV (rfl:t284.toList=t284.toList) (litL ([]:List UInt8))) (bn c286))) [(19,.bool (t278.toList == ([]:List UInt8))),(29,.bool (t284.toList == ([]:List UInt8)))] ?_
   cases H
   exact Rt dR
  obtain ⟨t287,h288,H⟩:=bindS H
  refine Ri hN [S t278,B true,.row (some 3) 1 (List.map I t281),I (t281.length:Int),B true,S t284,B true,B t287] (.cons (curve_Name.con h279).c (.cons (strV (rfl:t278.toList=t278.toList) (litL ([]:List UInt8))) (.c8 (bq c280) (curve_Arcs.con h282).c (lenM I t281) (bq c283) (curve_Order.con h285).c (strV (rfl:t284.toList=t284.toList) (litL ([]:List UInt8))) (bq c286) (clavigerlaw22_awake.con h288).c))) [(19,.bool (t278.toList == ([]:List UInt8))),(29,.bool (t284.toList == ([]:List UInt8)))] ?_
  cases H
  exact Rt dR
 refine Cf (df c277)<|Sk<|Sw ?_
 obtain ⟨t289,h290,H⟩:=bindS H
 obtain ⟨t291,h292,H⟩:=bindS H
 refine Rh hN [.row (some 3) 1 (List.map I t289),.row none 1 (List.map I t289),.tup [I t291.1,B t291.2]] (.c3 (curve_Arcs.con h290).c (shrM (some 3) 1 I I t289 (fun _=>rfl)) (curve_By.con h292).c)<|Sw ?_
 obtain ⟨t293,h294,H⟩:=bindS H
 refine Rh hN [.tup [I t293.1,B t293.2]] (.c1 (curve_Of.con h294).c)<|Sw ?_
 obtain ⟨t295,h296,H⟩:=bindS H
 refine Rh hN [S t295] (.c1 (curve_Order.con h296).c)<|Sw<|Sw<|Good.cut (fun st=>∃ n':Nat,n'≤k∧∃ (x0:Int) (x3:Int) (x8:ByteArray) (x68:Bool),Wk C st ⟨[(0,.w (I x0)),(3,.w (I x3)),(8,.w (S x8)),(68,.w (B x68))],[]⟩∧clavigerlaw22_CurveFound.j0 n' x0 x3 x8 x68=some r) ?_ ?_
 ·rcases (ifC H).symm with ⟨c297,H⟩ | ⟨c297,H⟩
  ·exact Rh hN [B true,B true,B true,B true] (.c4 (nq c297) (rfl:true=true) (rfl:true=true) (rfl:true=true))<|⟨k,by omega,a0,t275,t295,true,Wo [(0,0),(3,0),(8,0),(68,0)],H⟩
  rcases (ifC H).symm with ⟨c298,H⟩ | ⟨c298,H⟩
  ·exact Rh hN [B false,B true,B true,B true] (.c4 (bneF c297) (notT (bf c298)) (rfl:true=true) (rfl:true=true))<|⟨k,by omega,a0,t275,t295,true,Wo [(0,0),(3,0),(8,0),(68,0)],H⟩
  rcases (ifC H).symm with ⟨c299,H⟩ | ⟨c299,H⟩
  ·exact Rh hN [B false,B false,B true,B true] (.c4 (bneF c297) (notF c298) (nq c299) (rfl:true=true))<|⟨k,by omega,a0,t275,t295,true,Wo [(0,0),(3,0),(8,0),(68,0)],H⟩
  rcases ifC H with ⟨c300,H⟩ | ⟨c300,H⟩
  ·exact Rh hN [B false,B false,B false,B false] (.c4 (bneF c297) (notF c298) (bneF c299) (notF c300))<|⟨k,by omega,a0,t275,t295,((t295.size:Int) != t275),Wo [(0,0),(3,0),(8,0),(68,0)],H⟩
  exact Rh hN [B false,B false,B false,B true] (.c4 (bneF c297) (notF c298) (bneF c299) (notT (bf c300)))<|⟨k,by omega,a0,t275,t295,true,Wo [(0,0),(3,0),(8,0),(68,0)],H⟩
 clear H
 rintro st ⟨n',hn',x0,x3,x8,x68,W,H⟩
 rcases n' with _ | k
 ·cases H
 refine W.good ?_
 rw [clavigerlaw22_CurveFound.j0] at H
 rcases ifC H with ⟨c301,H⟩ | ⟨c301,H⟩
 ·refine Ct c301<|Sw<|Rg hN ?_
  cases H
  exact Rt dR
 refine Cf (bf c301)<|Sk<|Sw<|Rg hN<|Sw<|Sw<|Rg hN<|Bl<|Good.loopN (fun k' st=>∃ (x0:Int) (x3:Int) (x8:ByteArray) (x9:List Int) (x10:List Int) (x11:Int),k'≤k∧Wk C st ⟨[(0,.w (I x0)),(3,.w (I x3)),(8,.w (S x8)),(9,.w (.row (some 5) 1 (List.map (K .u8) x9))),(10,.w (.row (some 5) 1 (List.map (K .u8) x10))),(11,.w (I x11))],[]⟩∧clavigerlaw22_CurveFound.l0 k' x0 x3 x8 x9 x10 x11=some r) k ⟨x0,x3,x8,([]:List Int),([]:List Int),0,Nat.le_refl _,Wo [(0,0),(3,0),(8,0),(9,1),(10,1),(11,0)],H⟩ fun k=>⟨fun st h=>(by obtain ⟨_,_,_,_,_,_,_,_,H⟩:=h;cases H),?_⟩
 clear H
 rintro st ⟨x0,x3,x8,x9,x10,x11,hk,W,H⟩
 refine W.good ?_
 rw [clavigerlaw22_CurveFound.l0] at H
 refine Sw<|Sw<|Rg hN ?_
 rcases ifC H with ⟨c302,H⟩ | ⟨c302,H⟩
 ·refine Ct (dt c302)<|Sk<|Sw<|Bl<|Sw ?_
  obtain ⟨c303,H⟩:=ifS H
  refine Rh hN [.kb true,.row (some 5) 1 (List.map (K .u8) (x9++[0]))] (.c2 (fitM (K .u8) x9 [0] (.refl _)) (limM1 (K .u8) c303)) ?_
  obtain ⟨c305,H⟩:=ifS H
  exact Rh hN [.kb true,.row (some 5) 1 (List.map (K .u8) (x10++[0]))] (.c2 (fitM (K .u8) x10 [0] (.refl _)) (limM1 (K .u8) c305))<|Rg hN<|⟨k,by omega,x0,x3,x8,(x9++[0]),(x10++[0]),wrap64 (x11+1),by omega,Wo [(0,0),(3,0),(8,0),(9,0),(10,0),(11,0)],H⟩
 refine Cf (df c302)<|Ex<|Sw ?_
 obtain ⟨c307,H⟩:=ifS H
 obtain ⟨c308,H⟩:=ifS H
 refine Rh hN [(K .u8) (rd x10 (wrap64 (x3 - 1))),(K .u8) 1,.row (some 5) 1 (List.map (K .u8) (x10.set ((wrap64 (x3 - 1)):Int).toNat 1))] (.c5 c307 (ltM (K .u8) c308) (atM (K .u8) (0:Int) c307 c308) (Fit.refl ((K .u8) 1)) (setM (K .u8) (l:=x10) (n:=((wrap64 (x3 - 1)):Int).toNat) (x:=1)))<|Sw ?_
 obtain ⟨c310,H⟩:=ifS H
 refine Rh hN [.row (some 5) 1 (List.map (K .u8) (bytesOf x8))] (.c2 (limO c310) (bytesV_map x8))<|Sw ?_
 obtain ⟨c311,H⟩:=ifS H
 refine Rh hN [(K .u8) (rd (bytesOf x8) (wrap64 (x3 - 1))),(K .u8) (rd (bytesOf x8) (wrap64 (x3 - 1))),(K .u8) (((rd (bytesOf x8) (wrap64 (x3 - 1))) - 1) % 256),.row (some 5) 1 (List.map (K .u8) ((bytesOf x8).set ((wrap64 (x3 - 1)):Int).toNat (((rd (bytesOf x8) (wrap64 (x3 - 1))) - 1) % 256)))] (.c8 c307 (ltM (K .u8) c311) (atM (K .u8) (0:Int) c307 c311) c307 (ltM (K .u8) c311) (atM (K .u8) (0:Int) c307 c311) (Fit.refl ((K .u8) (((rd (bytesOf x8) (wrap64 (x3 - 1))) - 1) % 256))) (setM (K .u8) (l:=bytesOf x8) (n:=((wrap64 (x3 - 1)):Int).toNat) (x:=((rd (bytesOf x8) (wrap64 (x3 - 1))) - 1) % 256)))<|Sw ?_
 obtain ⟨t313,h314,H⟩:=bindS H
 rcases ifC H with ⟨c315,H⟩ | ⟨c315,H⟩
 ·refine Rh hN [S (strOfNums x9),B t313,B false,B false,B false,B false] (.c6 (strN x9) (curve_Scalar.con h314).c (notF c315) (rfl:false=false) (rfl:false=false) (rfl:false=false)) ?_
  cases H
  exact Rt dR
 obtain ⟨t316,h317,H⟩:=bindS H
 rcases (ifC H).symm with ⟨c318,H⟩ | ⟨c318,H⟩
 ·refine Rh hN [S (strOfNums x9),B t313,B true,S (strOfNums (x10.set ((wrap64 (x3 - 1)):Int).toNat 1)),B t316,B false,B false,B false] (.c8 (strN x9) (curve_Scalar.con h314).c (notT (bf c315)) (strN (x10.set ((wrap64 (x3 - 1)):Int).toNat 1)) (curve_Scalar.con h317).c (bf c318) (rfl:false=false) (rfl:false=false)) ?_
  cases H
  exact Rt dR
 obtain ⟨t319,h320,H⟩:=bindS H
 rcases (ifC H).symm with ⟨c321,H⟩ | ⟨c321,H⟩
 ·refine Rh hN [S (strOfNums x9),B t313,B true,S (strOfNums (x10.set ((wrap64 (x3 - 1)):Int).toNat 1)),B t316,B true,S (strOfNums ((bytesOf x8).set ((wrap64 (x3 - 1)):Int).toNat (((rd (bytesOf x8) (wrap64 (x3 - 1))) - 1) % 256))),B t319,B false,B false] (.cons (strN x9) (.cons (curve_Scalar.con h314).c (.c8 (notT (bf c315)) (strN (x10.set ((wrap64 (x3 - 1)):Int).toNat 1)) (curve_Scalar.con h317).c c318 (strN ((bytesOf x8).set ((wrap64 (x3 - 1)):Int).toNat (((rd (bytesOf x8) (wrap64 (x3 - 1))) - 1) % 256))) (curve_Scalar.con h320).c (bf c321) (rfl:false=false)))) ?_
  cases H
  exact Rt dR
 obtain ⟨t322,h323,H⟩:=bindS H
 rcases ifC H with ⟨c324,H⟩ | ⟨c324,H⟩
 ·refine Rh hN [S (strOfNums x9),B t313,B true,S (strOfNums (x10.set ((wrap64 (x3 - 1)):Int).toNat 1)),B t316,B true,S (strOfNums ((bytesOf x8).set ((wrap64 (x3 - 1)):Int).toNat (((rd (bytesOf x8) (wrap64 (x3 - 1))) - 1) % 256))),B t319,B true,B t322,B false] (.cons (strN x9) (.cons (curve_Scalar.con h314).c (.cons (notT (bf c315)) (.c8 (strN (x10.set ((wrap64 (x3 - 1)):Int).toNat 1)) (curve_Scalar.con h317).c c318 (strN ((bytesOf x8).set ((wrap64 (x3 - 1)):Int).toNat (((rd (bytesOf x8) (wrap64 (x3 - 1))) - 1) % 256))) (curve_Scalar.con h320).c c321 (curve_Scalar.con h323).c (notF c324))))) ?_
  cases H
  exact Rt dR
 obtain ⟨t325,h326,H⟩:=bindS H
 refine Rh hN [S (strOfNums x9),B t313,B true,S (strOfNums (x10.set ((wrap64 (x3 - 1)):Int).toNat 1)),B t316,B true,S (strOfNums ((bytesOf x8).set ((wrap64 (x3 - 1)):Int).toNat (((rd (bytesOf x8) (wrap64 (x3 - 1))) - 1) % 256))),B t319,B true,B t322,B true,B t325] (.cons (strN x9) (.cons (curve_Scalar.con h314).c (.cons (notT (bf c315)) (.cons (strN (x10.set ((wrap64 (x3 - 1)):Int).toNat 1)) (.c8 (curve_Scalar.con h317).c c318 (strN ((bytesOf x8).set ((wrap64 (x3 - 1)):Int).toNat (((rd (bytesOf x8) (wrap64 (x3 - 1))) - 1) % 256))) (curve_Scalar.con h320).c c321 (curve_Scalar.con h323).c (notT (bf c324)) (clavigerlaw22_awake.con h326).c))))) ?_
 cases H
 exact Rt dR
end Go.Rf.T
