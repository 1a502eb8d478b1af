import Derived.Test.YtcbcojbhbhaimaaDoorRTreeBack2
import Derived.Test.YtcbcojbhbhaimaaDoorProg
import Derived.Test.YtcbcojbhbhaimaaDoorShelf
import Derived.Test.YtcbcojbhbhaimaaDoorRows
import Derived.Shelf.Unicode.ValidAny
import Derived.Lib.LaidU8T
import Derived.MakeChecks
set_option linter.unusedSectionVars false
set_option linter.unusedSimpArgs false
set_option linter.unusedVariables false
set_option linter.unusedVariables false
namespace Go.Rf.T
open Go Go.Rf Go.Proofs Go.RowKit Go.Proofs.YtcbcojbhbhaimaaDoor
def laidL:=Rows.treeBackRow.laid
instance:Tabs:=⟨fun p w=>∃ W,laidMetH Tryd.prog laidL W∧∀ b,b < W.heap.size→p b∧w.heap[b]? = W.heap[b]?,fun k h=>let ⟨W,h1,h2⟩:=h;⟨W,h1,fun b hb=>⟨k.pub b (h2 b hb).1,(k.same b (h2 b hb).1).trans (h2 b hb).2⟩⟩⟩
theorem hm:Tryd.prog.follows .mixedOrders=true:=by kernel_rfl
structure S41 where
 f0:Int
 f1:Int
 f2:Bool
 f3:ByteArray
 f4:List Int
 deriving Inhabited,DecidableEq
def z41:S41:=⟨0,0,false,(⟨#[]⟩:ByteArray),[]⟩
def v41 (o:Nat) (s:S41):V:=.agg [I s.f0,I s.f1,B s.f2,S s.f3,.row (lvo o 3) 1 (List.map I s.f4)]
theorem v41.shr (o:Nat) (s:S41):(v41 o s).shr=v41 0 s:=aggS (shrC (rfl:V.shr (I s.f0)=I s.f0) (shrC (rfl:V.shr (I s.f1)=I s.f1) (shrC (rfl:V.shr (B s.f2)=B s.f2) (shrC (rfl:V.shr (S s.f3)=S s.f3) (shrC (shrM (lvo o 3) 1 I I s.f4 (fun _=>rfl)) (rfl:shrL []=[]))))))
def rd_T41 (l:List S41) (i:Int):S41:=l.getD i.toNat z41
def ok41 (s:S41):Prop:=(Lit.int .i64 s.f0).wf=true∧(Lit.int .i64 s.f1).wf=true∧True∧s.f3.size≤maxLen∧(s.f4.length≤maxLen∧∀ a∈s.f4,(Lit.int .i64 a).wf=true)
structure S74 where
 f0:Int
 f1:Int
 deriving Inhabited,DecidableEq
def z74:S74:=⟨0,0⟩
def v74 (s:S74):V:=.agg [I s.f0,I s.f1]
def rd_T74 (l:List S74) (i:Int):S74:=l.getD i.toNat z74
def vL41 (o:Nat) (l:List S41):V:=.row (lvo o 41) 5 (List.map (v41 (o - 1)) l)
theorem vL41.shr (o:Nat) (l:List S41):(vL41 o l).shr=vL41 0 l:=shrM (lvo o 41) 5 (v41 (o - 1)) (v41 0) l (v41.shr _)
def rd_L41 (l:List (List S41)) (i:Int):List S41:=l.getD i.toNat []
def cp_Tree.l0:Nat→List S41→Int→Option (Bool)
 | 0,_,_=>none
 | k+1,x0,x5=>if x5 < (x0.length:Int) then (if 0≤x5 then (if (((rd_T41 x0 x5).f3).size:Int) > 200 then (some false) else (if (((rd_T41 x0 x5).f4).length:Int) > 100 then (some false) else (cp_Tree.l0 k x0 (wrap64 (x5+1))))) else (none)) else (some true)
def cp_Tree.f (k:Nat) (l0:List S41) (a1:Int):Option (Bool):=if (l0.length:Int) > a1 then (some false) else (cp_Tree.l0 k l0 0)
theorem cp_Tree.con {k:Nat} {l0:List S41} {a1:Int} {r:(Bool)} (H:cp_Tree.f k l0 a1=some r):Con Tryd.prog 7 [.row none 5 (List.map (v41 0) l0),I a1] (B r):=by
 refine Cg Tryd.func7 rfl fun C hN hL=>?_
 unfold cp_Tree.f at H
 refine Sw<|Rg hN<|Sw<|Sw<|Rh hN [I (l0.length:Int)] (.cons (lenM (v41 0) l0) .nil) ?_
 rcases ifC H with ⟨c1,H⟩ | ⟨c1,H⟩
 ·refine Ct (dt c1)<|Sw<|Rg hN ?_
  cases H
  exact Rt dR
 refine Cf (df c1)<|Sk<|Sw<|Sw<|Rg hN<|Bl<|Good.loopN (fun k' st=>∃ (x0:List S41) (x5:Int),k'≤k∧Wk C st ⟨[(0,.w (.row none 5 (List.map (v41 0) x0))),(5,.w (I x5))],[]⟩∧cp_Tree.l0 k' x0 x5=some r) k ⟨l0,0,Nat.le_refl _,Wo [(0,0),(5,0)],H⟩ fun k=>⟨fun st h=>(by obtain ⟨_,_,_,_,H⟩:=h;cases H),?_⟩
 clear H
 rintro st ⟨x0,x5,hk,W,H⟩
 refine W.good ?_
 rw [cp_Tree.l0] at H
 refine Sw<|Sw<|Rh hN [I (x0.length:Int)] (.cons (lenM (v41 0) x0) .nil) ?_
 rcases (ifC H).symm with ⟨c2,H⟩ | ⟨c2,H⟩
 ·refine Cf (df c2)<|Ex<|Sw<|Rg hN ?_
  cases H
  exact Rt dR
 refine Ct (dt c2)<|Sk<|Sw<|Bl<|Sw ?_
 obtain ⟨c3,H⟩:=ifS H
 rcases ifC H with ⟨c4,H⟩ | ⟨c4,H⟩
 ·refine Rh hN [(v41 0) (rd_T41 x0 x5),B true] (.cons c3 (.cons (atM (v41 0) z41 c3 c2) (.cons (dt c4) .nil)))<|Good.cond true (by kernel_rfl)<|Sw<|Rg hN ?_
  cases H
  exact Rt dR
 refine Rh hN [(v41 0) (rd_T41 x0 x5),B false,(v41 0) (rd_T41 x0 x5),I (((rd_T41 x0 x5).f4).length:Int)] (.cons c3 (.cons (atM (v41 0) z41 c3 c2) (.cons (df c4) (.cons c3 (.cons (atM (v41 0) z41 c3 c2) (.cons (lenM I ((rd_T41 x0 x5).f4)) .nil)))))) ?_
 rcases (ifC H).symm with ⟨c5,H⟩ | ⟨c5,H⟩
 ·exact Cf (df c5)<|Sk<|Rg hN<|⟨k,by omega,x0,wrap64 (x5+1),by omega,Wo [(0,0),(5,0)],H⟩
 refine Ct (dt c5)<|Sw<|Rg hN ?_
 cases H
 exact Rt dR
def strs_Unbool.f (a0:ByteArray):Option (Bool × Bool):=if a0.toList=([255]:List UInt8) then (some ((a0.toList == ([255]:List UInt8)),true)) else (some ((a0.toList == ([255]:List UInt8)),(a0.toList == ([0]:List UInt8))))
theorem strs_Unbool.con {a0:ByteArray} {r:(Bool × Bool)} (H:strs_Unbool.f a0=some r):Con Tryd.prog 56 [S a0] (.tup [B r.1,B r.2]):=by
 refine Cg Tryd.func56 rfl fun C hN hL=>?_
 unfold strs_Unbool.f at H
 refine Sw<|Rg hN<|Sw ?_
 rcases ifC H with ⟨c6,H⟩ | ⟨c6,H⟩
 ·refine Ri hN [B true] (.cons (strV (rfl:a0.toList=a0.toList) (litL ([255]:List UInt8))) (.cons (strV (rfl:a0.toList=a0.toList) (litL ([255]:List UInt8))) (.cons (bq c6) .nil))) [(5,.bool (a0.toList == ([255]:List UInt8))),(7,.bool (a0.toList == ([255]:List UInt8)))] ?_
  cases H
  exact Rt dR
 refine Ri hN [B false] (.cons (strV (rfl:a0.toList=a0.toList) (litL ([255]:List UInt8))) (.cons (strV (rfl:a0.toList=a0.toList) (litL ([255]:List UInt8))) (.cons (bn c6) (.cons (strV (rfl:a0.toList=a0.toList) (litL ([0]:List UInt8))) .nil)))) [(5,.bool (a0.toList == ([255]:List UInt8))),(7,.bool (a0.toList == ([255]:List UInt8))),(10,.bool (a0.toList == ([0]:List UInt8)))] ?_
 cases H
 exact Rt dR
def whole_Right.f (a0:ByteArray):Option (Bool):=if a0.toList=([]:List UInt8) then (some false) else (if (a0.size:Int)=1 then (some true) else (if 0 < (a0.size:Int) then (if 1 < (a0.size:Int) then (if (Go.bits .or .i64 (wrap64 ((wrap64 (bt a0 0))*2)) (wrap64 ((bt a0 1) / 128)))=0 then (some false) else (some ((Go.bits .or .i64 (wrap64 ((wrap64 (bt a0 0))*2)) (wrap64 ((bt a0 1) / 128))) != 511))) else (none)) else (none)))
theorem whole_Right.con {a0:ByteArray} {r:(Bool)} (H:whole_Right.f a0=some r):Con Tryd.prog 57 [S a0] (B r):=by
 refine Cg Tryd.func57 rfl fun C hN hL=>?_
 unfold whole_Right.f at H
 refine Sw<|Rg hN<|Sw<|Bl<|Sw<|Ri hN [] (.cons (strV (rfl:a0.toList=a0.toList) (litL ([]:List UInt8))) .nil) [(6,.bool (a0.toList == ([]:List UInt8)))] ?_
 rcases ifC H with ⟨c7,H⟩ | ⟨c7,H⟩
 ·refine Ct (bq c7)<|Sw<|Rg hN ?_
  cases H
  exact Rt dR
 refine Cf (bn c7)<|Sw<|Rg hN ?_
 rcases ifC H with ⟨c8,H⟩ | ⟨c8,H⟩
 ·refine Ct (bq c8)<|Sw<|Rg hN ?_
  cases H
  exact Rt dR
 refine Cf (bn c8)<|Sk<|Sw ?_
 obtain ⟨c9,H⟩:=ifS H
 obtain ⟨c10,H⟩:=ifS H
 refine Rd hm hN (.qs 9 0 (.q 9 [] .z)) [(0,none)] .nil [] [] (.cons (show (0:Int)≤0 by decide) (.cons c9 (.cons (show (0:Int)≤1 by decide) (.cons (show (0:Int)≤1 by decide) (.cons c10 (.cons (show (0:Int)≤7 by decide) .nil)))))) (.cons (show (0:Int)≤0 by decide) (.cons c9 (.cons (show (0:Int)≤1 by decide) (.cons (show (0:Int)≤1 by decide) (.cons c10 (.cons (show (0:Int)≤7 by decide) .nil)))))) [] []<|Sw ?_
 rcases ifC H with ⟨c11,H⟩ | ⟨c11,H⟩
 ·refine Rh hN [B false] (.cons (bneF c11) .nil) ?_
  cases H
  exact Rt dR
 refine Rh hN [B true] (.cons (nq c11) .nil) ?_
 cases H
 exact Rt dR
def strs_Unbits.j0:Nat→ByteArray→Bool→Option (ByteArray × Int × Bool)
 | 0,_,_=>none
 | k+1,x0,x21=>if x21=true then (some ((⟨#[]⟩:ByteArray),0,false)) else (if 0≤(wrap64 ((x0.size:Int) - 1)) then (if (wrap64 ((x0.size:Int) - 1)) < (x0.size:Int) then (if 0 < (x0.size:Int) then (if 0≤(bt x0 0) then (if (Go.bits .and .u8 (bt x0 (wrap64 ((x0.size:Int) - 1))) (((shl .u8 1 (bt x0 0)) - 1) % 256))=0 then (if 1≤(x0.size:Int) then (some (x0.extract 1 x0.size,wrap64 (bt x0 0),true)) else (none)) else (if (x0.size:Int) > 1 then (some ((⟨#[]⟩:ByteArray),0,false)) else (if 1≤(x0.size:Int) then (some (x0.extract 1 x0.size,wrap64 (bt x0 0),true)) else (none)))) else (none)) else (none)) else (none)) else (none))
def strs_Unbits.f (k:Nat) (a0:ByteArray):Option (ByteArray × Int × Bool):=if a0.toList=([]:List UInt8) then (strs_Unbits.j0 k a0 true) else (if 0 < (a0.size:Int) then (if (bt a0 0) > 7 then (strs_Unbits.j0 k a0 true) else (if (bt a0 0) > 0 then (strs_Unbits.j0 k a0 ((a0.size:Int) == 1)) else (strs_Unbits.j0 k a0 false))) else (none))
theorem strs_Unbits.con {k:Nat} {a0:ByteArray} {r:(ByteArray × Int × Bool)} (H:strs_Unbits.f k a0=some r):Con Tryd.prog 58 [S a0] (.tup [S r.1,I r.2.1,B r.2.2]):=by
 refine Cg Tryd.func58 rfl fun C hN hL=>?_
 unfold strs_Unbits.f at H
 refine Sw<|Rg hN<|Sw<|Sw<|Good.cut (fun st=>∃ n':Nat,n'≤k∧∃ (x0:ByteArray) (x21:Bool),Wk C st ⟨[(0,.w (S x0)),(21,.w (B x21))],[]⟩∧strs_Unbits.j0 n' x0 x21=some r) ?_ ?_
 ·rcases ifC H with ⟨c12,H⟩ | ⟨c12,H⟩
  ·exact Ri hN [B true,B true] (.cons (strV (rfl:a0.toList=a0.toList) (litL ([]:List UInt8))) (.cons (bq c12) (.cons (rfl:true=true) .nil))) [(6,.bool (a0.toList == ([]:List UInt8)))]<|⟨k,by omega,a0,true,Wo [(0,0),(21,0)],H⟩
  obtain ⟨c13,H⟩:=ifS H
  rcases ifC H with ⟨c14,H⟩ | ⟨c14,H⟩
  ·exact Ri hN [B false,B true] (.cons (strV (rfl:a0.toList=a0.toList) (litL ([]:List UInt8))) (.cons (bn c12) (.cons (show (0:Int)≤0 by decide) (.cons c13 (.cons (dt c14) .nil))))) [(6,.bool (a0.toList == ([]:List UInt8)))]<|⟨k,by omega,a0,true,Wo [(0,0),(21,0)],H⟩
  rcases ifC H with ⟨c15,H⟩ | ⟨c15,H⟩
  ·exact Ri hN [B false,B false,B true] (.cons (strV (rfl:a0.toList=a0.toList) (litL ([]:List UInt8))) (.cons (bn c12) (.cons (show (0:Int)≤0 by decide) (.cons c13 (.cons (df c14) (.cons (show (0:Int)≤0 by decide) (.cons c13 (.cons (dt c15) .nil)))))))) [(6,.bool (a0.toList == ([]:List UInt8)))]<|⟨k,by omega,a0,((a0.size:Int) == 1),Wo [(0,0),(21,0)],H⟩
  exact Ri hN [B false,B false,B false] (.cons (strV (rfl:a0.toList=a0.toList) (litL ([]:List UInt8))) (.cons (bn c12) (.cons (show (0:Int)≤0 by decide) (.cons c13 (.cons (df c14) (.cons (show (0:Int)≤0 by decide) (.cons c13 (.cons (df c15) .nil)))))))) [(6,.bool (a0.toList == ([]:List UInt8)))]<|⟨k,by omega,a0,false,Wo [(0,0),(21,0)],H⟩
 clear H
 rintro st ⟨n',hn',x0,x21,W,H⟩
 rcases n' with _ | k
 ·cases H
 refine W.good ?_
 rw [strs_Unbits.j0] at H
 rcases ifC H with ⟨c16,H⟩ | ⟨c16,H⟩
 ·refine Ct c16<|Sw<|Rg hN ?_
  cases H
  exact Rt dR
 refine Cf (bf c16)<|Sk<|Sw<|Sw ?_
 obtain ⟨c17,H⟩:=ifS H
 obtain ⟨c18,H⟩:=ifS H
 obtain ⟨c19,H⟩:=ifS H
 obtain ⟨c20,H⟩:=ifS H
 rcases ifC H with ⟨c21,H⟩ | ⟨c21,H⟩
 ·refine Rd hm hN (.qs 12 0 (.k 33 (.is 3 12 (.q 15 [] .z)))) [(0,none)] .nil [B false] [] (.cons c17 (.cons c18 (.cons (show (0:Int)≤0 by decide) (.cons c19 (.cons c20 (.cons (bneF c21) .nil)))))) (.cons c17 (.cons c18 (.cons (show (0:Int)≤0 by decide) (.cons c19 (.cons c20 (.cons (bneF c21) .nil)))))) [] []<|Good.cond false (by kernel_rfl)<|Sk<|Sw ?_
  obtain ⟨c22,H⟩:=ifS H
  refine Rd hm hN (.qs 7 0 (.q 7 [] .z)) [(0,none)] .nil [] [] (.cons (show (0:Int)≤1 by decide) (.cons c22 (.cons (show (0:Int)≤0 by decide) (.cons c19 .nil)))) (.cons (show (0:Int)≤1 by decide) (.cons c22 (.cons (show (0:Int)≤0 by decide) (.cons c19 .nil)))) [] [] ?_
  cases H
  exact Rt dR
 refine Rd hm hN (.qs 12 0 (.k 33 (.qs 3 12 (.q 15 [] .z)))) [(0,none)] .nil [B true] [] (.cons c17 (.cons c18 (.cons (show (0:Int)≤0 by decide) (.cons c19 (.cons c20 (.cons (nq c21) .nil)))))) (.cons c17 (.cons c18 (.cons (show (0:Int)≤0 by decide) (.cons c19 (.cons c20 (.cons (nq c21) .nil)))))) [] [] ?_
 rcases ifC H with ⟨c23,H⟩ | ⟨c23,H⟩
 ·refine Ct (dt c23)<|Sw<|Rg hN ?_
  cases H
  exact Rt dR
 refine Cf (df c23)<|Sk<|Sw ?_
 obtain ⟨c24,H⟩:=ifS H
 refine Rd hm hN (.qs 7 0 (.q 7 [] .z)) [(0,none)] .nil [] [] (.cons (show (0:Int)≤1 by decide) (.cons c24 (.cons (show (0:Int)≤0 by decide) (.cons c19 .nil)))) (.cons (show (0:Int)≤1 by decide) (.cons c24 (.cons (show (0:Int)≤0 by decide) (.cons c19 .nil)))) [] [] ?_
 cases H
 exact Rt dR
mutual
def oid_numbers.l0:Nat→ByteArray→List Int→Int→Bool→Int→Int→Option (List Int × Bool)
 | 0,_,_,_,_,_,_=>none
 | k+1,x0,x4,x5,x6,x9,x10=>if x10 < x9 then (if x6=true then (oid_numbers.j1 k x0 x4 x5 x10 x9 x10 (decide (x5 > 2147483647))) else (if 0≤x10 then (if x10 < (x0.size:Int) then (if (bt x0 x10)=128 then (oid_numbers.j1 k x0 x4 x5 x10 x9 x10 true) else (oid_numbers.j1 k x0 x4 x5 x10 x9 x10 (decide (x5 > 2147483647)))) else (none)) else (none))) else (if x6=true then (some (x4,false)) else (if (x4.length:Int) > 0 then (some (x4,decide ((x4.length:Int) < 20))) else (some (x4,false))))
def oid_numbers.j1:Nat→ByteArray→List Int→Int→Int→Int→Int→Bool→Option (List Int × Bool)
 | 0,_,_,_,_,_,_,_=>none
 | k+1,x0,x4,x5,x7,x9,x10,x24=>if x24=true then (some (([]:List Int),false)) else (if 0≤x7 then (if x7 < (x0.size:Int) then (if (bt x0 x7)≥128 then (oid_numbers.l0 k x0 x4 (Go.bits .or .i64 (wrap64 (x5*128)) (wrap64 (Go.bits .and .u8 (bt x0 x7) 127))) (decide ((bt x0 x7)≥128)) x9 (wrap64 (x10+1))) else (if x4.length < 17592186044416 then (oid_numbers.l0 k x0 (x4++[Go.bits .or .i64 (wrap64 (x5*128)) (wrap64 (Go.bits .and .u8 (bt x0 x7) 127))]) 0 (decide ((bt x0 x7)≥128)) x9 (wrap64 (x10+1))) else (none))) else (none)) else (none))
end
def oid_numbers.f (k:Nat) (a0:ByteArray):Option (List Int × Bool):=oid_numbers.l0 k a0 ([]:List Int) 0 false (a0.size:Int) 0
theorem oid_numbers.con {k:Nat} {a0:ByteArray} {r:(List Int × Bool)} (H:oid_numbers.f k a0=some r):Con Tryd.prog 69 [S a0] (.tup [.row (some 3) 1 (List.map I r.1),B r.2]):=by
 refine Cg Tryd.func69 rfl fun C hN hL=>?_
 unfold oid_numbers.f at H
 refine Sw<|Rg hN<|Sw<|Rg hN<|Sw<|Rg hN<|Sw<|Sw<|Rg hN<|Bl<|Good.loopN (fun k' st=>∃ (x0:ByteArray) (x4:List Int) (x5:Int) (x6:Bool) (x9:Int) (x10:Int),k'≤k∧Wk C st ⟨[(0,.w (S x0)),(4,.w (.row (some 3) 1 (List.map I x4))),(5,.w (I x5)),(6,.w (B x6)),(9,.w (I x9)),(10,.w (I x10))],[]⟩∧oid_numbers.l0 k' x0 x4 x5 x6 x9 x10=some r) k ⟨a0,([]:List Int),0,false,(a0.size:Int),0,Nat.le_refl _,Wo [(0,0),(4,1),(5,0),(6,0),(9,0),(10,0)],H⟩ fun k=>⟨fun st h=>(by obtain ⟨_,_,_,_,_,_,_,_,H⟩:=h;cases H),?_⟩
 clear H
 rintro st ⟨x0,x4,x5,x6,x9,x10,hk,W,H⟩
 refine W.good ?_
 rw [oid_numbers.l0] at H
 refine Sw<|Rg hN<|Sw ?_
 rcases (ifC H).symm with ⟨c37,H⟩ | ⟨c37,H⟩
 ·refine Cf (df c37)<|Ex<|Sw ?_
  rcases ifC H with ⟨c38,H⟩ | ⟨c38,H⟩
  ·refine Rh hN [B false,B false] (.cons (notF c38) (.cons (rfl:false=false) .nil)) ?_
   cases H
   exact Rt dR
  rcases ifC H with ⟨c39,H⟩ | ⟨c39,H⟩
  ·refine Rh hN [B true,I (x4.length:Int),B true,I (x4.length:Int)] (.cons (notT (bf c38)) (.cons (lenM I x4) (.cons (dt c39) (.cons (lenM I x4) .nil)))) ?_
   cases H
   exact Rt dR
  refine Rh hN [B true,I (x4.length:Int),B false] (.cons (notT (bf c38)) (.cons (lenM I x4) (.cons (df c39) .nil))) ?_
  cases H
  exact Rt dR
 refine Ct (dt c37)<|Sk<|Sw<|Bl<|Sw<|Rg hN<|Sw<|Sw<|Good.cut (fun st=>∃ n':Nat,n'≤k∧∃ (x0:ByteArray) (x4:List Int) (x5:Int) (x7:Int) (x9:Int) (x10:Int) (x24:Bool),Wk C st ⟨[(0,.w (S x0)),(4,.w (.row (some 3) 1 (List.map I x4))),(5,.w (I x5)),(7,.w (I x7)),(9,.w (I x9)),(10,.w (I x10)),(24,.w (B x24))],[]⟩∧oid_numbers.j1 n' x0 x4 x5 x7 x9 x10 x24=some r) ?_ ?_
 ·rcases ifC H with ⟨c40,H⟩ | ⟨c40,H⟩
  ·exact Rh hN [B false,B false] (.cons (notF c40) (.cons (rfl:false=false) .nil))<|⟨k,by omega,x0,x4,x5,x10,x9,x10,decide (x5 > 2147483647),Wo [(0,0),(4,0),(5,0),(7,0),(9,0),(10,0),(24,0)],H⟩
  obtain ⟨c41,H⟩:=ifS H
  obtain ⟨c42,H⟩:=ifS H
  rcases ifC H with ⟨c43,H⟩ | ⟨c43,H⟩
  ·exact Rh hN [B true,B true] (.cons (notT (bf c40)) (.cons c41 (.cons c42 (.cons (bq c43) .nil))))<|⟨k,by omega,x0,x4,x5,x10,x9,x10,true,Wo [(0,0),(4,0),(5,0),(7,0),(9,0),(10,0),(24,0)],H⟩
  exact Rh hN [B true,B false] (.cons (notT (bf c40)) (.cons c41 (.cons c42 (.cons (bn c43) .nil))))<|⟨k,by omega,x0,x4,x5,x10,x9,x10,decide (x5 > 2147483647),Wo [(0,0),(4,0),(5,0),(7,0),(9,0),(10,0),(24,0)],H⟩
 clear H
 rintro st ⟨n',hn',x0,x4,x5,x7,x9,x10,x24,W,H⟩
 rcases n' with _ | k
 ·cases H
 refine W.good ?_
 rw [oid_numbers.j1] at H
 rcases ifC H with ⟨c44,H⟩ | ⟨c44,H⟩
 ·refine Ct c44<|Sw<|Rg hN ?_
  cases H
  exact Good.ret (fin_fit (u:=.tup [.nil 3 1,B false]) (.tup (.cons (.nilO 3 1) (.cons (.refl _) .nil))) (by kernel_rfl))
 refine Cf (bf c44)<|Sk<|Sw ?_
 obtain ⟨c45,H⟩:=ifS H
 obtain ⟨c46,H⟩:=ifS H
 refine Rh hN [] (.cons (show (0:Int)≤7 by decide) (.cons c45 (.cons c46 .nil)))<|Sw<|Rh hN [] (.cons c45 (.cons c46 .nil))<|Sw<|Rg hN ?_
 rcases ifC H with ⟨c47,H⟩ | ⟨c47,H⟩
 ·exact Cf (notF (dt c47))<|Sk<|Rg hN<|⟨k,by omega,x0,x4,Go.bits .or .i64 (wrap64 (x5*128)) (wrap64 (Go.bits .and .u8 (bt x0 x7) 127)),decide ((bt x0 x7)≥128),x9,wrap64 (x10+1),by omega,Wo [(0,0),(4,0),(5,0),(6,0),(9,0),(10,0)],H⟩
 refine Ct (notT (df c47))<|Sw ?_
 obtain ⟨c48,H⟩:=ifS H
 exact Rh hN [.kb true,.row (some 3) 1 (List.map I (x4++[Go.bits .or .i64 (wrap64 (x5*128)) (wrap64 (Go.bits .and .u8 (bt x0 x7) 127))]))] (.cons (fitM I x4 [Go.bits .or .i64 (wrap64 (x5*128)) (wrap64 (Go.bits .and .u8 (bt x0 x7) 127))] (.refl _)) (.cons (limM1 I c48) .nil))<|Rg hN<|Rg hN<|⟨k,by omega,x0,(x4++[Go.bits .or .i64 (wrap64 (x5*128)) (wrap64 (Go.bits .and .u8 (bt x0 x7) 127))]),0,decide ((bt x0 x7)≥128),x9,wrap64 (x10+1),by omega,Wo [(0,0),(4,0),(5,0),(6,0),(9,0),(10,0)],H⟩
def oid_most.f (l0:List Int) (a1:Int):Option (Int):=if a1=0 then (some 2) else (if a1 > 1 then (some 2147483647) else (if 0 < (l0.length:Int) then (if (rd l0 0) < 2 then (some 39) else (some 2147483567)) else (none)))
theorem oid_most.con {l0:List Int} {a1:Int} {r:(Int)} (H:oid_most.f l0 a1=some r):Con Tryd.prog 79 [.row none 1 (List.map I l0),I a1] (I r):=by
 refine Cg Tryd.func79 rfl fun C hN hL=>?_
 unfold oid_most.f at H
 refine Sw<|Rg hN<|Sw<|Bl<|Sw<|Rg hN ?_
 rcases ifC H with ⟨c50,H⟩ | ⟨c50,H⟩
 ·refine Ct (bq c50)<|Sw<|Rg hN ?_
  cases H
  exact Rt dR
 refine Cf (bn c50)<|Sw<|Rg hN ?_
 rcases ifC H with ⟨c51,H⟩ | ⟨c51,H⟩
 ·refine Ct (dt c51)<|Sw<|Rg hN ?_
  cases H
  exact Rt dR
 refine Cf (df c51)<|Sw ?_
 obtain ⟨c52,H⟩:=ifS H
 refine Rh hN [I (rd l0 0)] (.cons (show (0:Int)≤0 by decide) (.cons (atM I (0:Int) (show (0:Int)≤0 by decide) c52) .nil)) ?_
 rcases ifC H with ⟨c53,H⟩ | ⟨c53,H⟩
 ·refine Ct (dt c53)<|Sw<|Rg hN ?_
  cases H
  exact Rt dR
 refine Cf (df c53)<|Sk<|Sw<|Rg hN ?_
 cases H
 exact Rt dR
def oid_Right.l0:Nat→List Int→List Int→Int→Int→Option (Bool)
 | 0,_,_,_,_=>none
 | k+1,x0,x13,x14,x15=>if x15 < x14 then (if 0≤x15 then (if x15 < (x13.length:Int) then (if (rd x13 x15) < 0 then (some false) else ((oid_most.f x0 x15).bind fun t60=>(if (rd x13 x15) > t60 then (some false) else (oid_Right.l0 k x0 x13 x14 (wrap64 (x15+1)))))) else (none)) else (none)) else (some true)
def oid_Right.j0:Nat→List Int→Bool→Option (Bool)
 | 0,_,_=>none
 | k+1,x0,x12=>if x12=true then (some false) else (oid_Right.l0 k x0 x0 (x0.length:Int) 0)
def oid_Right.f (k:Nat) (l0:List Int):Option (Bool):=if (l0.length:Int) < 2 then (oid_Right.j0 k l0 true) else (oid_Right.j0 k l0 (decide ((l0.length:Int) > 20)))
theorem oid_Right.con {k:Nat} {l0:List Int} {r:(Bool)} (H:oid_Right.f k l0=some r):Con Tryd.prog 70 [.row none 1 (List.map I l0)] (B r):=by
 refine Cg Tryd.func70 rfl fun C hN hL=>?_
 unfold oid_Right.f at H
 refine Sw<|Rg hN<|Sw<|Sw<|Good.cut (fun st=>∃ n':Nat,n'≤k∧∃ (x0:List Int) (x12:Bool),Wk C st ⟨[(0,.w (.row none 1 (List.map I x0))),(12,.w (B x12))],[]⟩∧oid_Right.j0 n' x0 x12=some r) ?_ ?_
 ·rcases ifC H with ⟨c54,H⟩ | ⟨c54,H⟩
  ·exact Rh hN [I (l0.length:Int),B true] (.cons (lenM I l0) (.cons (dt c54) .nil))<|⟨k,by omega,l0,true,Wo [(0,0),(12,0)],H⟩
  exact Rh hN [I (l0.length:Int),B false,I (l0.length:Int)] (.cons (lenM I l0) (.cons (df c54) (.cons (lenM I l0) .nil)))<|⟨k,by omega,l0,decide ((l0.length:Int) > 20),Wo [(0,0),(12,0)],H⟩
 clear H
 rintro st ⟨n',hn',x0,x12,W,H⟩
 rcases n' with _ | k
 ·cases H
 refine W.good ?_
 rw [oid_Right.j0] at H
 rcases ifC H with ⟨c55,H⟩ | ⟨c55,H⟩
 ·refine Ct c55<|Sw<|Rg hN ?_
  cases H
  exact Rt dR
 refine Cf (bf c55)<|Sk<|Sw<|Sw<|Rh hN [I (x0.length:Int)] (.cons (lenM I x0) .nil)<|Bl<|Good.loopN (fun k' st=>∃ (x0:List Int) (x13:List Int) (x14:Int) (x15:Int),k'≤k∧Wk C st ⟨[(0,.w (.row none 1 (List.map I x0))),(13,.w (.row none 1 (List.map I x13))),(14,.w (I x14)),(15,.w (I x15))],[]⟩∧oid_Right.l0 k' x0 x13 x14 x15=some r) k ⟨x0,x0,(x0.length:Int),0,Nat.le_refl _,Wo [(0,0),(13,0),(14,0),(15,0)],H⟩ fun k=>⟨fun st h=>(by obtain ⟨_,_,_,_,_,_,H⟩:=h;cases H),?_⟩
 clear H
 rintro st ⟨x0,x13,x14,x15,hk,W,H⟩
 refine W.good ?_
 rw [oid_Right.l0] at H
 refine Sw<|Rg hN<|Sw ?_
 rcases (ifC H).symm with ⟨c56,H⟩ | ⟨c56,H⟩
 ·refine Cf (df c56)<|Ex<|Sw<|Rg hN ?_
  cases H
  exact Rt dR
 refine Ct (dt c56)<|Sk<|Sw<|Bl<|Sw ?_
 obtain ⟨c57,H⟩:=ifS H
 obtain ⟨c58,H⟩:=ifS H
 refine Rh hN [I (rd x13 x15)] (.cons c57 (.cons (atM I (0:Int) c57 c58) .nil))<|Sw ?_
 rcases ifC H with ⟨c59,H⟩ | ⟨c59,H⟩
 ·refine Rh hN [B true] (.cons (dt c59) .nil)<|Good.cond true (by kernel_rfl)<|Sw<|Rg hN ?_
  cases H
  exact Rt dR
 obtain ⟨t60,h61,H⟩:=bindS H
 refine Rh hN [B false,I t60] (.cons (df c59) (.cons (oid_most.con h61).c .nil)) ?_
 rcases (ifC H).symm with ⟨c62,H⟩ | ⟨c62,H⟩
 ·exact Cf (df c62)<|Sk<|Rg hN<|⟨k,by omega,x0,x13,x14,wrap64 (x15+1),by omega,Wo [(0,0),(13,0),(14,0),(15,0)],H⟩
 refine Ct (dt c62)<|Sw<|Rg hN ?_
 cases H
 exact Rt dR
def oid_Decode.f (k:Nat) (a0:ByteArray):Option (List Int × Bool):=(oid_numbers.f k a0).bind fun t63=>(if t63.2=true then (if 0 < (t63.1.length:Int) then (if 1≤(t63.1.length:Int) then (if ([mn 2 (wrap64 (Int.tdiv (rd t63.1 0) 40)),wrap64 ((rd t63.1 0) - (wrap64 (40*(mn 2 (wrap64 (Int.tdiv (rd t63.1 0) 40))))))]:List Int).length+(t63.1.drop 1).length < 17592186044416 then ((some (([mn 2 (wrap64 (Int.tdiv (rd t63.1 0) 40)),wrap64 ((rd t63.1 0) - (wrap64 (40*(mn 2 (wrap64 (Int.tdiv (rd t63.1 0) 40))))))]:List Int)++(t63.1.drop 1):List Int)).bind fun y69=>((oid_Right.f k y69).bind fun t70=>(if t70=true then (some (y69,true)) else (some (([]:List Int),false))))) else (none)) else (none)) else (none)) else (some (([]:List Int),false)))
theorem oid_Decode.con {k:Nat} {a0:ByteArray} {r:(List Int × Bool)} (H:oid_Decode.f k a0=some r):Con Tryd.prog 59 [S a0] (.tup [.row none 1 (List.map I r.1),B r.2]):=by
 refine Cg Tryd.func59 rfl fun C hN hL=>?_
 unfold oid_Decode.f at H
 refine Sw<|Rg hN<|Sw ?_
 obtain ⟨t63,h64,H⟩:=bindS H
 refine Rh hN [.tup [.row (some 3) 1 (List.map I t63.1),B t63.2]] (.cons (oid_numbers.con h64).c .nil)<|Sw<|Sw<|Rg hN ?_
 rcases (ifC H).symm with ⟨c65,H⟩ | ⟨c65,H⟩
 ·refine Ct (notT (bf c65))<|Sw<|Rg hN ?_
  cases H
  exact Good.ret (fin_fit (u:=.tup [.nil 3 1,B false]) (.tup (.cons (.nilS 3 1 _) (.cons (.refl _) .nil))) (by kernel_rfl))
 refine Cf (notF c65)<|Sk<|Sw ?_
 obtain ⟨c66,H⟩:=ifS H
 refine Rh hN [I (rd t63.1 0)] (.cons (show (0:Int)≤0 by decide) (.cons (ltM I c66) (.cons (atM I (0:Int) (show (0:Int)≤0 by decide) c66) (.cons (show (40:Int)≠0 by decide) .nil))))<|Sw ?_
 obtain ⟨c67,H⟩:=ifS H
 obtain ⟨c68,H⟩:=ifS H
 replace H:=bindI H
 refine Good.regTB (n:=2) hm hN hL (.q 0 [[7]] (.q 1 [[7,6,3,2]] (.q 2 [[7,6,3]] (.q 3 [[7,6]] (.q 4 [[7,6,5]] (.q 5 [[7,6]] (.q 6 [[7]] (.q 8 [[9]] (.b 7 [.row none 1 (List.map I (t63.1.drop 1)),.row none 1 (List.map I t63.1),.kb false,.row (some 3) 1 (List.map I (([mn 2 (wrap64 (Int.tdiv (rd t63.1 0) 40)),wrap64 ((rd t63.1 0) - (wrap64 (40*(mn 2 (wrap64 (Int.tdiv (rd t63.1 0) 40))))))]:List Int)++(t63.1.drop 1)))] [] (.e 9 (.e 10 (.e 11 .z))) [.row none 1 (List.map I (t63.1.drop 1)),.row none 1 (List.map I t63.1),.kb false,.row (some 3) 1 (List.map I (([mn 2 (wrap64 (Int.tdiv (rd t63.1 0) 40)),wrap64 ((rd t63.1 0) - (wrap64 (40*(mn 2 (wrap64 (Int.tdiv (rd t63.1 0) 40))))))]:List Int)++(t63.1.drop 1)))] [] (.e 9 (.e 7 (.e 10 (.e 11 .z))))))))))))) [(4,some (.row none 1 (List.map I t63.1))),(6,none)] (by kernel_rfl) (.cons (shrM (some 3) 1 I I t63.1 (fun _=>rfl)) .nil) [I (rd t63.1 0)] [I (rd t63.1 0)] (.cons (.cons (show (0:Int)≤0 by decide) (.cons (ltM I c66) (.cons (atM I (0:Int) (show (0:Int)≤0 by decide) c66) (.cons (shrM (some 3) 1 I I t63.1 (fun _=>rfl)) (.cons (show (0:Int)≤1 by decide) (.cons (leM I c67) (.cons (cutMlo I (l:=t63.1) (n:=1)) (.cons (fitM I ([mn 2 (wrap64 (Int.tdiv (rd t63.1 0) 40)),wrap64 ((rd t63.1 0) - (wrap64 (40*(mn 2 (wrap64 (Int.tdiv (rd t63.1 0) 40))))))]:List Int) (t63.1.drop 1) (.refl _)) (.cons (limM2 I I c68) .nil))))))))) (.cons (show (0:Int)≤0 by decide) (.cons (atM I (0:Int) (show (0:Int)≤0 by decide) c66) .nil)) (.cons (.cons (show (0:Int)≤0 by decide) (.cons (ltM I c66) (.cons (atM I (0:Int) (show (0:Int)≤0 by decide) c66) (.cons (shrM (some 3) 1 I I t63.1 (fun _=>rfl)) (.cons (show (0:Int)≤1 by decide) (.cons (leM I c67) (.cons (cutMlo I (l:=t63.1) (n:=1)) (.cons (fitM I ([mn 2 (wrap64 (Int.tdiv (rd t63.1 0) 40)),wrap64 ((rd t63.1 0) - (wrap64 (40*(mn 2 (wrap64 (Int.tdiv (rd t63.1 0) 40))))))]:List Int) (t63.1.drop 1) (.refl _)) (.cons (limM2 I I c68) .nil))))))))) (.cons (show (0:Int)≤0 by decide) (.cons (atM I (0:Int) (show (0:Int)≤0 by decide) c66) .nil)) .nil)) [] [] (by kernel_rfl) (by kernel_rfl) [[],[]] [(7,0)] [(7,.w (.row (some 3) 1 (List.map I (([mn 2 (wrap64 (Int.tdiv (rd t63.1 0) 40)),wrap64 ((rd t63.1 0) - (wrap64 (40*(mn 2 (wrap64 (Int.tdiv (rd t63.1 0) 40))))))]:List Int)++(t63.1.drop 1)))))] [] (by kernel_rfl) (by kernel_rfl)<|Sw<|Sw ?_
 obtain ⟨t70,h71,H⟩:=bindS H
 refine Rh hN [.row none 1 (List.map I (([mn 2 (wrap64 (Int.tdiv (rd t63.1 0) 40)),wrap64 ((rd t63.1 0) - (wrap64 (40*(mn 2 (wrap64 (Int.tdiv (rd t63.1 0) 40))))))]:List Int)++(t63.1.drop 1))),B t70] (.cons (shrM (some 3) 1 I I (([mn 2 (wrap64 (Int.tdiv (rd t63.1 0) 40)),wrap64 ((rd t63.1 0) - (wrap64 (40*(mn 2 (wrap64 (Int.tdiv (rd t63.1 0) 40))))))]:List Int)++(t63.1.drop 1)) (fun _=>rfl)) (.cons (oid_Right.con h71).c .nil)) ?_
 rcases (ifC H).symm with ⟨c72,H⟩ | ⟨c72,H⟩
 ·refine Ct (notT (bf c72))<|Sw<|Rg hN ?_
  cases H
  exact Good.ret (fin_fit (u:=.tup [.nil 3 1,B false]) (.tup (.cons (.nilS 3 1 _) (.cons (.refl _) .nil))) (by kernel_rfl))
 refine Cf (notF c72)<|Sk<|Sw<|Rg hN ?_
 cases H
 exact Rt dR
def utf8_ValidString.f (a0:ByteArray):Option Bool:=if a0.size≤9223372036854775807 then some (Lib.validD a0.data.toList) else none
theorem utf8_ValidString.tab {p:Pub} {w:World} (h:Tabs.t p w):Lib.Utf8Tabs 0 1 w:=by
 obtain ⟨W,hW,hB⟩:=h
 rw [MakeChecks.laidMetH_plain _ _ _ (by kernel_rfl)] at hW
 have hm1:("unicode/utf8.first",Lib.firstData)∈laidL:=by
  have e:Lib.firstData=Rows.laid_unicode_utf8_first:=by kernel_rfl
  rw [e];unfold laidL
  repeat (first | exact List.mem_cons_self | apply List.mem_cons_of_mem)
 have hm2:("unicode/utf8.acceptRanges",Lib.acceptData)∈laidL:=by
  have e:Lib.acceptData=Rows.laid_unicode_utf8_acceptRanges:=by kernel_rfl
  rw [e];unfold laidL
  repeat (first | exact List.mem_cons_self | apply List.mem_cons_of_mem)
 have h1:Lib.Utf8Tabs 0 1 W:=utf8Tabs_of_readsT (U8Types.of196 Tryd.laysValid) ⟨by kernel_rfl,by kernel_rfl,by kernel_rfl,by kernel_rfl,by kernel_rfl,by kernel_rfl,by kernel_rfl⟩ (Lib.laidMet.reads hW hm1) (Lib.laidMet.reads hW hm2)
 have mv:∀ q v,W.cell? q=some v→w.cell? q=some v:=fun q v hp=>by
  have hlt:=World.block_lt_of_cell? W _ hp
  unfold World.cell? at hp ⊢
  rw [(hB _ hlt).2]
  exact hp
 exact ⟨fun c hc=>mv _ _ (h1.1 c hc),fun i hi=>⟨mv _ _ (h1.2 i hi).1,mv _ _ (h1.2 i hi).2⟩⟩
theorem utf8_ValidString.con {a0:ByteArray} {r:Bool} (H:utf8_ValidString.f a0=some r):Con Tryd.prog 71 [S a0] (B r):=by
 unfold utf8_ValidString.f at H
 obtain ⟨c,H⟩:=ifS H
 cases H
 exact con_lits Tryd.func71 rfl (by kernel_rfl) rfl fun p w ht=>(Any.utf8_ValidString Tryd.laysValid a0 w c (utf8_ValidString.tab ht)).mono (by rintro e w' ⟨rfl,hw⟩;exact ⟨rfl,by first | (subst hw;exact Below.refl _ _) | exact hw⟩)
def strs_Utf.f (a0:ByteArray):Option (Bool):=(utf8_ValidString.f a0).bind fun t73=>(some t73)
theorem strs_Utf.con {a0:ByteArray} {r:(Bool)} (H:strs_Utf.f a0=some r):Con Tryd.prog 60 [S a0] (B r):=by
 refine Cg Tryd.func60 rfl fun C hN hL=>?_
 unfold strs_Utf.f at H
 refine Sw<|Rg hN<|Sw ?_
 obtain ⟨t73,h74,H⟩:=bindS H
 refine Rh hN [B t73] (.cons (utf8_ValidString.con h74).c .nil) ?_
 cases H
 exact Rt dR
def strings_IndexByte.f (a0:ByteArray) (a1:Int):Option Int:=some (Lib.indexByte a0.data.toList a1.toNat.toUInt8)
theorem strings_IndexByte.con {a0:ByteArray} {a1:Int} {r:Int} (H:strings_IndexByte.f a0 a1=some r):Con Tryd.prog 85 [S a0,K .u8 a1] (I r):=by
 cases H
 exact con_lits Tryd.func85 rfl (by kernel_rfl) rfl fun p w ht=>(Tryd.strings_IndexByte a0 a1 w).mono (by rintro e w' ⟨rfl,hw⟩;exact ⟨rfl,by first | (subst hw;exact Below.refl _ _) | exact hw⟩)
def utf8_ValidRune.j0:Nat→Int→Bool→Option (Bool)
 | 0,_,_=>none
 | k+1,x0,x3=>if x3=true then (some true) else (if 57343 < x0 then (if x0≤1114111 then (some true) else (some false)) else (some false))
def utf8_ValidRune.f (k:Nat) (a0:Int):Option (Bool):=if 0≤a0 then (utf8_ValidRune.j0 k a0 (decide (a0 < 55296))) else (utf8_ValidRune.j0 k a0 false)
theorem utf8_ValidRune.con {k:Nat} {a0:Int} {r:(Bool)} (H:utf8_ValidRune.f k a0=some r):Con Tryd.prog 86 [K .i32 a0] (B r):=by
 refine Cg Tryd.func86 rfl fun C hN hL=>?_
 unfold utf8_ValidRune.f at H
 refine Sw<|Rg hN<|Sw<|Bl<|Sw<|Good.cut (fun st=>∃ n':Nat,n'≤k∧∃ (x0:Int) (x3:Bool),Wk C st ⟨[(0,.w (K .i32 x0)),(3,.w (B x3))],[]⟩∧utf8_ValidRune.j0 n' x0 x3=some r) ?_ ?_
 ·rcases ifC H with ⟨c75,H⟩ | ⟨c75,H⟩
  ·exact Rh hN [B true] (.cons (dt c75) .nil)<|⟨k,by omega,a0,decide (a0 < 55296),Wo [(0,0),(3,0)],H⟩
  exact Rh hN [B false] (.cons (df c75) .nil)<|⟨k,by omega,a0,false,Wo [(0,0),(3,0)],H⟩
 clear H
 rintro st ⟨n',hn',x0,x3,W,H⟩
 rcases n' with _ | k
 ·cases H
 refine W.good ?_
 rw [utf8_ValidRune.j0] at H
 rcases ifC H with ⟨c76,H⟩ | ⟨c76,H⟩
 ·refine Ct c76<|Sw<|Rg hN ?_
  cases H
  exact Rt dR
 refine Cf (bf c76)<|Sw ?_
 rcases (ifC H).symm with ⟨c77,H⟩ | ⟨c77,H⟩
 ·refine Rh hN [B false] (.cons (df c77) .nil)<|Good.cond false (by kernel_rfl)<|Sk<|Sw<|Rg hN ?_
  cases H
  exact Rt dR
 refine Rh hN [B true] (.cons (dt c77) .nil) ?_
 rcases ifC H with ⟨c78,H⟩ | ⟨c78,H⟩
 ·refine Ct (dt c78)<|Sw<|Rg hN ?_
  cases H
  exact Rt dR
 refine Cf (df c78)<|Sk<|Sw<|Rg hN ?_
 cases H
 exact Rt dR
def bytealg_Cutover.f (a0:Int):Option (Int):=some (wrap64 (Int.tdiv (wrap64 (a0+16)) 8))
theorem bytealg_Cutover.con {a0:Int} {r:(Int)} (H:bytealg_Cutover.f a0=some r):Con Tryd.prog 87 [I a0] (I r):=by
 refine Cg Tryd.func87 rfl fun C hN hL=>?_
 unfold bytealg_Cutover.f at H
 refine Sw<|Rg hN<|Sw<|Rh hN [] (.cons (show (8:Int)≠0 by decide) .nil) ?_
 cases H
 exact Rt dR
def strings_IndexRune.l0:Nat→ByteArray→Nat→Option (Int)
 | 0,_,_=>none
 | k+1,x1000,x1001=>if x1001 < x1000.size then (if ((Utf8.decode x1000 x1001).1:Int)=65533 then (some ((x1001:Nat):Int)) else (strings_IndexRune.l0 k x1000 (x1001+(Utf8.decode x1000 x1001).2))) else (some (-1))
def strings_IndexRune.g0_1:Nat→ByteArray→Int→Int→Option (Int)
 | 0,_,_,_=>none
 | k+1,x0,x8,x9=>if 0≤(wrap64 (x9 - x8)) then (if (wrap64 (x9 - x8))≤(x0.size:Int) then (none) else (none)) else (none)
mutual
def strings_IndexRune.l1:Nat→ByteArray→ByteArray→Int→Int→Int→Option (Int)
 | 0,_,_,_,_,_=>none
 | k+1,x0,x7,x8,x9,x10=>if x9 < (x0.size:Int) then (if 0≤x9 then (if 0≤x8 then (if x8 < (x7.size:Int) then (if (bt x0 x9)=(bt x7 x8) then (strings_IndexRune.j3 k x0 x7 x8 x9 x10) else (if 0≤(wrap64 (x9+1)) then (if (wrap64 (x9+1))≤(x0.size:Int) then ((strings_IndexByte.f (x0.extract ((wrap64 (x9+1)):Int).toNat x0.size) (bt x7 x8)).bind fun t96=>(if t96 < 0 then (some (-1)) else (strings_IndexRune.j3 k x0 x7 x8 (wrap64 (x9+(wrap64 (t96+1)))) x10))) else (none)) else (none))) else (none)) else (none)) else (none)) else (some (-1))
def strings_IndexRune.j3:Nat→ByteArray→ByteArray→Int→Int→Int→Option (Int)
 | 0,_,_,_,_,_=>none
 | k+1,x0,x7,x8,x9,x10=>strings_IndexRune.l2 k x0 x7 x8 x9 x10 1
def strings_IndexRune.l2:Nat→ByteArray→ByteArray→Int→Int→Int→Int→Option (Int)
 | 0,_,_,_,_,_,_=>none
 | k+1,x0,x7,x8,x9,x10,x12=>if x12 < (x7.size:Int) then (if 0≤(wrap64 (x9 - x12)) then (if (wrap64 (x9 - x12)) < (x0.size:Int) then (if 0≤(wrap64 (x8 - x12)) then (if (wrap64 (x8 - x12)) < (x7.size:Int) then (if (bt x0 (wrap64 (x9 - x12)))=(bt x7 (wrap64 (x8 - x12))) then (strings_IndexRune.l2 k x0 x7 x8 x9 x10 (wrap64 (x12+1))) else (strings_IndexRune.g1_0 k x0 x7 x8 x9 x10)) else (none)) else (none)) else (none)) else (none)) else (some (wrap64 (x9 - x8)))
def strings_IndexRune.g1_0:Nat→ByteArray→ByteArray→Int→Int→Int→Option (Int)
 | 0,_,_,_,_,_=>none
 | k+1,x0,x7,x8,x9,x10=>(bytealg_Cutover.f (wrap64 (x9+1))).bind fun t105=>(if (wrap64 (x10+1)) > t105 then (if (wrap64 (x9+1)) < (x0.size:Int) then (strings_IndexRune.g0_1 k x0 x8 (wrap64 (x9+1))) else (strings_IndexRune.l1 k x0 x7 x8 (wrap64 (x9+1)) (wrap64 (x10+1)))) else (strings_IndexRune.l1 k x0 x7 x8 (wrap64 (x9+1)) (wrap64 (x10+1))))
end
def strings_IndexRune.j0:Nat→ByteArray→Int→Bool→Option (Int)
 | 0,_,_,_=>none
 | k+1,x0,x1,x160=>if x160=true then ((strings_IndexByte.f x0 ((x1) % 256)).bind fun t81=>(some t81)) else (if x1=65533 then (strings_IndexRune.l0 k x0 0) else ((utf8_ValidRune.f k x1).bind fun t86=>(if t86=true then (strings_IndexRune.l1 k x0 (Utf8.encode x1) (wrap64 (((Utf8.encode x1).size:Int) - 1)) (wrap64 (((Utf8.encode x1).size:Int) - 1)) 0) else (some (-1)))))
def strings_IndexRune.f (k:Nat) (a0:ByteArray) (a1:Int):Option (Int):=if 0≤a1 then (strings_IndexRune.j0 k a0 a1 (decide (a1 < 128))) else (strings_IndexRune.j0 k a0 a1 false)
theorem strings_IndexRune.con {k:Nat} {a0:ByteArray} {a1:Int} {r:(Int)} (H:strings_IndexRune.f k a0 a1=some r):Con Tryd.prog 81 [S a0,K .i32 a1] (I r):=by
 refine Cg Tryd.func81 rfl fun C hN hL=>?_
 unfold strings_IndexRune.f at H
 refine Sw<|Rg hN<|Bl<|Sw<|Good.cut (fun st=>∃ n':Nat,n'≤k∧∃ (x0:ByteArray) (x1:Int) (x160:Bool),Wk C st ⟨[(0,.w (S x0)),(1,.w (K .i32 x1)),(160,.w (B x160))],[]⟩∧strings_IndexRune.j0 n' x0 x1 x160=some r) ?_ ?_
 ·rcases ifC H with ⟨c79,H⟩ | ⟨c79,H⟩
  ·exact Rh hN [B true] (.cons (dt c79) .nil)<|⟨k,by omega,a0,a1,decide (a1 < 128),Wo [(0,0),(1,0),(160,0)],H⟩
  exact Rh hN [B false] (.cons (df c79) .nil)<|⟨k,by omega,a0,a1,false,Wo [(0,0),(1,0),(160,0)],H⟩
 clear H
 rintro st ⟨n',hn',x0,x1,x160,W,H⟩
 rcases n' with _ | k
 ·cases H
 refine W.good ?_
 rw [strings_IndexRune.j0] at H
 rcases ifC H with ⟨c80,H⟩ | ⟨c80,H⟩
 ·refine Ct c80<|Sw ?_
  obtain ⟨t81,h82,H⟩:=bindS H
  refine Rh hN [I t81] (.cons (strings_IndexByte.con h82).c .nil) ?_
  cases H
  exact Rt dR
 refine Cf (bf c80)<|Sw<|Rg hN ?_
 rcases ifC H with ⟨c83,H⟩ | ⟨c83,H⟩
 ·refine Ct (bq c83)<|Sw<|Sw<|Rg hN<|Bl<|Good.loopN (fun k' st=>∃ (x1000:ByteArray) (x1001:Nat),k'≤k∧Wk C st ⟨[(175,.d (.ptr 0 0))],[.iter x1000 x1001]⟩∧strings_IndexRune.l0 k' x1000 x1001=some r) k ⟨x0,0,Nat.le_refl _,Wo [(175,0)],H⟩ fun k=>⟨fun st h=>(by obtain ⟨_,_,_,_,H⟩:=h;cases H),?_⟩
  clear H
  rintro st ⟨x1000,x1001,hk,W,H⟩
  refine W.good ?_
  rw [strings_IndexRune.l0] at H
  refine Sw ?_
  rcases (ifC H).symm with ⟨c84,H⟩ | ⟨c84,H⟩
  ·refine Rh hN [.kb false] (.cons c84 .nil)<|Sw<|Good.cond false (by kernel_rfl)<|Ex<|Sw<|Rg hN ?_
   cases H
   exact Rt dR
  refine Rh hN [.kb true] (.cons c84 .nil)<|Sw<|Good.cond true (by kernel_rfl)<|Sk<|Bl<|Sw<|Rg hN<|Sw<|Rg hN ?_
  rcases (ifC H).symm with ⟨c85,H⟩ | ⟨c85,H⟩
  ·exact Cf (bn c85)<|Sk<|⟨k,by omega,x1000,x1001+(Utf8.decode x1000 x1001).2,by omega,Wo [(175,0)],H⟩
  refine Ct (bq c85)<|Sw<|Rg hN ?_
  cases H
  exact Rt dR
 refine Cf (bn c83)<|Sw ?_
 obtain ⟨t86,h87,H⟩:=bindS H
 refine Rh hN [B t86] (.cons (utf8_ValidRune.con h87).c .nil) ?_
 rcases (ifC H).symm with ⟨c88,H⟩ | ⟨c88,H⟩
 ·refine Ct (notT (bf c88))<|Sw<|Rg hN ?_
  cases H
  exact Rt dR
 refine Cf (notF c88)<|Good.scope [(1,_,fun n st=>∃ (x0:ByteArray) (x1:Int) (x7:ByteArray) (x8:Int) (x9:Int),n≤k∧Wk C st ⟨[(0,.w (S x0)),(1,.w (K .i32 x1)),(7,.w (S x7)),(8,.w (I x8)),(9,.w (I x9))],[]⟩∧strings_IndexRune.g0_1 n x0 x8 x9=some r)] (.cons rfl .nil) ?_ (.cons ?_ .nil)
 ·refine Sw<|Rg hN<|Sw<|Rg hN<|Sw<|Rg hN<|Sw<|Rg hN<|Sw<|Bl<|Good.loopN (fun k' st=>∃ (x0:ByteArray) (x1:Int) (x7:ByteArray) (x8:Int) (x9:Int) (x10:Int),k'≤k∧Wk C st ⟨[(0,.w (S x0)),(1,.w (K .i32 x1)),(7,.w (S x7)),(8,.w (I x8)),(9,.w (I x9)),(10,.w (I x10))],[]⟩∧strings_IndexRune.l1 k' x0 x7 x8 x9 x10=some r) k ⟨x0,x1,Utf8.encode x1,wrap64 (((Utf8.encode x1).size:Int) - 1),wrap64 (((Utf8.encode x1).size:Int) - 1),0,Nat.le_refl _,Wo [(0,0),(1,0),(7,0),(8,0),(9,0),(10,0)],H⟩ fun k=>⟨fun st h=>(by obtain ⟨_,_,_,_,_,_,_,_,H⟩:=h;cases H),?_⟩
  clear H
  rintro st ⟨x0,x1,x7,x8,x9,x10,hk,W,H⟩
  refine W.good ?_
  rw [strings_IndexRune.l1] at H
  refine Sw<|Sw<|Rg hN ?_
  rcases (ifC H).symm with ⟨c89,H⟩ | ⟨c89,H⟩
  ·refine Cf (df c89)<|Ex<|Sw<|Sw<|Rg hN ?_
   cases H
   exact Rt dR
  refine Ct (dt c89)<|Sk<|Bl<|Good.scope [(0,_,fun n st=>∃ (x0:ByteArray) (x1:Int) (x7:ByteArray) (x8:Int) (x9:Int) (x10:Int),n≤k∧Wk C st ⟨[(0,.w (S x0)),(1,.w (K .i32 x1)),(7,.w (S x7)),(8,.w (I x8)),(9,.w (I x9)),(10,.w (I x10))],[]⟩∧strings_IndexRune.g1_0 n x0 x7 x8 x9 x10=some r)] (.cons rfl .nil) ?_ (.cons ?_ .nil)
  ·refine Sw<|Sw ?_
   obtain ⟨c90,H⟩:=ifS H
   obtain ⟨c91,H⟩:=ifS H
   obtain ⟨c92,H⟩:=ifS H
   refine Rd hm hN (.qs 6 0 (.q 6 [] .z)) [(0,none),(7,none),(8,none),(9,none)] .nil [] [] (.cons c90 (.cons c89 (.cons c91 (.cons c92 .nil)))) (.cons c90 (.cons c89 (.cons c91 (.cons c92 .nil)))) [] []<|Good.cut (fun st=>∃ n':Nat,n'≤k∧∃ (x0:ByteArray) (x1:Int) (x7:ByteArray) (x8:Int) (x9:Int) (x10:Int),Wk C st ⟨[(0,.w (S x0)),(1,.w (K .i32 x1)),(7,.w (S x7)),(8,.w (I x8)),(9,.w (I x9)),(10,.w (I x10))],[]⟩∧strings_IndexRune.j3 n' x0 x7 x8 x9 x10=some r) ?_ ?_
   ·rcases ifC H with ⟨c93,H⟩ | ⟨c93,H⟩
    ·exact Cf (bneF c93)<|Sk<|⟨k,by omega,x0,x1,x7,x8,x9,x10,Wo [(0,0),(1,0),(7,0),(8,0),(9,0),(10,0)],H⟩
    refine Ct (nq c93)<|Sw ?_
    obtain ⟨c94,H⟩:=ifS H
    obtain ⟨c95,H⟩:=ifS H
    obtain ⟨t96,h97,H⟩:=bindS H
    refine Rd hm hN (.qs 7 0 (.e 7 (.q 8 [] .z))) [(0,none),(7,none),(8,none),(9,none)] .nil [I t96] [] (.cons c94 (.cons c95 (.cons c91 (.cons c92 (.cons (strings_IndexByte.con h97).c .nil))))) (.cons c94 (.cons c95 (.cons c91 (.cons c92 .nil)))) [] []<|Sw<|Sw<|Rg hN ?_
    rcases (ifC H).symm with ⟨c98,H⟩ | ⟨c98,H⟩
    ·exact Cf (df c98)<|Sk<|Rg hN<|⟨k,by omega,x0,x1,x7,x8,wrap64 (x9+(wrap64 (t96+1))),x10,Wo [(0,0),(1,0),(7,0),(8,0),(9,0),(10,0)],H⟩
    refine Ct (dt c98)<|Sw<|Rg hN ?_
    cases H
    exact Rt dR
   clear H
   rintro st ⟨n',hn',x0,x1,x7,x8,x9,x10,W,H⟩
   rcases n' with _ | k
   ·cases H
   refine W.good ?_
   rw [strings_IndexRune.j3] at H
   refine Sw<|Sw<|Rg hN<|Bl<|Good.loopN (fun k' st=>∃ (x0:ByteArray) (x1:Int) (x7:ByteArray) (x8:Int) (x9:Int) (x10:Int) (x12:Int),k'≤k∧Wk C st ⟨[(0,.w (S x0)),(1,.w (K .i32 x1)),(7,.w (S x7)),(8,.w (I x8)),(9,.w (I x9)),(10,.w (I x10)),(12,.w (I x12))],[]⟩∧strings_IndexRune.l2 k' x0 x7 x8 x9 x10 x12=some r) k ⟨x0,x1,x7,x8,x9,x10,1,Nat.le_refl _,Wo [(0,0),(1,0),(7,0),(8,0),(9,0),(10,0),(12,0)],H⟩ fun k=>⟨fun st h=>(by obtain ⟨_,_,_,_,_,_,_,_,_,H⟩:=h;cases H),?_⟩
   clear H
   rintro st ⟨x0,x1,x7,x8,x9,x10,x12,hk,W,H⟩
   refine W.good ?_
   rw [strings_IndexRune.l2] at H
   refine Sw<|Sw<|Rg hN ?_
   rcases (ifC H).symm with ⟨c99,H⟩ | ⟨c99,H⟩
   ·refine Cf (df c99)<|Ex<|Sw<|Sw<|Rg hN ?_
    cases H
    exact Rt dR
   refine Ct (dt c99)<|Sk<|Sw<|Bl<|Sw ?_
   obtain ⟨c100,H⟩:=ifS H
   obtain ⟨c101,H⟩:=ifS H
   obtain ⟨c102,H⟩:=ifS H
   obtain ⟨c103,H⟩:=ifS H
   refine Rd hm hN (.qs 10 0 (.q 10 [] .z)) [(0,none),(7,none),(8,none),(9,none),(12,none)] .nil [] [] (.cons c100 (.cons c101 (.cons c102 (.cons c103 .nil)))) (.cons c100 (.cons c101 (.cons c102 (.cons c103 .nil)))) [] [] ?_
   rcases (ifC H).symm with ⟨c104,H⟩ | ⟨c104,H⟩
   ·exact Ct (nq c104)<|Good.goto<|⟨k,(by first | trivial | omega),x0,x1,x7,x8,x9,x10,by omega,Wo [(0,0),(1,0),(7,0),(8,0),(9,0),(10,0)],H⟩
   exact Cf (bneF c104)<|Sk<|Rg hN<|⟨k,by omega,x0,x1,x7,x8,x9,x10,wrap64 (x12+1),by omega,Wo [(0,0),(1,0),(7,0),(8,0),(9,0),(10,0),(12,0)],H⟩
  ·clear H
   rintro n st ⟨x0,x1,x7,x8,x9,x10,hn,W,H⟩
   rcases n with _ | k
   ·cases H
   refine W.good ?_
   rw [strings_IndexRune.g1_0] at H
   refine Sw<|Sk<|Sw<|Rg hN<|Sw<|Rg hN<|Sw ?_
   obtain ⟨t105,h106,H⟩:=bindS H
   rcases (ifC H).symm with ⟨c107,H⟩ | ⟨c107,H⟩
   ·exact Rh hN [B true,I t105,B false,B false,B false,B false] (.cons (rfl:true=true) (.cons (bytealg_Cutover.con h106).c (.cons (df c107) (.cons (rfl:false=false) (.cons (rfl:false=false) (.cons (rfl:false=false) .nil))))))<|Good.cond false (by kernel_rfl)<|Sk<|⟨k,by omega,x0,x1,x7,x8,wrap64 (x9+1),wrap64 (x10+1),by omega,Wo [(0,0),(1,0),(7,0),(8,0),(9,0),(10,0)],H⟩
   rcases ifC H with ⟨c108,H⟩ | ⟨c108,H⟩
   ·exact Rh hN [B true,I t105,B true,B true] (.cons (rfl:true=true) (.cons (bytealg_Cutover.con h106).c (.cons (dt c107) (.cons (dt c108) .nil))))<|Good.cond true (by kernel_rfl)<|Good.goto<|⟨by kernel_rfl,⟨k,(by first | trivial | omega),x0,x1,x7,x8,wrap64 (x9+1),by omega,Wo [(0,0),(1,0),(7,0),(8,0),(9,0)],H⟩⟩
   exact Rh hN [B true,I t105,B true,B false,B false,B false] (.cons (rfl:true=true) (.cons (bytealg_Cutover.con h106).c (.cons (dt c107) (.cons (df c108) (.cons (rfl:false=false) (.cons (rfl:false=false) .nil))))))<|Good.cond false (by kernel_rfl)<|Sk<|⟨k,by omega,x0,x1,x7,x8,wrap64 (x9+1),wrap64 (x10+1),by omega,Wo [(0,0),(1,0),(7,0),(8,0),(9,0),(10,0)],H⟩
 ·clear H
  rintro n st ⟨x0,x1,x7,x8,x9,hn,W,H⟩
  rcases n with _ | k
  ·cases H
  refine W.good ?_
  rw [strings_IndexRune.g0_1] at H
  refine Sw<|Sk<|Sw<|Good.cond true (by kernel_rfl)<|Sw ?_
  obtain ⟨c109,H⟩:=ifS H
  obtain ⟨c110,H⟩:=ifS H
  cases H
def strings_ContainsRune.f (k:Nat) (a0:ByteArray) (a1:Int):Option (Bool):=(strings_IndexRune.f k a0 a1).bind fun t111=>(some (decide (t111≥0)))
theorem strings_ContainsRune.con {k:Nat} {a0:ByteArray} {a1:Int} {r:(Bool)} (H:strings_ContainsRune.f k a0 a1=some r):Con Tryd.prog 73 [S a0,K .i32 a1] (B r):=by
 refine Cg Tryd.func73 rfl fun C hN hL=>?_
 unfold strings_ContainsRune.f at H
 refine Sw<|Rg hN<|Sw ?_
 obtain ⟨t111,h112,H⟩:=bindS H
 refine Rh hN [I t111] (.cons (strings_IndexRune.con h112).c .nil) ?_
 cases H
 exact Rt dR
def strs_Printable_1.j1:Nat→Int→Bool→Option (Bool)
 | 0,_,_=>none
 | k+1,x0,x3=>if x3=true then (some false) else (if x0≥48 then (if x0≤57 then (some false) else ((strings_ContainsRune.f k (⟨#[32,39,40,41,43,44,45,46,47,58,61,63]⟩:ByteArray) x0).bind fun t119=>(some (!t119)))) else ((strings_ContainsRune.f k (⟨#[32,39,40,41,43,44,45,46,47,58,61,63]⟩:ByteArray) x0).bind fun t121=>(some (!t121))))
def strs_Printable_1.j0:Nat→Int→Bool→Option (Bool)
 | 0,_,_=>none
 | k+1,x0,x3=>if x3=true then (some false) else (if x0≥97 then (strs_Printable_1.j1 k x0 (decide (x0≤122))) else (strs_Printable_1.j1 k x0 false))
def strs_Printable_1.f (k:Nat) (a0:Int):Option (Bool):=if a0≥65 then (strs_Printable_1.j0 k a0 (decide (a0≤90))) else (strs_Printable_1.j0 k a0 false)
theorem strs_Printable_1.con {k:Nat} {a0:Int} {r:(Bool)} (H:strs_Printable_1.f k a0=some r):Con Tryd.prog 72 [K .i32 a0] (B r):=by
 refine Cg Tryd.func72 rfl fun C hN hL=>?_
 unfold strs_Printable_1.f at H
 refine Sw<|Rg hN<|Sw<|Bl<|Sw<|Sw<|Good.cut (fun st=>∃ n':Nat,n'≤k∧∃ (x0:Int) (x3:Bool),Wk C st ⟨[(0,.w (K .i32 x0)),(3,.w (B x3))],[]⟩∧strs_Printable_1.j0 n' x0 x3=some r) ?_ ?_
 ·rcases ifC H with ⟨c113,H⟩ | ⟨c113,H⟩
  ·exact Rh hN [B true] (.cons (dt c113) .nil)<|⟨k,by omega,a0,decide (a0≤90),Wo [(0,0),(3,0)],H⟩
  exact Rh hN [B false] (.cons (df c113) .nil)<|⟨k,by omega,a0,false,Wo [(0,0),(3,0)],H⟩
 clear H
 rintro st ⟨n',hn',x0,x3,W,H⟩
 rcases n' with _ | k
 ·cases H
 refine W.good ?_
 rw [strs_Printable_1.j0] at H
 rcases ifC H with ⟨c114,H⟩ | ⟨c114,H⟩
 ·refine Ct c114<|Sk<|Ct c114<|Sw<|Rg hN ?_
  cases H
  exact Rt dR
 refine Cf (bf c114)<|Sw<|Good.cut (fun st=>∃ n':Nat,n'≤k∧∃ (x0:Int) (x3:Bool),Wk C st ⟨[(0,.w (K .i32 x0)),(3,.w (B x3))],[]⟩∧strs_Printable_1.j1 n' x0 x3=some r) ?_ ?_
 ·rcases ifC H with ⟨c115,H⟩ | ⟨c115,H⟩
  ·exact Rh hN [B true] (.cons (dt c115) .nil)<|⟨k,by omega,x0,decide (x0≤122),Wo [(0,0),(3,0)],H⟩
  exact Rh hN [B false] (.cons (df c115) .nil)<|⟨k,by omega,x0,false,Wo [(0,0),(3,0)],H⟩
 clear H
 rintro st ⟨n',hn',x0,x3,W,H⟩
 rcases n' with _ | k
 ·cases H
 refine W.good ?_
 rw [strs_Printable_1.j1] at H
 rcases ifC H with ⟨c116,H⟩ | ⟨c116,H⟩
 ·refine Ct c116<|Sk<|Ct c116<|Sw<|Rg hN ?_
  cases H
  exact Rt dR
 refine Cf (bf c116) ?_
 rcases (ifC H).symm with ⟨c117,H⟩ | ⟨c117,H⟩
 ·refine Rh hN [B false] (.cons (df c117) .nil)<|Good.cond false (by kernel_rfl)<|Sk<|Sw ?_
  obtain ⟨t121,h122,H⟩:=bindS H
  refine Rh hN [B t121] (.cons (strings_ContainsRune.con h122).c .nil) ?_
  cases H
  exact Rt dR
 refine Rh hN [B true] (.cons (dt c117) .nil) ?_
 rcases ifC H with ⟨c118,H⟩ | ⟨c118,H⟩
 ·refine Ct (dt c118)<|Sw<|Rg hN ?_
  cases H
  exact Rt dR
 refine Cf (df c118)<|Sk<|Sw ?_
 obtain ⟨t119,h120,H⟩:=bindS H
 refine Rh hN [B t119] (.cons (strings_ContainsRune.con h120).c .nil) ?_
 cases H
 exact Rt dR
def strings_indexFunc.l0:Nat→(Int→Option (Bool))→Bool→ByteArray→Nat→Option (Int)
 | 0,_,_,_,_=>none
 | k+1,g1,x2,x1000,x1001=>if x1001 < x1000.size then ((g1 ((Utf8.decode x1000 x1001).1:Int)).bind fun t124=>(if (t124 == x2)=true then (some ((x1001:Nat):Int)) else (strings_indexFunc.l0 k g1 x2 x1000 (x1001+(Utf8.decode x1000 x1001).2)))) else (some (-1))
def strings_indexFunc.f (k:Nat) (a0:ByteArray) (g1:Int→Option (Bool)) (a2:Bool):Option (Int):=strings_indexFunc.l0 k g1 a2 a0 0
theorem strings_indexFunc.con {k:Nat} {a0:ByteArray} {g1:Int→Option (Bool)} {a2:Bool} {f1:FuncId} {c1:List V} (hg1:∀ (az0:Int) r,g1 az0=some r→Con Tryd.prog f1 ([K .i32 az0]++c1) (B r)) {r:(Int)} (H:strings_indexFunc.f k a0 g1 a2=some r):Con Tryd.prog 89 [S a0,.clo f1 c1,B a2] (I r):=by
 refine Cg Tryd.func89 rfl fun C hN hL=>?_
 unfold strings_indexFunc.f at H
 refine Sw<|Rg hN<|Sw<|Sw<|Rg hN<|Bl<|Good.loopN (fun k' st=>∃ (x2:Bool) (x1000:ByteArray) (x1001:Nat),k'≤k∧Wk C st ⟨[(1,.w (.clo f1 c1)),(2,.w (B x2)),(10,.d (.ptr 0 0))],[.iter x1000 x1001]⟩∧strings_indexFunc.l0 k' g1 x2 x1000 x1001=some r) k ⟨a2,a0,0,Nat.le_refl _,Wo [(1,0),(2,0),(10,0)],H⟩ fun k=>⟨fun st h=>(by obtain ⟨_,_,_,_,_,H⟩:=h;cases H),?_⟩
 clear H
 rintro st ⟨x2,x1000,x1001,hk,W,H⟩
 refine W.good ?_
 rw [strings_indexFunc.l0] at H
 refine Sw ?_
 rcases (ifC H).symm with ⟨c123,H⟩ | ⟨c123,H⟩
 ·refine Rh hN [.kb false] (.cons c123 .nil)<|Sw<|Good.cond false (by kernel_rfl)<|Ex<|Sw<|Rg hN ?_
  cases H
  exact Rt dR
 refine Rh hN [.kb true] (.cons c123 .nil)<|Sw<|Good.cond true (by kernel_rfl)<|Sk<|Bl<|Sw<|Rg hN<|Sw ?_
 obtain ⟨t124,h125,H⟩:=bindS H
 refine Rh hN [B t124] (.cons (hg1 _ _ h125).c .nil) ?_
 rcases (ifC H).symm with ⟨c126,H⟩ | ⟨c126,H⟩
 ·exact Cf (bf c126)<|Sk<|⟨k,by omega,x2,x1000,x1001+(Utf8.decode x1000 x1001).2,by omega,Wo [(1,0),(2,0),(10,0)],H⟩
 refine Ct c126<|Sw<|Rg hN ?_
 cases H
 exact Rt dR
def strings_IndexFunc.f (k:Nat) (a0:ByteArray) (g1:Int→Option (Bool)):Option (Int):=(strings_indexFunc.f k a0 g1 true).bind fun t127=>(some t127)
theorem strings_IndexFunc.con {k:Nat} {a0:ByteArray} {g1:Int→Option (Bool)} {f1:FuncId} {c1:List V} (hg1:∀ (az0:Int) r,g1 az0=some r→Con Tryd.prog f1 ([K .i32 az0]++c1) (B r)) {r:(Int)} (H:strings_IndexFunc.f k a0 g1=some r):Con Tryd.prog 82 [S a0,.clo f1 c1] (I r):=by
 refine Cg Tryd.func82 rfl fun C hN hL=>?_
 unfold strings_IndexFunc.f at H
 refine Sw<|Rg hN<|Sw ?_
 obtain ⟨t127,h128,H⟩:=bindS H
 refine Rh hN [I t127] (.cons (strings_indexFunc.con (f1:=f1) (c1:=c1) hg1 h128).c .nil) ?_
 cases H
 exact Rt dR
def strings_ContainsFunc.f (k:Nat) (a0:ByteArray) (g1:Int→Option (Bool)):Option (Bool):=(strings_IndexFunc.f k a0 g1).bind fun t129=>(some (decide (t129≥0)))
theorem strings_ContainsFunc.con {k:Nat} {a0:ByteArray} {g1:Int→Option (Bool)} {f1:FuncId} {c1:List V} (hg1:∀ (az0:Int) r,g1 az0=some r→Con Tryd.prog f1 ([K .i32 az0]++c1) (B r)) {r:(Bool)} (H:strings_ContainsFunc.f k a0 g1=some r):Con Tryd.prog 74 [S a0,.clo f1 c1] (B r):=by
 refine Cg Tryd.func74 rfl fun C hN hL=>?_
 unfold strings_ContainsFunc.f at H
 refine Sw<|Rg hN<|Sw ?_
 obtain ⟨t129,h130,H⟩:=bindS H
 refine Rh hN [I t129] (.cons (strings_IndexFunc.con (f1:=f1) (c1:=c1) hg1 h130).c .nil) ?_
 cases H
 exact Rt dR
def strs_Printable.f (k:Nat) (a0:ByteArray):Option (Bool):=(strings_ContainsFunc.f k a0 (fun z0=>strs_Printable_1.f k z0)).bind fun t131=>(some (!t131))
theorem strs_Printable.con {k:Nat} {a0:ByteArray} {r:(Bool)} (H:strs_Printable.f k a0=some r):Con Tryd.prog 61 [S a0] (B r):=by
 refine Cg Tryd.func61 rfl fun C hN hL=>?_
 unfold strs_Printable.f at H
 refine Sw<|Rg hN<|Sw<|Rg hN<|Sw ?_
 obtain ⟨t131,h132,H⟩:=bindS H
 refine Rh hN [B t131] (.cons (strings_ContainsFunc.con (f1:=72) (c1:=[]) (fun _ _ h=>strs_Printable_1.con h) h132).c .nil) ?_
 cases H
 exact Rt dR
def strs_Right.f (k:Nat) (a0:Int) (a1:ByteArray):Option (Bool):=if a0=1 then ((strs_Unbool.f a1).bind fun t134=>(some t134.2)) else (if a0=2 then ((whole_Right.f a1).bind fun t137=>(some t137)) else (if a0=3 then ((strs_Unbits.f k a1).bind fun t140=>(some t140.2.2)) else (if a0=4 then (some true) else (if a0=5 then (some (a1.toList == ([]:List UInt8))) else (if a0=6 then ((oid_Decode.f k a1).bind fun t145=>(some t145.2)) else (if a0=12 then ((strs_Utf.f a1).bind fun t148=>(some t148)) else (if a0=19 then ((strs_Printable.f k a1).bind fun t151=>(some t151)) else (some false))))))))
theorem strs_Right.con {k:Nat} {a0:Int} {a1:ByteArray} {r:(Bool)} (H:strs_Right.f k a0 a1=some r):Con Tryd.prog 52 [I a0,S a1] (B r):=by
 refine Cg Tryd.func52 rfl fun C hN hL=>?_
 unfold strs_Right.f at H
 refine Sw<|Rg hN<|Sw<|Rg hN<|Sw<|Sw<|Rg hN<|Bl<|Sw<|Rg hN ?_
 rcases ifC H with ⟨c133,H⟩ | ⟨c133,H⟩
 ·refine Ct (bq c133) ?_
  obtain ⟨t134,h135,H⟩:=bindS H
  refine Rh hN [.tup [B t134.1,B t134.2]] (.cons (strs_Unbool.con h135).c .nil)<|Sw<|Rg hN ?_
  cases H
  exact Rt dR
 refine Cf (bn c133)<|Sw<|Rg hN ?_
 rcases ifC H with ⟨c136,H⟩ | ⟨c136,H⟩
 ·refine Ct (bq c136) ?_
  obtain ⟨t137,h138,H⟩:=bindS H
  refine Rh hN [B t137] (.cons (whole_Right.con h138).c .nil)<|Sw<|Rg hN ?_
  cases H
  exact Rt dR
 refine Cf (bn c136)<|Sw<|Rg hN ?_
 rcases ifC H with ⟨c139,H⟩ | ⟨c139,H⟩
 ·refine Ct (bq c139) ?_
  obtain ⟨t140,h141,H⟩:=bindS H
  refine Rh hN [.tup [S t140.1,I t140.2.1,B t140.2.2]] (.cons (strs_Unbits.con h141).c .nil)<|Sw<|Rg hN ?_
  cases H
  exact Rt dR
 refine Cf (bn c139)<|Sw<|Rg hN ?_
 rcases ifC H with ⟨c142,H⟩ | ⟨c142,H⟩
 ·refine Ct (bq c142)<|Rg hN<|Sw<|Rg hN ?_
  cases H
  exact Rt dR
 refine Cf (bn c142)<|Sw<|Rg hN ?_
 rcases ifC H with ⟨c143,H⟩ | ⟨c143,H⟩
 ·refine Ct (bq c143)<|Ri hN [] (.cons (strV (rfl:a1.toList=a1.toList) (litL ([]:List UInt8))) .nil) [(31,.bool (a1.toList == ([]:List UInt8)))]<|Sw<|Rg hN ?_
  cases H
  exact Rt dR
 refine Cf (bn c143)<|Sw<|Rg hN ?_
 rcases ifC H with ⟨c144,H⟩ | ⟨c144,H⟩
 ·refine Ct (bq c144) ?_
  obtain ⟨t145,h146,H⟩:=bindS H
  refine Rh hN [.tup [.row none 1 (List.map I t145.1),B t145.2]] (.cons (oid_Decode.con h146).c .nil)<|Sw<|Rg hN ?_
  cases H
  exact Rt dR
 refine Cf (bn c144)<|Sw<|Rg hN ?_
 rcases ifC H with ⟨c147,H⟩ | ⟨c147,H⟩
 ·refine Ct (bq c147) ?_
  obtain ⟨t148,h149,H⟩:=bindS H
  refine Rh hN [B t148] (.cons (strs_Utf.con h149).c .nil)<|Sw<|Rg hN ?_
  cases H
  exact Rt dR
 refine Cf (bn c147)<|Sw<|Rg hN ?_
 rcases (ifC H).symm with ⟨c150,H⟩ | ⟨c150,H⟩
 ·refine Cf (bn c150)<|Sk<|Sw<|Rg hN ?_
  cases H
  exact Rt dR
 refine Ct (bq c150) ?_
 obtain ⟨t151,h152,H⟩:=bindS H
 refine Rh hN [B t151] (.cons (strs_Printable.con h152).c .nil)<|Sw<|Rg hN ?_
 cases H
 exact Rt dR
def tree_one.j0:Nat→Bool→Int→Int→Bool→ByteArray→List Int→Option (Bool)
 | 0,_,_,_,_,_,_=>none
 | k+1,x18,x1000,x1001,x1002,x1003,x1004=>if x18=true then (some false) else (if x1002=true then (if x1003.toList=([]:List UInt8) then (if x1000=0 then (if x1001=16 then (some true) else (some (x1001 == 17))) else (some true)) else (some false)) else (if (x1004.length:Int)=0 then (if x1000=0 then ((strs_Right.f k x1001 x1003).bind fun t162=>(some t162)) else (some true)) else (some false)))
def tree_one.f (k:Nat) (a0_0:Int) (a0_1:Int) (a0_2:Bool) (a0_3:ByteArray) (l0_4:List Int):Option (Bool):=if (mn a0_0 a0_1) < 0 then (tree_one.j0 k true a0_0 a0_1 a0_2 a0_3 l0_4) else (if a0_0 > 3 then (tree_one.j0 k true a0_0 a0_1 a0_2 a0_3 l0_4) else (tree_one.j0 k (decide (a0_1 > 2097151)) a0_0 a0_1 a0_2 a0_3 l0_4))
theorem tree_one.con {k:Nat} {a0_0:Int} {a0_1:Int} {a0_2:Bool} {a0_3:ByteArray} {l0_4:List Int} {r:(Bool)} (H:tree_one.f k a0_0 a0_1 a0_2 a0_3 l0_4=some r):Con Tryd.prog 39 [.agg [I a0_0,I a0_1,B a0_2,S a0_3,.row none 1 (List.map I l0_4)]] (B r):=by
 refine Cg Tryd.func39 rfl fun C hN hL=>?_
 unfold tree_one.f at H
 refine Sw<|Rg hN<|Sw<|Sw<|Good.cut (fun st=>∃ n':Nat,n'≤k∧∃ (x18:Bool) (x1000:Int) (x1001:Int) (x1002:Bool) (x1003:ByteArray) (x1004:List Int),Wk C st ⟨[(1,.d (.ptr 0 0)),(18,.w (B x18))],[.cells [.v (I x1000),.v (I x1001),.v (B x1002),.v (S x1003),.v (.row none 1 (List.map I x1004))]]⟩∧tree_one.j0 n' x18 x1000 x1001 x1002 x1003 x1004=some r) ?_ ?_
 ·rcases ifC H with ⟨c153,H⟩ | ⟨c153,H⟩
  ·exact Rh hN [B true,B true] (.cons (dt c153) (.cons (rfl:true=true) .nil))<|⟨k,by omega,true,a0_0,a0_1,a0_2,a0_3,l0_4,Wo [(1,0),(18,0)],H⟩
  rcases ifC H with ⟨c154,H⟩ | ⟨c154,H⟩
  ·exact Rh hN [B false,B true] (.cons (df c153) (.cons (dt c154) .nil))<|⟨k,by omega,true,a0_0,a0_1,a0_2,a0_3,l0_4,Wo [(1,0),(18,0)],H⟩
  exact Rh hN [B false,B false] (.cons (df c153) (.cons (df c154) .nil))<|⟨k,by omega,decide (a0_1 > 2097151),a0_0,a0_1,a0_2,a0_3,l0_4,Wo [(1,0),(18,0)],H⟩
 clear H
 rintro st ⟨n',hn',x18,x1000,x1001,x1002,x1003,x1004,W,H⟩
 rcases n' with _ | k
 ·cases H
 refine W.good ?_
 rw [tree_one.j0] at H
 rcases ifC H with ⟨c155,H⟩ | ⟨c155,H⟩
 ·refine Ct c155<|Sw<|Rg hN ?_
  cases H
  exact Rt dR
 refine Cf (bf c155)<|Sk<|Sw<|Sw<|Rg hN ?_
 rcases (ifC H).symm with ⟨c156,H⟩ | ⟨c156,H⟩
 ·refine Cf (bf c156)<|Sk<|Sw ?_
  rcases (ifC H).symm with ⟨c160,H⟩ | ⟨c160,H⟩
  ·refine Rh hN [I (x1004.length:Int),B false] (.cons (lenM I x1004) (.cons (bn c160) .nil)) ?_
   cases H
   exact Rt dR
  rcases (ifC H).symm with ⟨c161,H⟩ | ⟨c161,H⟩
  ·refine Rh hN [I (x1004.length:Int),B true,B true] (.cons (lenM I x1004) (.cons (bq c160) (.cons (nq c161) .nil))) ?_
   cases H
   exact Rt dR
  obtain ⟨t162,h163,H⟩:=bindS H
  refine Rh hN [I (x1004.length:Int),B true,B false,B t162] (.cons (lenM I x1004) (.cons (bq c160) (.cons (bneF c161) (.cons (strs_Right.con h163).c .nil)))) ?_
  cases H
  exact Rt dR
 refine Ct c156<|Sw ?_
 rcases (ifC H).symm with ⟨c157,H⟩ | ⟨c157,H⟩
 ·refine Ri hN [B false] (.cons (strV (rfl:x1003.toList=x1003.toList) (litL ([]:List UInt8))) (.cons (bn c157) .nil)) [(23,.bool (x1003.toList == ([]:List UInt8)))] ?_
  cases H
  exact Rt dR
 rcases (ifC H).symm with ⟨c158,H⟩ | ⟨c158,H⟩
 ·refine Ri hN [B true,B true,B true] (.cons (strV (rfl:x1003.toList=x1003.toList) (litL ([]:List UInt8))) (.cons (bq c157) (.cons (nq c158) (.cons (rfl:true=true) .nil)))) [(23,.bool (x1003.toList == ([]:List UInt8)))] ?_
  cases H
  exact Rt dR
 rcases ifC H with ⟨c159,H⟩ | ⟨c159,H⟩
 ·refine Ri hN [B true,B false,B true] (.cons (strV (rfl:x1003.toList=x1003.toList) (litL ([]:List UInt8))) (.cons (bq c157) (.cons (bneF c158) (.cons (bq c159) .nil)))) [(23,.bool (x1003.toList == ([]:List UInt8)))] ?_
  cases H
  exact Rt dR
 refine Ri hN [B true,B false,B false] (.cons (strV (rfl:x1003.toList=x1003.toList) (litL ([]:List UInt8))) (.cons (bq c157) (.cons (bneF c158) (.cons (bn c159) .nil)))) [(23,.bool (x1003.toList == ([]:List UInt8)))] ?_
 cases H
 exact Rt dR
def tree_depth.l2:Nat→List S41→List S74→Int→Int→Int→Option (Int)
 | 0,_,_,_,_,_=>none
 | k+1,x0,x3,x4,x102,x103=>if x103 < x102 then (if 0≤x103 then (if x103 < (x3.length:Int) then (if 0≤((rd_T74 x3 x103).f0) then (if ((rd_T74 x3 x103).f0) < (x0.length:Int) then (if ((rd_T74 x3 x103).f1)=(((rd_T41 x0 ((rd_T74 x3 x103).f0)).f4).length:Int) then (tree_depth.l2 k x0 x3 x4 x102 (wrap64 (x103+1))) else (some 0)) else (none)) else (none)) else (none)) else (none)) else (if x4 > 16 then (some 0) else (some x4))
mutual
def tree_depth.l0:Nat→List S41→List S74→Int→List S41→Int→Int→Option (Int)
 | 0,_,_,_,_,_,_=>none
 | k+1,x0,x3,x4,x18,x19,x20=>if x20 < x19 then (if 0≤x20 then (if x20 < (x18.length:Int) then ((tree_one.f k ((rd_T41 x18 x20).f0) ((rd_T41 x18 x20).f1) ((rd_T41 x18 x20).f2) ((rd_T41 x18 x20).f3) ((rd_T41 x18 x20).f4)).bind fun t180=>(if t180=true then (tree_depth.l1 k x0 x3 x4 x20 x18 x19 x20) else (some 0))) else (none)) else (none)) else (tree_depth.l2 k x0 x3 x4 (x3.length:Int) 0)
def tree_depth.l1:Nat→List S41→List S74→Int→Int→List S41→Int→Int→Option (Int)
 | 0,_,_,_,_,_,_,_=>none
 | k+1,x0,x3,x4,x5,x18,x19,x20=>if (x3.length:Int) > 0 then (if 0≤(wrap64 ((x3.length:Int) - 1)) then (if (wrap64 ((x3.length:Int) - 1)) < (x3.length:Int) then (if 0≤((rd_T74 x3 (wrap64 ((x3.length:Int) - 1))).f0) then (if ((rd_T74 x3 (wrap64 ((x3.length:Int) - 1))).f0) < (x0.length:Int) then (if ((rd_T74 x3 (wrap64 ((x3.length:Int) - 1))).f1)=(((rd_T41 x0 ((rd_T74 x3 (wrap64 ((x3.length:Int) - 1))).f0)).f4).length:Int) then (if (wrap64 ((x3.length:Int) - 1))≤(x3.length:Int) then (tree_depth.l1 k x0 (x3.take ((wrap64 ((x3.length:Int) - 1)):Int).toNat) x4 x5 x18 x19 x20) else (none)) else (tree_depth.j3 k x0 x3 x4 x5 x18 x19 x20)) else (none)) else (none)) else (none)) else (none)) else (tree_depth.j3 k x0 x3 x4 x5 x18 x19 x20)
def tree_depth.j3:Nat→List S41→List S74→Int→Int→List S41→Int→Int→Option (Int)
 | 0,_,_,_,_,_,_,_=>none
 | k+1,x0,x3,x4,x5,x18,x19,x20=>if x5 > 0 then (if (x3.length:Int)=0 then (some 0) else (if 0≤(wrap64 ((x3.length:Int) - 1)) then (if (wrap64 ((x3.length:Int) - 1)) < (x3.length:Int) then (if 0≤((rd_T74 x3 (wrap64 ((x3.length:Int) - 1))).f0) then (if ((rd_T74 x3 (wrap64 ((x3.length:Int) - 1))).f0) < (x0.length:Int) then (if 0≤((rd_T74 x3 (wrap64 ((x3.length:Int) - 1))).f1) then (if ((rd_T74 x3 (wrap64 ((x3.length:Int) - 1))).f1) < (((rd_T41 x0 ((rd_T74 x3 (wrap64 ((x3.length:Int) - 1))).f0)).f4).length:Int) then (if (rd ((rd_T41 x0 ((rd_T74 x3 (wrap64 ((x3.length:Int) - 1))).f0)).f4) ((rd_T74 x3 (wrap64 ((x3.length:Int) - 1))).f1))=x5 then ((some (x3.set ((wrap64 ((x3.length:Int) - 1)):Int).toNat (⟨(rd_T74 x3 (wrap64 ((x3.length:Int) - 1))).f0,wrap64 (((rd_T74 x3 (wrap64 ((x3.length:Int) - 1))).f1)+1)⟩:S74):List S74)).bind fun y199=>(if y199.length < 8796093022208 then ((some (y199++[(⟨x5,0⟩:S74)]:List S74)).bind fun y201=>(tree_depth.l0 k x0 y201 (mx x4 (y201.length:Int)) x18 x19 (wrap64 (x20+1)))) else (none))) else (some 0)) else (none)) else (none)) else (none)) else (none)) else (none)) else (none))) else (if x3.length < 8796093022208 then ((some (x3++[(⟨x5,0⟩:S74)]:List S74)).bind fun y203=>(tree_depth.l0 k x0 y203 (mx x4 (y203.length:Int)) x18 x19 (wrap64 (x20+1)))) else (none))
end
def tree_depth.j0:Nat→List S41→Bool→Option (Int)
 | 0,_,_=>none
 | k+1,x0,x17=>if x17=true then (some 0) else (tree_depth.l0 k x0 ([]:List S74) 0 x0 (x0.length:Int) 0)
def tree_depth.f (k:Nat) (l0:List S41):Option (Int):=if (l0.length:Int)=0 then (tree_depth.j0 k l0 true) else (tree_depth.j0 k l0 (decide ((l0.length:Int) > 1000)))
theorem tree_depth.con {k:Nat} {l0:List S41} {r:(Int)} (H:tree_depth.f k l0=some r):Con Tryd.prog 28 [.row none 5 (List.map (v41 0) l0)] (I r):=by
 refine Cg Tryd.func28 rfl fun C hN hL=>?_
 unfold tree_depth.f at H
 refine Sw<|Rg hN<|Sw<|Sw<|Good.cut (fun st=>∃ n':Nat,n'≤k∧∃ (x0:List S41) (x17:Bool),Wk C st ⟨[(0,.w (.row none 5 (List.map (v41 0) x0))),(17,.w (B x17))],[]⟩∧tree_depth.j0 n' x0 x17=some r) ?_ ?_
 ·rcases ifC H with ⟨c175,H⟩ | ⟨c175,H⟩
  ·exact Rh hN [I (l0.length:Int),B true] (.cons (lenM (v41 0) l0) (.cons (bq c175) .nil))<|⟨k,by omega,l0,true,Wo [(0,0),(17,0)],H⟩
  exact Rh hN [I (l0.length:Int),B false,I (l0.length:Int)] (.cons (lenM (v41 0) l0) (.cons (bn c175) (.cons (lenM (v41 0) l0) .nil)))<|⟨k,by omega,l0,decide ((l0.length:Int) > 1000),Wo [(0,0),(17,0)],H⟩
 clear H
 rintro st ⟨n',hn',x0,x17,W,H⟩
 rcases n' with _ | k
 ·cases H
 refine W.good ?_
 rw [tree_depth.j0] at H
 rcases ifC H with ⟨c176,H⟩ | ⟨c176,H⟩
 ·refine Ct c176<|Sw<|Rg hN ?_
  cases H
  exact Rt dR
 refine Cf (bf c176)<|Sk<|Sw<|Rg hN<|Sw<|Rg hN<|Sw<|Sw<|Rh hN [I (x0.length:Int)] (.cons (lenM (v41 0) x0) .nil)<|Bl<|Good.loopN (fun k' st=>∃ (x0:List S41) (x3:List S74) (x4:Int) (x18:List S41) (x19:Int) (x20:Int),k'≤k∧Wk C st ⟨[(0,.w (.row none 5 (List.map (v41 0) x0))),(3,.w (.row (some 74) 2 (List.map v74 x3))),(4,.w (I x4)),(18,.w (.row none 5 (List.map (v41 0) x18))),(19,.w (I x19)),(20,.w (I x20))],[]⟩∧tree_depth.l0 k' x0 x3 x4 x18 x19 x20=some r) k ⟨x0,([]:List S74),0,x0,(x0.length:Int),0,Nat.le_refl _,Wo [(0,0),(3,1),(4,0),(18,0),(19,0),(20,0)],H⟩ fun k=>⟨fun st h=>(by obtain ⟨_,_,_,_,_,_,_,_,H⟩:=h;cases H),?_⟩
 clear H
 rintro st ⟨x0,x3,x4,x18,x19,x20,hk,W,H⟩
 refine W.good ?_
 rw [tree_depth.l0] at H
 refine Sw<|Rg hN<|Sw ?_
 rcases (ifC H).symm with ⟨c177,H⟩ | ⟨c177,H⟩
 ·refine Cf (df c177)<|Ex<|Sw<|Sw<|Rh hN [I (x3.length:Int)] (.cons (lenM v74 x3) .nil)<|Bl<|Good.loopN (fun k' st=>∃ (x0:List S41) (x3:List S74) (x4:Int) (x102:Int) (x103:Int),k'≤k∧Wk C st ⟨[(0,.w (.row none 5 (List.map (v41 0) x0))),(3,.w (.row (some 74) 2 (List.map v74 x3))),(4,.w (I x4)),(101,.al (.top (.t 3))),(102,.w (I x102)),(103,.w (I x103))],[]⟩∧tree_depth.l2 k' x0 x3 x4 x102 x103=some r) k ⟨x0,x3,x4,(x3.length:Int),0,Nat.le_refl _,Wo [(0,0),(3,0),(4,0),(101,0),(102,0),(103,0)],H⟩ fun k=>⟨fun st h=>(by obtain ⟨_,_,_,_,_,_,_,H⟩:=h;cases H),?_⟩
  clear H
  rintro st ⟨x0,x3,x4,x102,x103,hk,W,H⟩
  refine W.good ?_
  rw [tree_depth.l2] at H
  refine Sw<|Rg hN<|Sw ?_
  rcases (ifC H).symm with ⟨c204,H⟩ | ⟨c204,H⟩
  ·refine Cf (df c204)<|Ex<|Sw<|Sw<|Rg hN ?_
   rcases ifC H with ⟨c210,H⟩ | ⟨c210,H⟩
   ·refine Ct (dt c210)<|Sw<|Rg hN ?_
    cases H
    exact Rt dR
   refine Cf (df c210)<|Sk<|Sw<|Rg hN ?_
   cases H
   exact Rt dR
  refine Ct (dt c204)<|Sk<|Sw<|Bl<|Sw ?_
  obtain ⟨c205,H⟩:=ifS H
  obtain ⟨c206,H⟩:=ifS H
  refine Rh hN [v74 (rd_T74 x3 x103)] (.cons c205 (.cons (ltM v74 c206) (.cons (atM v74 z74 c205 c206) .nil)))<|Sw ?_
  obtain ⟨c207,H⟩:=ifS H
  obtain ⟨c208,H⟩:=ifS H
  refine Rd hm hN (.qs 9 0 (.q 9 [] .z)) [(0,none),(9,some (.pt [I ((rd_T74 x3 x103).f0),I ((rd_T74 x3 x103).f1)]))] (.cons (ptS (shrC (rfl:(V.shr (I ((rd_T74 x3 x103).f0)))=I ((rd_T74 x3 x103).f0)) (shrC (rfl:(V.shr (I ((rd_T74 x3 x103).f1)))=I ((rd_T74 x3 x103).f1)) (rfl:shrL []=[])))) .nil) [(v41 0) (rd_T41 x0 ((rd_T74 x3 x103).f0)),I (((rd_T41 x0 ((rd_T74 x3 x103).f0)).f4).length:Int)] [(v41 0) (rd_T41 x0 ((rd_T74 x3 x103).f0)),I (((rd_T41 x0 ((rd_T74 x3 x103).f0)).f4).length:Int)] (.cons c207 (.cons (atM (v41 0) z41 c207 c208) (.cons (lenM I ((rd_T41 x0 ((rd_T74 x3 x103).f0)).f4)) .nil))) (.cons c207 (.cons (atM (v41 0) z41 c207 c208) (.cons (lenM I ((rd_T41 x0 ((rd_T74 x3 x103).f0)).f4)) .nil))) [] [] ?_
  rcases ifC H with ⟨c209,H⟩ | ⟨c209,H⟩
  ·exact Cf (bneF c209)<|Sk<|Rg hN<|⟨k,by omega,x0,x3,x4,x102,wrap64 (x103+1),by omega,Wk.ofB hL 0 [(0,0),(3,0),(4,0),(101,0),(102,0),(103,0)] (by kernel_rfl) (by kernel_rfl) (by kernel_rfl),H⟩
  refine Ct (nq c209)<|Sw<|Rg hN ?_
  cases H
  exact Rt dR
 refine Ct (dt c177)<|Sk<|Sw<|Bl<|Sw ?_
 obtain ⟨c178,H⟩:=ifS H
 obtain ⟨c179,H⟩:=ifS H
 refine Rh hN [(v41 0) (rd_T41 x18 x20)] (.cons c178 (.cons (atM (v41 0) z41 c178 c179) .nil))<|Sw<|Sw ?_
 obtain ⟨t180,h181,H⟩:=bindS H
 refine Rh hN [B t180] (.cons (tree_one.con h181).c .nil) ?_
 rcases (ifC H).symm with ⟨c182,H⟩ | ⟨c182,H⟩
 ·refine Ct (notT (bf c182))<|Sw<|Rg hN ?_
  cases H
  exact Rt dR
 refine Cf (notF c182)<|Sk<|Sw<|Good.cut (fun st=>∃ n':Nat,n'≤k∧∃ (x0:List S41) (x3:List S74) (x4:Int) (x5:Int) (x18:List S41) (x19:Int) (x20:Int) (x1000:Int) (x1001:Int) (x1002:Bool) (x1003:ByteArray) (x1004:List Int),Wk C st ⟨[(0,.w (.row none 5 (List.map (v41 0) x0))),(3,.w (.row (some 74) 2 (List.map v74 x3))),(4,.w (I x4)),(5,.w (I x5)),(18,.w (.row none 5 (List.map (v41 0) x18))),(19,.w (I x19)),(20,.w (I x20))],[.cells [.v (I x1000),.v (I x1001),.v (B x1002),.v (S x1003),.v (.row none 1 (List.map I x1004))]]⟩∧tree_depth.j3 n' x0 x3 x4 x5 x18 x19 x20=some r) ?_ ?_
 ·refine Bl<|Good.loopN (fun k' st=>∃ (x0:List S41) (x3:List S74) (x4:Int) (x5:Int) (x18:List S41) (x19:Int) (x20:Int) (x1000:Int) (x1001:Int) (x1002:Bool) (x1003:ByteArray) (x1004:List Int),k'≤k∧Wk C st ⟨[(0,.w (.row none 5 (List.map (v41 0) x0))),(3,.w (.row (some 74) 2 (List.map v74 x3))),(4,.w (I x4)),(5,.w (I x5)),(18,.w (.row none 5 (List.map (v41 0) x18))),(19,.w (I x19)),(20,.w (I x20))],[.cells [.v (I x1000),.v (I x1001),.v (B x1002),.v (S x1003),.v (.row none 1 (List.map I x1004))]]⟩∧tree_depth.l1 k' x0 x3 x4 x5 x18 x19 x20=some r) k ⟨x0,x3,x4,x20,x18,x19,x20,(rd_T41 x18 x20).f0,(rd_T41 x18 x20).f1,(rd_T41 x18 x20).f2,(rd_T41 x18 x20).f3,(rd_T41 x18 x20).f4,Nat.le_refl _,Wo [(0,0),(3,0),(4,0),(5,0),(18,0),(19,0),(20,0)],H⟩ fun k=>⟨fun st h=>(by obtain ⟨_,_,_,_,_,_,_,_,_,_,_,_,_,_,H⟩:=h;cases H),?_⟩
  clear H
  rintro st ⟨x0,x3,x4,x5,x18,x19,x20,x1000,x1001,x1002,x1003,x1004,hk,W,H⟩
  refine W.good ?_
  rw [tree_depth.l1] at H
  refine Sw<|Sw ?_
  rcases (ifC H).symm with ⟨c183,H⟩ | ⟨c183,H⟩
  ·exact Rd hm hN (.qs 4 0 (.k 31 (.is 20 4 (.q 24 [] .z)))) [(0,none),(3,some (.row none 2 (List.map v74 x3)))] (.cons (shrM (some 74) 2 v74 v74 x3 (fun _=>rfl)) .nil) [I (x3.length:Int),B false] [I (x3.length:Int)] (.cons (lenM v74 x3) (.cons (df c183) .nil)) (.cons (lenM v74 x3) (.cons (df c183) .nil)) [] []<|Good.cond false (by kernel_rfl)<|Ex<|⟨k,by omega,x0,x3,x4,x5,x18,x19,x20,x1000,x1001,x1002,x1003,x1004,Wo [(0,0),(3,0),(4,0),(5,0),(18,0),(19,0),(20,0)],H⟩
  obtain ⟨c184,H⟩:=ifS H
  obtain ⟨c185,H⟩:=ifS H
  obtain ⟨c186,H⟩:=ifS H
  obtain ⟨c187,H⟩:=ifS H
  refine Rd hm hN (.qs 4 0 (.k 31 (.qs 20 4 (.q 24 [] .z)))) [(0,none),(3,some (.row none 2 (List.map v74 x3)))] (.cons (shrM (some 74) 2 v74 v74 x3 (fun _=>rfl)) .nil) [I (x3.length:Int),B true,I (x3.length:Int),v74 (rd_T74 x3 (wrap64 ((x3.length:Int) - 1))),I (x3.length:Int),v74 (rd_T74 x3 (wrap64 ((x3.length:Int) - 1))),(v41 0) (rd_T41 x0 ((rd_T74 x3 (wrap64 ((x3.length:Int) - 1))).f0)),I (((rd_T41 x0 ((rd_T74 x3 (wrap64 ((x3.length:Int) - 1))).f0)).f4).length:Int)] [I (x3.length:Int),I (x3.length:Int),v74 (rd_T74 x3 (wrap64 ((x3.length:Int) - 1))),I (x3.length:Int),v74 (rd_T74 x3 (wrap64 ((x3.length:Int) - 1))),(v41 0) (rd_T41 x0 ((rd_T74 x3 (wrap64 ((x3.length:Int) - 1))).f0)),I (((rd_T41 x0 ((rd_T74 x3 (wrap64 ((x3.length:Int) - 1))).f0)).f4).length:Int)] (.cons (lenM v74 x3) (.cons (dt c183) (.cons (lenM v74 x3) (.cons c184 (.cons (ltM v74 c185) (.cons (atM v74 z74 c184 c185) (.cons (lenM v74 x3) (.cons c184 (.cons (ltM v74 c185) (.cons (atM v74 z74 c184 c185) (.cons c186 (.cons (atM (v41 0) z41 c186 c187) (.cons (lenM I ((rd_T41 x0 ((rd_T74 x3 (wrap64 ((x3.length:Int) - 1))).f0)).f4)) .nil))))))))))))) (.cons (lenM v74 x3) (.cons (dt c183) (.cons (lenM v74 x3) (.cons c184 (.cons (atM v74 z74 c184 c185) (.cons (lenM v74 x3) (.cons c184 (.cons (atM v74 z74 c184 c185) (.cons c186 (.cons (atM (v41 0) z41 c186 c187) (.cons (lenM I ((rd_T41 x0 ((rd_T74 x3 (wrap64 ((x3.length:Int) - 1))).f0)).f4)) .nil))))))))))) [] [] ?_
  rcases (ifC H).symm with ⟨c188,H⟩ | ⟨c188,H⟩
  ·exact Cf (bn c188)<|Ex<|⟨k,by omega,x0,x3,x4,x5,x18,x19,x20,x1000,x1001,x1002,x1003,x1004,Wo [(0,0),(3,0),(4,0),(5,0),(18,0),(19,0),(20,0)],H⟩
  refine Ct (bq c188)<|Sk<|Bl ?_
  obtain ⟨c189,H⟩:=ifS H
  exact Rh hN [I (x3.length:Int),.row (some 74) 2 (List.map v74 (x3.take ((wrap64 ((x3.length:Int) - 1)):Int).toNat))] (.cons (lenM v74 x3) (.cons c184 (.cons (leM v74 c189) (.cons (takeM v74 (l:=x3) (n:=((wrap64 ((x3.length:Int) - 1)):Int).toNat)) .nil))))<|⟨k,by omega,x0,x3.take ((wrap64 ((x3.length:Int) - 1)):Int).toNat,x4,x5,x18,x19,x20,x1000,x1001,x1002,x1003,x1004,by omega,Wo [(0,0),(3,0),(4,0),(5,0),(18,0),(19,0),(20,0)],H⟩
 clear H
 rintro st ⟨n',hn',x0,x3,x4,x5,x18,x19,x20,x1000,x1001,x1002,x1003,x1004,W,H⟩
 rcases n' with _ | k
 ·cases H
 refine W.good ?_
 rw [tree_depth.j3] at H
 refine Sw<|Sw<|Rg hN ?_
 rcases (ifC H).symm with ⟨c190,H⟩ | ⟨c190,H⟩
 ·refine Cf (df c190)<|Sk<|Sw ?_
  obtain ⟨c202,H⟩:=ifS H
  replace H:=bindI H
  exact Rh hN [.kb true,.row (some 74) 2 (List.map v74 (x3++[(⟨x5,0⟩:S74)]))] (.cons (fitM v74 x3 [(⟨x5,0⟩:S74)] (.refl _)) (.cons (limM1 v74 c202) .nil))<|Rh hN [I ((x3++[(⟨x5,0⟩:S74)]).length:Int)] (.cons (lenM v74 (x3++[(⟨x5,0⟩:S74)])) .nil)<|Rg hN<|⟨k,by omega,x0,(x3++[(⟨x5,0⟩:S74)]),mx x4 ((x3++[(⟨x5,0⟩:S74)]).length:Int),x18,x19,wrap64 (x20+1),by omega,Wk.ofB hL 0 [(0,0),(3,0),(4,0),(18,0),(19,0),(20,0)] (by kernel_rfl) (by kernel_rfl) (by kernel_rfl),H⟩
 refine Ct (dt c190)<|Sw<|Sw<|Rh hN [I (x3.length:Int)] (.cons (lenM v74 x3) .nil) ?_
 rcases ifC H with ⟨c191,H⟩ | ⟨c191,H⟩
 ·refine Ct (bq c191)<|Sw<|Rg hN ?_
  cases H
  exact Rt dR
 refine Cf (bn c191)<|Sk<|Sw ?_
 obtain ⟨c192,H⟩:=ifS H
 obtain ⟨c193,H⟩:=ifS H
 refine Rh hN [I (x3.length:Int)] (.cons (lenM v74 x3) (.cons c192 (.cons (ltM v74 c193) .nil)))<|Sw<|Sw ?_
 obtain ⟨c194,H⟩:=ifS H
 obtain ⟨c195,H⟩:=ifS H
 obtain ⟨c196,H⟩:=ifS H
 obtain ⟨c197,H⟩:=ifS H
 refine Rd hm hN (.qs 15 0 (.q 15 [] .z)) [(0,none),(5,none),(7,some (.tup [v74 (rd_T74 x3 (wrap64 ((x3.length:Int) - 1))),.pt [I ((rd_T74 x3 (wrap64 ((x3.length:Int) - 1))).f0),I ((rd_T74 x3 (wrap64 ((x3.length:Int) - 1))).f1)]]))] (.cons (atM v74 z74 c192 c193) (.cons (ptS (shrC (rfl:(V.shr (I ((rd_T74 x3 (wrap64 ((x3.length:Int) - 1))).f0)))=I ((rd_T74 x3 (wrap64 ((x3.length:Int) - 1))).f0)) (shrC (rfl:(V.shr (I ((rd_T74 x3 (wrap64 ((x3.length:Int) - 1))).f1)))=I ((rd_T74 x3 (wrap64 ((x3.length:Int) - 1))).f1)) (rfl:shrL []=[])))) .nil)) [v74 (rd_T74 x3 (wrap64 ((x3.length:Int) - 1))),(v41 0) (rd_T41 x0 ((rd_T74 x3 (wrap64 ((x3.length:Int) - 1))).f0)),v74 (rd_T74 x3 (wrap64 ((x3.length:Int) - 1))),I (rd ((rd_T41 x0 ((rd_T74 x3 (wrap64 ((x3.length:Int) - 1))).f0)).f4) ((rd_T74 x3 (wrap64 ((x3.length:Int) - 1))).f1))] [(v41 0) (rd_T41 x0 ((rd_T74 x3 (wrap64 ((x3.length:Int) - 1))).f0)),I (rd ((rd_T41 x0 ((rd_T74 x3 (wrap64 ((x3.length:Int) - 1))).f0)).f4) ((rd_T74 x3 (wrap64 ((x3.length:Int) - 1))).f1))] (.cons (atM v74 z74 c192 c193) (.cons c194 (.cons (atM (v41 0) z41 c194 c195) (.cons (atM v74 z74 c192 c193) (.cons c196 (.cons (atM I (0:Int) c196 c197) .nil)))))) (.cons c194 (.cons (atM (v41 0) z41 c194 c195) (.cons c196 (.cons (atM I (0:Int) c196 c197) .nil)))) [] [] ?_
 rcases (ifC H).symm with ⟨c198,H⟩ | ⟨c198,H⟩
 ·refine Ct (nq c198)<|Sw<|Rg hN ?_
  cases H
  exact Rt dR
 refine Cf (bneF c198)<|Sk ?_
 replace H:=bindI H
 refine Rh hN [v74 (rd_T74 x3 (wrap64 ((x3.length:Int) - 1))),v74 (rd_T74 x3 (wrap64 ((x3.length:Int) - 1))),v74 (⟨(rd_T74 x3 (wrap64 ((x3.length:Int) - 1))).f0,wrap64 (((rd_T74 x3 (wrap64 ((x3.length:Int) - 1))).f1)+1)⟩:S74),.row (some 74) 2 (List.map v74 (x3.set ((wrap64 ((x3.length:Int) - 1)):Int).toNat (⟨(rd_T74 x3 (wrap64 ((x3.length:Int) - 1))).f0,wrap64 (((rd_T74 x3 (wrap64 ((x3.length:Int) - 1))).f1)+1)⟩:S74)))] (.cons (atM v74 z74 c192 c193) (.cons (atM v74 z74 c192 c193) (.cons (Fit.refl (v74 (⟨(rd_T74 x3 (wrap64 ((x3.length:Int) - 1))).f0,wrap64 (((rd_T74 x3 (wrap64 ((x3.length:Int) - 1))).f1)+1)⟩:S74))) (.cons (setM v74 (l:=x3) (n:=((wrap64 ((x3.length:Int) - 1)):Int).toNat) (x:=(⟨(rd_T74 x3 (wrap64 ((x3.length:Int) - 1))).f0,wrap64 (((rd_T74 x3 (wrap64 ((x3.length:Int) - 1))).f1)+1)⟩:S74))) .nil))))<|Sw ?_
 obtain ⟨c200,H⟩:=ifS H
 replace H:=bindI H
 exact Rh hN [.kb true,.row (some 74) 2 (List.map v74 ((x3.set ((wrap64 ((x3.length:Int) - 1)):Int).toNat (⟨(rd_T74 x3 (wrap64 ((x3.length:Int) - 1))).f0,wrap64 (((rd_T74 x3 (wrap64 ((x3.length:Int) - 1))).f1)+1)⟩:S74))++[(⟨x5,0⟩:S74)]))] (.cons (fitM v74 (x3.set ((wrap64 ((x3.length:Int) - 1)):Int).toNat (⟨(rd_T74 x3 (wrap64 ((x3.length:Int) - 1))).f0,wrap64 (((rd_T74 x3 (wrap64 ((x3.length:Int) - 1))).f1)+1)⟩:S74)) [(⟨x5,0⟩:S74)] (.refl _)) (.cons (limM1 v74 c200) .nil))<|Rh hN [I (((x3.set ((wrap64 ((x3.length:Int) - 1)):Int).toNat (⟨(rd_T74 x3 (wrap64 ((x3.length:Int) - 1))).f0,wrap64 (((rd_T74 x3 (wrap64 ((x3.length:Int) - 1))).f1)+1)⟩:S74))++[(⟨x5,0⟩:S74)]).length:Int)] (.cons (lenM v74 ((x3.set ((wrap64 ((x3.length:Int) - 1)):Int).toNat (⟨(rd_T74 x3 (wrap64 ((x3.length:Int) - 1))).f0,wrap64 (((rd_T74 x3 (wrap64 ((x3.length:Int) - 1))).f1)+1)⟩:S74))++[(⟨x5,0⟩:S74)])) .nil)<|Rg hN<|⟨k,by omega,x0,((x3.set ((wrap64 ((x3.length:Int) - 1)):Int).toNat (⟨(rd_T74 x3 (wrap64 ((x3.length:Int) - 1))).f0,wrap64 (((rd_T74 x3 (wrap64 ((x3.length:Int) - 1))).f1)+1)⟩:S74))++[(⟨x5,0⟩:S74)]),mx x4 (((x3.set ((wrap64 ((x3.length:Int) - 1)):Int).toNat (⟨(rd_T74 x3 (wrap64 ((x3.length:Int) - 1))).f0,wrap64 (((rd_T74 x3 (wrap64 ((x3.length:Int) - 1))).f1)+1)⟩:S74))++[(⟨x5,0⟩:S74)]).length:Int),x18,x19,wrap64 (x20+1),by omega,Wk.ofB hL 0 [(0,0),(3,0),(4,0),(18,0),(19,0),(20,0)] (by kernel_rfl) (by kernel_rfl) (by kernel_rfl),H⟩
def tree_Right.f (k:Nat) (l0:List S41):Option (Bool):=(tree_depth.f k l0).bind fun t211=>(some (decide (t211 > 0)))
theorem tree_Right.con {k:Nat} {l0:List S41} {r:(Bool)} (H:tree_Right.f k l0=some r):Con Tryd.prog 11 [.row none 5 (List.map (v41 0) l0)] (B r):=by
 refine Cg Tryd.func11 rfl fun C hN hL=>?_
 unfold tree_Right.f at H
 refine Sw<|Rg hN<|Sw ?_
 obtain ⟨t211,h212,H⟩:=bindS H
 refine Rh hN [I t211] (.cons (tree_depth.con h212).c .nil) ?_
 cases H
 exact Rt dR
def head_Head_may.f (a0_0:Int) (a0_1:Int) (a0_2:Bool) (a0_3:Int):Option (Bool):=if (mn (mn a0_0 a0_1) a0_3)≥0 then (if a0_0≤3 then (if a0_1≤2097151 then (some (decide (a0_3≤65535))) else (some false)) else (some false)) else (some false)
theorem head_Head_may.con {a0_0:Int} {a0_1:Int} {a0_2:Bool} {a0_3:Int} {r:(Bool)} (H:head_Head_may.f a0_0 a0_1 a0_2 a0_3=some r):Con Tryd.prog 37 [.agg [I a0_0,I a0_1,B a0_2,I a0_3]] (B r):=by
 refine Cg Tryd.func37 rfl fun C hN hL=>?_
 unfold head_Head_may.f at H
 refine Sw<|Rg hN<|Sw ?_
 rcases (ifC H).symm with ⟨c213,H⟩ | ⟨c213,H⟩
 ·refine Rh hN [B false,B false,B false] (.cons (df c213) (.cons (rfl:false=false) (.cons (rfl:false=false) .nil))) ?_
  cases H
  exact Rt dR
 rcases (ifC H).symm with ⟨c214,H⟩ | ⟨c214,H⟩
 ·refine Rh hN [B true,B false,B false] (.cons (dt c213) (.cons (df c214) (.cons (rfl:false=false) .nil))) ?_
  cases H
  exact Rt dR
 rcases ifC H with ⟨c215,H⟩ | ⟨c215,H⟩
 ·refine Rh hN [B true,B true,B true] (.cons (dt c213) (.cons (dt c214) (.cons (dt c215) .nil))) ?_
  cases H
  exact Rt dR
 refine Rh hN [B true,B true,B false] (.cons (dt c213) (.cons (dt c214) (.cons (df c215) .nil))) ?_
 cases H
 exact Rt dR
def head_Encode.j2:Nat→List Int→Int→Option (ByteArray × Int)
 | 0,_,_=>none
 | k+1,x4,x1003=>if x1003 < 128 then (if x4.length < 140737488355328 then (some (strOfNums (x4++[(x1003) % 256]),0)) else (none)) else (if x1003 < 256 then (if x4.length+2 < 140737488355328 then (some (strOfNums (x4++[129,(x1003) % 256]),0)) else (none)) else (if x4.length+3 < 140737488355328 then (some (strOfNums (x4++[130,(x1003 / 256) % 256,(x1003) % 256]),0)) else (none)))
def head_Encode.l0:Nat→List Int→Int→Int→Int→Option (ByteArray × Int)
 | 0,_,_,_,_=>none
 | k+1,x4,x6,x1001,x1003=>if x6≥0 then (if 0≤x6 then (if (shr .i64 x1001 x6)=0 then (head_Encode.l0 k x4 (wrap64 (x6 - 7)) x1001 x1003) else (if x4.length < 140737488355328 then (head_Encode.l0 k (x4++[(Go.bits .or .i64 (Go.bits .and .i64 (shr .i64 x1001 x6) 127) 128) % 256]) (wrap64 (x6 - 7)) x1001 x1003) else (none))) else (none)) else (if 0≤(wrap64 ((x4.length:Int) - 1)) then (if (wrap64 ((x4.length:Int) - 1)) < (x4.length:Int) then (head_Encode.j2 k (x4.set ((wrap64 ((x4.length:Int) - 1)):Int).toNat (Go.bits .and .u8 (rd x4 (wrap64 ((x4.length:Int) - 1))) 127)) x1003) else (none)) else (none))
def head_Encode.j0:Nat→List Int→Int→Int→Int→Option (ByteArray × Int)
 | 0,_,_,_,_=>none
 | k+1,x4,x5,x1001,x1003=>if x1001 < 31 then (if x4.length < 140737488355328 then (head_Encode.j2 k (x4++[Go.bits .or .u8 x5 ((x1001) % 256)]) x1003) else (none)) else (if x4.length < 140737488355328 then (head_Encode.l0 k (x4++[Go.bits .or .u8 x5 31]) 14 x1001 x1003) else (none))
def head_Encode.f (k:Nat) (a0_0:Int) (a0_1:Int) (a0_2:Bool) (a0_3:Int):Option (ByteArray × Int):=(head_Head_may.f a0_0 a0_1 a0_2 a0_3).bind fun t216=>(if t216=true then (if a0_2=true then (head_Encode.j0 k (List.replicate 0 0) (Go.bits .or .u8 ((wrap64 (a0_0*64)) % 256) 32) a0_1 a0_3) else (head_Encode.j0 k (List.replicate 0 0) ((wrap64 (a0_0*64)) % 256) a0_1 a0_3)) else (some ((⟨#[]⟩:ByteArray),1)))
theorem head_Encode.con {k:Nat} {a0_0:Int} {a0_1:Int} {a0_2:Bool} {a0_3:Int} {r:(ByteArray × Int)} (H:head_Encode.f k a0_0 a0_1 a0_2 a0_3=some r):Con Tryd.prog 26 [.agg [I a0_0,I a0_1,B a0_2,I a0_3]] (.tup [S r.1,I r.2]):=by
 refine Cg Tryd.func26 rfl fun C hN hL=>?_
 unfold head_Encode.f at H
 refine Sw<|Rg hN<|Sw<|Sw ?_
 obtain ⟨t216,h217,H⟩:=bindS H
 refine Rh hN [B t216] (.cons (head_Head_may.con h217).c .nil) ?_
 rcases (ifC H).symm with ⟨c218,H⟩ | ⟨c218,H⟩
 ·refine Ct (notT (bf c218))<|Sw<|Rg hN ?_
  cases H
  exact Rt dR
 refine Cf (notF c218)<|Sk<|Sw<|Rh hN [.row (some 5) 1 (List.map (K .u8) (List.replicate 0 0))] (.cons (show (0:Int)≤0 by decide) (.cons (show (0:Int)≤7 by decide) (.cons (show (7:Int)≤281474976710656 by decide) (.cons (repM0 (K .u8) 0 0) .nil))))<|Sw<|Rh hN [] (.cons (show (0:Int)≤6 by decide) .nil)<|Sw<|Sw<|Rg hN<|Good.cut (fun st=>∃ n':Nat,n'≤k∧∃ (x4:List Int) (x5:Int) (x1000:Int) (x1001:Int) (x1002:Bool) (x1003:Int),Wk C st ⟨[(1,.d (.ptr 0 0)),(4,.w (.row (some 5) 1 (List.map (K .u8) x4))),(5,.w (K .u8 x5))],[.cells [.v (I x1000),.v (I x1001),.v (B x1002),.v (I x1003)]]⟩∧head_Encode.j0 n' x4 x5 x1001 x1003=some r) ?_ ?_
 ·rcases ifC H with ⟨c219,H⟩ | ⟨c219,H⟩
  ·exact Ct c219<|Rg hN<|⟨k,by omega,List.replicate 0 0,Go.bits .or .u8 ((wrap64 (a0_0*64)) % 256) 32,a0_0,a0_1,a0_2,a0_3,Wo [(1,0),(4,0),(5,0)],H⟩
  exact Cf (bf c219)<|Sk<|⟨k,by omega,List.replicate 0 0,(wrap64 (a0_0*64)) % 256,a0_0,a0_1,a0_2,a0_3,Wo [(1,0),(4,0),(5,0)],H⟩
 clear H
 rintro st ⟨n',hn',x4,x5,x1000,x1001,x1002,x1003,W,H⟩
 rcases n' with _ | k
 ·cases H
 refine W.good ?_
 rw [head_Encode.j0] at H
 refine Sw<|Good.cut (fun st=>∃ n':Nat,n'≤k∧∃ (x4:List Int) (x1000:Int) (x1001:Int) (x1002:Bool) (x1003:Int),Wk C st ⟨[(1,.d (.ptr 0 0)),(4,.w (.row (some 5) 1 (List.map (K .u8) x4)))],[.cells [.v (I x1000),.v (I x1001),.v (B x1002),.v (I x1003)]]⟩∧head_Encode.j2 n' x4 x1003=some r) ?_ ?_
 ·refine Bl<|Sw<|Rg hN ?_
  rcases ifC H with ⟨c220,H⟩ | ⟨c220,H⟩
  ·refine Ct (dt c220) ?_
   obtain ⟨c221,H⟩:=ifS H
   exact Rh hN [.kb true,.row (some 5) 1 (List.map (K .u8) (x4++[Go.bits .or .u8 x5 ((x1001) % 256)]))] (.cons (fitM (K .u8) x4 [Go.bits .or .u8 x5 ((x1001) % 256)] (.refl _)) (.cons (limM1 (K .u8) c221) .nil))<|⟨k,by omega,(x4++[Go.bits .or .u8 x5 ((x1001) % 256)]),x1000,x1001,x1002,x1003,Wo [(1,0),(4,0)],H⟩
  refine Cf (df c220)<|Sw ?_
  obtain ⟨c223,H⟩:=ifS H
  refine Rh hN [.kb true,.row (some 5) 1 (List.map (K .u8) (x4++[Go.bits .or .u8 x5 31]))] (.cons (fitM (K .u8) x4 [Go.bits .or .u8 x5 31] (.refl _)) (.cons (limM1 (K .u8) c223) .nil))<|Sw<|Sw<|Rg hN<|Bl<|Good.loopN (fun k' st=>∃ (x4:List Int) (x6:Int) (x1000:Int) (x1001:Int) (x1002:Bool) (x1003:Int),k'≤k∧Wk C st ⟨[(1,.d (.ptr 0 0)),(4,.w (.row (some 5) 1 (List.map (K .u8) x4))),(6,.w (I x6))],[.cells [.v (I x1000),.v (I x1001),.v (B x1002),.v (I x1003)]]⟩∧head_Encode.l0 k' x4 x6 x1001 x1003=some r) k ⟨(x4++[Go.bits .or .u8 x5 31]),14,x1000,x1001,x1002,x1003,Nat.le_refl _,Wo [(1,0),(4,0),(6,0)],H⟩ fun k=>⟨fun st h=>(by obtain ⟨_,_,_,_,_,_,_,_,H⟩:=h;cases H),?_⟩
  clear H
  rintro st ⟨x4,x6,x1000,x1001,x1002,x1003,hk,W,H⟩
  refine W.good ?_
  rw [head_Encode.l0] at H
  refine Sw<|Sw<|Rg hN ?_
  rcases (ifC H).symm with ⟨c225,H⟩ | ⟨c225,H⟩
  ·refine Cf (df c225)<|Ex ?_
   obtain ⟨c230,H⟩:=ifS H
   obtain ⟨c231,H⟩:=ifS H
   exact Rh hN [I (x4.length:Int),(K .u8) (rd x4 (wrap64 ((x4.length:Int) - 1))),(K .u8) (rd x4 (wrap64 ((x4.length:Int) - 1))),(K .u8) (Go.bits .and .u8 (rd x4 (wrap64 ((x4.length:Int) - 1))) 127),.row (some 5) 1 (List.map (K .u8) (x4.set ((wrap64 ((x4.length:Int) - 1)):Int).toNat (Go.bits .and .u8 (rd x4 (wrap64 ((x4.length:Int) - 1))) 127)))] (.cons (lenM (K .u8) x4) (.cons c230 (.cons (ltM (K .u8) c231) (.cons (atM (K .u8) (0:Int) c230 c231) (.cons c230 (.cons (ltM (K .u8) c231) (.cons (atM (K .u8) (0:Int) c230 c231) (.cons (Fit.refl ((K .u8) (Go.bits .and .u8 (rd x4 (wrap64 ((x4.length:Int) - 1))) 127))) (.cons (setM (K .u8) (l:=x4) (n:=((wrap64 ((x4.length:Int) - 1)):Int).toNat) (x:=Go.bits .and .u8 (rd x4 (wrap64 ((x4.length:Int) - 1))) 127)) .nil)))))))))<|⟨k,by omega,(x4.set ((wrap64 ((x4.length:Int) - 1)):Int).toNat (Go.bits .and .u8 (rd x4 (wrap64 ((x4.length:Int) - 1))) 127)),x1000,x1001,x1002,x1003,Wo [(1,0),(4,0)],H⟩
  refine Ct (dt c225)<|Sk<|Sw<|Bl<|Sw ?_
  obtain ⟨c226,H⟩:=ifS H
  refine Rh hN [] (.cons c226 .nil)<|Sw<|Sw<|Rg hN ?_
  rcases ifC H with ⟨c227,H⟩ | ⟨c227,H⟩
  ·exact Ct (bq c227)<|Ex<|Rg hN<|⟨k,by omega,x4,wrap64 (x6 - 7),x1000,x1001,x1002,x1003,by omega,Wo [(1,0),(4,0),(6,0)],H⟩
  refine Cf (bn c227)<|Sk ?_
  obtain ⟨c228,H⟩:=ifS H
  exact Rh hN [.kb true,.row (some 5) 1 (List.map (K .u8) (x4++[(Go.bits .or .i64 (Go.bits .and .i64 (shr .i64 x1001 x6) 127) 128) % 256]))] (.cons (fitM (K .u8) x4 [(Go.bits .or .i64 (Go.bits .and .i64 (shr .i64 x1001 x6) 127) 128) % 256] (.refl _)) (.cons (limM1 (K .u8) c228) .nil))<|Rg hN<|⟨k,by omega,(x4++[(Go.bits .or .i64 (Go.bits .and .i64 (shr .i64 x1001 x6) 127) 128) % 256]),wrap64 (x6 - 7),x1000,x1001,x1002,x1003,by omega,Wo [(1,0),(4,0),(6,0)],H⟩
 clear H
 rintro st ⟨n',hn',x4,x1000,x1001,x1002,x1003,W,H⟩
 rcases n' with _ | k
 ·cases H
 refine W.good ?_
 rw [head_Encode.j2] at H
 refine Sw<|Bl<|Sw<|Rg hN ?_
 rcases ifC H with ⟨c233,H⟩ | ⟨c233,H⟩
 ·refine Ct (dt c233) ?_
  obtain ⟨c234,H⟩:=ifS H
  refine Rh hN [.kb true,.row (some 5) 1 (List.map (K .u8) (x4++[(x1003) % 256]))] (.cons (fitM (K .u8) x4 [(x1003) % 256] (.refl _)) (.cons (limM1 (K .u8) c234) .nil))<|Sw<|Rh hN [S (strOfNums (x4++[(x1003) % 256]))] (.cons (strN (x4++[(x1003) % 256])) .nil) ?_
  cases H
  exact Rt dR
 refine Cf (df c233)<|Sw<|Rg hN ?_
 rcases ifC H with ⟨c236,H⟩ | ⟨c236,H⟩
 ·refine Ct (dt c236) ?_
  obtain ⟨c237,H⟩:=ifS H
  refine Rh hN [.kb true,.row (some 5) 1 (List.map (K .u8) (x4++[129,(x1003) % 256]))] (.cons (fitM (K .u8) x4 [129,(x1003) % 256] (.refl _)) (.cons (limMn (K .u8) c237) .nil))<|Sw<|Rh hN [S (strOfNums (x4++[129,(x1003) % 256]))] (.cons (strN (x4++[129,(x1003) % 256])) .nil) ?_
  cases H
  exact Rt dR
 refine Cf (df c236) ?_
 obtain ⟨c239,H⟩:=ifS H
 refine Rh hN [.kb true,.row (some 5) 1 (List.map (K .u8) (x4++[130,(x1003 / 256) % 256,(x1003) % 256]))] (.cons (show (0:Int)≤8 by decide) (.cons (fitM (K .u8) x4 [130,(x1003 / 256) % 256,(x1003) % 256] (.refl _)) (.cons (limMn (K .u8) c239) .nil)))<|Sw<|Rh hN [S (strOfNums (x4++[130,(x1003 / 256) % 256,(x1003) % 256]))] (.cons (strN (x4++[130,(x1003 / 256) % 256,(x1003) % 256])) .nil) ?_
 cases H
 exact Rt dR
def head_Size.f (k:Nat) (a0_0:Int) (a0_1:Int) (a0_2:Bool) (a0_3:Int):Option (Int):=(head_Encode.f k a0_0 a0_1 a0_2 a0_3).bind fun t241=>(some (t241.1.size:Int))
theorem head_Size.con {k:Nat} {a0_0:Int} {a0_1:Int} {a0_2:Bool} {a0_3:Int} {r:(Int)} (H:head_Size.f k a0_0 a0_1 a0_2 a0_3=some r):Con Tryd.prog 36 [.agg [I a0_0,I a0_1,B a0_2,I a0_3]] (I r):=by
 refine Cg Tryd.func36 rfl fun C hN hL=>?_
 unfold head_Size.f at H
 refine Sw<|Rg hN<|Sw ?_
 obtain ⟨t241,h242,H⟩:=bindS H
 refine Rh hN [.tup [S t241.1,I t241.2]] (.cons (head_Encode.con h242).c .nil)<|Sw<|Rg hN ?_
 cases H
 exact Rt dR
mutual
def tree_sizes.l0:Nat→List S41→List (Nat × Nat)→Int→Option (List (Nat × Nat) × Bool)
 | 0,_,_,_=>none
 | k+1,x0,x4,x5=>if x5≥0 then (if 0≤x5 then (if x5 < (x0.length:Int) then (tree_sizes.l1 k x0 x4 x5 (((rd_T41 x0 x5).f3).size:Int) ((rd_T41 x0 x5).f4) (((rd_T41 x0 x5).f4).length:Int) 0) else (none)) else (none)) else (some (x4,true))
def tree_sizes.l1:Nat→List S41→List (Nat × Nat)→Int→Int→List Int→Int→Int→Option (List (Nat × Nat) × Bool)
 | 0,_,_,_,_,_,_,_=>none
 | k+1,x0,x4,x5,x6,x30,x31,x32=>if x32 < x31 then (if 0≤x32 then (if x32 < (x30.length:Int) then (if 0≤(rd x30 x32) then (if (rd x30 x32) < (x4.length:Int) then (if fok ((rdOf ((0,0):Nat × Nat) x4 (rd x30 x32)).1) ((rdOf ((0,0):Nat × Nat) x4 (rd x30 x32)).2)=true then (if fiok (fadd ((rdOf ((0,0):Nat × Nat) x4 (rd x30 x32)).1) ((rdOf ((0,0):Nat × Nat) x4 (rd x30 x32)).2))=true then (tree_sizes.l1 k x0 x4 x5 (wrap64 (x6+(fint (fadd ((rdOf ((0,0):Nat × Nat) x4 (rd x30 x32)).1) ((rdOf ((0,0):Nat × Nat) x4 (rd x30 x32)).2))))) x30 x31 (wrap64 (x32+1))) else (none)) else (none)) else (none)) else (none)) else (none)) else (none)) else (if 0≤x5 then (if x5 < (x0.length:Int) then ((head_Size.f k ((rd_T41 x0 x5).f0) ((rd_T41 x0 x5).f1) ((rd_T41 x0 x5).f2) x6).bind fun t257=>(if t257=0 then (some (([]:List (Nat × Nat)),false)) else (if (wrap64 (t257+x6)) > 65535 then (some (([]:List (Nat × Nat)),false)) else (if x5 < (x4.length:Int) then (tree_sizes.l0 k x0 (x4.set (x5:Int).toNat (floatOfInt .f64 t257,floatOfInt .f64 x6)) (wrap64 (x5 - 1))) else (none))))) else (none)) else (none))
end
def tree_sizes.f (k:Nat) (l0:List S41):Option (List (Nat × Nat) × Bool):=if 0≤(l0.length:Int) then (if ((l0.length:Int):Int).toNat≤17592186044416 then (tree_sizes.l0 k l0 (List.replicate ((l0.length:Int):Int).toNat ((0,0):Nat × Nat)) (wrap64 ((l0.length:Int) - 1))) else (none)) else (none)
theorem tree_sizes.con {k:Nat} {l0:List S41} {r:(List (Nat × Nat) × Bool)} (H:tree_sizes.f k l0=some r):Con Tryd.prog 25 [.row none 5 (List.map (v41 0) l0)] (.tup [.row (some 53) 1 (List.map Cx r.1),B r.2]):=by
 refine Cg Tryd.func25 rfl fun C hN hL=>?_
 unfold tree_sizes.f at H
 refine Sw<|Rg hN<|Sw ?_
 obtain ⟨c243,H⟩:=ifS H
 obtain ⟨c244,H⟩:=ifS H
 refine Rh hN [I (l0.length:Int),.row (some 53) 1 (List.map Cx (List.replicate ((l0.length:Int):Int).toNat ((0,0):Nat × Nat)))] (.cons (lenM (v41 0) l0) (.cons c243 (.cons (Int.le_refl (l0.length:Int)) (.cons (natLe c244) (.cons (repM0 Cx (((l0.length:Int):Int).toNat) ((0,0):Nat × Nat)) .nil)))))<|Sw<|Sw<|Rh hN [I (l0.length:Int)] (.cons (lenM (v41 0) l0) .nil)<|Bl<|Good.loopN (fun k' st=>∃ (x0:List S41) (x4:List (Nat × Nat)) (x5:Int),k'≤k∧Wk C st ⟨[(0,.w (.row none 5 (List.map (v41 0) x0))),(4,.w (.row (some 53) 1 (List.map Cx x4))),(5,.w (I x5))],[]⟩∧tree_sizes.l0 k' x0 x4 x5=some r) k ⟨l0,List.replicate ((l0.length:Int):Int).toNat ((0,0):Nat × Nat),wrap64 ((l0.length:Int) - 1),Nat.le_refl _,Wo [(0,0),(4,0),(5,0)],H⟩ fun k=>⟨fun st h=>(by obtain ⟨_,_,_,_,_,H⟩:=h;cases H),?_⟩
 clear H
 rintro st ⟨x0,x4,x5,hk,W,H⟩
 refine W.good ?_
 rw [tree_sizes.l0] at H
 refine Sw<|Sw<|Rg hN ?_
 rcases (ifC H).symm with ⟨c245,H⟩ | ⟨c245,H⟩
 ·refine Cf (df c245)<|Ex<|Sw<|Rg hN ?_
  cases H
  exact Rt dR
 refine Ct (dt c245)<|Sk<|Sw<|Bl<|Sw ?_
 obtain ⟨c246,H⟩:=ifS H
 obtain ⟨c247,H⟩:=ifS H
 refine Rh hN [(v41 0) (rd_T41 x0 x5)] (.cons c246 (.cons (atM (v41 0) z41 c246 c247) .nil))<|Sw<|Sw<|Rh hN [(v41 0) (rd_T41 x0 x5),I (((rd_T41 x0 x5).f4).length:Int)] (.cons c246 (.cons (atM (v41 0) z41 c246 c247) (.cons (lenM I ((rd_T41 x0 x5).f4)) .nil)))<|Bl<|Good.loopN (fun k' st=>∃ (x0:List S41) (x4:List (Nat × Nat)) (x5:Int) (x6:Int) (x30:List Int) (x31:Int) (x32:Int),k'≤k∧Wk C st ⟨[(0,.w (.row none 5 (List.map (v41 0) x0))),(4,.w (.row (some 53) 1 (List.map Cx x4))),(5,.w (I x5)),(6,.w (I x6)),(30,.w (.row none 1 (List.map I x30))),(31,.w (I x31)),(32,.w (I x32))],[]⟩∧tree_sizes.l1 k' x0 x4 x5 x6 x30 x31 x32=some r) k ⟨x0,x4,x5,(((rd_T41 x0 x5).f3).size:Int),(rd_T41 x0 x5).f4,(((rd_T41 x0 x5).f4).length:Int),0,Nat.le_refl _,Wo [(0,0),(4,0),(5,0),(6,0),(30,0),(31,0),(32,0)],H⟩ fun k=>⟨fun st h=>(by obtain ⟨_,_,_,_,_,_,_,_,_,H⟩:=h;cases H),?_⟩
 clear H
 rintro st ⟨x0,x4,x5,x6,x30,x31,x32,hk,W,H⟩
 refine W.good ?_
 rw [tree_sizes.l1] at H
 refine Sw<|Rg hN<|Sw ?_
 rcases ifC H with ⟨c248,H⟩ | ⟨c248,H⟩
 ·refine Ct (dt c248)<|Sk<|Sw<|Bl<|Sw ?_
  obtain ⟨c249,H⟩:=ifS H
  obtain ⟨c250,H⟩:=ifS H
  refine Rh hN [I (rd x30 x32)] (.cons c249 (.cons (atM I (0:Int) c249 c250) .nil)) ?_
  obtain ⟨c251,H⟩:=ifS H
  obtain ⟨c252,H⟩:=ifS H
  obtain ⟨c253,H⟩:=ifS H
  obtain ⟨c254,H⟩:=ifS H
  exact Rd hm hN (.qs 14 0 (.q 14 [] .z)) [(4,some (.row none 1 (List.map Cx x4))),(6,none),(8,none)] (.cons (shrM (some 53) 1 Cx Cx x4 (fun _=>rfl)) .nil) [Cx (rdOf ((0,0):Nat × Nat) x4 (rd x30 x32)),Cx (rdOf ((0,0):Nat × Nat) x4 (rd x30 x32))] [Cx (rdOf ((0,0):Nat × Nat) x4 (rd x30 x32)),Cx (rdOf ((0,0):Nat × Nat) x4 (rd x30 x32))] (.cons c251 (.cons (ltM Cx c252) (.cons (atM Cx ((0,0):Nat × Nat) c251 c252) (.cons c251 (.cons (ltM Cx c252) (.cons (atM Cx ((0,0):Nat × Nat) c251 c252) (.cons c253 (.cons c254 .nil)))))))) (.cons c251 (.cons (atM Cx ((0,0):Nat × Nat) c251 c252) (.cons c251 (.cons (atM Cx ((0,0):Nat × Nat) c251 c252) (.cons c253 (.cons c254 .nil)))))) [] []<|Rg hN<|⟨k,by omega,x0,x4,x5,wrap64 (x6+(fint (fadd ((rdOf ((0,0):Nat × Nat) x4 (rd x30 x32)).1) ((rdOf ((0,0):Nat × Nat) x4 (rd x30 x32)).2)))),x30,x31,wrap64 (x32+1),by omega,Wo [(0,0),(4,0),(5,0),(6,0),(30,0),(31,0),(32,0)],H⟩
 refine Cf (df c248)<|Ex<|Sw ?_
 obtain ⟨c255,H⟩:=ifS H
 obtain ⟨c256,H⟩:=ifS H
 obtain ⟨t257,h258,H⟩:=bindS H
 refine Rd hm hN (.qs 17 0 (.e 17 (.q 18 [] .z))) [(0,none),(5,none),(6,none)] .nil [(v41 0) (rd_T41 x0 x5),(v41 0) (rd_T41 x0 x5),(v41 0) (rd_T41 x0 x5),I t257] [(v41 0) (rd_T41 x0 x5),(v41 0) (rd_T41 x0 x5),(v41 0) (rd_T41 x0 x5)] (.cons c255 (.cons (atM (v41 0) z41 c255 c256) (.cons c255 (.cons (atM (v41 0) z41 c255 c256) (.cons c255 (.cons (atM (v41 0) z41 c255 c256) (.cons (head_Size.con h258).c .nil))))))) (.cons c255 (.cons (atM (v41 0) z41 c255 c256) (.cons c255 (.cons (atM (v41 0) z41 c255 c256) (.cons c255 (.cons (atM (v41 0) z41 c255 c256) .nil)))))) [] []<|Sw<|Sw ?_
 rcases ifC H with ⟨c259,H⟩ | ⟨c259,H⟩
 ·refine Rh hN [B true] (.cons (bq c259) .nil)<|Good.cond true (by kernel_rfl)<|Sw<|Rg hN ?_
  cases H
  exact Good.ret (fin_fit (u:=.tup [.nil 53 1,B false]) (.tup (.cons (.nilO 53 1) (.cons (.refl _) .nil))) (by kernel_rfl))
 refine Rh hN [B false] (.cons (bn c259) .nil) ?_
 rcases ifC H with ⟨c260,H⟩ | ⟨c260,H⟩
 ·refine Ct (dt c260)<|Sw<|Rg hN ?_
  cases H
  exact Good.ret (fin_fit (u:=.tup [.nil 53 1,B false]) (.tup (.cons (.nilO 53 1) (.cons (.refl _) .nil))) (by kernel_rfl))
 refine Cf (df c260)<|Sk ?_
 obtain ⟨c261,H⟩:=ifS H
 exact Rh hN [Cx (rdOf ((0,0):Nat × Nat) x4 x5),Cx (floatOfInt .f64 t257,floatOfInt .f64 x6),.row (some 53) 1 (List.map Cx (x4.set (x5:Int).toNat (floatOfInt .f64 t257,floatOfInt .f64 x6)))] (.cons c255 (.cons (ltM Cx c261) (.cons (atM Cx ((0,0):Nat × Nat) c255 c261) (.cons (Fit.refl (Cx (floatOfInt .f64 t257,floatOfInt .f64 x6))) (.cons (setM Cx (l:=x4) (n:=(x5:Int).toNat) (x:=(floatOfInt .f64 t257,floatOfInt .f64 x6))) .nil)))))<|Rg hN<|⟨k,by omega,x0,(x4.set (x5:Int).toNat (floatOfInt .f64 t257,floatOfInt .f64 x6)),wrap64 (x5 - 1),by omega,Wo [(0,0),(4,0),(5,0)],H⟩
def tree_Encode.l0:Nat→List (Nat × Nat)→List Int→List S41→Int→Int→Option (ByteArray × Int)
 | 0,_,_,_,_,_=>none
 | k+1,x4,x6,x21,x22,x23=>if x23 < x22 then (if 0≤x23 then (if x23 < (x21.length:Int) then (if x23 < (x4.length:Int) then (if fiok ((rdOf ((0,0):Nat × Nat) x4 x23).2)=true then ((head_Encode.f k ((rd_T41 x21 x23).f0) ((rd_T41 x21 x23).f1) ((rd_T41 x21 x23).f2) (fint ((rdOf ((0,0):Nat × Nat) x4 x23).2))).bind fun t291=>(if x6.length+t291.1.size < 140737488355328 then ((some (x6++bytesOf t291.1:List Int)).bind fun y294=>(if y294.length+((rd_T41 x21 x23).f3).size < 140737488355328 then (tree_Encode.l0 k x4 (y294++bytesOf ((rd_T41 x21 x23).f3)) x21 x22 (wrap64 (x23+1))) else (none))) else (none))) else (none)) else (none)) else (none)) else (none)) else (some (strOfNums x6,0))
def tree_Encode.f (k:Nat) (l0:List S41):Option (ByteArray × Int):=(tree_Right.f k l0).bind fun t280=>(if t280=true then ((tree_sizes.f k l0).bind fun t283=>(if t283.2=true then (tree_Encode.l0 k t283.1 ([]:List Int) l0 (l0.length:Int) 0) else (some ((⟨#[]⟩:ByteArray),4)))) else (some ((⟨#[]⟩:ByteArray),1)))
theorem tree_Encode.con {k:Nat} {l0:List S41} {r:(ByteArray × Int)} (H:tree_Encode.f k l0=some r):Con Tryd.prog 9 [.row none 5 (List.map (v41 0) l0)] (.tup [S r.1,I r.2]):=by
 refine Cg Tryd.func9 rfl fun C hN hL=>?_
 unfold tree_Encode.f at H
 refine Sw<|Rg hN<|Sw<|Sw ?_
 obtain ⟨t280,h281,H⟩:=bindS H
 refine Rh hN [B t280] (.cons (tree_Right.con h281).c .nil) ?_
 rcases (ifC H).symm with ⟨c282,H⟩ | ⟨c282,H⟩
 ·refine Ct (notT (bf c282))<|Sw<|Rg hN ?_
  cases H
  exact Rt dR
 refine Cf (notF c282)<|Sk<|Sw ?_
 obtain ⟨t283,h284,H⟩:=bindS H
 refine Rh hN [.tup [.row (some 53) 1 (List.map Cx t283.1),B t283.2]] (.cons (tree_sizes.con h284).c .nil)<|Sw<|Sw<|Rg hN ?_
 rcases (ifC H).symm with ⟨c285,H⟩ | ⟨c285,H⟩
 ·refine Ct (notT (bf c285))<|Sw<|Rg hN ?_
  cases H
  exact Rt dR
 refine Cf (notF c285)<|Sk<|Sw<|Rg hN<|Sw<|Sw<|Rh hN [I (l0.length:Int)] (.cons (lenM (v41 0) l0) .nil)<|Bl<|Good.loopN (fun k' st=>∃ (x4:List (Nat × Nat)) (x6:List Int) (x21:List S41) (x22:Int) (x23:Int),k'≤k∧Wk C st ⟨[(4,.w (.row (some 53) 1 (List.map Cx x4))),(6,.w (.row (some 5) 1 (List.map (K .u8) x6))),(21,.w (.row none 5 (List.map (v41 0) x21))),(22,.w (I x22)),(23,.w (I x23))],[]⟩∧tree_Encode.l0 k' x4 x6 x21 x22 x23=some r) k ⟨t283.1,([]:List Int),l0,(l0.length:Int),0,Nat.le_refl _,Wo [(4,0),(6,1),(21,0),(22,0),(23,0)],H⟩ fun k=>⟨fun st h=>(by obtain ⟨_,_,_,_,_,_,_,H⟩:=h;cases H),?_⟩
 clear H
 rintro st ⟨x4,x6,x21,x22,x23,hk,W,H⟩
 refine W.good ?_
 rw [tree_Encode.l0] at H
 refine Sw<|Rg hN<|Sw ?_
 rcases (ifC H).symm with ⟨c286,H⟩ | ⟨c286,H⟩
 ·refine Cf (df c286)<|Ex<|Sw<|Rh hN [S (strOfNums x6)] (.cons (strN x6) .nil) ?_
  cases H
  exact Rt dR
 refine Ct (dt c286)<|Sk<|Sw<|Bl<|Sw ?_
 obtain ⟨c287,H⟩:=ifS H
 obtain ⟨c288,H⟩:=ifS H
 refine Rh hN [(v41 0) (rd_T41 x21 x23)] (.cons c287 (.cons (atM (v41 0) z41 c287 c288) .nil))<|Sw ?_
 obtain ⟨c289,H⟩:=ifS H
 obtain ⟨c290,H⟩:=ifS H
 obtain ⟨t291,h292,H⟩:=bindS H
 refine Rd hm hN (.qs 13 0 (.e 13 (.qs 4 14 (.q 18 [] .z)))) [(4,some (.row none 1 (List.map Cx x4))),(7,none),(8,some (.pt [I ((rd_T41 x21 x23).f0),I ((rd_T41 x21 x23).f1),B ((rd_T41 x21 x23).f2),S ((rd_T41 x21 x23).f3),.row none 1 (List.map I ((rd_T41 x21 x23).f4))]))] (.cons (shrM (some 53) 1 Cx Cx x4 (fun _=>rfl)) (.cons (ptS (shrC (rfl:(V.shr (I ((rd_T41 x21 x23).f0)))=I ((rd_T41 x21 x23).f0)) (shrC (rfl:(V.shr (I ((rd_T41 x21 x23).f1)))=I ((rd_T41 x21 x23).f1)) (shrC (rfl:(V.shr (B ((rd_T41 x21 x23).f2)))=B ((rd_T41 x21 x23).f2)) (shrC (rfl:(V.shr (S ((rd_T41 x21 x23).f3)))=S ((rd_T41 x21 x23).f3)) (shrC (shrM none 1 I I ((rd_T41 x21 x23).f4) (fun _=>rfl)) (rfl:shrL []=[]))))))) .nil)) [Cx (rdOf ((0,0):Nat × Nat) x4 x23),.tup [S t291.1,I t291.2]] [Cx (rdOf ((0,0):Nat × Nat) x4 x23)] (.cons c287 (.cons (ltM Cx c289) (.cons (atM Cx ((0,0):Nat × Nat) c287 c289) (.cons c290 (.cons (head_Encode.con h292).c .nil))))) (.cons c287 (.cons (atM Cx ((0,0):Nat × Nat) c287 c289) (.cons c290 .nil))) [] [] ?_
 obtain ⟨c293,H⟩:=ifS H
 replace H:=bindI H
 obtain ⟨c295,H⟩:=ifS H
 exact Good.regTB (n:=2) hm hN hL (.q 0 [[],[2]] (.q 1 [[],[2]] (.i 3 (.b 2 [.kb false,.row (some 5) 1 (List.map (K .u8) (x6++bytesOf t291.1)),.kb false,.row (some 5) 1 (List.map (K .u8) ((x6++bytesOf t291.1)++bytesOf ((rd_T41 x21 x23).f3)))] [] (.e 4 (.e 5 (.e 6 .z))) [.kb false,.row (some 5) 1 (List.map (K .u8) (x6++bytesOf t291.1)),.kb false,.row (some 5) 1 (List.map (K .u8) ((x6++bytesOf t291.1)++bytesOf ((rd_T41 x21 x23).f3)))] [] (.e 4 (.e 2 (.e 5 (.e 6 .z)))))))) [(6,some (.row none 1 (List.map (K .u8) x6))),(8,some (.pt [I ((rd_T41 x21 x23).f0),I ((rd_T41 x21 x23).f1),B ((rd_T41 x21 x23).f2),S ((rd_T41 x21 x23).f3),.row none 1 (List.map I ((rd_T41 x21 x23).f4))])),(9,none)] (by kernel_rfl) (.cons (shrM (some 5) 1 (K .u8) (K .u8) x6 (fun _=>rfl)) (.cons (ptS (shrC (rfl:(V.shr (I ((rd_T41 x21 x23).f0)))=I ((rd_T41 x21 x23).f0)) (shrC (rfl:(V.shr (I ((rd_T41 x21 x23).f1)))=I ((rd_T41 x21 x23).f1)) (shrC (rfl:(V.shr (B ((rd_T41 x21 x23).f2)))=B ((rd_T41 x21 x23).f2)) (shrC (rfl:(V.shr (S ((rd_T41 x21 x23).f3)))=S ((rd_T41 x21 x23).f3)) (shrC (shrM none 1 I I ((rd_T41 x21 x23).f4) (fun _=>rfl)) (rfl:shrL []=[]))))))) .nil)) [] [] (.cons (.cons (fitB x6 t291.1) (.cons (limB (K .u8) c293) (.cons (fitB (x6++bytesOf t291.1) ((rd_T41 x21 x23).f3)) (.cons (limB (K .u8) c295) .nil)))) .nil (.cons (.cons (fitB x6 t291.1) (.cons (limB (K .u8) c293) (.cons (fitB (x6++bytesOf t291.1) ((rd_T41 x21 x23).f3)) (.cons (limB (K .u8) c295) .nil)))) .nil .nil)) [] [] (by kernel_rfl) (by kernel_rfl) [[],[]] [(4,0),(6,0),(21,0),(22,0),(23,0)] [(4,.w (.row (some 53) 1 (List.map Cx x4))),(6,.w (.row (some 5) 1 (List.map (K .u8) ((x6++bytesOf t291.1)++bytesOf ((rd_T41 x21 x23).f3))))),(21,.w (.row none 5 (List.map (v41 0) x21))),(22,.w (I x22)),(23,.w (I x23))] [.cells [.v (I ((rd_T41 x21 x23).f0)),.v (I ((rd_T41 x21 x23).f1)),.v (B ((rd_T41 x21 x23).f2)),.v (S ((rd_T41 x21 x23).f3)),.v (.row none 1 (List.map I ((rd_T41 x21 x23).f4)))]] (by kernel_rfl) (by kernel_rfl)<|Rg hN<|⟨k,by omega,x4,((x6++bytesOf t291.1)++bytesOf ((rd_T41 x21 x23).f3)),x21,x22,wrap64 (x23+1),by omega,Wk.ofB hL 0 [(4,0),(6,0),(21,0),(22,0),(23,0)] (by kernel_rfl) (by kernel_rfl) (by kernel_rfl),H⟩
def tree_Size.f (k:Nat) (l0:List S41):Option (Int):=(tree_Encode.f k l0).bind fun t297=>(some (t297.1.size:Int))
theorem tree_Size.con {k:Nat} {l0:List S41} {r:(Int)} (H:tree_Size.f k l0=some r):Con Tryd.prog 13 [.row none 5 (List.map (v41 0) l0)] (I r):=by
 refine Cg Tryd.func13 rfl fun C hN hL=>?_
 unfold tree_Size.f at H
 refine Sw<|Rg hN<|Sw ?_
 obtain ⟨t297,h298,H⟩:=bindS H
 refine Rh hN [.tup [S t297.1,I t297.2]] (.cons (tree_Encode.con h298).c .nil)<|Sw<|Rg hN ?_
 cases H
 exact Rt dR
def tree_Depth.f (k:Nat) (l0:List S41):Option (Int):=(tree_depth.f k l0).bind fun t299=>(some t299)
theorem tree_Depth.con {k:Nat} {l0:List S41} {r:(Int)} (H:tree_Depth.f k l0=some r):Con Tryd.prog 14 [.row none 5 (List.map (v41 0) l0)] (I r):=by
 refine Cg Tryd.func14 rfl fun C hN hL=>?_
 unfold tree_Depth.f at H
 refine Sw<|Rg hN<|Sw ?_
 obtain ⟨t299,h300,H⟩:=bindS H
 refine Rh hN [I t299] (.cons (tree_depth.con h300).c .nil) ?_
 cases H
 exact Rt dR
def tree_end.l0:Nat→List S41→Int→Option (Int)
 | 0,_,_=>none
 | k+1,x0,x1=>if 0≤x1 then (if x1 < (x0.length:Int) then (if (((rd_T41 x0 x1).f4).length:Int) > 0 then (if 0≤(wrap64 ((((rd_T41 x0 x1).f4).length:Int) - 1)) then (if (wrap64 ((((rd_T41 x0 x1).f4).length:Int) - 1)) < (((rd_T41 x0 x1).f4).length:Int) then (tree_end.l0 k x0 (rd ((rd_T41 x0 x1).f4) (wrap64 ((((rd_T41 x0 x1).f4).length:Int) - 1)))) else (none)) else (none)) else (some (wrap64 (x1+1)))) else (none)) else (none)
def tree_end.f (k:Nat) (l0:List S41) (a1:Int):Option (Int):=tree_end.l0 k l0 a1
theorem tree_end.con {k:Nat} {l0:List S41} {a1:Int} {r:(Int)} (H:tree_end.f k l0 a1=some r):Con Tryd.prog 32 [.row none 5 (List.map (v41 0) l0),I a1] (I r):=by
 refine Cg Tryd.func32 rfl fun C hN hL=>?_
 unfold tree_end.f at H
 refine Sw<|Rg hN<|Sw<|Bl<|Good.loopN (fun k' st=>∃ (x0:List S41) (x1:Int),k'≤k∧Wk C st ⟨[(0,.w (.row none 5 (List.map (v41 0) x0))),(1,.w (I x1))],[]⟩∧tree_end.l0 k' x0 x1=some r) k ⟨l0,a1,Nat.le_refl _,Wo [(0,0),(1,0)],H⟩ fun k=>⟨fun st h=>(by obtain ⟨_,_,_,_,H⟩:=h;cases H),?_⟩
 clear H
 rintro st ⟨x0,x1,hk,W,H⟩
 refine W.good ?_
 rw [tree_end.l0] at H
 refine Sw<|Sw ?_
 obtain ⟨c301,H⟩:=ifS H
 obtain ⟨c302,H⟩:=ifS H
 refine Rh hN [(v41 0) (rd_T41 x0 x1),I (((rd_T41 x0 x1).f4).length:Int)] (.cons c301 (.cons (atM (v41 0) z41 c301 c302) (.cons (lenM I ((rd_T41 x0 x1).f4)) .nil))) ?_
 rcases (ifC H).symm with ⟨c303,H⟩ | ⟨c303,H⟩
 ·refine Cf (df c303)<|Ex<|Sw<|Rg hN ?_
  cases H
  exact Rt dR
 refine Ct (dt c303)<|Sk<|Bl ?_
 obtain ⟨c304,H⟩:=ifS H
 obtain ⟨c305,H⟩:=ifS H
 exact Rd hm hN (.qs 14 0 (.q 14 [] .z)) [(0,none),(1,none)] .nil [(v41 0) (rd_T41 x0 x1),(v41 0) (rd_T41 x0 x1),I (((rd_T41 x0 x1).f4).length:Int),I (rd ((rd_T41 x0 x1).f4) (wrap64 ((((rd_T41 x0 x1).f4).length:Int) - 1)))] [(v41 0) (rd_T41 x0 x1),(v41 0) (rd_T41 x0 x1),I (((rd_T41 x0 x1).f4).length:Int),I (rd ((rd_T41 x0 x1).f4) (wrap64 ((((rd_T41 x0 x1).f4).length:Int) - 1)))] (.cons c301 (.cons (atM (v41 0) z41 c301 c302) (.cons c301 (.cons (atM (v41 0) z41 c301 c302) (.cons (lenM I ((rd_T41 x0 x1).f4)) (.cons c304 (.cons (atM I (0:Int) c304 c305) .nil))))))) (.cons c301 (.cons (atM (v41 0) z41 c301 c302) (.cons c301 (.cons (atM (v41 0) z41 c301 c302) (.cons (lenM I ((rd_T41 x0 x1).f4)) (.cons c304 (.cons (atM I (0:Int) c304 c305) .nil))))))) [] []<|⟨k,by omega,x0,rd ((rd_T41 x0 x1).f4) (wrap64 ((((rd_T41 x0 x1).f4).length:Int) - 1)),by omega,Wo [(0,0),(1,0)],H⟩
def slices_Clone_int_int.f (l0:List Int):Option (List Int):=if ([]:List Int).length+l0.length < 17592186044416 then (some (([]:List Int)++l0)) else (none)
theorem slices_Clone_int_int.con {l0:List Int} {r:(List Int)} (H:slices_Clone_int_int.f l0=some r):Con Tryd.prog 41 [.row none 1 (List.map I l0)] (.row (some 3) 1 (List.map I r)):=by
 refine Cg Tryd.func41 rfl fun C hN hL=>?_
 unfold slices_Clone_int_int.f at H
 refine Sw<|Rg hN<|Sw<|Sw<|Good.regNil 1 4 0 (List.map I l0) hN [] .nil (by kernel_rfl) (by kernel_rfl) (fun hes=>?_) ?_
 ·refine Good.cond true (by kernel_rfl)<|Sw<|Rg hN ?_
  obtain rfl:l0=[]:=List.map_eq_nil_iff.1 hes
  obtain ⟨_,H⟩:=ifS H
  cases H
  exact Good.ret (fin_fit (u:=.nil 3 1) (.nilO 3 1) (by kernel_rfl))
 refine Good.cond false (by kernel_rfl)<|Sk<|Sw ?_
 obtain ⟨c306,H⟩:=ifS H
 refine Rh hN [.kb false,.row (some 3) 1 (List.map I (([]:List Int)++l0))] (.cons (fitM I ([]:List Int) l0 (.refl _)) (.cons (limM2 I I c306) .nil)) ?_
 cases H
 exact Rt dR
def tree_moved.l0:Nat→Int→Int→Int→Int→Int→Bool→ByteArray→List Int→Option (Int × Int × Bool × ByteArray × List Int)
 | 0,_,_,_,_,_,_,_,_=>none
 | k+1,x1,x12,x13,x1000,x1001,x1002,x1003,x1004=>if x13 < x12 then (if 0≤x13 then (if x13 < (x1004.length:Int) then (tree_moved.l0 k x1 x12 (wrap64 (x13+1)) x1000 x1001 x1002 x1003 (x1004.set (x13:Int).toNat (wrap64 ((rd x1004 x13)+x1)))) else (none)) else (none)) else (some (x1000,x1001,x1002,x1003,x1004))
def tree_moved.f (k:Nat) (a0_0:Int) (a0_1:Int) (a0_2:Bool) (a0_3:ByteArray) (l0_4:List Int) (a1:Int):Option (Int × Int × Bool × ByteArray × List Int):=(slices_Clone_int_int.f l0_4).bind fun t308=>(tree_moved.l0 k a1 (t308.length:Int) 0 a0_0 a0_1 a0_2 a0_3 t308)
theorem tree_moved.con {k:Nat} {a0_0:Int} {a0_1:Int} {a0_2:Bool} {a0_3:ByteArray} {l0_4:List Int} {a1:Int} {r:(Int × Int × Bool × ByteArray × List Int)} (H:tree_moved.f k a0_0 a0_1 a0_2 a0_3 l0_4 a1=some r):Con Tryd.prog 33 [.agg [I a0_0,I a0_1,B a0_2,S a0_3,.row none 1 (List.map I l0_4)],I a1] (.agg [I r.1,I r.2.1,B r.2.2.1,S r.2.2.2.1,.row (some 3) 1 (List.map I r.2.2.2.2)]):=by
 refine Cg Tryd.func33 rfl fun C hN hL=>?_
 unfold tree_moved.f at H
 refine Sw<|Rg hN<|Sw ?_
 obtain ⟨t308,h309,H⟩:=bindS H
 refine Rh hN [.row (some 3) 1 (List.map I t308)] (.cons (slices_Clone_int_int.con h309).c .nil)<|Sw<|Sw<|Rh hN [I (t308.length:Int)] (.cons (lenM I t308) .nil)<|Bl<|Good.loopN (fun k' st=>∃ (x1:Int) (x12:Int) (x13:Int) (x1000:Int) (x1001:Int) (x1002:Bool) (x1003:ByteArray) (x1004:List Int) (x2000:Int) (x2001:Int) (x2002:Bool) (x2003:ByteArray),k'≤k∧Wk C st ⟨[(1,.w (I x1)),(2,.d (.ptr 0 0)),(4,.d (.ptr 1 0)),(12,.w (I x12)),(13,.w (I x13))],[.cells [.v (I x1000),.v (I x1001),.v (B x1002),.v (S x1003),.v (.row (some 3) 1 (List.map I x1004))],.cells [.v (I x2000),.v (I x2001),.v (B x2002),.v (S x2003),.v (.nil 3 1)]]⟩∧tree_moved.l0 k' x1 x12 x13 x1000 x1001 x1002 x1003 x1004=some r) k ⟨a1,(t308.length:Int),0,a0_0,a0_1,a0_2,a0_3,t308,0,0,false,(⟨#[]⟩:ByteArray),Nat.le_refl _,Wo [(1,0),(2,0),(4,0),(12,0),(13,0)],H⟩ fun k=>⟨fun st h=>(by obtain ⟨_,_,_,_,_,_,_,_,_,_,_,_,_,_,H⟩:=h;cases H),?_⟩
 clear H
 rintro st ⟨x1,x12,x13,x1000,x1001,x1002,x1003,x1004,x2000,x2001,x2002,x2003,hk,W,H⟩
 refine W.good ?_
 rw [tree_moved.l0] at H
 refine Sw<|Rg hN<|Sw ?_
 rcases (ifC H).symm with ⟨c310,H⟩ | ⟨c310,H⟩
 ·refine Cf (df c310)<|Ex<|Sw<|Rg hN ?_
  cases H
  exact Rt dR
 refine Ct (dt c310)<|Sk<|Sw<|Bl<|Sw<|Rg hN ?_
 obtain ⟨c311,H⟩:=ifS H
 obtain ⟨c312,H⟩:=ifS H
 exact Rh hN [I (rd x1004 x13),I (rd x1004 x13),I (wrap64 ((rd x1004 x13)+x1)),.row (some 3) 1 (List.map I (x1004.set (x13:Int).toNat (wrap64 ((rd x1004 x13)+x1))))] (.cons c311 (.cons (ltM I c312) (.cons (atM I (0:Int) c311 c312) (.cons c311 (.cons (ltM I c312) (.cons (atM I (0:Int) c311 c312) (.cons (Fit.refl (I (wrap64 ((rd x1004 x13)+x1)))) (.cons (setM I (l:=x1004) (n:=(x13:Int).toNat) (x:=wrap64 ((rd x1004 x13)+x1))) .nil))))))))<|Rg hN<|⟨k,by omega,x1,x12,wrap64 (x13+1),x1000,x1001,x1002,x1003,(x1004.set (x13:Int).toNat (wrap64 ((rd x1004 x13)+x1))),x2000,x2001,x2002,x2003,by omega,Wo [(1,0),(2,0),(4,0),(12,0),(13,0)],H⟩
def tree_Sub.l0:Nat→Int→List S41→List S41→Int→Int→Option (List S41)
 | 0,_,_,_,_,_=>none
 | k+1,x1,x5,x26,x27,x28=>if x28 < x27 then (if 0≤x28 then (if x28 < (x26.length:Int) then ((tree_moved.f k ((rd_T41 x26 x28).f0) ((rd_T41 x26 x28).f1) ((rd_T41 x26 x28).f2) ((rd_T41 x26 x28).f3) ((rd_T41 x26 x28).f4) (wrap64 (-x1))).bind fun t344=>(if x5.length < 2199023255552 then (tree_Sub.l0 k x1 (x5++[(⟨t344.1,t344.2.1,t344.2.2.1,t344.2.2.2.1,t344.2.2.2.2⟩:S41)]) x26 x27 (wrap64 (x28+1))) else (none))) else (none)) else (none)) else (some x5)
def tree_Sub.j0:Nat→List S41→Int→Bool→Option (List S41)
 | 0,_,_,_=>none
 | k+1,x0,x1,x20=>if x20=true then (some ([]:List S41)) else ((tree_end.f k x0 x1).bind fun t336=>(if 0≤x1 then (if x1≤t336 then (if t336≤(x0.length:Int) then (tree_Sub.l0 k x1 ([]:List S41) ((x0.take (t336:Int).toNat).drop (x1:Int).toNat) (((x0.take (t336:Int).toNat).drop (x1:Int).toNat).length:Int) 0) else (none)) else (none)) else (none)))
def tree_Sub.f (k:Nat) (l0:List S41) (a1:Int):Option (List S41):=if a1 < 0 then (tree_Sub.j0 k l0 a1 true) else (if a1≥(l0.length:Int) then (tree_Sub.j0 k l0 a1 true) else ((tree_Right.f k l0).bind fun t333=>(tree_Sub.j0 k l0 a1 (!t333))))
theorem tree_Sub.con {k:Nat} {l0:List S41} {a1:Int} {r:(List S41)} (H:tree_Sub.f k l0 a1=some r):Con Tryd.prog 17 [.row none 5 (List.map (v41 0) l0),I a1] (.row (some 41) 5 (List.map (v41 1) r)):=by
 refine Cg Tryd.func17 rfl fun C hN hL=>?_
 unfold tree_Sub.f at H
 refine Sw<|Rg hN<|Sw<|Sw<|Good.cut (fun st=>∃ n':Nat,n'≤k∧∃ (x0:List S41) (x1:Int) (x20:Bool),Wk C st ⟨[(0,.w (.row none 5 (List.map (v41 0) x0))),(1,.w (I x1)),(20,.w (B x20))],[]⟩∧tree_Sub.j0 n' x0 x1 x20=some r) ?_ ?_
 ·rcases ifC H with ⟨c331,H⟩ | ⟨c331,H⟩
  ·exact Rh hN [B true,B true] (.cons (dt c331) (.cons (rfl:true=true) .nil))<|⟨k,by omega,l0,a1,true,Wo [(0,0),(1,0),(20,0)],H⟩
  rcases ifC H with ⟨c332,H⟩ | ⟨c332,H⟩
  ·exact Rh hN [B false,I (l0.length:Int),B true] (.cons (df c331) (.cons (lenM (v41 0) l0) (.cons (dt c332) .nil)))<|⟨k,by omega,l0,a1,true,Wo [(0,0),(1,0),(20,0)],H⟩
  obtain ⟨t333,h334,H⟩:=bindS H
  exact Rh hN [B false,I (l0.length:Int),B false,B t333] (.cons (df c331) (.cons (lenM (v41 0) l0) (.cons (df c332) (.cons (tree_Right.con h334).c .nil))))<|⟨k,by omega,l0,a1,!t333,Wo [(0,0),(1,0),(20,0)],H⟩
 clear H
 rintro st ⟨n',hn',x0,x1,x20,W,H⟩
 rcases n' with _ | k
 ·cases H
 refine W.good ?_
 rw [tree_Sub.j0] at H
 rcases ifC H with ⟨c335,H⟩ | ⟨c335,H⟩
 ·refine Ct c335<|Sw<|Rg hN ?_
  cases H
  exact Good.ret (fin_fit (u:=.nil 41 5) (.nilO 41 5) (by kernel_rfl))
 refine Cf (bf c335)<|Sk<|Sw<|Rg hN<|Sw<|Sw ?_
 obtain ⟨t336,h337,H⟩:=bindS H
 obtain ⟨c338,H⟩:=ifS H
 obtain ⟨c339,H⟩:=ifS H
 obtain ⟨c340,H⟩:=ifS H
 refine Rh hN [I t336,.row none 5 (List.map (v41 0) ((x0.take (t336:Int).toNat).drop (x1:Int).toNat)),I (((x0.take (t336:Int).toNat).drop (x1:Int).toNat).length:Int)] (.cons (tree_end.con h337).c (.cons c338 (.cons c339 (.cons (leM (v41 0) c340) (.cons (cutM (v41 0) (l:=x0) (n:=(x1:Int).toNat) (m:=(t336:Int).toNat)) (.cons (lenM (v41 0) ((x0.take (t336:Int).toNat).drop (x1:Int).toNat)) .nil))))))<|Bl<|Good.loopN (fun k' st=>∃ (x1:Int) (x5:List S41) (x26:List S41) (x27:Int) (x28:Int),k'≤k∧Wk C st ⟨[(1,.w (I x1)),(5,.w (.row (some 41) 5 (List.map (v41 1) x5))),(26,.w (.row none 5 (List.map (v41 0) x26))),(27,.w (I x27)),(28,.w (I x28))],[]⟩∧tree_Sub.l0 k' x1 x5 x26 x27 x28=some r) k ⟨x1,([]:List S41),(x0.take (t336:Int).toNat).drop (x1:Int).toNat,(((x0.take (t336:Int).toNat).drop (x1:Int).toNat).length:Int),0,Nat.le_refl _,Wo [(1,0),(5,1),(26,0),(27,0),(28,0)],H⟩ fun k=>⟨fun st h=>(by obtain ⟨_,_,_,_,_,_,_,H⟩:=h;cases H),?_⟩
 clear H
 rintro st ⟨x1,x5,x26,x27,x28,hk,W,H⟩
 refine W.good ?_
 rw [tree_Sub.l0] at H
 refine Sw<|Rg hN<|Sw ?_
 rcases (ifC H).symm with ⟨c341,H⟩ | ⟨c341,H⟩
 ·refine Cf (df c341)<|Ex<|Sw<|Rg hN ?_
  cases H
  exact Rt dR
 refine Ct (dt c341)<|Sk<|Sw<|Bl<|Sw ?_
 obtain ⟨c342,H⟩:=ifS H
 obtain ⟨c343,H⟩:=ifS H
 refine Rh hN [(v41 0) (rd_T41 x26 x28)] (.cons c342 (.cons (atM (v41 0) z41 c342 c343) .nil)) ?_
 obtain ⟨t344,h345,H⟩:=bindS H
 obtain ⟨c346,H⟩:=ifS H
 exact Ri hN [.agg [I t344.1,I t344.2.1,B t344.2.2.1,S t344.2.2.2.1,.row (some 3) 1 (List.map I t344.2.2.2.2)],.tup [],.kb true,.row (some 41) 5 (List.map (v41 1) (x5++[(⟨t344.1,t344.2.1,t344.2.2.1,t344.2.2.2.1,t344.2.2.2.2⟩:S41)]))] (.cons (congrArg (Value.int .i64) ((wrapK_eq .i64 (0 - x1)).symm.trans (congrArg wrap64 (Int.zero_sub x1)))) (.cons (tree_moved.con h345).c (.cons (fitM (v41 1) x5 [(⟨t344.1,t344.2.1,t344.2.2.1,t344.2.2.2.1,t344.2.2.2.2⟩:S41)] (.refl _)) (.cons (limM1 (v41 1) c346) .nil)))) [(35,.int .i64 (wrap64 (-x1)))]<|Rg hN<|⟨k,by omega,x1,(x5++[(⟨t344.1,t344.2.1,t344.2.2.1,t344.2.2.2.1,t344.2.2.2.2⟩:S41)]),x26,x27,wrap64 (x28+1),by omega,Wk.ofB hL 0 [(1,0),(5,0),(26,0),(27,0),(28,0)] (by kernel_rfl) (by kernel_rfl) (by kernel_rfl),H⟩
mutual
def tree_Of.l0:Nat→List S41→List (List S41)→Int→Int→Option (List S41)
 | 0,_,_,_,_=>none
 | k+1,x7,x17,x18,x19=>if x19 < x18 then (if 0≤x19 then (if x19 < (x17.length:Int) then (if ((rd_L41 x17 x19).length:Int) > 0 then (if 0 < (x7.length:Int) then (if ((rd_T41 x7 0).f4).length < 17592186044416 then (tree_Of.j1 k (x7.set (0:Int).toNat (⟨(rd_T41 x7 0).f0,(rd_T41 x7 0).f1,(rd_T41 x7 0).f2,(rd_T41 x7 0).f3,(((rd_T41 x7 0).f4)++[(x7.length:Int)])⟩:S41)) (rd_L41 x17 x19) (x7.length:Int) x17 x18 x19) else (none)) else (none)) else (tree_Of.j1 k x7 (rd_L41 x17 x19) (x7.length:Int) x17 x18 x19)) else (none)) else (none)) else (some x7)
def tree_Of.j1:Nat→List S41→List S41→Int→List (List S41)→Int→Int→Option (List S41)
 | 0,_,_,_,_,_,_=>none
 | k+1,x7,x9,x10,x17,x18,x19=>tree_Of.l1 k x7 x10 x17 x18 x19 x9 (x9.length:Int) 0
def tree_Of.l1:Nat→List S41→Int→List (List S41)→Int→Int→List S41→Int→Int→Option (List S41)
 | 0,_,_,_,_,_,_,_,_=>none
 | k+1,x7,x10,x17,x18,x19,x38,x39,x40=>if x40 < x39 then (if 0≤x40 then (if x40 < (x38.length:Int) then ((tree_moved.f k ((rd_T41 x38 x40).f0) ((rd_T41 x38 x40).f1) ((rd_T41 x38 x40).f2) ((rd_T41 x38 x40).f3) ((rd_T41 x38 x40).f4) x10).bind fun t364=>(if x7.length < 2199023255552 then (tree_Of.l1 k (x7++[(⟨t364.1,t364.2.1,t364.2.2.1,t364.2.2.2.1,t364.2.2.2.2⟩:S41)]) x10 x17 x18 x19 x38 x39 (wrap64 (x40+1))) else (none))) else (none)) else (none)) else (tree_Of.l0 k x7 x17 x18 (wrap64 (x19+1)))
end
def tree_Of.f (k:Nat) (a0:Int) (a1:Int) (l2:List (List S41)):Option (List S41):=tree_Of.l0 k ([(⟨a0,a1,true,(⟨#[]⟩:ByteArray),([]:List Int)⟩:S41)]:List S41) l2 (l2.length:Int) 0
theorem tree_Of.con {k:Nat} {a0:Int} {a1:Int} {l2:List (List S41)} {r:(List S41)} (H:tree_Of.f k a0 a1 l2=some r):Con Tryd.prog 19 [I a0,I a1,.row none 1 (List.map (vL41 0) l2)] (.row (some 41) 5 (List.map (v41 1) r)):=by
 refine Cg Tryd.func19 rfl fun C hN hL=>?_
 unfold tree_Of.f at H
 refine Sw<|Rg hN<|Sw<|Rj hN [] (.cons (fitR (o:=some 41) (sz:=5) (n:=[.agg [I a0,I a1,B true,S (⟨#[]⟩:ByteArray),.row (some 3) 1 (List.map I ([]:List Int))]]) (.cons (.agg (.cons (.refl _) (.cons (.refl _) (.cons (.refl _) (.cons (.refl _) (.cons (.nilO 3 1) .nil)))))) .nil)) .nil) [] [(16,.row (some 41) 5 (List.map (v41 1) ([(⟨a0,a1,true,(⟨#[]⟩:ByteArray),([]:List Int)⟩:S41)]:List S41)))]<|Sw<|Sw<|Rh hN [I (l2.length:Int)] (.cons (lenM (vL41 0) l2) .nil)<|Bl<|Good.loopN (fun k' st=>∃ (x7:List S41) (x17:List (List S41)) (x18:Int) (x19:Int),k'≤k∧Wk C st ⟨[(7,.w (.row (some 41) 5 (List.map (v41 1) x7))),(17,.w (.row none 1 (List.map (vL41 0) x17))),(18,.w (I x18)),(19,.w (I x19))],[]⟩∧tree_Of.l0 k' x7 x17 x18 x19=some r) k ⟨([(⟨a0,a1,true,(⟨#[]⟩:ByteArray),([]:List Int)⟩:S41)]:List S41),l2,(l2.length:Int),0,Nat.le_refl _,Wo [(7,0),(17,0),(18,0),(19,0)],H⟩ fun k=>⟨fun st h=>(by obtain ⟨_,_,_,_,_,_,H⟩:=h;cases H),?_⟩
 clear H
 rintro st ⟨x7,x17,x18,x19,hk,W,H⟩
 refine W.good ?_
 rw [tree_Of.l0] at H
 refine Sw<|Rg hN<|Sw ?_
 rcases (ifC H).symm with ⟨c353,H⟩ | ⟨c353,H⟩
 ·refine Cf (df c353)<|Ex<|Sw<|Rg hN ?_
  cases H
  exact Rt dR
 refine Ct (dt c353)<|Sk<|Sw<|Bl<|Sw ?_
 obtain ⟨c354,H⟩:=ifS H
 obtain ⟨c355,H⟩:=ifS H
 refine Rh hN [(vL41 0) (rd_L41 x17 x19)] (.cons c354 (.cons (atM (vL41 0) ([]:List S41) c354 c355) .nil))<|Sw<|Rh hN [I (x7.length:Int)] (.cons (lenM (v41 1) x7) .nil)<|Sw<|Sw<|Rh hN [I ((rd_L41 x17 x19).length:Int)] (.cons (lenM (v41 0) (rd_L41 x17 x19)) .nil)<|Good.cut (fun st=>∃ n':Nat,n'≤k∧∃ (x7:List S41) (x9:List S41) (x10:Int) (x17:List (List S41)) (x18:Int) (x19:Int),Wk C st ⟨[(7,.w (.row (some 41) 5 (List.map (v41 1) x7))),(9,.w (.row none 5 (List.map (v41 0) x9))),(10,.w (I x10)),(17,.w (.row none 1 (List.map (vL41 0) x17))),(18,.w (I x18)),(19,.w (I x19))],[]⟩∧tree_Of.j1 n' x7 x9 x10 x17 x18 x19=some r) ?_ ?_
 ·rcases (ifC H).symm with ⟨c356,H⟩ | ⟨c356,H⟩
  ·exact Cf (df c356)<|Sk<|⟨k,by omega,x7,rd_L41 x17 x19,(x7.length:Int),x17,x18,x19,Wo [(7,0),(9,0),(10,0),(17,0),(18,0),(19,0)],H⟩
  refine Ct (dt c356) ?_
  obtain ⟨c357,H⟩:=ifS H
  obtain ⟨c358,H⟩:=ifS H
  exact Rh hN [(v41 1) (rd_T41 x7 0),.kb true,(v41 1) (rd_T41 x7 0),.row (some 3) 1 (List.map I (((rd_T41 x7 0).f4)++[(x7.length:Int)])),setC ((v41 1) (rd_T41 x7 0)) 4 [.any],(v41 1) (⟨(rd_T41 x7 0).f0,(rd_T41 x7 0).f1,(rd_T41 x7 0).f2,(rd_T41 x7 0).f3,(((rd_T41 x7 0).f4)++[(x7.length:Int)])⟩:S41),.row (some 41) 5 (List.map (v41 1) (x7.set (0:Int).toNat (⟨(rd_T41 x7 0).f0,(rd_T41 x7 0).f1,(rd_T41 x7 0).f2,(rd_T41 x7 0).f3,(((rd_T41 x7 0).f4)++[(x7.length:Int)])⟩:S41)))] (.cons (show (0:Int)≤0 by decide) (.cons (ltM (v41 1) c357) (.cons (atM (v41 1) z41 (show (0:Int)≤0 by decide) c357) (.cons (atM (v41 1) z41 (show (0:Int)≤0 by decide) c357) (.cons (fitM I ((rd_T41 x7 0).f4) [(x7.length:Int)] (.refl _)) (.cons (limM1 I c358) (.cons (show (0:Int)≤0 by decide) (.cons (ltH (v41 1) (m:=(0:Int).toNat) (X:=setC ((v41 1) (rd_T41 x7 0)) 4 [.any]) c357) (.cons (atH (v41 1) (X:=setC ((v41 1) (rd_T41 x7 0)) 4 [.any]) (show (0:Int)≤0 by decide) c357) (.cons (Fit.refl ((v41 1) (⟨(rd_T41 x7 0).f0,(rd_T41 x7 0).f1,(rd_T41 x7 0).f2,(rd_T41 x7 0).f3,(((rd_T41 x7 0).f4)++[(x7.length:Int)])⟩:S41))) (.cons (setH (v41 1) (l:=x7) (n:=(0:Int).toNat) (x:=(⟨(rd_T41 x7 0).f0,(rd_T41 x7 0).f1,(rd_T41 x7 0).f2,(rd_T41 x7 0).f3,(((rd_T41 x7 0).f4)++[(x7.length:Int)])⟩:S41)) (X:=setC ((v41 1) (rd_T41 x7 0)) 4 [.any])) .nil)))))))))))<|⟨k,by omega,(x7.set (0:Int).toNat (⟨(rd_T41 x7 0).f0,(rd_T41 x7 0).f1,(rd_T41 x7 0).f2,(rd_T41 x7 0).f3,(((rd_T41 x7 0).f4)++[(x7.length:Int)])⟩:S41)),rd_L41 x17 x19,(x7.length:Int),x17,x18,x19,Wo [(7,0),(9,0),(10,0),(17,0),(18,0),(19,0)],H⟩
 clear H
 rintro st ⟨n',hn',x7,x9,x10,x17,x18,x19,W,H⟩
 rcases n' with _ | k
 ·cases H
 refine W.good ?_
 rw [tree_Of.j1] at H
 refine Sw<|Rh hN [I (x9.length:Int)] (.cons (lenM (v41 0) x9) .nil)<|Bl<|Good.loopN (fun k' st=>∃ (x7:List S41) (x10:Int) (x17:List (List S41)) (x18:Int) (x19:Int) (x38:List S41) (x39:Int) (x40:Int),k'≤k∧Wk C st ⟨[(7,.w (.row (some 41) 5 (List.map (v41 1) x7))),(10,.w (I x10)),(17,.w (.row none 1 (List.map (vL41 0) x17))),(18,.w (I x18)),(19,.w (I x19)),(38,.w (.row none 5 (List.map (v41 0) x38))),(39,.w (I x39)),(40,.w (I x40))],[]⟩∧tree_Of.l1 k' x7 x10 x17 x18 x19 x38 x39 x40=some r) k ⟨x7,x10,x17,x18,x19,x9,(x9.length:Int),0,Nat.le_refl _,Wo [(7,0),(10,0),(17,0),(18,0),(19,0),(38,0),(39,0),(40,0)],H⟩ fun k=>⟨fun st h=>(by obtain ⟨_,_,_,_,_,_,_,_,_,_,H⟩:=h;cases H),?_⟩
 clear H
 rintro st ⟨x7,x10,x17,x18,x19,x38,x39,x40,hk,W,H⟩
 refine W.good ?_
 rw [tree_Of.l1] at H
 refine Sw<|Rg hN<|Sw ?_
 rcases (ifC H).symm with ⟨c361,H⟩ | ⟨c361,H⟩
 ·exact Cf (df c361)<|Ex<|Rg hN<|⟨k,by omega,x7,x17,x18,wrap64 (x19+1),by omega,Wo [(7,0),(17,0),(18,0),(19,0)],H⟩
 refine Ct (dt c361)<|Sk<|Sw<|Bl<|Sw ?_
 obtain ⟨c362,H⟩:=ifS H
 obtain ⟨c363,H⟩:=ifS H
 refine Rh hN [(v41 0) (rd_T41 x38 x40)] (.cons c362 (.cons (atM (v41 0) z41 c362 c363) .nil)) ?_
 obtain ⟨t364,h365,H⟩:=bindS H
 obtain ⟨c366,H⟩:=ifS H
 exact Rh hN [.agg [I t364.1,I t364.2.1,B t364.2.2.1,S t364.2.2.2.1,.row (some 3) 1 (List.map I t364.2.2.2.2)],.tup [],.kb true,.row (some 41) 5 (List.map (v41 1) (x7++[(⟨t364.1,t364.2.1,t364.2.2.1,t364.2.2.2.1,t364.2.2.2.2⟩:S41)]))] (.cons (tree_moved.con h365).c (.cons (fitM (v41 1) x7 [(⟨t364.1,t364.2.1,t364.2.2.1,t364.2.2.2.1,t364.2.2.2.2⟩:S41)] (.refl _)) (.cons (limM1 (v41 1) c366) .nil)))<|Rg hN<|⟨k,by omega,(x7++[(⟨t364.1,t364.2.1,t364.2.2.1,t364.2.2.2.1,t364.2.2.2.2⟩:S41)]),x10,x17,x18,x19,x38,x39,wrap64 (x40+1),by omega,Wk.ofB hL 0 [(7,0),(10,0),(17,0),(18,0),(19,0),(38,0),(39,0),(40,0)] (by kernel_rfl) (by kernel_rfl) (by kernel_rfl),H⟩
def tree_Leaf.f (a0:Int) (a1:Int) (a2:ByteArray):Option (List S41):=some ([(⟨a0,a1,false,a2,([]:List Int)⟩:S41)]:List S41)
theorem tree_Leaf.con {a0:Int} {a1:Int} {a2:ByteArray} {r:(List S41)} (H:tree_Leaf.f a0 a1 a2=some r):Con Tryd.prog 21 [I a0,I a1,S a2] (.row (some 41) 5 (List.map (v41 0) r)):=by
 refine Cg Tryd.func21 rfl fun C hN hL=>?_
 unfold tree_Leaf.f at H
 refine Sw<|Rg hN<|Sw<|Rj hN [] (.cons (fitR (o:=some 41) (sz:=5) (n:=[.agg [I a0,I a1,B false,S a2,.row none 1 (List.map I ([]:List Int))]]) (.cons (.agg (.cons (.refl _) (.cons (.refl _) (.cons (.refl _) (.cons (.refl _) (.cons (.nilS 3 1 _) .nil)))))) .nil)) .nil) [] [(11,.row (some 41) 5 (List.map (v41 0) ([(⟨a0,a1,false,a2,([]:List Int)⟩:S41)]:List S41)))] ?_
 cases H
 exact Rt dR
def tree_Kids.l0:Nat→List S41→List (List S41)→List Int→Int→Int→Option (List (List S41))
 | 0,_,_,_,_,_=>none
 | k+1,x0,x3,x12,x13,x14=>if x14 < x13 then (if 0≤x14 then (if x14 < (x12.length:Int) then ((tree_Sub.f k x0 (rd x12 x14)).bind fun t386=>(if x3.length < 5864062014805 then (tree_Kids.l0 k x0 (x3++[t386]) x12 x13 (wrap64 (x14+1))) else (none))) else (none)) else (none)) else (some x3)
def tree_Kids.f (k:Nat) (l0:List S41):Option (List (List S41)):=(tree_Right.f k l0).bind fun t379=>(if t379=true then (if 0 < (l0.length:Int) then (tree_Kids.l0 k l0 ([]:List (List S41)) ((rd_T41 l0 0).f4) (((rd_T41 l0 0).f4).length:Int) 0) else (none)) else (some ([]:List (List S41))))
theorem tree_Kids.con {k:Nat} {l0:List S41} {r:(List (List S41))} (H:tree_Kids.f k l0=some r):Con Tryd.prog 23 [.row none 5 (List.map (v41 0) l0)] (.row (some 23) 1 (List.map (vL41 0) r)):=by
 refine Cg Tryd.func23 rfl fun C hN hL=>?_
 unfold tree_Kids.f at H
 refine Sw<|Rg hN<|Sw<|Sw ?_
 obtain ⟨t379,h380,H⟩:=bindS H
 refine Rh hN [B t379] (.cons (tree_Right.con h380).c .nil) ?_
 rcases (ifC H).symm with ⟨c381,H⟩ | ⟨c381,H⟩
 ·refine Ct (notT (bf c381))<|Sw<|Rg hN ?_
  cases H
  exact Good.ret (fin_fit (u:=.nil 23 1) (.nilO 23 1) (by kernel_rfl))
 refine Cf (notF c381)<|Sk<|Sw<|Rg hN<|Sw<|Sw ?_
 obtain ⟨c382,H⟩:=ifS H
 refine Rh hN [(v41 0) (rd_T41 l0 0),I (((rd_T41 l0 0).f4).length:Int)] (.cons (show (0:Int)≤0 by decide) (.cons (atM (v41 0) z41 (show (0:Int)≤0 by decide) c382) (.cons (lenM I ((rd_T41 l0 0).f4)) .nil)))<|Bl<|Good.loopN (fun k' st=>∃ (x0:List S41) (x3:List (List S41)) (x12:List Int) (x13:Int) (x14:Int),k'≤k∧Wk C st ⟨[(0,.w (.row none 5 (List.map (v41 0) x0))),(3,.w (.row (some 23) 1 (List.map (vL41 0) x3))),(12,.w (.row none 1 (List.map I x12))),(13,.w (I x13)),(14,.w (I x14))],[]⟩∧tree_Kids.l0 k' x0 x3 x12 x13 x14=some r) k ⟨l0,([]:List (List S41)),(rd_T41 l0 0).f4,(((rd_T41 l0 0).f4).length:Int),0,Nat.le_refl _,Wo [(0,0),(3,1),(12,0),(13,0),(14,0)],H⟩ fun k=>⟨fun st h=>(by obtain ⟨_,_,_,_,_,_,_,H⟩:=h;cases H),?_⟩
 clear H
 rintro st ⟨x0,x3,x12,x13,x14,hk,W,H⟩
 refine W.good ?_
 rw [tree_Kids.l0] at H
 refine Sw<|Rg hN<|Sw ?_
 rcases (ifC H).symm with ⟨c383,H⟩ | ⟨c383,H⟩
 ·refine Cf (df c383)<|Ex<|Sw<|Rg hN ?_
  cases H
  exact Rt dR
 refine Ct (dt c383)<|Sk<|Sw<|Bl<|Sw ?_
 obtain ⟨c384,H⟩:=ifS H
 obtain ⟨c385,H⟩:=ifS H
 refine Rh hN [I (rd x12 x14)] (.cons c384 (.cons (atM I (0:Int) c384 c385) .nil)) ?_
 obtain ⟨t386,h387,H⟩:=bindS H
 obtain ⟨c388,H⟩:=ifS H
 exact Rh hN [.row (some 41) 5 (List.map (v41 1) t386),.row none 5 (List.map (v41 0) t386),.kb true,.row (some 23) 1 (List.map (vL41 0) (x3++[t386]))] (.cons (tree_Sub.con h387).c (.cons (shrM (some 41) 5 (v41 1) (v41 0) t386 (v41.shr _)) (.cons (fitM (vL41 0) x3 [t386] (.refl _)) (.cons (limM1 (vL41 0) c388) .nil))))<|Rg hN<|⟨k,by omega,x0,(x3++[t386]),x12,x13,wrap64 (x14+1),by omega,Wo [(0,0),(3,0),(12,0),(13,0),(14,0)],H⟩
def clavigerlaw20_awake.f (k:Nat)  : Option (Bool):=(tree_Leaf.f 0 2 (⟨#[5]⟩:ByteArray)).bind fun t390=>((tree_Of.f k 0 16 ([t390]:List (List S41))).bind fun t392=>((tree_Encode.f k t392).bind fun t394=>(if t394.1.toList=([48,3,2,1,5]:List UInt8) then (if t394.2=0 then ((tree_Right.f k t392).bind fun t398=>(if t398=true then ((tree_Depth.f k t392).bind fun t401=>(if t401=2 then ((tree_Size.f k t392).bind fun t404=>(if t404=5 then ((tree_Kids.f k t392).bind fun t407=>(if (t407.length:Int)=1 then ((tree_Sub.f k t392 1).bind fun t410=>(some ((t410.length:Int) == 1))) else (some false))) else (some false))) else (some false))) else (some false))) else (some false)) else (some false))))
theorem clavigerlaw20_awake.con {k:Nat} {r:(Bool)} (H:clavigerlaw20_awake.f k  = some r):Con Tryd.prog 8 [] (B r):=by
 refine Cg Tryd.func8 rfl fun C hN hL=>?_
 unfold clavigerlaw20_awake.f at H
 refine Sw<|Rg hN<|Sw ?_
 obtain ⟨t390,h391,H⟩:=bindS H
 obtain ⟨t392,h393,H⟩:=bindS H
 refine Rh hN [.row (some 41) 5 (List.map (v41 0) t390),.row none 5 (List.map (v41 0) t390),.row none 1 (List.map (vL41 0) ([t390]:List (List S41))),.row (some 41) 5 (List.map (v41 1) t392)] (.cons (tree_Leaf.con h391).c (.cons (shrM (some 41) 5 (v41 0) (v41 0) t390 (v41.shr _)) (.cons (shrM (some 23) 1 (vL41 0) (vL41 0) ([t390]:List (List S41)) (vL41.shr _)) (.cons (tree_Of.con h393).c .nil))))<|Sw ?_
 obtain ⟨t394,h395,H⟩:=bindS H
 refine Rh hN [.row none 5 (List.map (v41 0) t392),.tup [S t394.1,I t394.2]] (.cons (shrM (some 41) 5 (v41 1) (v41 0) t392 (v41.shr _)) (.cons (tree_Encode.con h395).c .nil))<|Sw ?_
 rcases (ifC H).symm with ⟨c396,H⟩ | ⟨c396,H⟩
 ·refine Ri hN [B false,B false,B false,B false,B false,B false] (.cons (strV (rfl:t394.1.toList=t394.1.toList) (litL ([48,3,2,1,5]:List UInt8))) (.cons (bn c396) (.cons (rfl:false=false) (.cons (rfl:false=false) (.cons (rfl:false=false) (.cons (rfl:false=false) (.cons (rfl:false=false) .nil))))))) [(13,.bool (t394.1.toList == ([48,3,2,1,5]:List UInt8)))] ?_
  cases H
  exact Rt dR
 rcases (ifC H).symm with ⟨c397,H⟩ | ⟨c397,H⟩
 ·refine Ri hN [B true,B false,B false,B false,B false,B false] (.cons (strV (rfl:t394.1.toList=t394.1.toList) (litL ([48,3,2,1,5]:List UInt8))) (.cons (bq c396) (.cons (bn c397) (.cons (rfl:false=false) (.cons (rfl:false=false) (.cons (rfl:false=false) (.cons (rfl:false=false) .nil))))))) [(13,.bool (t394.1.toList == ([48,3,2,1,5]:List UInt8)))] ?_
  cases H
  exact Rt dR
 obtain ⟨t398,h399,H⟩:=bindS H
 rcases (ifC H).symm with ⟨c400,H⟩ | ⟨c400,H⟩
 ·refine Ri hN [B true,B true,B t398,B false,B false,B false,B false] (.cons (strV (rfl:t394.1.toList=t394.1.toList) (litL ([48,3,2,1,5]:List UInt8))) (.cons (bq c396) (.cons (bq c397) (.cons (tree_Right.con h399).c (.cons (bf c400) (.cons (rfl:false=false) (.cons (rfl:false=false) (.cons (rfl:false=false) .nil)))))))) [(13,.bool (t394.1.toList == ([48,3,2,1,5]:List UInt8)))] ?_
  cases H
  exact Rt dR
 obtain ⟨t401,h402,H⟩:=bindS H
 rcases (ifC H).symm with ⟨c403,H⟩ | ⟨c403,H⟩
 ·refine Ri hN [B true,B true,B t398,B true,I t401,B false,B false,B false] (.cons (strV (rfl:t394.1.toList=t394.1.toList) (litL ([48,3,2,1,5]:List UInt8))) (.cons (bq c396) (.cons (bq c397) (.cons (tree_Right.con h399).c (.cons c400 (.cons (tree_Depth.con h402).c (.cons (bn c403) (.cons (rfl:false=false) (.cons (rfl:false=false) .nil))))))))) [(13,.bool (t394.1.toList == ([48,3,2,1,5]:List UInt8)))] ?_
  cases H
  exact Rt dR
 obtain ⟨t404,h405,H⟩:=bindS H
 rcases (ifC H).symm with ⟨c406,H⟩ | ⟨c406,H⟩
 ·refine Ri hN [B true,B true,B t398,B true,I t401,B true,I t404,B false,B false] (.cons (strV (rfl:t394.1.toList=t394.1.toList) (litL ([48,3,2,1,5]:List UInt8))) (.cons (bq c396) (.cons (bq c397) (.cons (tree_Right.con h399).c (.cons c400 (.cons (tree_Depth.con h402).c (.cons (bq c403) (.cons (tree_Size.con h405).c (.cons (bn c406) (.cons (rfl:false=false) .nil)))))))))) [(13,.bool (t394.1.toList == ([48,3,2,1,5]:List UInt8)))] ?_
  cases H
  exact Rt dR
 obtain ⟨t407,h408,H⟩:=bindS H
 rcases (ifC H).symm with ⟨c409,H⟩ | ⟨c409,H⟩
 ·refine Ri hN [B true,B true,B t398,B true,I t401,B true,I t404,B true,.row (some 23) 1 (List.map (vL41 0) t407),I (t407.length:Int),B false] (.cons (strV (rfl:t394.1.toList=t394.1.toList) (litL ([48,3,2,1,5]:List UInt8))) (.cons (bq c396) (.cons (bq c397) (.cons (tree_Right.con h399).c (.cons c400 (.cons (tree_Depth.con h402).c (.cons (bq c403) (.cons (tree_Size.con h405).c (.cons (bq c406) (.cons (tree_Kids.con h408).c (.cons (lenM (vL41 0) t407) (.cons (bn c409) .nil)))))))))))) [(13,.bool (t394.1.toList == ([48,3,2,1,5]:List UInt8)))] ?_
  cases H
  exact Rt dR
 obtain ⟨t410,h411,H⟩:=bindS H
 refine Ri hN [B true,B true,B t398,B true,I t401,B true,I t404,B true,.row (some 23) 1 (List.map (vL41 0) t407),I (t407.length:Int),B true,.row (some 41) 5 (List.map (v41 1) t410),I (t410.length:Int)] (.cons (strV (rfl:t394.1.toList=t394.1.toList) (litL ([48,3,2,1,5]:List UInt8))) (.cons (bq c396) (.cons (bq c397) (.cons (tree_Right.con h399).c (.cons c400 (.cons (tree_Depth.con h402).c (.cons (bq c403) (.cons (tree_Size.con h405).c (.cons (bq c406) (.cons (tree_Kids.con h408).c (.cons (lenM (vL41 0) t407) (.cons (bq c409) (.cons (tree_Sub.con h411).c (.cons (lenM (v41 1) t410) .nil)))))))))))))) [(13,.bool (t394.1.toList == ([48,3,2,1,5]:List UInt8)))] ?_
 cases H
 exact Rt dR
def cp_Ints.l0:Nat→List Int→List Int→Int→Option (Bool)
 | 0,_,_,_=>none
 | k+1,x0,x1,x5=>if x5 < (x0.length:Int) then (if 0≤x5 then (if x5 < (x1.length:Int) then (if (rd x0 x5)=(rd x1 x5) then (cp_Ints.l0 k x0 x1 (wrap64 (x5+1))) else (some false)) else (none)) else (none)) else (some true)
def cp_Ints.f (k:Nat) (l0:List Int) (l1:List Int):Option (Bool):=if (l0.length:Int)=(l1.length:Int) then (cp_Ints.l0 k l0 l1 0) else (some false)
theorem cp_Ints.con {k:Nat} {l0:List Int} {l1:List Int} {r:(Bool)} (H:cp_Ints.f k l0 l1=some r):Con Tryd.prog 31 [.row none 1 (List.map I l0),.row none 1 (List.map I l1)] (B r):=by
 refine Cg Tryd.func31 rfl fun C hN hL=>?_
 unfold cp_Ints.f at H
 refine Sw<|Rg hN<|Sw<|Sw<|Rh hN [I (l0.length:Int),I (l1.length:Int)] (.cons (lenM I l0) (.cons (lenM I l1) .nil)) ?_
 rcases (ifC H).symm with ⟨c412,H⟩ | ⟨c412,H⟩
 ·refine Ct (nq c412)<|Sw<|Rg hN ?_
  cases H
  exact Rt dR
 refine Cf (bneF c412)<|Sk<|Sw<|Sw<|Rg hN<|Bl<|Good.loopN (fun k' st=>∃ (x0:List Int) (x1:List Int) (x5:Int),k'≤k∧Wk C st ⟨[(0,.w (.row none 1 (List.map I x0))),(1,.w (.row none 1 (List.map I x1))),(5,.w (I x5))],[]⟩∧cp_Ints.l0 k' x0 x1 x5=some r) k ⟨l0,l1,0,Nat.le_refl _,Wo [(0,0),(1,0),(5,0)],H⟩ fun k=>⟨fun st h=>(by obtain ⟨_,_,_,_,_,H⟩:=h;cases H),?_⟩
 clear H
 rintro st ⟨x0,x1,x5,hk,W,H⟩
 refine W.good ?_
 rw [cp_Ints.l0] at H
 refine Sw<|Sw<|Rh hN [I (x0.length:Int)] (.cons (lenM I x0) .nil) ?_
 rcases (ifC H).symm with ⟨c413,H⟩ | ⟨c413,H⟩
 ·refine Cf (df c413)<|Ex<|Sw<|Rg hN ?_
  cases H
  exact Rt dR
 refine Ct (dt c413)<|Sk<|Sw<|Bl<|Sw ?_
 obtain ⟨c414,H⟩:=ifS H
 obtain ⟨c415,H⟩:=ifS H
 refine Rd hm hN (.qs 8 0 (.q 8 [] .z)) [(0,none),(1,none),(5,none)] .nil [I (rd x0 x5),I (rd x1 x5)] [I (rd x0 x5),I (rd x1 x5)] (.cons c414 (.cons (atM I (0:Int) c414 c413) (.cons c414 (.cons (atM I (0:Int) c414 c415) .nil)))) (.cons c414 (.cons (atM I (0:Int) c414 c413) (.cons c414 (.cons (atM I (0:Int) c414 c415) .nil)))) [] [] ?_
 rcases ifC H with ⟨c416,H⟩ | ⟨c416,H⟩
 ·exact Cf (bneF c416)<|Sk<|Rg hN<|⟨k,by omega,x0,x1,wrap64 (x5+1),by omega,Wo [(0,0),(1,0),(5,0)],H⟩
 refine Ct (nq c416)<|Sw<|Rg hN ?_
 cases H
 exact Rt dR
def cp_Same.l0:Nat→List S41→List S41→Int→Option (Bool)
 | 0,_,_,_=>none
 | k+1,x0,x1,x5=>if x5 < (x0.length:Int) then (if 0≤x5 then (if x5 < (x1.length:Int) then (if ((rd_T41 x0 x5).f0)=((rd_T41 x1 x5).f0) then (if ((rd_T41 x0 x5).f1)=((rd_T41 x1 x5).f1) then (if (((rd_T41 x0 x5).f2) != ((rd_T41 x1 x5).f2))=true then (some false) else (if ((rd_T41 x0 x5).f3).toList=((rd_T41 x1 x5).f3).toList then ((cp_Ints.f k ((rd_T41 x0 x5).f4) ((rd_T41 x1 x5).f4)).bind fun t425=>(if t425=true then (cp_Same.l0 k x0 x1 (wrap64 (x5+1))) else (some false))) else (some false))) else (some false)) else (some false)) else (none)) else (none)) else (some true)
def cp_Same.f (k:Nat) (l0:List S41) (l1:List S41):Option (Bool):=if (l0.length:Int)=(l1.length:Int) then (cp_Same.l0 k l0 l1 0) else (some false)
theorem cp_Same.con {k:Nat} {l0:List S41} {l1:List S41} {r:(Bool)} (H:cp_Same.f k l0 l1=some r):Con Tryd.prog 16 [.row none 5 (List.map (v41 0) l0),.row none 5 (List.map (v41 0) l1)] (B r):=by
 refine Cg Tryd.func16 rfl fun C hN hL=>?_
 unfold cp_Same.f at H
 refine Sw<|Rg hN<|Sw<|Sw<|Rh hN [I (l0.length:Int),I (l1.length:Int)] (.cons (lenM (v41 0) l0) (.cons (lenM (v41 0) l1) .nil)) ?_
 rcases (ifC H).symm with ⟨c417,H⟩ | ⟨c417,H⟩
 ·refine Ct (nq c417)<|Sw<|Rg hN ?_
  cases H
  exact Rt dR
 refine Cf (bneF c417)<|Sk<|Sw<|Sw<|Rg hN<|Bl<|Good.loopN (fun k' st=>∃ (x0:List S41) (x1:List S41) (x5:Int),k'≤k∧Wk C st ⟨[(0,.w (.row none 5 (List.map (v41 0) x0))),(1,.w (.row none 5 (List.map (v41 0) x1))),(5,.w (I x5))],[]⟩∧cp_Same.l0 k' x0 x1 x5=some r) k ⟨l0,l1,0,Nat.le_refl _,Wo [(0,0),(1,0),(5,0)],H⟩ fun k=>⟨fun st h=>(by obtain ⟨_,_,_,_,_,H⟩:=h;cases H),?_⟩
 clear H
 rintro st ⟨x0,x1,x5,hk,W,H⟩
 refine W.good ?_
 rw [cp_Same.l0] at H
 refine Sw<|Sw<|Rh hN [I (x0.length:Int)] (.cons (lenM (v41 0) x0) .nil) ?_
 rcases (ifC H).symm with ⟨c418,H⟩ | ⟨c418,H⟩
 ·refine Cf (df c418)<|Ex<|Sw<|Rg hN ?_
  cases H
  exact Rt dR
 refine Ct (dt c418)<|Sk<|Sw<|Bl<|Sw ?_
 obtain ⟨c419,H⟩:=ifS H
 obtain ⟨c420,H⟩:=ifS H
 refine Good.regTB (n:=8) hm hN hL (.q 0 [[],[]] (.q 1 [[],[]] (.q 2 [[],[]] (.q 3 [[],[]] (.i 4 (.i 5 (.i 6 (.b 7 [] [] (.b 8 [] [] (.e 9 (.e 10 (.e 11 .z))) [] [] (.e 9 (.e 8 (.e 10 (.e 11 .z))))) [] [] (.b 8 [] [] (.b 7 [] [] (.e 9 (.e 10 (.e 11 .z))) [] [] (.e 9 (.b 7 [] [] (.e 10 (.e 11 .z)) [] [] (.e 10 (.e 7 (.e 11 .z)))))) [] [] (.e 9 (.b 7 [] [] (.e 8 (.e 10 (.e 11 .z))) [] [] (.e 8 (.b 7 [] [] (.e 10 (.e 11 .z)) [] [] (.e 10 (.e 7 (.e 11 .z)))))))))))))))) [(0,none),(1,none),(5,none)] (by kernel_rfl) .nil [(v41 0) (rd_T41 x0 x5),(v41 0) (rd_T41 x1 x5)] [(v41 0) (rd_T41 x0 x5),(v41 0) (rd_T41 x1 x5)] (.cons (.cons c419 (.cons (atM (v41 0) z41 c419 c418) (.cons c419 (.cons (atM (v41 0) z41 c419 c420) .nil)))) (.cons c419 (.cons (atM (v41 0) z41 c419 c418) (.cons c419 (.cons (atM (v41 0) z41 c419 c420) .nil)))) (.cons (.cons c419 (.cons (atM (v41 0) z41 c419 c418) (.cons c419 (.cons (atM (v41 0) z41 c419 c420) .nil)))) (.cons c419 (.cons (atM (v41 0) z41 c419 c418) (.cons c419 (.cons (atM (v41 0) z41 c419 c420) .nil)))) (.cons (.cons c419 (.cons (atM (v41 0) z41 c419 c418) (.cons c419 (.cons (atM (v41 0) z41 c419 c420) .nil)))) (.cons c419 (.cons (atM (v41 0) z41 c419 c418) (.cons c419 (.cons (atM (v41 0) z41 c419 c420) .nil)))) (.cons (.cons c419 (.cons (atM (v41 0) z41 c419 c418) (.cons c419 (.cons (atM (v41 0) z41 c419 c420) .nil)))) (.cons c419 (.cons (atM (v41 0) z41 c419 c418) (.cons c419 (.cons (atM (v41 0) z41 c419 c420) .nil)))) (.cons (.cons c419 (.cons (atM (v41 0) z41 c419 c418) (.cons c419 (.cons (atM (v41 0) z41 c419 c420) .nil)))) (.cons c419 (.cons (atM (v41 0) z41 c419 c418) (.cons c419 (.cons (atM (v41 0) z41 c419 c420) .nil)))) (.cons (.cons c419 (.cons (atM (v41 0) z41 c419 c418) (.cons c419 (.cons (atM (v41 0) z41 c419 c420) .nil)))) (.cons c419 (.cons (atM (v41 0) z41 c419 c418) (.cons c419 (.cons (atM (v41 0) z41 c419 c420) .nil)))) (.cons (.cons c419 (.cons (atM (v41 0) z41 c419 c418) (.cons c419 (.cons (atM (v41 0) z41 c419 c420) .nil)))) (.cons c419 (.cons (atM (v41 0) z41 c419 c418) (.cons c419 (.cons (atM (v41 0) z41 c419 c420) .nil)))) (.cons (.cons c419 (.cons (atM (v41 0) z41 c419 c418) (.cons c419 (.cons (atM (v41 0) z41 c419 c420) .nil)))) (.cons c419 (.cons (atM (v41 0) z41 c419 c418) (.cons c419 (.cons (atM (v41 0) z41 c419 c420) .nil)))) .nil)))))))) [] [] (by kernel_rfl) (by kernel_rfl) [[],[1,0],[],[],[],[1,0],[1,0],[1,0]] [(0,0),(1,0),(5,0),(6,0),(7,0)] [(0,.w (.row none 5 (List.map (v41 0) x0))),(1,.w (.row none 5 (List.map (v41 0) x1))),(5,.w (I x5)),(6,.d (.ptr 0 0)),(7,.d (.ptr 1 0))] [.cells [.v (I ((rd_T41 x0 x5).f0)),.v (I ((rd_T41 x0 x5).f1)),.v (B ((rd_T41 x0 x5).f2)),.v (S ((rd_T41 x0 x5).f3)),.v (.row none 1 (List.map I ((rd_T41 x0 x5).f4)))],.cells [.v (I ((rd_T41 x1 x5).f0)),.v (I ((rd_T41 x1 x5).f1)),.v (B ((rd_T41 x1 x5).f2)),.v (S ((rd_T41 x1 x5).f3)),.v (.row none 1 (List.map I ((rd_T41 x1 x5).f4)))]] (by kernel_rfl) (by kernel_rfl)<|Sw ?_
 rcases (ifC H).symm with ⟨c421,H⟩ | ⟨c421,H⟩
 ·refine Rh hN [B true,B true,B true,B true] (.cons (nq c421) (.cons (rfl:true=true) (.cons (rfl:true=true) (.cons (rfl:true=true) .nil))))<|Good.cond true (by kernel_rfl)<|Sw<|Rg hN ?_
  cases H
  exact Rt dR
 rcases (ifC H).symm with ⟨c422,H⟩ | ⟨c422,H⟩
 ·refine Rh hN [B false,B true,B true,B true] (.cons (bneF c421) (.cons (nq c422) (.cons (rfl:true=true) (.cons (rfl:true=true) .nil))))<|Good.cond true (by kernel_rfl)<|Sw<|Rg hN ?_
  cases H
  exact Rt dR
 rcases ifC H with ⟨c423,H⟩ | ⟨c423,H⟩
 ·refine Rh hN [B false,B false,B true,B true] (.cons (bneF c421) (.cons (bneF c422) (.cons c423 (.cons (rfl:true=true) .nil))))<|Good.cond true (by kernel_rfl)<|Sw<|Rg hN ?_
  cases H
  exact Rt dR
 rcases (ifC H).symm with ⟨c424,H⟩ | ⟨c424,H⟩
 ·refine Rh hN [B false,B false,B false,B true] (.cons (bneF c421) (.cons (bneF c422) (.cons (bf c423) (.cons (nq c424) .nil))))<|Good.cond true (by kernel_rfl)<|Sw<|Rg hN ?_
  cases H
  exact Rt dR
 obtain ⟨t425,h426,H⟩:=bindS H
 refine Rh hN [B false,B false,B false,B false,B t425] (.cons (bneF c421) (.cons (bneF c422) (.cons (bf c423) (.cons (bneF c424) (.cons (cp_Ints.con h426).c .nil))))) ?_
 rcases ifC H with ⟨c427,H⟩ | ⟨c427,H⟩
 ·exact Cf (notF c427)<|Sk<|Rg hN<|⟨k,by omega,x0,x1,wrap64 (x5+1),by omega,Wk.ofB hL 0 [(0,0),(1,0),(5,0)] (by kernel_rfl) (by kernel_rfl) (by kernel_rfl),H⟩
 refine Ct (notT (bf c427))<|Sw<|Rg hN ?_
 cases H
 exact Rt dR
def span_whole.f (a0:Nat):Option (Bool):=if (fge a0 0)=true then (if (fle a0 4679241112349573120)=true then (if fiok a0=true then (some (feq a0 (floatOfInt .f64 (fint a0)))) else (none)) else (some false)) else (some false)
theorem span_whole.con {a0:Nat} {r:(Bool)} (H:span_whole.f a0=some r):Con Tryd.prog 78 [Fl a0] (B r):=by
 refine Cg Tryd.func78 rfl fun C hN hL=>?_
 unfold span_whole.f at H
 refine Sw<|Rg hN<|Sw ?_
 rcases (ifC H).symm with ⟨c428,H⟩ | ⟨c428,H⟩
 ·refine Rh hN [B false,B false] (.cons (bf c428) (.cons (rfl:false=false) .nil)) ?_
  cases H
  exact Rt dR
 rcases (ifC H).symm with ⟨c429,H⟩ | ⟨c429,H⟩
 ·refine Rh hN [B true,B false] (.cons c428 (.cons (bf c429) .nil)) ?_
  cases H
  exact Rt dR
 obtain ⟨c430,H⟩:=ifS H
 refine Rh hN [B true,B true] (.cons c428 (.cons c429 (.cons c430 .nil))) ?_
 cases H
 exact Rt dR
def span_May.f (a0:(Nat × Nat)):Option (Bool):=(span_whole.f a0.1).bind fun t431=>(if t431=true then ((span_whole.f a0.2).bind fun t434=>(if t434=true then (some (fle a0.1 a0.2)) else (some false))) else (some false))
theorem span_May.con {a0:(Nat × Nat)} {r:(Bool)} (H:span_May.f a0=some r):Con Tryd.prog 68 [Cx a0] (B r):=by
 refine Cg Tryd.func68 rfl fun C hN hL=>?_
 unfold span_May.f at H
 refine Sw<|Rg hN<|Sw ?_
 obtain ⟨t431,h432,H⟩:=bindS H
 rcases (ifC H).symm with ⟨c433,H⟩ | ⟨c433,H⟩
 ·refine Rh hN [B t431,B false,B false] (.cons (span_whole.con h432).c (.cons (bf c433) (.cons (rfl:false=false) .nil))) ?_
  cases H
  exact Rt dR
 obtain ⟨t434,h435,H⟩:=bindS H
 rcases ifC H with ⟨c436,H⟩ | ⟨c436,H⟩
 ·refine Rh hN [B t431,B true,B t434,B true] (.cons (span_whole.con h432).c (.cons c433 (.cons (span_whole.con h435).c (.cons c436 .nil)))) ?_
  cases H
  exact Rt dR
 refine Rh hN [B t431,B true,B t434,B false] (.cons (span_whole.con h432).c (.cons c433 (.cons (span_whole.con h435).c (.cons (bf c436) .nil)))) ?_
 cases H
 exact Rt dR
def span_sure.f (a0:(Nat × Nat)):Option ((Nat × Nat)):=(span_May.f a0).bind fun t437=>(if t437=true then (if fok a0.1 0=true then (if fok a0.2 0=true then (some (fadd a0.1 0,fadd a0.2 0)) else (none)) else (none)) else (some (0,0)))
theorem span_sure.con {a0:(Nat × Nat)} {r:((Nat × Nat))} (H:span_sure.f a0=some r):Con Tryd.prog 55 [Cx a0] (Cx r):=by
 refine Cg Tryd.func55 rfl fun C hN hL=>?_
 unfold span_sure.f at H
 refine Sw<|Rg hN<|Sw<|Sw ?_
 obtain ⟨t437,h438,H⟩:=bindS H
 refine Rh hN [B t437] (.cons (span_May.con h438).c .nil) ?_
 rcases (ifC H).symm with ⟨c439,H⟩ | ⟨c439,H⟩
 ·refine Cf (bf c439)<|Sk<|Sw<|Rg hN ?_
  cases H
  exact Rt dR
 refine Ct c439<|Sw ?_
 obtain ⟨c440,H⟩:=ifS H
 obtain ⟨c441,H⟩:=ifS H
 refine Rh hN [] (.cons c440 (.cons c441 .nil)) ?_
 cases H
 exact Rt dR
def span_To.f (a0:(Nat × Nat)):Option (Int):=(span_sure.f a0).bind fun t442=>(if fiok t442.2=true then (some (fint t442.2)) else (none))
theorem span_To.con {a0:(Nat × Nat)} {r:(Int)} (H:span_To.f a0=some r):Con Tryd.prog 54 [Cx a0] (I r):=by
 refine Cg Tryd.func54 rfl fun C hN hL=>?_
 unfold span_To.f at H
 refine Sw<|Rg hN<|Sw ?_
 obtain ⟨t442,h443,H⟩:=bindS H
 obtain ⟨c444,H⟩:=ifS H
 refine Rh hN [Cx t442] (.cons (span_sure.con h443).c (.cons c444 .nil)) ?_
 cases H
 exact Rt dR
def tlv_reader_end.f (a0_0:ByteArray) (l0_1:List S41) (l0_2:List (Nat × Nat)) (l0_3:List Int):Option (Int):=if (l0_3.length:Int)=0 then (some (a0_0.size:Int)) else (if 0≤(wrap64 ((l0_3.length:Int) - 1)) then (if (wrap64 ((l0_3.length:Int) - 1)) < (l0_3.length:Int) then (if 0≤(rd l0_3 (wrap64 ((l0_3.length:Int) - 1))) then (if (rd l0_3 (wrap64 ((l0_3.length:Int) - 1))) < (l0_2.length:Int) then ((span_To.f (rdOf ((0,0):Nat × Nat) l0_2 (rd l0_3 (wrap64 ((l0_3.length:Int) - 1))))).bind fun t450=>(some t450)) else (none)) else (none)) else (none)) else (none))
theorem tlv_reader_end.con {a0_0:ByteArray} {l0_1:List S41} {l0_2:List (Nat × Nat)} {l0_3:List Int} {r:(Int)} (H:tlv_reader_end.f a0_0 l0_1 l0_2 l0_3=some r):ConX Tryd.prog 42 [.ptr 0 0] [[S a0_0,.row (some 41) 5 (List.map (v41 1) l0_1),.row (some 53) 1 (List.map Cx l0_2),.row (some 3) 1 (List.map I l0_3)]] (.v (I r)) [[S a0_0,.row (some 41) 5 (List.map (v41 1) l0_1),.row (some 53) 1 (List.map Cx l0_2),.row (some 3) 1 (List.map I l0_3)]]:=by
 refine conX_of_good Tryd.func42 rfl (by kernel_rfl) (by kernel_rfl) fun C hN hL=>?_
 unfold tlv_reader_end.f at H
 refine Sw<|Rg hN<|Sw<|Sw<|Rh hN [I (l0_3.length:Int)] (.cons (lenM I l0_3) .nil) ?_
 rcases ifC H with ⟨c445,H⟩ | ⟨c445,H⟩
 ·refine Ct (bq c445)<|Sw<|Rg hN ?_
  cases H
  exact Good.ret (finX_fitR (.refl _) (FitLL.refl _) (by kernel_rfl) rfl)
 refine Cf (bn c445)<|Sk<|Sw ?_
 obtain ⟨c446,H⟩:=ifS H
 obtain ⟨c447,H⟩:=ifS H
 obtain ⟨c448,H⟩:=ifS H
 obtain ⟨c449,H⟩:=ifS H
 obtain ⟨t450,h451,H⟩:=bindS H
 refine Rd hm hN (.qs 18 0 (.e 18 (.q 19 [] .z))) [(0,some (.pt [S a0_0,.row none 5 (List.map (v41 0) l0_1),.row none 1 (List.map Cx l0_2),.row none 1 (List.map I l0_3)]))] (.cons (ptS (shrC (rfl:(V.shr (S a0_0))=S a0_0) (shrC (shrM (some 41) 5 (v41 1) (v41 0) l0_1 (v41.shr _)) (shrC (shrM (some 53) 1 Cx Cx l0_2 (fun _=>rfl)) (shrC (shrM (some 3) 1 I I l0_3 (fun _=>rfl)) (rfl:shrL []=[])))))) .nil) [I (l0_3.length:Int),I (rd l0_3 (wrap64 ((l0_3.length:Int) - 1))),Cx (rdOf ((0,0):Nat × Nat) l0_2 (rd l0_3 (wrap64 ((l0_3.length:Int) - 1)))),I t450] [I (l0_3.length:Int),I (rd l0_3 (wrap64 ((l0_3.length:Int) - 1))),Cx (rdOf ((0,0):Nat × Nat) l0_2 (rd l0_3 (wrap64 ((l0_3.length:Int) - 1))))] (.cons (lenM I l0_3) (.cons c446 (.cons (ltM I c447) (.cons (atM I (0:Int) c446 c447) (.cons c448 (.cons (ltM Cx c449) (.cons (atM Cx ((0,0):Nat × Nat) c448 c449) (.cons (span_To.con h451).c .nil)))))))) (.cons (lenM I l0_3) (.cons c446 (.cons (atM I (0:Int) c446 c447) (.cons c448 (.cons (atM Cx ((0,0):Nat × Nat) c448 c449) .nil))))) [] [] ?_
 cases H
 exact Good.ret (finX_fitR (.refl _) (FitLL.refl _) (by kernel_rfl) rfl)
def head_Decode.l0:Nat→ByteArray→Int→Int→Int→Int→Int→Int→Int→Bool→Int→Option (Int × Int × Bool × Int × Int × Int)
 | 0,_,_,_,_,_,_,_,_,_,_=>none
 | k+1,x0,x6,x7,x8,x107,x108,x2000,x2001,x2002,x2003=>if x108 < x107 then (if 0≤x6 then (if x6 < (x0.size:Int) then (head_Decode.l0 k x0 (wrap64 (x6+1)) x7 x8 x107 (wrap64 (x108+1)) x2000 x2001 x2002 (Go.bits .or .i64 (wrap64 (x2003*256)) (wrap64 (bt x0 x6)))) else (none)) else (none)) else (if 0≤(wrap64 ((wrap64 (8*x7)) - 8)) then (if x2003≥(shl .i64 1 (wrap64 ((wrap64 (8*x7)) - 8))) then (if x2003≥128 then (some (x2000,x2001,x2002,x2003,x6,0)) else (some (0,0,false,0,0,x8))) else (some (0,0,false,0,0,x8))) else (none))
def head_Decode.g0_0:Nat→Int→Option (Int × Int × Bool × Int × Int × Int)
 | 0,_=>none
 | k+1,x8=>some (0,0,false,0,0,x8)
def head_Decode.j1:Nat→ByteArray→Int→Int→Bool→Int→Int→Bool→Int→Option (Int × Int × Bool × Int × Int × Int)
 | 0,_,_,_,_,_,_,_,_=>none
 | k+1,x0,x6,x8,x77,x2000,x2001,x2002,x2003=>if x77=true then (head_Decode.g0_0 k x8) else (if 0≤x6 then (if x6 < (x0.size:Int) then (if (bt x0 x6) > 130 then (head_Decode.g0_0 k 4) else (if (bt x0 x6) < 128 then (some (x2000,x2001,x2002,wrap64 (bt x0 x6),wrap64 (x6+1),0)) else (if (wrap64 ((wrap64 (x6+1))+(wrap64 (Go.bits .and .u8 (bt x0 x6) 127)))) > (x0.size:Int) then (head_Decode.g0_0 k x8) else (head_Decode.l0 k x0 (wrap64 (x6+1)) (wrap64 (Go.bits .and .u8 (bt x0 x6) 127)) x8 (wrap64 (Go.bits .and .u8 (bt x0 x6) 127)) 0 x2000 x2001 x2002 x2003)))) else (none)) else (none))
def head_Decode.j5:Nat→ByteArray→Int→Int→Bool→Int→Int→Bool→Int→Option (Int × Int × Bool × Int × Int × Int)
 | 0,_,_,_,_,_,_,_,_=>none
 | k+1,x0,x6,x8,x77,x2000,x2001,x2002,x2003=>if x77=true then (head_Decode.g0_0 k x8) else (if 0≤x6 then (if x6 < (x0.size:Int) then (if (bt x0 x6) > 130 then (head_Decode.g0_0 k 4) else (if (bt x0 x6) < 128 then (some (x2000,x2001,x2002,wrap64 (bt x0 x6),wrap64 (x6+1),0)) else (if (wrap64 ((wrap64 (x6+1))+(wrap64 (Go.bits .and .u8 (bt x0 x6) 127)))) > (x0.size:Int) then (head_Decode.g0_0 k x8) else (head_Decode.l0 k x0 (wrap64 (x6+1)) (wrap64 (Go.bits .and .u8 (bt x0 x6) 127)) x8 (wrap64 (Go.bits .and .u8 (bt x0 x6) 127)) 0 x2000 x2001 x2002 x2003)))) else (none)) else (none))
def head_Decode.g0_1:Nat→ByteArray→Int→Int→Int→Int→Bool→Int→Option (Int × Int × Bool × Int × Int × Int)
 | 0,_,_,_,_,_,_,_=>none
 | k+1,x0,x6,x8,x2000,x2001,x2002,x2003=>if x6≥(x0.size:Int) then (head_Decode.j5 k x0 x6 x8 true x2000 x2001 x2002 x2003) else (if 0≤x6 then (if x6 < (x0.size:Int) then (head_Decode.j5 k x0 x6 x8 ((bt x0 x6) == 128) x2000 x2001 x2002 x2003) else (none)) else (none))
def head_Decode.j8:Nat→ByteArray→Int→Int→Bool→Int→Int→Bool→Int→Option (Int × Int × Bool × Int × Int × Int)
 | 0,_,_,_,_,_,_,_,_=>none
 | k+1,x0,x6,x8,x77,x2000,x2001,x2002,x2003=>if x77=true then (head_Decode.g0_0 k x8) else (if 0≤x6 then (if x6 < (x0.size:Int) then (if (bt x0 x6) > 130 then (head_Decode.g0_0 k 4) else (if (bt x0 x6) < 128 then (some (x2000,x2001,x2002,wrap64 (bt x0 x6),wrap64 (x6+1),0)) else (if (wrap64 ((wrap64 (x6+1))+(wrap64 (Go.bits .and .u8 (bt x0 x6) 127)))) > (x0.size:Int) then (head_Decode.g0_0 k x8) else (head_Decode.l0 k x0 (wrap64 (x6+1)) (wrap64 (Go.bits .and .u8 (bt x0 x6) 127)) x8 (wrap64 (Go.bits .and .u8 (bt x0 x6) 127)) 0 x2000 x2001 x2002 x2003)))) else (none)) else (none))
mutual
def head_Decode.g0_2:Nat→ByteArray→Int→Int→Int→Int→Int→Bool→Int→Option (Int × Int × Bool × Int × Int × Int)
 | 0,_,_,_,_,_,_,_,_=>none
 | k+1,x0,x6,x7,x8,x2000,x2001,x2002,x2003=>if x6≥(x0.size:Int) then (head_Decode.j7 k x0 x6 x7 x8 true x2000 x2001 x2002 x2003) else (if x7=3 then (head_Decode.j7 k x0 x6 x7 x8 true x2000 x2001 x2002 x2003) else (if x7=0 then (if 0≤x6 then (if x6 < (x0.size:Int) then (head_Decode.j7 k x0 x6 x7 x8 ((bt x0 x6) == 128) x2000 x2001 x2002 x2003) else (none)) else (none)) else (head_Decode.j7 k x0 x6 x7 x8 false x2000 x2001 x2002 x2003)))
def head_Decode.j7:Nat→ByteArray→Int→Int→Int→Bool→Int→Int→Bool→Int→Option (Int × Int × Bool × Int × Int × Int)
 | 0,_,_,_,_,_,_,_,_,_=>none
 | k+1,x0,x6,x7,x8,x45,x2000,x2001,x2002,x2003=>if x45=true then (head_Decode.g0_0 k x8) else (if 0≤x6 then (if x6 < (x0.size:Int) then (if 0≤(wrap64 ((wrap64 (x6+1)) - 1)) then (if (wrap64 ((wrap64 (x6+1)) - 1)) < (x0.size:Int) then (if (bt x0 (wrap64 ((wrap64 (x6+1)) - 1)))≥128 then (head_Decode.g0_2 k x0 (wrap64 (x6+1)) (wrap64 (x7+1)) x8 x2000 (Go.bits .or .i64 (wrap64 (x2001*128)) (wrap64 (Go.bits .and .u8 (bt x0 x6) 127))) x2002 x2003) else (if (Go.bits .or .i64 (wrap64 (x2001*128)) (wrap64 (Go.bits .and .u8 (bt x0 x6) 127))) < 31 then (head_Decode.g0_0 k x8) else (if (wrap64 (x6+1))≥(x0.size:Int) then (head_Decode.j8 k x0 (wrap64 (x6+1)) x8 true x2000 (Go.bits .or .i64 (wrap64 (x2001*128)) (wrap64 (Go.bits .and .u8 (bt x0 x6) 127))) x2002 x2003) else (if 0≤(wrap64 (x6+1)) then (if (wrap64 (x6+1)) < (x0.size:Int) then (head_Decode.j8 k x0 (wrap64 (x6+1)) x8 ((bt x0 (wrap64 (x6+1))) == 128) x2000 (Go.bits .or .i64 (wrap64 (x2001*128)) (wrap64 (Go.bits .and .u8 (bt x0 x6) 127))) x2002 x2003) else (none)) else (none))))) else (none)) else (none)) else (none)) else (none))
end
def head_Decode.j0:Nat→ByteArray→Int→Int→Int→Bool→Int→Int→Bool→Int→Option (Int × Int × Bool × Int × Int × Int)
 | 0,_,_,_,_,_,_,_,_,_=>none
 | k+1,x0,x6,x7,x8,x45,x2000,x2001,x2002,x2003=>if x45=true then (head_Decode.g0_0 k x8) else (if 0≤x6 then (if x6 < (x0.size:Int) then (if 0≤(wrap64 ((wrap64 (x6+1)) - 1)) then (if (wrap64 ((wrap64 (x6+1)) - 1)) < (x0.size:Int) then (if (bt x0 (wrap64 ((wrap64 (x6+1)) - 1)))≥128 then (head_Decode.g0_2 k x0 (wrap64 (x6+1)) (wrap64 (x7+1)) x8 x2000 (Go.bits .or .i64 (wrap64 (x2001*128)) (wrap64 (Go.bits .and .u8 (bt x0 x6) 127))) x2002 x2003) else (if (Go.bits .or .i64 (wrap64 (x2001*128)) (wrap64 (Go.bits .and .u8 (bt x0 x6) 127))) < 31 then (head_Decode.g0_0 k x8) else (if (wrap64 (x6+1))≥(x0.size:Int) then (head_Decode.j1 k x0 (wrap64 (x6+1)) x8 true x2000 (Go.bits .or .i64 (wrap64 (x2001*128)) (wrap64 (Go.bits .and .u8 (bt x0 x6) 127))) x2002 x2003) else (if 0≤(wrap64 (x6+1)) then (if (wrap64 (x6+1)) < (x0.size:Int) then (head_Decode.j1 k x0 (wrap64 (x6+1)) x8 ((bt x0 (wrap64 (x6+1))) == 128) x2000 (Go.bits .or .i64 (wrap64 (x2001*128)) (wrap64 (Go.bits .and .u8 (bt x0 x6) 127))) x2002 x2003) else (none)) else (none))))) else (none)) else (none)) else (none)) else (none))
def head_Decode.f (k:Nat) (a0:ByteArray):Option (Int × Int × Bool × Int × Int × Int):=if a0.toList=([]:List UInt8) then (head_Decode.g0_0 k 5) else (if 0 < (a0.size:Int) then (if (wrap64 (Go.bits .and .u8 (bt a0 0) 31)) < 31 then (head_Decode.g0_1 k a0 1 5 (wrap64 ((bt a0 0) / 64)) (wrap64 (Go.bits .and .u8 (bt a0 0) 31)) ((Go.bits .and .u8 (bt a0 0) 32) != 0) 0) else (if 1≥(a0.size:Int) then (head_Decode.j0 k a0 1 0 5 true (wrap64 ((bt a0 0) / 64)) 0 ((Go.bits .and .u8 (bt a0 0) 32) != 0) 0) else (if 1 < (a0.size:Int) then (head_Decode.j0 k a0 1 0 5 ((bt a0 1) == 128) (wrap64 ((bt a0 0) / 64)) 0 ((Go.bits .and .u8 (bt a0 0) 32) != 0) 0) else (none)))) else (none))
theorem head_Decode.con {k:Nat} {a0:ByteArray} {r:(Int × Int × Bool × Int × Int × Int)} (H:head_Decode.f k a0=some r):Con Tryd.prog 43 [S a0] (.tup [.agg [I r.1,I r.2.1,B r.2.2.1,I r.2.2.2.1],I r.2.2.2.2.1,I r.2.2.2.2.2]):=by
 refine Cg Tryd.func43 rfl fun C hN hL=>?_
 unfold head_Decode.f at H
 refine Sw<|Rg hN<|Good.scope [(0,_,fun n st=>∃ (x8:Int) (x1000:Int) (x1001:Int) (x1002:Bool) (x1003:Int) (x2000:Int) (x2001:Int) (x2002:Bool) (x2003:Int),n≤k∧Wk C st ⟨[(2,.d (.ptr 0 0)),(8,.w (I x8))],[.cells [.v (I x1000),.v (I x1001),.v (B x1002),.v (I x1003)],.cells [.v (I x2000),.v (I x2001),.v (B x2002),.v (I x2003)]]⟩∧head_Decode.g0_0 n x8=some r),(1,_,fun n st=>∃ (x0:ByteArray) (x6:Int) (x8:Int) (x1000:Int) (x1001:Int) (x1002:Bool) (x1003:Int) (x2000:Int) (x2001:Int) (x2002:Bool) (x2003:Int),n≤k∧Wk C st ⟨[(0,.w (S x0)),(2,.d (.ptr 0 0)),(5,.d (.ptr 1 0)),(6,.w (I x6)),(8,.w (I x8))],[.cells [.v (I x1000),.v (I x1001),.v (B x1002),.v (I x1003)],.cells [.v (I x2000),.v (I x2001),.v (B x2002),.v (I x2003)]]⟩∧head_Decode.g0_1 n x0 x6 x8 x2000 x2001 x2002 x2003=some r),(2,_,fun n st=>∃ (x0:ByteArray) (x6:Int) (x7:Int) (x8:Int) (x1000:Int) (x1001:Int) (x1002:Bool) (x1003:Int) (x2000:Int) (x2001:Int) (x2002:Bool) (x2003:Int),n≤k∧Wk C st ⟨[(0,.w (S x0)),(2,.d (.ptr 0 0)),(5,.d (.ptr 1 0)),(6,.w (I x6)),(7,.w (I x7)),(8,.w (I x8))],[.cells [.v (I x1000),.v (I x1001),.v (B x1002),.v (I x1003)],.cells [.v (I x2000),.v (I x2001),.v (B x2002),.v (I x2003)]]⟩∧head_Decode.g0_2 n x0 x6 x7 x8 x2000 x2001 x2002 x2003=some r)] (.cons rfl (.cons rfl (.cons rfl .nil))) ?_ (.cons ?_ (.cons ?_ (.cons ?_ .nil)))
 ·refine Sw<|Rg hN<|Sw<|Rg hN<|Sw<|Sw<|Ri hN [] (.cons (strV (rfl:a0.toList=a0.toList) (litL ([]:List UInt8))) .nil) [(10,.bool (a0.toList == ([]:List UInt8)))] ?_
  rcases ifC H with ⟨c452,H⟩ | ⟨c452,H⟩
  ·exact Ct (bq c452)<|Good.goto<|⟨k,(by first | trivial | omega),5,0,0,false,0,0,0,false,0,by omega,Wo [(2,0),(8,0)],H⟩
  refine Cf (bn c452)<|Sk<|Sw ?_
  obtain ⟨c453,H⟩:=ifS H
  refine Rd hm hN (.q 0 [[]] (.q 1 [[]] (.q 2 [[]] (.q 3 [[]] (.q 4 [[]] (.q 5 [[]] (.q 6 [[]] (.q 7 [[]] (.q 8 [[]] (.q 9 [[]] (.q 10 [[]] (.q 11 [[]] (.q 12 [[]] (.e 13 .z)))))))))))))) [(0,none),(5,some (.pt [I 0,I 0,B false,I 0]))] (.cons (ptS (shrC (rfl:(V.shr (I 0))=I 0) (shrC (rfl:(V.shr (I 0))=I 0) (shrC (rfl:(V.shr (B false))=B false) (shrC (rfl:(V.shr (I 0))=I 0) (rfl:shrL []=[])))))) .nil) [] [] (.cons (show (0:Int)≤0 by decide) (.cons c453 (.cons (show (0:Int)≤6 by decide) (.cons (show (0:Int)≤0 by decide) (.cons c453 (.cons (show (0:Int)≤0 by decide) (.cons c453 .nil))))))) (.cons (show (0:Int)≤0 by decide) (.cons c453 (.cons (show (0:Int)≤6 by decide) (.cons (show (0:Int)≤0 by decide) (.cons c453 (.cons (show (0:Int)≤0 by decide) (.cons c453 .nil))))))) [] []<|Sw<|Rg hN<|Sw<|Sw<|Rg hN ?_
  rcases ifC H with ⟨c454,H⟩ | ⟨c454,H⟩
  ·exact Ct (dt c454)<|Good.goto<|⟨k,(by first | trivial | omega),a0,1,5,0,0,false,0,wrap64 ((bt a0 0) / 64),wrap64 (Go.bits .and .u8 (bt a0 0) 31),((Go.bits .and .u8 (bt a0 0) 32) != 0),0,by omega,Wo [(0,0),(2,0),(5,0),(6,0),(8,0)],H⟩
  refine Cf (df c454)<|Sk<|Sw<|Rg hN<|Sw<|Good.label<|Sw<|Sw<|Good.cut (fun st=>∃ n':Nat,n'≤k∧∃ (x0:ByteArray) (x6:Int) (x7:Int) (x8:Int) (x45:Bool) (x1000:Int) (x1001:Int) (x1002:Bool) (x1003:Int) (x2000:Int) (x2001:Int) (x2002:Bool) (x2003:Int),Wk C st ⟨[(0,.w (S x0)),(2,.d (.ptr 0 0)),(5,.d (.ptr 1 0)),(6,.w (I x6)),(7,.w (I x7)),(8,.w (I x8)),(45,.w (B x45))],[.cells [.v (I x1000),.v (I x1001),.v (B x1002),.v (I x1003)],.cells [.v (I x2000),.v (I x2001),.v (B x2002),.v (I x2003)]]⟩∧head_Decode.j0 n' x0 x6 x7 x8 x45 x2000 x2001 x2002 x2003=some r) ?_ ?_
  ·rcases ifC H with ⟨c455,H⟩ | ⟨c455,H⟩
   ·exact Rh hN [B true,B true] (.cons (dt c455) (.cons (rfl:true=true) .nil))<|⟨k,by omega,a0,1,0,5,true,0,0,false,0,wrap64 ((bt a0 0) / 64),0,((Go.bits .and .u8 (bt a0 0) 32) != 0),0,Wo [(0,0),(2,0),(5,0),(6,0),(7,0),(8,0),(45,0)],H⟩
   obtain ⟨c456,H⟩:=ifS H
   exact Rh hN [B false,B false,B true] (.cons (df c455) (.cons (bn (show ¬ ((0:Int)=3) by decide)) (.cons (bq (show (0:Int)=0 by decide)) (.cons (show (0:Int)≤1 by decide) (.cons c456 .nil)))))<|⟨k,by omega,a0,1,0,5,((bt a0 1) == 128),0,0,false,0,wrap64 ((bt a0 0) / 64),0,((Go.bits .and .u8 (bt a0 0) 32) != 0),0,Wo [(0,0),(2,0),(5,0),(6,0),(7,0),(8,0),(45,0)],H⟩
  clear H
  rintro st ⟨n',hn',x0,x6,x7,x8,x45,x1000,x1001,x1002,x1003,x2000,x2001,x2002,x2003,W,H⟩
  rcases n' with _ | k
  ·cases H
  refine W.good ?_
  rw [head_Decode.j0] at H
  rcases ifC H with ⟨c457,H⟩ | ⟨c457,H⟩
  ·exact Ct c457<|Good.goto<|⟨k,(by first | trivial | omega),x8,x1000,x1001,x1002,x1003,x2000,x2001,x2002,x2003,by omega,Wo [(2,0),(8,0)],H⟩
  refine Cf (bf c457)<|Sk<|Sw ?_
  obtain ⟨c458,H⟩:=ifS H
  obtain ⟨c459,H⟩:=ifS H
  refine Rd hm hN (.q 0 [[]] (.q 1 [[]] (.q 2 [[]] (.q 3 [[]] (.q 4 [[]] (.q 5 [[]] (.q 6 [[]] (.q 7 [[]] (.q 8 [[]] (.q 9 [[]] (.e 10 .z))))))))))) [(0,none),(5,some (.pt [I x2000,I x2001,B x2002,I x2003])),(6,none)] (.cons (ptS (shrC (rfl:(V.shr (I x2000))=I x2000) (shrC (rfl:(V.shr (I x2001))=I x2001) (shrC (rfl:(V.shr (B x2002))=B x2002) (shrC (rfl:(V.shr (I x2003))=I x2003) (rfl:shrL []=[])))))) .nil) [] [] (.cons (show (0:Int)≤7 by decide) (.cons c458 (.cons c459 .nil))) (.cons (show (0:Int)≤7 by decide) (.cons c458 (.cons c459 .nil))) [] []<|Sw<|Rg hN<|Sw<|Rg hN<|Sw<|Sw ?_
  obtain ⟨c460,H⟩:=ifS H
  obtain ⟨c461,H⟩:=ifS H
  refine Rh hN [] (.cons c460 (.cons c461 .nil)) ?_
  rcases ifC H with ⟨c462,H⟩ | ⟨c462,H⟩
  ·exact Ct (dt c462)<|Good.goto<|⟨k,(by first | trivial | omega),x0,wrap64 (x6+1),wrap64 (x7+1),x8,x1000,x1001,x1002,x1003,x2000,Go.bits .or .i64 (wrap64 (x2001*128)) (wrap64 (Go.bits .and .u8 (bt x0 x6) 127)),x2002,x2003,by omega,Wo [(0,0),(2,0),(5,0),(6,0),(7,0),(8,0)],H⟩
  refine Cf (df c462)<|Sk<|Sw<|Sw<|Rg hN ?_
  rcases ifC H with ⟨c463,H⟩ | ⟨c463,H⟩
  ·exact Ct (dt c463)<|Good.goto<|⟨k,(by first | trivial | omega),x8,x1000,x1001,x1002,x1003,x2000,Go.bits .or .i64 (wrap64 (x2001*128)) (wrap64 (Go.bits .and .u8 (bt x0 x6) 127)),x2002,x2003,by omega,Wo [(2,0),(8,0)],H⟩
  refine Cf (df c463)<|Sk<|Sw<|Good.label<|Sw<|Sw<|Good.cut (fun st=>∃ n':Nat,n'≤k∧∃ (x0:ByteArray) (x6:Int) (x8:Int) (x77:Bool) (x1000:Int) (x1001:Int) (x1002:Bool) (x1003:Int) (x2000:Int) (x2001:Int) (x2002:Bool) (x2003:Int),Wk C st ⟨[(0,.w (S x0)),(2,.d (.ptr 0 0)),(5,.d (.ptr 1 0)),(6,.w (I x6)),(8,.w (I x8)),(77,.w (B x77))],[.cells [.v (I x1000),.v (I x1001),.v (B x1002),.v (I x1003)],.cells [.v (I x2000),.v (I x2001),.v (B x2002),.v (I x2003)]]⟩∧head_Decode.j1 n' x0 x6 x8 x77 x2000 x2001 x2002 x2003=some r) ?_ ?_
  ·rcases ifC H with ⟨c464,H⟩ | ⟨c464,H⟩
   ·exact Rh hN [B true] (.cons (dt c464) .nil)<|⟨k,by omega,x0,wrap64 (x6+1),x8,true,x1000,x1001,x1002,x1003,x2000,Go.bits .or .i64 (wrap64 (x2001*128)) (wrap64 (Go.bits .and .u8 (bt x0 x6) 127)),x2002,x2003,Wo [(0,0),(2,0),(5,0),(6,0),(8,0),(77,0)],H⟩
   obtain ⟨c465,H⟩:=ifS H
   obtain ⟨c466,H⟩:=ifS H
   exact Rh hN [B false] (.cons (df c464) (.cons c465 (.cons c466 .nil)))<|⟨k,by omega,x0,wrap64 (x6+1),x8,((bt x0 (wrap64 (x6+1))) == 128),x1000,x1001,x1002,x1003,x2000,Go.bits .or .i64 (wrap64 (x2001*128)) (wrap64 (Go.bits .and .u8 (bt x0 x6) 127)),x2002,x2003,Wo [(0,0),(2,0),(5,0),(6,0),(8,0),(77,0)],H⟩
  clear H
  rintro st ⟨n',hn',x0,x6,x8,x77,x1000,x1001,x1002,x1003,x2000,x2001,x2002,x2003,W,H⟩
  rcases n' with _ | k
  ·cases H
  refine W.good ?_
  rw [head_Decode.j1] at H
  rcases ifC H with ⟨c467,H⟩ | ⟨c467,H⟩
  ·exact Ct c467<|Good.goto<|⟨k,(by first | trivial | omega),x8,x1000,x1001,x1002,x1003,x2000,x2001,x2002,x2003,by omega,Wo [(2,0),(8,0)],H⟩
  refine Cf (bf c467)<|Sk<|Sw<|Sw ?_
  obtain ⟨c468,H⟩:=ifS H
  obtain ⟨c469,H⟩:=ifS H
  refine Rh hN [] (.cons c468 (.cons c469 .nil)) ?_
  rcases ifC H with ⟨c470,H⟩ | ⟨c470,H⟩
  ·exact Ct (dt c470)<|Sw<|Rg hN<|Good.goto<|⟨k,(by first | trivial | omega),4,x1000,x1001,x1002,x1003,x2000,x2001,x2002,x2003,by omega,Wo [(2,0),(8,0)],H⟩
  refine Cf (df c470)<|Sk<|Sw<|Sw<|Rh hN [] (.cons c468 (.cons c469 .nil)) ?_
  rcases ifC H with ⟨c471,H⟩ | ⟨c471,H⟩
  ·refine Ct (dt c471)<|Sw<|Rh hN [] (.cons c468 (.cons c469 .nil))<|Sw<|Rg hN ?_
   cases H
   exact Rt dR
  refine Cf (df c471)<|Sk<|Sw<|Rh hN [] (.cons c468 (.cons c469 .nil))<|Sw<|Rg hN<|Sw<|Sw<|Rg hN ?_
  rcases ifC H with ⟨c472,H⟩ | ⟨c472,H⟩
  ·exact Ct (dt c472)<|Good.goto<|⟨k,(by first | trivial | omega),x8,x1000,x1001,x1002,x1003,x2000,x2001,x2002,x2003,by omega,Wo [(2,0),(8,0)],H⟩
  refine Cf (df c472)<|Sk<|Sw<|Sw<|Rg hN<|Bl<|Good.loopN (fun k' st=>∃ (x0:ByteArray) (x6:Int) (x7:Int) (x8:Int) (x107:Int) (x108:Int) (x1000:Int) (x1001:Int) (x1002:Bool) (x1003:Int) (x2000:Int) (x2001:Int) (x2002:Bool) (x2003:Int),k'≤k∧Wk C st ⟨[(0,.w (S x0)),(2,.d (.ptr 0 0)),(5,.d (.ptr 1 0)),(6,.w (I x6)),(7,.w (I x7)),(8,.w (I x8)),(107,.w (I x107)),(108,.w (I x108))],[.cells [.v (I x1000),.v (I x1001),.v (B x1002),.v (I x1003)],.cells [.v (I x2000),.v (I x2001),.v (B x2002),.v (I x2003)]]⟩∧head_Decode.l0 k' x0 x6 x7 x8 x107 x108 x2000 x2001 x2002 x2003=some r) k ⟨x0,wrap64 (x6+1),wrap64 (Go.bits .and .u8 (bt x0 x6) 127),x8,wrap64 (Go.bits .and .u8 (bt x0 x6) 127),0,x1000,x1001,x1002,x1003,x2000,x2001,x2002,x2003,Nat.le_refl _,Wo [(0,0),(2,0),(5,0),(6,0),(7,0),(8,0),(107,0),(108,0)],H⟩ fun k=>⟨fun st h=>(by obtain ⟨_,_,_,_,_,_,_,_,_,_,_,_,_,_,_,_,H⟩:=h;cases H),?_⟩
  clear H
  rintro st ⟨x0,x6,x7,x8,x107,x108,x1000,x1001,x1002,x1003,x2000,x2001,x2002,x2003,hk,W,H⟩
  refine W.good ?_
  rw [head_Decode.l0] at H
  refine Sw<|Rg hN<|Sw ?_
  rcases ifC H with ⟨c473,H⟩ | ⟨c473,H⟩
  ·refine Ct (dt c473)<|Sk<|Sw<|Bl<|Sw ?_
   obtain ⟨c474,H⟩:=ifS H
   obtain ⟨c475,H⟩:=ifS H
   exact Rd hm hN (.q 0 [[]] (.q 1 [[]] (.q 2 [[]] (.q 3 [[]] (.q 4 [[]] (.q 5 [[]] (.q 6 [[]] (.q 7 [[]] (.q 8 [[]] (.e 9 .z)))))))))) [(0,none),(5,some (.pt [I x2000,I x2001,B x2002,I x2003])),(6,none)] (.cons (ptS (shrC (rfl:(V.shr (I x2000))=I x2000) (shrC (rfl:(V.shr (I x2001))=I x2001) (shrC (rfl:(V.shr (B x2002))=B x2002) (shrC (rfl:(V.shr (I x2003))=I x2003) (rfl:shrL []=[])))))) .nil) [] [] (.cons (show (0:Int)≤8 by decide) (.cons c474 (.cons c475 .nil))) (.cons (show (0:Int)≤8 by decide) (.cons c474 (.cons c475 .nil))) [] []<|Rg hN<|Rg hN<|⟨k,by omega,x0,wrap64 (x6+1),x7,x8,x107,wrap64 (x108+1),x1000,x1001,x1002,x1003,x2000,x2001,x2002,Go.bits .or .i64 (wrap64 (x2003*256)) (wrap64 (bt x0 x6)),by omega,Wo [(0,0),(2,0),(5,0),(6,0),(7,0),(8,0),(107,0),(108,0)],H⟩
  refine Cf (df c473)<|Ex<|Sw<|Sw ?_
  obtain ⟨c476,H⟩:=ifS H
  rcases (ifC H).symm with ⟨c477,H⟩ | ⟨c477,H⟩
  ·refine Rd hm hN (.qs 8 0 (.k 129 (.is 3 8 (.q 11 [] .z)))) [(5,some (.pt [I x2000,I x2001,B x2002,I x2003])),(7,none)] (.cons (ptS (shrC (rfl:(V.shr (I x2000))=I x2000) (shrC (rfl:(V.shr (I x2001))=I x2001) (shrC (rfl:(V.shr (B x2002))=B x2002) (shrC (rfl:(V.shr (I x2003))=I x2003) (rfl:shrL []=[])))))) .nil) [B false] [] (.cons c476 (.cons (df c477) .nil)) (.cons c476 (.cons (df c477) .nil)) [] []<|Good.cond false (by kernel_rfl)<|Sk<|Sw<|Good.label<|Sw<|Rg hN ?_
   cases H
   exact Rt dR
  refine Rd hm hN (.qs 8 0 (.k 129 (.qs 3 8 (.q 11 [] .z)))) [(5,some (.pt [I x2000,I x2001,B x2002,I x2003])),(7,none)] (.cons (ptS (shrC (rfl:(V.shr (I x2000))=I x2000) (shrC (rfl:(V.shr (I x2001))=I x2001) (shrC (rfl:(V.shr (B x2002))=B x2002) (shrC (rfl:(V.shr (I x2003))=I x2003) (rfl:shrL []=[])))))) .nil) [B true] [] (.cons c476 (.cons (dt c477) .nil)) (.cons c476 (.cons (dt c477) .nil)) [] [] ?_
  rcases ifC H with ⟨c478,H⟩ | ⟨c478,H⟩
  ·refine Ct (dt c478)<|Sw<|Rg hN ?_
   cases H
   exact Rt dR
  refine Cf (df c478)<|Sk<|Sw<|Good.label<|Sw<|Rg hN ?_
  cases H
  exact Rt dR
 ·clear H
  rintro n st ⟨x8,x1000,x1001,x1002,x1003,x2000,x2001,x2002,x2003,hn,W,H⟩
  rcases n with _ | k
  ·cases H
  refine W.good ?_
  rw [head_Decode.g0_0] at H
  refine Sw<|Sk<|Sw<|Rg hN ?_
  cases H
  exact Rt dR
 ·clear H
  rintro n st ⟨x0,x6,x8,x1000,x1001,x1002,x1003,x2000,x2001,x2002,x2003,hn,W,H⟩
  rcases n with _ | k
  ·cases H
  refine W.good ?_
  rw [head_Decode.g0_1] at H
  refine Sw<|Sk<|Sw<|Sw<|Good.cut (fun st=>∃ n':Nat,n'≤k∧∃ (x0:ByteArray) (x6:Int) (x8:Int) (x77:Bool) (x1000:Int) (x1001:Int) (x1002:Bool) (x1003:Int) (x2000:Int) (x2001:Int) (x2002:Bool) (x2003:Int),Wk C st ⟨[(0,.w (S x0)),(2,.d (.ptr 0 0)),(5,.d (.ptr 1 0)),(6,.w (I x6)),(8,.w (I x8)),(77,.w (B x77))],[.cells [.v (I x1000),.v (I x1001),.v (B x1002),.v (I x1003)],.cells [.v (I x2000),.v (I x2001),.v (B x2002),.v (I x2003)]]⟩∧head_Decode.j5 n' x0 x6 x8 x77 x2000 x2001 x2002 x2003=some r) ?_ ?_
  ·rcases ifC H with ⟨c479,H⟩ | ⟨c479,H⟩
   ·exact Rh hN [B true] (.cons (dt c479) .nil)<|⟨k,by omega,x0,x6,x8,true,x1000,x1001,x1002,x1003,x2000,x2001,x2002,x2003,Wo [(0,0),(2,0),(5,0),(6,0),(8,0),(77,0)],H⟩
   obtain ⟨c480,H⟩:=ifS H
   obtain ⟨c481,H⟩:=ifS H
   exact Rh hN [B false] (.cons (df c479) (.cons c480 (.cons c481 .nil)))<|⟨k,by omega,x0,x6,x8,((bt x0 x6) == 128),x1000,x1001,x1002,x1003,x2000,x2001,x2002,x2003,Wo [(0,0),(2,0),(5,0),(6,0),(8,0),(77,0)],H⟩
  clear H
  rintro st ⟨n',hn',x0,x6,x8,x77,x1000,x1001,x1002,x1003,x2000,x2001,x2002,x2003,W,H⟩
  rcases n' with _ | k
  ·cases H
  refine W.good ?_
  rw [head_Decode.j5] at H
  rcases ifC H with ⟨c482,H⟩ | ⟨c482,H⟩
  ·exact Ct c482<|Good.goto<|⟨k,(by first | trivial | omega),x8,x1000,x1001,x1002,x1003,x2000,x2001,x2002,x2003,by omega,Wo [(2,0),(8,0)],H⟩
  refine Cf (bf c482)<|Sk<|Sw<|Sw ?_
  obtain ⟨c483,H⟩:=ifS H
  obtain ⟨c484,H⟩:=ifS H
  refine Rh hN [] (.cons c483 (.cons c484 .nil)) ?_
  rcases ifC H with ⟨c485,H⟩ | ⟨c485,H⟩
  ·exact Ct (dt c485)<|Sw<|Rg hN<|Good.goto<|⟨k,(by first | trivial | omega),4,x1000,x1001,x1002,x1003,x2000,x2001,x2002,x2003,by omega,Wo [(2,0),(8,0)],H⟩
  refine Cf (df c485)<|Sk<|Sw<|Sw<|Rh hN [] (.cons c483 (.cons c484 .nil)) ?_
  rcases ifC H with ⟨c486,H⟩ | ⟨c486,H⟩
  ·refine Ct (dt c486)<|Sw<|Rh hN [] (.cons c483 (.cons c484 .nil))<|Sw<|Rg hN ?_
   cases H
   exact Rt dR
  refine Cf (df c486)<|Sk<|Sw<|Rh hN [] (.cons c483 (.cons c484 .nil))<|Sw<|Rg hN<|Sw<|Sw<|Rg hN ?_
  rcases ifC H with ⟨c487,H⟩ | ⟨c487,H⟩
  ·exact Ct (dt c487)<|Good.goto<|⟨k,(by first | trivial | omega),x8,x1000,x1001,x1002,x1003,x2000,x2001,x2002,x2003,by omega,Wo [(2,0),(8,0)],H⟩
  refine Cf (df c487)<|Sk<|Sw<|Sw<|Rg hN<|Bl<|Good.loopN (fun k' st=>∃ (x0:ByteArray) (x6:Int) (x7:Int) (x8:Int) (x107:Int) (x108:Int) (x1000:Int) (x1001:Int) (x1002:Bool) (x1003:Int) (x2000:Int) (x2001:Int) (x2002:Bool) (x2003:Int),k'≤k∧Wk C st ⟨[(0,.w (S x0)),(2,.d (.ptr 0 0)),(5,.d (.ptr 1 0)),(6,.w (I x6)),(7,.w (I x7)),(8,.w (I x8)),(107,.w (I x107)),(108,.w (I x108))],[.cells [.v (I x1000),.v (I x1001),.v (B x1002),.v (I x1003)],.cells [.v (I x2000),.v (I x2001),.v (B x2002),.v (I x2003)]]⟩∧head_Decode.l0 k' x0 x6 x7 x8 x107 x108 x2000 x2001 x2002 x2003=some r) k ⟨x0,wrap64 (x6+1),wrap64 (Go.bits .and .u8 (bt x0 x6) 127),x8,wrap64 (Go.bits .and .u8 (bt x0 x6) 127),0,x1000,x1001,x1002,x1003,x2000,x2001,x2002,x2003,Nat.le_refl _,Wo [(0,0),(2,0),(5,0),(6,0),(7,0),(8,0),(107,0),(108,0)],H⟩ fun k=>⟨fun st h=>(by obtain ⟨_,_,_,_,_,_,_,_,_,_,_,_,_,_,_,_,H⟩:=h;cases H),?_⟩
  clear H
  rintro st ⟨x0,x6,x7,x8,x107,x108,x1000,x1001,x1002,x1003,x2000,x2001,x2002,x2003,hk,W,H⟩
  refine W.good ?_
  rw [head_Decode.l0] at H
  refine Sw<|Rg hN<|Sw ?_
  rcases ifC H with ⟨c473,H⟩ | ⟨c473,H⟩
  ·refine Ct (dt c473)<|Sk<|Sw<|Bl<|Sw ?_
   obtain ⟨c474,H⟩:=ifS H
   obtain ⟨c475,H⟩:=ifS H
   exact Rd hm hN (.q 0 [[]] (.q 1 [[]] (.q 2 [[]] (.q 3 [[]] (.q 4 [[]] (.q 5 [[]] (.q 6 [[]] (.q 7 [[]] (.q 8 [[]] (.e 9 .z)))))))))) [(0,none),(5,some (.pt [I x2000,I x2001,B x2002,I x2003])),(6,none)] (.cons (ptS (shrC (rfl:(V.shr (I x2000))=I x2000) (shrC (rfl:(V.shr (I x2001))=I x2001) (shrC (rfl:(V.shr (B x2002))=B x2002) (shrC (rfl:(V.shr (I x2003))=I x2003) (rfl:shrL []=[])))))) .nil) [] [] (.cons (show (0:Int)≤8 by decide) (.cons c474 (.cons c475 .nil))) (.cons (show (0:Int)≤8 by decide) (.cons c474 (.cons c475 .nil))) [] []<|Rg hN<|Rg hN<|⟨k,by omega,x0,wrap64 (x6+1),x7,x8,x107,wrap64 (x108+1),x1000,x1001,x1002,x1003,x2000,x2001,x2002,Go.bits .or .i64 (wrap64 (x2003*256)) (wrap64 (bt x0 x6)),by omega,Wo [(0,0),(2,0),(5,0),(6,0),(7,0),(8,0),(107,0),(108,0)],H⟩
  refine Cf (df c473)<|Ex<|Sw<|Sw ?_
  obtain ⟨c476,H⟩:=ifS H
  rcases (ifC H).symm with ⟨c477,H⟩ | ⟨c477,H⟩
  ·refine Rd hm hN (.qs 8 0 (.k 129 (.is 3 8 (.q 11 [] .z)))) [(5,some (.pt [I x2000,I x2001,B x2002,I x2003])),(7,none)] (.cons (ptS (shrC (rfl:(V.shr (I x2000))=I x2000) (shrC (rfl:(V.shr (I x2001))=I x2001) (shrC (rfl:(V.shr (B x2002))=B x2002) (shrC (rfl:(V.shr (I x2003))=I x2003) (rfl:shrL []=[])))))) .nil) [B false] [] (.cons c476 (.cons (df c477) .nil)) (.cons c476 (.cons (df c477) .nil)) [] []<|Good.cond false (by kernel_rfl)<|Sk<|Sw<|Good.label<|Sw<|Rg hN ?_
   cases H
   exact Rt dR
  refine Rd hm hN (.qs 8 0 (.k 129 (.qs 3 8 (.q 11 [] .z)))) [(5,some (.pt [I x2000,I x2001,B x2002,I x2003])),(7,none)] (.cons (ptS (shrC (rfl:(V.shr (I x2000))=I x2000) (shrC (rfl:(V.shr (I x2001))=I x2001) (shrC (rfl:(V.shr (B x2002))=B x2002) (shrC (rfl:(V.shr (I x2003))=I x2003) (rfl:shrL []=[])))))) .nil) [B true] [] (.cons c476 (.cons (dt c477) .nil)) (.cons c476 (.cons (dt c477) .nil)) [] [] ?_
  rcases ifC H with ⟨c478,H⟩ | ⟨c478,H⟩
  ·refine Ct (dt c478)<|Sw<|Rg hN ?_
   cases H
   exact Rt dR
  refine Cf (df c478)<|Sk<|Sw<|Good.label<|Sw<|Rg hN ?_
  cases H
  exact Rt dR
 ·clear H
  rintro n st ⟨x0,x6,x7,x8,x1000,x1001,x1002,x1003,x2000,x2001,x2002,x2003,hn,W,H⟩
  rcases n with _ | k
  ·cases H
  refine W.good ?_
  rw [head_Decode.g0_2] at H
  refine Sw<|Sk<|Sw<|Sw<|Good.cut (fun st=>∃ n':Nat,n'≤k∧∃ (x0:ByteArray) (x6:Int) (x7:Int) (x8:Int) (x45:Bool) (x1000:Int) (x1001:Int) (x1002:Bool) (x1003:Int) (x2000:Int) (x2001:Int) (x2002:Bool) (x2003:Int),Wk C st ⟨[(0,.w (S x0)),(2,.d (.ptr 0 0)),(5,.d (.ptr 1 0)),(6,.w (I x6)),(7,.w (I x7)),(8,.w (I x8)),(45,.w (B x45))],[.cells [.v (I x1000),.v (I x1001),.v (B x1002),.v (I x1003)],.cells [.v (I x2000),.v (I x2001),.v (B x2002),.v (I x2003)]]⟩∧head_Decode.j7 n' x0 x6 x7 x8 x45 x2000 x2001 x2002 x2003=some r) ?_ ?_
  ·rcases ifC H with ⟨c488,H⟩ | ⟨c488,H⟩
   ·exact Rh hN [B true,B true] (.cons (dt c488) (.cons (rfl:true=true) .nil))<|⟨k,by omega,x0,x6,x7,x8,true,x1000,x1001,x1002,x1003,x2000,x2001,x2002,x2003,Wo [(0,0),(2,0),(5,0),(6,0),(7,0),(8,0),(45,0)],H⟩
   rcases ifC H with ⟨c489,H⟩ | ⟨c489,H⟩
   ·exact Rh hN [B false,B true] (.cons (df c488) (.cons (bq c489) .nil))<|⟨k,by omega,x0,x6,x7,x8,true,x1000,x1001,x1002,x1003,x2000,x2001,x2002,x2003,Wo [(0,0),(2,0),(5,0),(6,0),(7,0),(8,0),(45,0)],H⟩
   rcases (ifC H).symm with ⟨c490,H⟩ | ⟨c490,H⟩
   ·exact Rh hN [B false,B false,B false] (.cons (df c488) (.cons (bn c489) (.cons (bn c490) .nil)))<|⟨k,by omega,x0,x6,x7,x8,false,x1000,x1001,x1002,x1003,x2000,x2001,x2002,x2003,Wo [(0,0),(2,0),(5,0),(6,0),(7,0),(8,0),(45,0)],H⟩
   obtain ⟨c491,H⟩:=ifS H
   obtain ⟨c492,H⟩:=ifS H
   exact Rh hN [B false,B false,B true] (.cons (df c488) (.cons (bn c489) (.cons (bq c490) (.cons c491 (.cons c492 .nil)))))<|⟨k,by omega,x0,x6,x7,x8,((bt x0 x6) == 128),x1000,x1001,x1002,x1003,x2000,x2001,x2002,x2003,Wo [(0,0),(2,0),(5,0),(6,0),(7,0),(8,0),(45,0)],H⟩
  clear H
  rintro st ⟨n',hn',x0,x6,x7,x8,x45,x1000,x1001,x1002,x1003,x2000,x2001,x2002,x2003,W,H⟩
  rcases n' with _ | k
  ·cases H
  refine W.good ?_
  rw [head_Decode.j7] at H
  rcases ifC H with ⟨c493,H⟩ | ⟨c493,H⟩
  ·exact Ct c493<|Good.goto<|⟨k,(by first | trivial | omega),x8,x1000,x1001,x1002,x1003,x2000,x2001,x2002,x2003,by omega,Wo [(2,0),(8,0)],H⟩
  refine Cf (bf c493)<|Sk<|Sw ?_
  obtain ⟨c494,H⟩:=ifS H
  obtain ⟨c495,H⟩:=ifS H
  refine Rd hm hN (.q 0 [[]] (.q 1 [[]] (.q 2 [[]] (.q 3 [[]] (.q 4 [[]] (.q 5 [[]] (.q 6 [[]] (.q 7 [[]] (.q 8 [[]] (.q 9 [[]] (.e 10 .z))))))))))) [(0,none),(5,some (.pt [I x2000,I x2001,B x2002,I x2003])),(6,none)] (.cons (ptS (shrC (rfl:(V.shr (I x2000))=I x2000) (shrC (rfl:(V.shr (I x2001))=I x2001) (shrC (rfl:(V.shr (B x2002))=B x2002) (shrC (rfl:(V.shr (I x2003))=I x2003) (rfl:shrL []=[])))))) .nil) [] [] (.cons (show (0:Int)≤7 by decide) (.cons c494 (.cons c495 .nil))) (.cons (show (0:Int)≤7 by decide) (.cons c494 (.cons c495 .nil))) [] []<|Sw<|Rg hN<|Sw<|Rg hN<|Sw<|Sw ?_
  obtain ⟨c496,H⟩:=ifS H
  obtain ⟨c497,H⟩:=ifS H
  refine Rh hN [] (.cons c496 (.cons c497 .nil)) ?_
  rcases ifC H with ⟨c498,H⟩ | ⟨c498,H⟩
  ·exact Ct (dt c498)<|Good.goto<|⟨k,(by first | trivial | omega),x0,wrap64 (x6+1),wrap64 (x7+1),x8,x1000,x1001,x1002,x1003,x2000,Go.bits .or .i64 (wrap64 (x2001*128)) (wrap64 (Go.bits .and .u8 (bt x0 x6) 127)),x2002,x2003,by omega,Wo [(0,0),(2,0),(5,0),(6,0),(7,0),(8,0)],H⟩
  refine Cf (df c498)<|Sk<|Sw<|Sw<|Rg hN ?_
  rcases ifC H with ⟨c499,H⟩ | ⟨c499,H⟩
  ·exact Ct (dt c499)<|Good.goto<|⟨k,(by first | trivial | omega),x8,x1000,x1001,x1002,x1003,x2000,Go.bits .or .i64 (wrap64 (x2001*128)) (wrap64 (Go.bits .and .u8 (bt x0 x6) 127)),x2002,x2003,by omega,Wo [(2,0),(8,0)],H⟩
  refine Cf (df c499)<|Sk<|Sw<|Good.label<|Sw<|Sw<|Good.cut (fun st=>∃ n':Nat,n'≤k∧∃ (x0:ByteArray) (x6:Int) (x8:Int) (x77:Bool) (x1000:Int) (x1001:Int) (x1002:Bool) (x1003:Int) (x2000:Int) (x2001:Int) (x2002:Bool) (x2003:Int),Wk C st ⟨[(0,.w (S x0)),(2,.d (.ptr 0 0)),(5,.d (.ptr 1 0)),(6,.w (I x6)),(8,.w (I x8)),(77,.w (B x77))],[.cells [.v (I x1000),.v (I x1001),.v (B x1002),.v (I x1003)],.cells [.v (I x2000),.v (I x2001),.v (B x2002),.v (I x2003)]]⟩∧head_Decode.j8 n' x0 x6 x8 x77 x2000 x2001 x2002 x2003=some r) ?_ ?_
  ·rcases ifC H with ⟨c500,H⟩ | ⟨c500,H⟩
   ·exact Rh hN [B true] (.cons (dt c500) .nil)<|⟨k,by omega,x0,wrap64 (x6+1),x8,true,x1000,x1001,x1002,x1003,x2000,Go.bits .or .i64 (wrap64 (x2001*128)) (wrap64 (Go.bits .and .u8 (bt x0 x6) 127)),x2002,x2003,Wo [(0,0),(2,0),(5,0),(6,0),(8,0),(77,0)],H⟩
   obtain ⟨c501,H⟩:=ifS H
   obtain ⟨c502,H⟩:=ifS H
   exact Rh hN [B false] (.cons (df c500) (.cons c501 (.cons c502 .nil)))<|⟨k,by omega,x0,wrap64 (x6+1),x8,((bt x0 (wrap64 (x6+1))) == 128),x1000,x1001,x1002,x1003,x2000,Go.bits .or .i64 (wrap64 (x2001*128)) (wrap64 (Go.bits .and .u8 (bt x0 x6) 127)),x2002,x2003,Wo [(0,0),(2,0),(5,0),(6,0),(8,0),(77,0)],H⟩
  clear H
  rintro st ⟨n',hn',x0,x6,x8,x77,x1000,x1001,x1002,x1003,x2000,x2001,x2002,x2003,W,H⟩
  rcases n' with _ | k
  ·cases H
  refine W.good ?_
  rw [head_Decode.j8] at H
  rcases ifC H with ⟨c503,H⟩ | ⟨c503,H⟩
  ·exact Ct c503<|Good.goto<|⟨k,(by first | trivial | omega),x8,x1000,x1001,x1002,x1003,x2000,x2001,x2002,x2003,by omega,Wo [(2,0),(8,0)],H⟩
  refine Cf (bf c503)<|Sk<|Sw<|Sw ?_
  obtain ⟨c504,H⟩:=ifS H
  obtain ⟨c505,H⟩:=ifS H
  refine Rh hN [] (.cons c504 (.cons c505 .nil)) ?_
  rcases ifC H with ⟨c506,H⟩ | ⟨c506,H⟩
  ·exact Ct (dt c506)<|Sw<|Rg hN<|Good.goto<|⟨k,(by first | trivial | omega),4,x1000,x1001,x1002,x1003,x2000,x2001,x2002,x2003,by omega,Wo [(2,0),(8,0)],H⟩
  refine Cf (df c506)<|Sk<|Sw<|Sw<|Rh hN [] (.cons c504 (.cons c505 .nil)) ?_
  rcases ifC H with ⟨c507,H⟩ | ⟨c507,H⟩
  ·refine Ct (dt c507)<|Sw<|Rh hN [] (.cons c504 (.cons c505 .nil))<|Sw<|Rg hN ?_
   cases H
   exact Rt dR
  refine Cf (df c507)<|Sk<|Sw<|Rh hN [] (.cons c504 (.cons c505 .nil))<|Sw<|Rg hN<|Sw<|Sw<|Rg hN ?_
  rcases ifC H with ⟨c508,H⟩ | ⟨c508,H⟩
  ·exact Ct (dt c508)<|Good.goto<|⟨k,(by first | trivial | omega),x8,x1000,x1001,x1002,x1003,x2000,x2001,x2002,x2003,by omega,Wo [(2,0),(8,0)],H⟩
  refine Cf (df c508)<|Sk<|Sw<|Sw<|Rg hN<|Bl<|Good.loopN (fun k' st=>∃ (x0:ByteArray) (x6:Int) (x7:Int) (x8:Int) (x107:Int) (x108:Int) (x1000:Int) (x1001:Int) (x1002:Bool) (x1003:Int) (x2000:Int) (x2001:Int) (x2002:Bool) (x2003:Int),k'≤k∧Wk C st ⟨[(0,.w (S x0)),(2,.d (.ptr 0 0)),(5,.d (.ptr 1 0)),(6,.w (I x6)),(7,.w (I x7)),(8,.w (I x8)),(107,.w (I x107)),(108,.w (I x108))],[.cells [.v (I x1000),.v (I x1001),.v (B x1002),.v (I x1003)],.cells [.v (I x2000),.v (I x2001),.v (B x2002),.v (I x2003)]]⟩∧head_Decode.l0 k' x0 x6 x7 x8 x107 x108 x2000 x2001 x2002 x2003=some r) k ⟨x0,wrap64 (x6+1),wrap64 (Go.bits .and .u8 (bt x0 x6) 127),x8,wrap64 (Go.bits .and .u8 (bt x0 x6) 127),0,x1000,x1001,x1002,x1003,x2000,x2001,x2002,x2003,Nat.le_refl _,Wo [(0,0),(2,0),(5,0),(6,0),(7,0),(8,0),(107,0),(108,0)],H⟩ fun k=>⟨fun st h=>(by obtain ⟨_,_,_,_,_,_,_,_,_,_,_,_,_,_,_,_,H⟩:=h;cases H),?_⟩
  clear H
  rintro st ⟨x0,x6,x7,x8,x107,x108,x1000,x1001,x1002,x1003,x2000,x2001,x2002,x2003,hk,W,H⟩
  refine W.good ?_
  rw [head_Decode.l0] at H
  refine Sw<|Rg hN<|Sw ?_
  rcases ifC H with ⟨c473,H⟩ | ⟨c473,H⟩
  ·refine Ct (dt c473)<|Sk<|Sw<|Bl<|Sw ?_
   obtain ⟨c474,H⟩:=ifS H
   obtain ⟨c475,H⟩:=ifS H
   exact Rd hm hN (.q 0 [[]] (.q 1 [[]] (.q 2 [[]] (.q 3 [[]] (.q 4 [[]] (.q 5 [[]] (.q 6 [[]] (.q 7 [[]] (.q 8 [[]] (.e 9 .z)))))))))) [(0,none),(5,some (.pt [I x2000,I x2001,B x2002,I x2003])),(6,none)] (.cons (ptS (shrC (rfl:(V.shr (I x2000))=I x2000) (shrC (rfl:(V.shr (I x2001))=I x2001) (shrC (rfl:(V.shr (B x2002))=B x2002) (shrC (rfl:(V.shr (I x2003))=I x2003) (rfl:shrL []=[])))))) .nil) [] [] (.cons (show (0:Int)≤8 by decide) (.cons c474 (.cons c475 .nil))) (.cons (show (0:Int)≤8 by decide) (.cons c474 (.cons c475 .nil))) [] []<|Rg hN<|Rg hN<|⟨k,by omega,x0,wrap64 (x6+1),x7,x8,x107,wrap64 (x108+1),x1000,x1001,x1002,x1003,x2000,x2001,x2002,Go.bits .or .i64 (wrap64 (x2003*256)) (wrap64 (bt x0 x6)),by omega,Wo [(0,0),(2,0),(5,0),(6,0),(7,0),(8,0),(107,0),(108,0)],H⟩
  refine Cf (df c473)<|Ex<|Sw<|Sw ?_
  obtain ⟨c476,H⟩:=ifS H
  rcases (ifC H).symm with ⟨c477,H⟩ | ⟨c477,H⟩
  ·refine Rd hm hN (.qs 8 0 (.k 129 (.is 3 8 (.q 11 [] .z)))) [(5,some (.pt [I x2000,I x2001,B x2002,I x2003])),(7,none)] (.cons (ptS (shrC (rfl:(V.shr (I x2000))=I x2000) (shrC (rfl:(V.shr (I x2001))=I x2001) (shrC (rfl:(V.shr (B x2002))=B x2002) (shrC (rfl:(V.shr (I x2003))=I x2003) (rfl:shrL []=[])))))) .nil) [B false] [] (.cons c476 (.cons (df c477) .nil)) (.cons c476 (.cons (df c477) .nil)) [] []<|Good.cond false (by kernel_rfl)<|Sk<|Sw<|Good.label<|Sw<|Rg hN ?_
   cases H
   exact Rt dR
  refine Rd hm hN (.qs 8 0 (.k 129 (.qs 3 8 (.q 11 [] .z)))) [(5,some (.pt [I x2000,I x2001,B x2002,I x2003])),(7,none)] (.cons (ptS (shrC (rfl:(V.shr (I x2000))=I x2000) (shrC (rfl:(V.shr (I x2001))=I x2001) (shrC (rfl:(V.shr (B x2002))=B x2002) (shrC (rfl:(V.shr (I x2003))=I x2003) (rfl:shrL []=[])))))) .nil) [B true] [] (.cons c476 (.cons (dt c477) .nil)) (.cons c476 (.cons (dt c477) .nil)) [] [] ?_
  rcases ifC H with ⟨c478,H⟩ | ⟨c478,H⟩
  ·refine Ct (dt c478)<|Sw<|Rg hN ?_
   cases H
   exact Rt dR
  refine Cf (df c478)<|Sk<|Sw<|Good.label<|Sw<|Rg hN ?_
  cases H
  exact Rt dR
def octets_Cut.f (a0:ByteArray) (a1:Int) (a2:Int):Option (ByteArray):=if a1 < 0 then (some (⟨#[]⟩:ByteArray)) else (if a1≥(a0.size:Int) then (some (⟨#[]⟩:ByteArray)) else (if a2 < 1 then (some (⟨#[]⟩:ByteArray)) else (if 0≤a1 then (if a1≤(wrap64 (a1+(mn a2 (wrap64 ((a0.size:Int) - a1))))) then (if (wrap64 (a1+(mn a2 (wrap64 ((a0.size:Int) - a1)))))≤(a0.size:Int) then (some (a0.extract (a1:Int).toNat ((wrap64 (a1+(mn a2 (wrap64 ((a0.size:Int) - a1))))):Int).toNat)) else (none)) else (none)) else (none))))
theorem octets_Cut.con {a0:ByteArray} {a1:Int} {a2:Int} {r:(ByteArray)} (H:octets_Cut.f a0 a1 a2=some r):Con Tryd.prog 44 [S a0,I a1,I a2] (S r):=by
 refine Cg Tryd.func44 rfl fun C hN hL=>?_
 unfold octets_Cut.f at H
 refine Sw<|Rg hN<|Sw<|Sw ?_
 rcases ifC H with ⟨c509,H⟩ | ⟨c509,H⟩
 ·refine Rh hN [B true,B true] (.cons (dt c509) (.cons (rfl:true=true) .nil))<|Good.cond true (by kernel_rfl)<|Sw<|Rg hN ?_
  cases H
  exact Rt dR
 rcases ifC H with ⟨c510,H⟩ | ⟨c510,H⟩
 ·refine Rh hN [B false,B true] (.cons (df c509) (.cons (dt c510) .nil))<|Good.cond true (by kernel_rfl)<|Sw<|Rg hN ?_
  cases H
  exact Rt dR
 refine Rh hN [B false,B false] (.cons (df c509) (.cons (df c510) .nil)) ?_
 rcases ifC H with ⟨c511,H⟩ | ⟨c511,H⟩
 ·refine Ct (dt c511)<|Sw<|Rg hN ?_
  cases H
  exact Rt dR
 refine Cf (df c511)<|Sk<|Sw ?_
 obtain ⟨c512,H⟩:=ifS H
 obtain ⟨c513,H⟩:=ifS H
 obtain ⟨c514,H⟩:=ifS H
 refine Rh hN [] (.cons c512 (.cons c513 (.cons c514 .nil))) ?_
 cases H
 exact Rt dR
def tlv_reader_may.j0:Nat→ByteArray→Bool→ByteArray→List S41→List (Nat × Nat)→List Int→Int→Bool→Option (Int × ByteArray × List S41 × List (Nat × Nat) × List Int)
 | 0,_,_,_,_,_,_,_,_=>none
 | k+1,x2,x25,x1000,x1001,x1002,x1003,x2001,x2002=>if x25=true then (some (0,x1000,x1001,x1002,x1003)) else (if x2002=true then (some (5,x1000,x1001,x1002,x1003)) else ((strs_Right.f k x2001 x2).bind fun t522=>(if t522=true then (some (0,x1000,x1001,x1002,x1003)) else (some (5,x1000,x1001,x1002,x1003)))))
def tlv_reader_may.f (k:Nat) (a0_0:ByteArray) (l0_1:List S41) (l0_2:List (Nat × Nat)) (l0_3:List Int) (a1_0:Int) (a1_1:Int) (a1_2:Bool) (a1_3:Int) (a2:ByteArray):Option (Int × ByteArray × List S41 × List (Nat × Nat) × List Int):=if (l0_3.length:Int)≥16 then (some (6,a0_0,l0_1,l0_2,l0_3)) else (if (l0_1.length:Int)≥1000 then (some (4,a0_0,l0_1,l0_2,l0_3)) else (if a1_0=0 then (if a1_2=true then (if a1_1=16 then (tlv_reader_may.j0 k a2 true a0_0 l0_1 l0_2 l0_3 a1_1 a1_2) else (tlv_reader_may.j0 k a2 (a1_1 == 17) a0_0 l0_1 l0_2 l0_3 a1_1 a1_2)) else (tlv_reader_may.j0 k a2 false a0_0 l0_1 l0_2 l0_3 a1_1 a1_2)) else (some (0,a0_0,l0_1,l0_2,l0_3))))
theorem tlv_reader_may.con {k:Nat} {a0_0:ByteArray} {l0_1:List S41} {l0_2:List (Nat × Nat)} {l0_3:List Int} {a1_0:Int} {a1_1:Int} {a1_2:Bool} {a1_3:Int} {a2:ByteArray} {r:(Int × ByteArray × List S41 × List (Nat × Nat) × List Int)} (H:tlv_reader_may.f k a0_0 l0_1 l0_2 l0_3 a1_0 a1_1 a1_2 a1_3 a2=some r):ConX Tryd.prog 45 [.ptr 0 0,.v (.agg [I a1_0,I a1_1,B a1_2,I a1_3]),.v (S a2)] [[S a0_0,.row (some 41) 5 (List.map (v41 1) l0_1),.row (some 53) 1 (List.map Cx l0_2),.row (some 3) 1 (List.map I l0_3)]] (.v (I r.1)) [[S r.2.1,.row (some 41) 5 (List.map (v41 1) r.2.2.1),.row (some 53) 1 (List.map Cx r.2.2.2.1),.row (some 3) 1 (List.map I r.2.2.2.2)]]:=by
 refine conX_of_good Tryd.func45 rfl (by kernel_rfl) (by kernel_rfl) fun C hN hL=>?_
 unfold tlv_reader_may.f at H
 refine Sw<|Rg hN<|Sw<|Bl<|Sw<|Rh hN [I (l0_3.length:Int)] (.cons (lenM I l0_3) .nil) ?_
 rcases ifC H with ⟨c515,H⟩ | ⟨c515,H⟩
 ·refine Ct (dt c515)<|Sw<|Rg hN ?_
  cases H
  exact Good.ret (finX_fitR (.refl _) (FitLL.refl _) (by kernel_rfl) rfl)
 refine Cf (df c515)<|Sw<|Rh hN [I (l0_1.length:Int)] (.cons (lenM (v41 1) l0_1) .nil) ?_
 rcases ifC H with ⟨c516,H⟩ | ⟨c516,H⟩
 ·refine Ct (dt c516)<|Sw<|Rg hN ?_
  cases H
  exact Good.ret (finX_fitR (.refl _) (FitLL.refl _) (by kernel_rfl) rfl)
 refine Cf (df c516)<|Sw<|Rg hN ?_
 rcases (ifC H).symm with ⟨c517,H⟩ | ⟨c517,H⟩
 ·refine Ct (nq c517)<|Sw<|Rg hN ?_
  cases H
  exact Good.ret (finX_fitR (.refl _) (FitLL.refl _) (by kernel_rfl) rfl)
 refine Cf (bneF c517)<|Sw<|Sw<|Good.cut (fun st=>∃ n':Nat,n'≤k∧∃ (x2:ByteArray) (x25:Bool) (x1000:ByteArray) (x1001:List S41) (x1002:List (Nat × Nat)) (x1003:List Int) (x2000:Int) (x2001:Int) (x2002:Bool) (x2003:Int),Wk C st ⟨[(2,.w (S x2)),(4,.d (.ptr 1 0)),(25,.w (B x25))],[.cells [.v (S x1000),.v (.row (some 41) 5 (List.map (v41 1) x1001)),.v (.row (some 53) 1 (List.map Cx x1002)),.v (.row (some 3) 1 (List.map I x1003))],.cells [.v (I x2000),.v (I x2001),.v (B x2002),.v (I x2003)]]⟩∧tlv_reader_may.j0 n' x2 x25 x1000 x1001 x1002 x1003 x2001 x2002=some r) ?_ ?_
 ·rcases (ifC H).symm with ⟨c518,H⟩ | ⟨c518,H⟩
  ·exact Rh hN [B false] (.cons (bf c518) .nil)<|⟨k,by omega,a2,false,a0_0,l0_1,l0_2,l0_3,a1_0,a1_1,a1_2,a1_3,Wo [(2,0),(4,0),(25,0)],H⟩
  rcases ifC H with ⟨c519,H⟩ | ⟨c519,H⟩
  ·exact Rh hN [B true,B true] (.cons c518 (.cons (bq c519) .nil))<|⟨k,by omega,a2,true,a0_0,l0_1,l0_2,l0_3,a1_0,a1_1,a1_2,a1_3,Wo [(2,0),(4,0),(25,0)],H⟩
  exact Rh hN [B true,B false] (.cons c518 (.cons (bn c519) .nil))<|⟨k,by omega,a2,(a1_1 == 17),a0_0,l0_1,l0_2,l0_3,a1_0,a1_1,a1_2,a1_3,Wo [(2,0),(4,0),(25,0)],H⟩
 clear H
 rintro st ⟨n',hn',x2,x25,x1000,x1001,x1002,x1003,x2000,x2001,x2002,x2003,W,H⟩
 rcases n' with _ | k
 ·cases H
 refine W.good ?_
 rw [tlv_reader_may.j0] at H
 rcases ifC H with ⟨c520,H⟩ | ⟨c520,H⟩
 ·refine Ct c520<|Sk<|Ct c520<|Sw<|Rg hN ?_
  cases H
  exact Good.ret (finX_fitR (.refl _) (FitLL.refl _) (by kernel_rfl) rfl)
 refine Cf (bf c520) ?_
 rcases ifC H with ⟨c521,H⟩ | ⟨c521,H⟩
 ·refine Rh hN [B false] (.cons (notF c521) .nil)<|Good.cond false (by kernel_rfl)<|Sk<|Sw<|Rg hN ?_
  cases H
  exact Good.ret (finX_fitR (.refl _) (FitLL.refl _) (by kernel_rfl) rfl)
 obtain ⟨t522,h523,H⟩:=bindS H
 refine Rh hN [B true,B t522] (.cons (notT (bf c521)) (.cons (strs_Right.con h523).c .nil)) ?_
 rcases ifC H with ⟨c524,H⟩ | ⟨c524,H⟩
 ·refine Ct c524<|Sw<|Rg hN ?_
  cases H
  exact Good.ret (finX_fitR (.refl _) (FitLL.refl _) (by kernel_rfl) rfl)
 refine Cf (bf c524)<|Sk<|Sw<|Rg hN ?_
 cases H
 exact Good.ret (finX_fitR (.refl _) (FitLL.refl _) (by kernel_rfl) rfl)
def tlv_reader_put.f (a0_0:ByteArray) (l0_1:List S41) (l0_2:List (Nat × Nat)) (l0_3:List Int) (a1_0:Int) (a1_1:Int) (a1_2:Bool) (a1_3:Int) (a2:ByteArray) (a3:(Nat × Nat)):Option (List S41 × List (Nat × Nat) × List Int):=if (l0_3.length:Int) > 0 then (if 0≤(wrap64 ((l0_3.length:Int) - 1)) then (if (wrap64 ((l0_3.length:Int) - 1)) < (l0_3.length:Int) then (if 0≤(rd l0_3 (wrap64 ((l0_3.length:Int) - 1))) then (if (rd l0_3 (wrap64 ((l0_3.length:Int) - 1))) < (l0_1.length:Int) then (if ((rd_T41 l0_1 (rd l0_3 (wrap64 ((l0_3.length:Int) - 1)))).f4).length < 17592186044416 then ((some (l0_1.set ((rd l0_3 (wrap64 ((l0_3.length:Int) - 1))):Int).toNat (⟨(rd_T41 l0_1 (rd l0_3 (wrap64 ((l0_3.length:Int) - 1)))).f0,(rd_T41 l0_1 (rd l0_3 (wrap64 ((l0_3.length:Int) - 1)))).f1,(rd_T41 l0_1 (rd l0_3 (wrap64 ((l0_3.length:Int) - 1)))).f2,(rd_T41 l0_1 (rd l0_3 (wrap64 ((l0_3.length:Int) - 1)))).f3,(((rd_T41 l0_1 (rd l0_3 (wrap64 ((l0_3.length:Int) - 1)))).f4)++[(l0_1.length:Int)])⟩:S41):List S41)).bind fun y532=>(if a1_2=true then (if l0_3.length < 17592186044416 then (if y532.length < 2199023255552 then (if l0_2.length < 8796093022208 then (some ((y532++[(⟨a1_0,a1_1,a1_2,(⟨#[]⟩:ByteArray),([]:List Int)⟩:S41)]),(l0_2++[a3]),(l0_3++[(l0_1.length:Int)]))) else (none)) else (none)) else (none)) else (if y532.length < 2199023255552 then (if l0_2.length < 8796093022208 then (some ((y532++[(⟨a1_0,a1_1,a1_2,a2,([]:List Int)⟩:S41)]),(l0_2++[a3]),l0_3)) else (none)) else (none)))) else (none)) else (none)) else (none)) else (none)) else (none)) else (if a1_2=true then (if l0_3.length < 17592186044416 then (if l0_1.length < 2199023255552 then (if l0_2.length < 8796093022208 then (some ((l0_1++[(⟨a1_0,a1_1,a1_2,(⟨#[]⟩:ByteArray),([]:List Int)⟩:S41)]),(l0_2++[a3]),(l0_3++[(l0_1.length:Int)]))) else (none)) else (none)) else (none)) else (if l0_1.length < 2199023255552 then (if l0_2.length < 8796093022208 then (some ((l0_1++[(⟨a1_0,a1_1,a1_2,a2,([]:List Int)⟩:S41)]),(l0_2++[a3]),l0_3)) else (none)) else (none)))
theorem tlv_reader_put.con {a0_0:ByteArray} {l0_1:List S41} {l0_2:List (Nat × Nat)} {l0_3:List Int} {a1_0:Int} {a1_1:Int} {a1_2:Bool} {a1_3:Int} {a2:ByteArray} {a3:(Nat × Nat)} {r:(List S41 × List (Nat × Nat) × List Int)} (H:tlv_reader_put.f a0_0 l0_1 l0_2 l0_3 a1_0 a1_1 a1_2 a1_3 a2 a3=some r):ConX Tryd.prog 46 [.ptr 0 0,.v (.agg [I a1_0,I a1_1,B a1_2,I a1_3]),.v (S a2),.v (Cx a3)] [[S a0_0,.row (some 41) 5 (List.map (v41 1) l0_1),.row (some 53) 1 (List.map Cx l0_2),.row (some 3) 1 (List.map I l0_3)]] (.v (.tup [])) [[S a0_0,.row (some 41) 5 (List.map (v41 1) r.1),.row (some 53) 1 (List.map Cx r.2.1),.row (some 3) 1 (List.map I r.2.2)]]:=by
 refine conX_of_good Tryd.func46 rfl (by kernel_rfl) (by kernel_rfl) fun C hN hL=>?_
 unfold tlv_reader_put.f at H
 refine Sw<|Rg hN<|Sw<|Rh hN [I (l0_1.length:Int)] (.cons (lenM (v41 1) l0_1) .nil)<|Sw<|Sw<|Rh hN [I (l0_3.length:Int)] (.cons (lenM I l0_3) .nil) ?_
 rcases (ifC H).symm with ⟨c525,H⟩ | ⟨c525,H⟩
 ·refine Cf (df c525)<|Sk<|Sw<|Rg hN<|Sw<|Sw<|Rg hN ?_
  rcases (ifC H).symm with ⟨c544,H⟩ | ⟨c544,H⟩
  ·refine Cf (bf c544)<|Rg hN<|Sw ?_
   obtain ⟨c551,H⟩:=ifS H
   refine Rd hm hN (.i 0 (.q 1 [[4,3,2],[]] (.q 2 [[4,3],[]] (.q 3 [[4],[]] (.q 4 [[],[]] (.q 5 [[6],[]] (.e 6 (.e 7 (.i 8 (.i 9 (.e 10 .z))))))))))) [(0,some (.pt [S a0_0,.row none 5 (List.map (v41 0) l0_1),.row none 1 (List.map Cx l0_2),.row none 1 (List.map I l0_3)])),(10,some (.pt [I a1_0,I a1_1,B a1_2,S a2,.nil 3 1]))] (.cons (ptS (shrC (rfl:(V.shr (S a0_0))=S a0_0) (shrC (shrM (some 41) 5 (v41 1) (v41 0) l0_1 (v41.shr _)) (shrC (shrM (some 53) 1 Cx Cx l0_2 (fun _=>rfl)) (shrC (shrM (some 3) 1 I I l0_3 (fun _=>rfl)) (rfl:shrL []=[])))))) (.cons (ptS (shrC (rfl:(V.shr (I a1_0))=I a1_0) (shrC (rfl:(V.shr (I a1_1))=I a1_1) (shrC (rfl:(V.shr (B a1_2))=B a1_2) (shrC (rfl:(V.shr (S a2))=S a2) (shrC (rfl:(V.shr (.nil 3 1))=.nil 3 1) (rfl:shrL []=[]))))))) .nil)) [.kb true,.row (some 41) 5 (List.map (v41 1) (l0_1++[(⟨a1_0,a1_1,a1_2,a2,([]:List Int)⟩:S41)]))] [] (.cons (fitM (v41 1) l0_1 [(⟨a1_0,a1_1,a1_2,a2,([]:List Int)⟩:S41)] (.cons (.agg (.cons (.refl _) (.cons (.refl _) (.cons (.refl _) (.cons (.refl _) (.cons (.nilO 3 1) .nil)))))) .nil)) (.cons (limM1 (v41 1) c551) .nil)) .nil [] [] ?_
   obtain ⟨c553,H⟩:=ifS H
   refine Rh hN [.kb true,.row (some 53) 1 (List.map Cx (l0_2++[a3]))] (.cons (fitM Cx l0_2 [a3] (.refl _)) (.cons (limM1 Cx c553) .nil)) ?_
   cases H
   exact finX_fit (.refl _) (FitLL.refl _) (by kernel_rfl) rfl
  refine Ct c544 ?_
  obtain ⟨c545,H⟩:=ifS H
  refine Rh hN [.kb true,.row (some 3) 1 (List.map I (l0_3++[(l0_1.length:Int)]))] (.cons (fitM I l0_3 [(l0_1.length:Int)] (.refl _)) (.cons (limM1 I c545) .nil))<|Sw ?_
  obtain ⟨c547,H⟩:=ifS H
  refine Rd hm hN (.i 0 (.q 1 [[4,3,2],[]] (.q 2 [[4,3],[]] (.q 3 [[4],[]] (.q 4 [[],[]] (.q 5 [[6],[]] (.e 6 (.e 7 (.i 8 (.i 9 (.e 10 .z))))))))))) [(0,some (.pt [S a0_0,.row none 5 (List.map (v41 0) l0_1),.row none 1 (List.map Cx l0_2),.row none 1 (List.map I (l0_3++[(l0_1.length:Int)]))])),(10,some (.pt [I a1_0,I a1_1,B a1_2,S (⟨#[]⟩:ByteArray),.nil 3 1]))] (.cons (ptS (shrC (rfl:(V.shr (S a0_0))=S a0_0) (shrC (shrM (some 41) 5 (v41 1) (v41 0) l0_1 (v41.shr _)) (shrC (shrM (some 53) 1 Cx Cx l0_2 (fun _=>rfl)) (shrC (shrM (some 3) 1 I I (l0_3++[(l0_1.length:Int)]) (fun _=>rfl)) (rfl:shrL []=[])))))) (.cons (ptS (shrC (rfl:(V.shr (I a1_0))=I a1_0) (shrC (rfl:(V.shr (I a1_1))=I a1_1) (shrC (rfl:(V.shr (B a1_2))=B a1_2) (shrC (rfl:(V.shr (S (⟨#[]⟩:ByteArray)))=S (⟨#[]⟩:ByteArray)) (shrC (rfl:(V.shr (.nil 3 1))=.nil 3 1) (rfl:shrL []=[]))))))) .nil)) [.kb true,.row (some 41) 5 (List.map (v41 1) (l0_1++[(⟨a1_0,a1_1,a1_2,(⟨#[]⟩:ByteArray),([]:List Int)⟩:S41)]))] [] (.cons (fitM (v41 1) l0_1 [(⟨a1_0,a1_1,a1_2,(⟨#[]⟩:ByteArray),([]:List Int)⟩:S41)] (.cons (.agg (.cons (.refl _) (.cons (.refl _) (.cons (.refl _) (.cons (.refl _) (.cons (.nilO 3 1) .nil)))))) .nil)) (.cons (limM1 (v41 1) c547) .nil)) .nil [] [] ?_
  obtain ⟨c549,H⟩:=ifS H
  refine Rh hN [.kb true,.row (some 53) 1 (List.map Cx (l0_2++[a3]))] (.cons (fitM Cx l0_2 [a3] (.refl _)) (.cons (limM1 Cx c549) .nil)) ?_
  cases H
  exact finX_fit (.refl _) (FitLL.refl _) (by kernel_rfl) rfl
 refine Ct (dt c525)<|Sw ?_
 obtain ⟨c526,H⟩:=ifS H
 obtain ⟨c527,H⟩:=ifS H
 refine Rd hm hN (.qs 12 0 (.q 12 [] .z)) [(0,some (.pt [S a0_0,.row none 5 (List.map (v41 0) l0_1),.row none 1 (List.map Cx l0_2),.row none 1 (List.map I l0_3)]))] (.cons (ptS (shrC (rfl:(V.shr (S a0_0))=S a0_0) (shrC (shrM (some 41) 5 (v41 1) (v41 0) l0_1 (v41.shr _)) (shrC (shrM (some 53) 1 Cx Cx l0_2 (fun _=>rfl)) (shrC (shrM (some 3) 1 I I l0_3 (fun _=>rfl)) (rfl:shrL []=[])))))) .nil) [I (l0_3.length:Int),I (rd l0_3 (wrap64 ((l0_3.length:Int) - 1)))] [I (l0_3.length:Int),I (rd l0_3 (wrap64 ((l0_3.length:Int) - 1)))] (.cons (lenM I l0_3) (.cons c526 (.cons (ltM I c527) (.cons (atM I (0:Int) c526 c527) .nil)))) (.cons (lenM I l0_3) (.cons c526 (.cons (atM I (0:Int) c526 c527) .nil))) [] [] ?_
 obtain ⟨c528,H⟩:=ifS H
 obtain ⟨c529,H⟩:=ifS H
 obtain ⟨c530,H⟩:=ifS H
 replace H:=bindI H
 refine Good.regTB (n:=3) hm hN hL (.i 0 (.i 1 (.i 2 (.i 4 (.q 5 [[12,11,10,8,7,6],[]] (.q 6 [[12,11,10,8,7],[]] (.q 7 [[12,11,10,8],[]] (.q 8 [[12,11,10],[]] (.q 9 [[12,11,10],[]] (.q 10 [[12,11],[]] (.q 11 [[12],[]] (.q 12 [[],[]] (.q 13 [[14],[]] (.b 3 [.kb true,(v41 1) (rd_T41 l0_1 (rd l0_3 (wrap64 ((l0_3.length:Int) - 1)))),.row (some 3) 1 (List.map I (((rd_T41 l0_1 (rd l0_3 (wrap64 ((l0_3.length:Int) - 1)))).f4)++[(l0_1.length:Int)])),setC ((v41 1) (rd_T41 l0_1 (rd l0_3 (wrap64 ((l0_3.length:Int) - 1))))) 4 [.any],(v41 1) (⟨(rd_T41 l0_1 (rd l0_3 (wrap64 ((l0_3.length:Int) - 1)))).f0,(rd_T41 l0_1 (rd l0_3 (wrap64 ((l0_3.length:Int) - 1)))).f1,(rd_T41 l0_1 (rd l0_3 (wrap64 ((l0_3.length:Int) - 1)))).f2,(rd_T41 l0_1 (rd l0_3 (wrap64 ((l0_3.length:Int) - 1)))).f3,(((rd_T41 l0_1 (rd l0_3 (wrap64 ((l0_3.length:Int) - 1)))).f4)++[(l0_1.length:Int)])⟩:S41),.row (some 41) 5 (List.map (v41 1) (l0_1.set ((rd l0_3 (wrap64 ((l0_3.length:Int) - 1))):Int).toNat (⟨(rd_T41 l0_1 (rd l0_3 (wrap64 ((l0_3.length:Int) - 1)))).f0,(rd_T41 l0_1 (rd l0_3 (wrap64 ((l0_3.length:Int) - 1)))).f1,(rd_T41 l0_1 (rd l0_3 (wrap64 ((l0_3.length:Int) - 1)))).f2,(rd_T41 l0_1 (rd l0_3 (wrap64 ((l0_3.length:Int) - 1)))).f3,(((rd_T41 l0_1 (rd l0_3 (wrap64 ((l0_3.length:Int) - 1)))).f4)++[(l0_1.length:Int)])⟩:S41)))] [] (.e 14 (.e 15 (.e 16 (.e 17 (.e 18 .z))))) [] [] (.e 14 (.b 3 [.kb true,(v41 1) (rd_T41 l0_1 (rd l0_3 (wrap64 ((l0_3.length:Int) - 1)))),.row (some 3) 1 (List.map I (((rd_T41 l0_1 (rd l0_3 (wrap64 ((l0_3.length:Int) - 1)))).f4)++[(l0_1.length:Int)])),setC ((v41 1) (rd_T41 l0_1 (rd l0_3 (wrap64 ((l0_3.length:Int) - 1))))) 4 [.any],(v41 1) (⟨(rd_T41 l0_1 (rd l0_3 (wrap64 ((l0_3.length:Int) - 1)))).f0,(rd_T41 l0_1 (rd l0_3 (wrap64 ((l0_3.length:Int) - 1)))).f1,(rd_T41 l0_1 (rd l0_3 (wrap64 ((l0_3.length:Int) - 1)))).f2,(rd_T41 l0_1 (rd l0_3 (wrap64 ((l0_3.length:Int) - 1)))).f3,(((rd_T41 l0_1 (rd l0_3 (wrap64 ((l0_3.length:Int) - 1)))).f4)++[(l0_1.length:Int)])⟩:S41),.row (some 41) 5 (List.map (v41 1) (l0_1.set ((rd l0_3 (wrap64 ((l0_3.length:Int) - 1))):Int).toNat (⟨(rd_T41 l0_1 (rd l0_3 (wrap64 ((l0_3.length:Int) - 1)))).f0,(rd_T41 l0_1 (rd l0_3 (wrap64 ((l0_3.length:Int) - 1)))).f1,(rd_T41 l0_1 (rd l0_3 (wrap64 ((l0_3.length:Int) - 1)))).f2,(rd_T41 l0_1 (rd l0_3 (wrap64 ((l0_3.length:Int) - 1)))).f3,(((rd_T41 l0_1 (rd l0_3 (wrap64 ((l0_3.length:Int) - 1)))).f4)++[(l0_1.length:Int)])⟩:S41)))] [] (.e 15 (.e 16 (.e 17 (.e 18 .z)))) [.kb true,(v41 1) (rd_T41 l0_1 (rd l0_3 (wrap64 ((l0_3.length:Int) - 1)))),.row (some 3) 1 (List.map I (((rd_T41 l0_1 (rd l0_3 (wrap64 ((l0_3.length:Int) - 1)))).f4)++[(l0_1.length:Int)])),setC ((v41 1) (rd_T41 l0_1 (rd l0_3 (wrap64 ((l0_3.length:Int) - 1))))) 4 [.any],(v41 1) (⟨(rd_T41 l0_1 (rd l0_3 (wrap64 ((l0_3.length:Int) - 1)))).f0,(rd_T41 l0_1 (rd l0_3 (wrap64 ((l0_3.length:Int) - 1)))).f1,(rd_T41 l0_1 (rd l0_3 (wrap64 ((l0_3.length:Int) - 1)))).f2,(rd_T41 l0_1 (rd l0_3 (wrap64 ((l0_3.length:Int) - 1)))).f3,(((rd_T41 l0_1 (rd l0_3 (wrap64 ((l0_3.length:Int) - 1)))).f4)++[(l0_1.length:Int)])⟩:S41),.row (some 41) 5 (List.map (v41 1) (l0_1.set ((rd l0_3 (wrap64 ((l0_3.length:Int) - 1))):Int).toNat (⟨(rd_T41 l0_1 (rd l0_3 (wrap64 ((l0_3.length:Int) - 1)))).f0,(rd_T41 l0_1 (rd l0_3 (wrap64 ((l0_3.length:Int) - 1)))).f1,(rd_T41 l0_1 (rd l0_3 (wrap64 ((l0_3.length:Int) - 1)))).f2,(rd_T41 l0_1 (rd l0_3 (wrap64 ((l0_3.length:Int) - 1)))).f3,(((rd_T41 l0_1 (rd l0_3 (wrap64 ((l0_3.length:Int) - 1)))).f4)++[(l0_1.length:Int)])⟩:S41)))] [] (.e 15 (.e 3 (.e 16 (.e 17 (.e 18 .z))))))))))))))))))))) [(0,some (.pt [S a0_0,.row none 5 (List.map (v41 0) l0_1),.row none 1 (List.map Cx l0_2),.row none 1 (List.map I l0_3)])),(8,none),(9,none)] (by kernel_rfl) (.cons (ptS (shrC (rfl:(V.shr (S a0_0))=S a0_0) (shrC (shrM (some 41) 5 (v41 1) (v41 0) l0_1 (v41.shr _)) (shrC (shrM (some 53) 1 Cx Cx l0_2 (fun _=>rfl)) (shrC (shrM (some 3) 1 I I l0_3 (fun _=>rfl)) (rfl:shrL []=[])))))) .nil) [(v41 1) (rd_T41 l0_1 (rd l0_3 (wrap64 ((l0_3.length:Int) - 1))))] [(v41 0) (rd_T41 l0_1 (rd l0_3 (wrap64 ((l0_3.length:Int) - 1))))] (.cons (.cons c528 (.cons (ltM (v41 1) c529) (.cons (atM (v41 1) z41 c528 c529) (.cons (atM (v41 1) z41 c528 c529) (.cons (fitM I ((rd_T41 l0_1 (rd l0_3 (wrap64 ((l0_3.length:Int) - 1)))).f4) [(l0_1.length:Int)] (.refl _)) (.cons (limM1 I c530) (.cons c528 (.cons (ltH (v41 1) (m:=((rd l0_3 (wrap64 ((l0_3.length:Int) - 1))):Int).toNat) (X:=setC ((v41 1) (rd_T41 l0_1 (rd l0_3 (wrap64 ((l0_3.length:Int) - 1))))) 4 [.any]) c529) (.cons (atH (v41 1) (X:=setC ((v41 1) (rd_T41 l0_1 (rd l0_3 (wrap64 ((l0_3.length:Int) - 1))))) 4 [.any]) c528 c529) (.cons (Fit.refl ((v41 1) (⟨(rd_T41 l0_1 (rd l0_3 (wrap64 ((l0_3.length:Int) - 1)))).f0,(rd_T41 l0_1 (rd l0_3 (wrap64 ((l0_3.length:Int) - 1)))).f1,(rd_T41 l0_1 (rd l0_3 (wrap64 ((l0_3.length:Int) - 1)))).f2,(rd_T41 l0_1 (rd l0_3 (wrap64 ((l0_3.length:Int) - 1)))).f3,(((rd_T41 l0_1 (rd l0_3 (wrap64 ((l0_3.length:Int) - 1)))).f4)++[(l0_1.length:Int)])⟩:S41))) (.cons (setH (v41 1) (l:=l0_1) (n:=((rd l0_3 (wrap64 ((l0_3.length:Int) - 1))):Int).toNat) (x:=(⟨(rd_T41 l0_1 (rd l0_3 (wrap64 ((l0_3.length:Int) - 1)))).f0,(rd_T41 l0_1 (rd l0_3 (wrap64 ((l0_3.length:Int) - 1)))).f1,(rd_T41 l0_1 (rd l0_3 (wrap64 ((l0_3.length:Int) - 1)))).f2,(rd_T41 l0_1 (rd l0_3 (wrap64 ((l0_3.length:Int) - 1)))).f3,(((rd_T41 l0_1 (rd l0_3 (wrap64 ((l0_3.length:Int) - 1)))).f4)++[(l0_1.length:Int)])⟩:S41)) (X:=setC ((v41 1) (rd_T41 l0_1 (rd l0_3 (wrap64 ((l0_3.length:Int) - 1))))) 4 [.any])) .nil))))))))))) (.cons c528 (.cons (atM (v41 0) z41 c528 c529) .nil)) (.cons (.cons c528 (.cons (ltM (v41 1) c529) (.cons (atM (v41 1) z41 c528 c529) (.cons (atM (v41 1) z41 c528 c529) (.cons (fitM I ((rd_T41 l0_1 (rd l0_3 (wrap64 ((l0_3.length:Int) - 1)))).f4) [(l0_1.length:Int)] (.refl _)) (.cons (limM1 I c530) (.cons c528 (.cons (ltH (v41 1) (m:=((rd l0_3 (wrap64 ((l0_3.length:Int) - 1))):Int).toNat) (X:=setC ((v41 1) (rd_T41 l0_1 (rd l0_3 (wrap64 ((l0_3.length:Int) - 1))))) 4 [.any]) c529) (.cons (atH (v41 1) (X:=setC ((v41 1) (rd_T41 l0_1 (rd l0_3 (wrap64 ((l0_3.length:Int) - 1))))) 4 [.any]) c528 c529) (.cons (Fit.refl ((v41 1) (⟨(rd_T41 l0_1 (rd l0_3 (wrap64 ((l0_3.length:Int) - 1)))).f0,(rd_T41 l0_1 (rd l0_3 (wrap64 ((l0_3.length:Int) - 1)))).f1,(rd_T41 l0_1 (rd l0_3 (wrap64 ((l0_3.length:Int) - 1)))).f2,(rd_T41 l0_1 (rd l0_3 (wrap64 ((l0_3.length:Int) - 1)))).f3,(((rd_T41 l0_1 (rd l0_3 (wrap64 ((l0_3.length:Int) - 1)))).f4)++[(l0_1.length:Int)])⟩:S41))) (.cons (setH (v41 1) (l:=l0_1) (n:=((rd l0_3 (wrap64 ((l0_3.length:Int) - 1))):Int).toNat) (x:=(⟨(rd_T41 l0_1 (rd l0_3 (wrap64 ((l0_3.length:Int) - 1)))).f0,(rd_T41 l0_1 (rd l0_3 (wrap64 ((l0_3.length:Int) - 1)))).f1,(rd_T41 l0_1 (rd l0_3 (wrap64 ((l0_3.length:Int) - 1)))).f2,(rd_T41 l0_1 (rd l0_3 (wrap64 ((l0_3.length:Int) - 1)))).f3,(((rd_T41 l0_1 (rd l0_3 (wrap64 ((l0_3.length:Int) - 1)))).f4)++[(l0_1.length:Int)])⟩:S41)) (X:=setC ((v41 1) (rd_T41 l0_1 (rd l0_3 (wrap64 ((l0_3.length:Int) - 1))))) 4 [.any])) .nil))))))))))) (.cons c528 (.cons (atM (v41 0) z41 c528 c529) .nil)) (.cons (.cons c528 (.cons (ltM (v41 1) c529) (.cons (atM (v41 1) z41 c528 c529) (.cons (atM (v41 1) z41 c528 c529) (.cons (fitM I ((rd_T41 l0_1 (rd l0_3 (wrap64 ((l0_3.length:Int) - 1)))).f4) [(l0_1.length:Int)] (.refl _)) (.cons (limM1 I c530) (.cons c528 (.cons (ltH (v41 1) (m:=((rd l0_3 (wrap64 ((l0_3.length:Int) - 1))):Int).toNat) (X:=setC ((v41 1) (rd_T41 l0_1 (rd l0_3 (wrap64 ((l0_3.length:Int) - 1))))) 4 [.any]) c529) (.cons (atH (v41 1) (X:=setC ((v41 1) (rd_T41 l0_1 (rd l0_3 (wrap64 ((l0_3.length:Int) - 1))))) 4 [.any]) c528 c529) (.cons (Fit.refl ((v41 1) (⟨(rd_T41 l0_1 (rd l0_3 (wrap64 ((l0_3.length:Int) - 1)))).f0,(rd_T41 l0_1 (rd l0_3 (wrap64 ((l0_3.length:Int) - 1)))).f1,(rd_T41 l0_1 (rd l0_3 (wrap64 ((l0_3.length:Int) - 1)))).f2,(rd_T41 l0_1 (rd l0_3 (wrap64 ((l0_3.length:Int) - 1)))).f3,(((rd_T41 l0_1 (rd l0_3 (wrap64 ((l0_3.length:Int) - 1)))).f4)++[(l0_1.length:Int)])⟩:S41))) (.cons (setH (v41 1) (l:=l0_1) (n:=((rd l0_3 (wrap64 ((l0_3.length:Int) - 1))):Int).toNat) (x:=(⟨(rd_T41 l0_1 (rd l0_3 (wrap64 ((l0_3.length:Int) - 1)))).f0,(rd_T41 l0_1 (rd l0_3 (wrap64 ((l0_3.length:Int) - 1)))).f1,(rd_T41 l0_1 (rd l0_3 (wrap64 ((l0_3.length:Int) - 1)))).f2,(rd_T41 l0_1 (rd l0_3 (wrap64 ((l0_3.length:Int) - 1)))).f3,(((rd_T41 l0_1 (rd l0_3 (wrap64 ((l0_3.length:Int) - 1)))).f4)++[(l0_1.length:Int)])⟩:S41)) (X:=setC ((v41 1) (rd_T41 l0_1 (rd l0_3 (wrap64 ((l0_3.length:Int) - 1))))) 4 [.any])) .nil))))))))))) (.cons c528 (.cons (atM (v41 0) z41 c528 c529) .nil)) .nil))) [] [] (by kernel_rfl) (by kernel_rfl) [[],[],[]] [(0,0),(2,0),(3,0),(5,0),(8,0)] [(0,.d (.ptr 0 0)),(2,.w (S a2)),(3,.w (Cx a3)),(5,.d (.ptr 1 0)),(8,.w (I (l0_1.length:Int)))] [.cells [.v (S a0_0),.v (.row (some 41) 5 (List.map (v41 1) (l0_1.set ((rd l0_3 (wrap64 ((l0_3.length:Int) - 1))):Int).toNat (⟨(rd_T41 l0_1 (rd l0_3 (wrap64 ((l0_3.length:Int) - 1)))).f0,(rd_T41 l0_1 (rd l0_3 (wrap64 ((l0_3.length:Int) - 1)))).f1,(rd_T41 l0_1 (rd l0_3 (wrap64 ((l0_3.length:Int) - 1)))).f2,(rd_T41 l0_1 (rd l0_3 (wrap64 ((l0_3.length:Int) - 1)))).f3,(((rd_T41 l0_1 (rd l0_3 (wrap64 ((l0_3.length:Int) - 1)))).f4)++[(l0_1.length:Int)])⟩:S41)))),.v (.row (some 53) 1 (List.map Cx l0_2)),.v (.row (some 3) 1 (List.map I l0_3))],.cells [.v (I a1_0),.v (I a1_1),.v (B a1_2),.v (I a1_3)]] (by kernel_rfl) (by kernel_rfl)<|Sw<|Rg hN<|Sw<|Sw<|Rg hN ?_
 rcases (ifC H).symm with ⟨c533,H⟩ | ⟨c533,H⟩
 ·refine Cf (bf c533)<|Rg hN<|Sw ?_
  obtain ⟨c540,H⟩:=ifS H
  refine Rd hm hN (.i 0 (.q 1 [[4,3,2],[]] (.q 2 [[4,3],[]] (.q 3 [[4],[]] (.q 4 [[],[]] (.q 5 [[6],[]] (.e 6 (.e 7 (.i 8 (.i 9 (.e 10 .z))))))))))) [(0,some (.pt [S a0_0,.row none 5 (List.map (v41 0) (l0_1.set ((rd l0_3 (wrap64 ((l0_3.length:Int) - 1))):Int).toNat (⟨(rd_T41 l0_1 (rd l0_3 (wrap64 ((l0_3.length:Int) - 1)))).f0,(rd_T41 l0_1 (rd l0_3 (wrap64 ((l0_3.length:Int) - 1)))).f1,(rd_T41 l0_1 (rd l0_3 (wrap64 ((l0_3.length:Int) - 1)))).f2,(rd_T41 l0_1 (rd l0_3 (wrap64 ((l0_3.length:Int) - 1)))).f3,(((rd_T41 l0_1 (rd l0_3 (wrap64 ((l0_3.length:Int) - 1)))).f4)++[(l0_1.length:Int)])⟩:S41))),.row none 1 (List.map Cx l0_2),.row none 1 (List.map I l0_3)])),(10,some (.pt [I a1_0,I a1_1,B a1_2,S a2,.nil 3 1]))] (.cons (ptS (shrC (rfl:(V.shr (S a0_0))=S a0_0) (shrC (shrM (some 41) 5 (v41 1) (v41 0) (l0_1.set ((rd l0_3 (wrap64 ((l0_3.length:Int) - 1))):Int).toNat (⟨(rd_T41 l0_1 (rd l0_3 (wrap64 ((l0_3.length:Int) - 1)))).f0,(rd_T41 l0_1 (rd l0_3 (wrap64 ((l0_3.length:Int) - 1)))).f1,(rd_T41 l0_1 (rd l0_3 (wrap64 ((l0_3.length:Int) - 1)))).f2,(rd_T41 l0_1 (rd l0_3 (wrap64 ((l0_3.length:Int) - 1)))).f3,(((rd_T41 l0_1 (rd l0_3 (wrap64 ((l0_3.length:Int) - 1)))).f4)++[(l0_1.length:Int)])⟩:S41)) (v41.shr _)) (shrC (shrM (some 53) 1 Cx Cx l0_2 (fun _=>rfl)) (shrC (shrM (some 3) 1 I I l0_3 (fun _=>rfl)) (rfl:shrL []=[])))))) (.cons (ptS (shrC (rfl:(V.shr (I a1_0))=I a1_0) (shrC (rfl:(V.shr (I a1_1))=I a1_1) (shrC (rfl:(V.shr (B a1_2))=B a1_2) (shrC (rfl:(V.shr (S a2))=S a2) (shrC (rfl:(V.shr (.nil 3 1))=.nil 3 1) (rfl:shrL []=[]))))))) .nil)) [.kb true,.row (some 41) 5 (List.map (v41 1) ((l0_1.set ((rd l0_3 (wrap64 ((l0_3.length:Int) - 1))):Int).toNat (⟨(rd_T41 l0_1 (rd l0_3 (wrap64 ((l0_3.length:Int) - 1)))).f0,(rd_T41 l0_1 (rd l0_3 (wrap64 ((l0_3.length:Int) - 1)))).f1,(rd_T41 l0_1 (rd l0_3 (wrap64 ((l0_3.length:Int) - 1)))).f2,(rd_T41 l0_1 (rd l0_3 (wrap64 ((l0_3.length:Int) - 1)))).f3,(((rd_T41 l0_1 (rd l0_3 (wrap64 ((l0_3.length:Int) - 1)))).f4)++[(l0_1.length:Int)])⟩:S41))++[(⟨a1_0,a1_1,a1_2,a2,([]:List Int)⟩:S41)]))] [] (.cons (fitM (v41 1) (l0_1.set ((rd l0_3 (wrap64 ((l0_3.length:Int) - 1))):Int).toNat (⟨(rd_T41 l0_1 (rd l0_3 (wrap64 ((l0_3.length:Int) - 1)))).f0,(rd_T41 l0_1 (rd l0_3 (wrap64 ((l0_3.length:Int) - 1)))).f1,(rd_T41 l0_1 (rd l0_3 (wrap64 ((l0_3.length:Int) - 1)))).f2,(rd_T41 l0_1 (rd l0_3 (wrap64 ((l0_3.length:Int) - 1)))).f3,(((rd_T41 l0_1 (rd l0_3 (wrap64 ((l0_3.length:Int) - 1)))).f4)++[(l0_1.length:Int)])⟩:S41)) [(⟨a1_0,a1_1,a1_2,a2,([]:List Int)⟩:S41)] (.cons (.agg (.cons (.refl _) (.cons (.refl _) (.cons (.refl _) (.cons (.refl _) (.cons (.nilO 3 1) .nil)))))) .nil)) (.cons (limM1 (v41 1) c540) .nil)) .nil [] [] ?_
  obtain ⟨c542,H⟩:=ifS H
  refine Rh hN [.kb true,.row (some 53) 1 (List.map Cx (l0_2++[a3]))] (.cons (fitM Cx l0_2 [a3] (.refl _)) (.cons (limM1 Cx c542) .nil)) ?_
  cases H
  exact finX_fit (.refl _) (FitLL.refl _) (by kernel_rfl) rfl
 refine Ct c533 ?_
 obtain ⟨c534,H⟩:=ifS H
 refine Rh hN [.kb true,.row (some 3) 1 (List.map I (l0_3++[(l0_1.length:Int)]))] (.cons (fitM I l0_3 [(l0_1.length:Int)] (.refl _)) (.cons (limM1 I c534) .nil))<|Sw ?_
 obtain ⟨c536,H⟩:=ifS H
 refine Rd hm hN (.i 0 (.q 1 [[4,3,2],[]] (.q 2 [[4,3],[]] (.q 3 [[4],[]] (.q 4 [[],[]] (.q 5 [[6],[]] (.e 6 (.e 7 (.i 8 (.i 9 (.e 10 .z))))))))))) [(0,some (.pt [S a0_0,.row none 5 (List.map (v41 0) (l0_1.set ((rd l0_3 (wrap64 ((l0_3.length:Int) - 1))):Int).toNat (⟨(rd_T41 l0_1 (rd l0_3 (wrap64 ((l0_3.length:Int) - 1)))).f0,(rd_T41 l0_1 (rd l0_3 (wrap64 ((l0_3.length:Int) - 1)))).f1,(rd_T41 l0_1 (rd l0_3 (wrap64 ((l0_3.length:Int) - 1)))).f2,(rd_T41 l0_1 (rd l0_3 (wrap64 ((l0_3.length:Int) - 1)))).f3,(((rd_T41 l0_1 (rd l0_3 (wrap64 ((l0_3.length:Int) - 1)))).f4)++[(l0_1.length:Int)])⟩:S41))),.row none 1 (List.map Cx l0_2),.row none 1 (List.map I (l0_3++[(l0_1.length:Int)]))])),(10,some (.pt [I a1_0,I a1_1,B a1_2,S (⟨#[]⟩:ByteArray),.nil 3 1]))] (.cons (ptS (shrC (rfl:(V.shr (S a0_0))=S a0_0) (shrC (shrM (some 41) 5 (v41 1) (v41 0) (l0_1.set ((rd l0_3 (wrap64 ((l0_3.length:Int) - 1))):Int).toNat (⟨(rd_T41 l0_1 (rd l0_3 (wrap64 ((l0_3.length:Int) - 1)))).f0,(rd_T41 l0_1 (rd l0_3 (wrap64 ((l0_3.length:Int) - 1)))).f1,(rd_T41 l0_1 (rd l0_3 (wrap64 ((l0_3.length:Int) - 1)))).f2,(rd_T41 l0_1 (rd l0_3 (wrap64 ((l0_3.length:Int) - 1)))).f3,(((rd_T41 l0_1 (rd l0_3 (wrap64 ((l0_3.length:Int) - 1)))).f4)++[(l0_1.length:Int)])⟩:S41)) (v41.shr _)) (shrC (shrM (some 53) 1 Cx Cx l0_2 (fun _=>rfl)) (shrC (shrM (some 3) 1 I I (l0_3++[(l0_1.length:Int)]) (fun _=>rfl)) (rfl:shrL []=[])))))) (.cons (ptS (shrC (rfl:(V.shr (I a1_0))=I a1_0) (shrC (rfl:(V.shr (I a1_1))=I a1_1) (shrC (rfl:(V.shr (B a1_2))=B a1_2) (shrC (rfl:(V.shr (S (⟨#[]⟩:ByteArray)))=S (⟨#[]⟩:ByteArray)) (shrC (rfl:(V.shr (.nil 3 1))=.nil 3 1) (rfl:shrL []=[]))))))) .nil)) [.kb true,.row (some 41) 5 (List.map (v41 1) ((l0_1.set ((rd l0_3 (wrap64 ((l0_3.length:Int) - 1))):Int).toNat (⟨(rd_T41 l0_1 (rd l0_3 (wrap64 ((l0_3.length:Int) - 1)))).f0,(rd_T41 l0_1 (rd l0_3 (wrap64 ((l0_3.length:Int) - 1)))).f1,(rd_T41 l0_1 (rd l0_3 (wrap64 ((l0_3.length:Int) - 1)))).f2,(rd_T41 l0_1 (rd l0_3 (wrap64 ((l0_3.length:Int) - 1)))).f3,(((rd_T41 l0_1 (rd l0_3 (wrap64 ((l0_3.length:Int) - 1)))).f4)++[(l0_1.length:Int)])⟩:S41))++[(⟨a1_0,a1_1,a1_2,(⟨#[]⟩:ByteArray),([]:List Int)⟩:S41)]))] [] (.cons (fitM (v41 1) (l0_1.set ((rd l0_3 (wrap64 ((l0_3.length:Int) - 1))):Int).toNat (⟨(rd_T41 l0_1 (rd l0_3 (wrap64 ((l0_3.length:Int) - 1)))).f0,(rd_T41 l0_1 (rd l0_3 (wrap64 ((l0_3.length:Int) - 1)))).f1,(rd_T41 l0_1 (rd l0_3 (wrap64 ((l0_3.length:Int) - 1)))).f2,(rd_T41 l0_1 (rd l0_3 (wrap64 ((l0_3.length:Int) - 1)))).f3,(((rd_T41 l0_1 (rd l0_3 (wrap64 ((l0_3.length:Int) - 1)))).f4)++[(l0_1.length:Int)])⟩:S41)) [(⟨a1_0,a1_1,a1_2,(⟨#[]⟩:ByteArray),([]:List Int)⟩:S41)] (.cons (.agg (.cons (.refl _) (.cons (.refl _) (.cons (.refl _) (.cons (.refl _) (.cons (.nilO 3 1) .nil)))))) .nil)) (.cons (limM1 (v41 1) c536) .nil)) .nil [] [] ?_
 obtain ⟨c538,H⟩:=ifS H
 refine Rh hN [.kb true,.row (some 53) 1 (List.map Cx (l0_2++[a3]))] (.cons (fitM Cx l0_2 [a3] (.refl _)) (.cons (limM1 Cx c538) .nil)) ?_
 cases H
 exact finX_fit (.refl _) (FitLL.refl _) (by kernel_rfl) rfl
def span_Of.f (a0:Int) (a1:Int):Option ((Nat × Nat)):=if (mn a0 a1) < 0 then (some (0,0)) else (if (mx a0 a1) > 65552 then (some (0,0)) else ((span_sure.f (floatOfInt .f64 a0,floatOfInt .f64 a1)).bind fun t557=>(some t557)))
theorem span_Of.con {a0:Int} {a1:Int} {r:((Nat × Nat))} (H:span_Of.f a0 a1=some r):Con Tryd.prog 47 [I a0,I a1] (Cx r):=by
 refine Cg Tryd.func47 rfl fun C hN hL=>?_
 unfold span_Of.f at H
 refine Sw<|Rg hN<|Sw<|Sw ?_
 rcases ifC H with ⟨c555,H⟩ | ⟨c555,H⟩
 ·refine Rh hN [B true] (.cons (dt c555) .nil)<|Good.cond true (by kernel_rfl)<|Sw<|Rg hN ?_
  cases H
  exact Rt dR
 refine Rh hN [B false] (.cons (df c555) .nil) ?_
 rcases ifC H with ⟨c556,H⟩ | ⟨c556,H⟩
 ·refine Ct (dt c556)<|Sw<|Rg hN ?_
  cases H
  exact Rt dR
 refine Cf (df c556)<|Sk<|Sw ?_
 obtain ⟨t557,h558,H⟩:=bindS H
 refine Rh hN [Cx t557] (.cons (span_sure.con h558).c .nil) ?_
 cases H
 exact Rt dR
def tlv_reader_close.l0:Nat→Int→ByteArray→List S41→List (Nat × Nat)→List Int→Option (Bool × ByteArray × List S41 × List (Nat × Nat) × List Int)
 | 0,_,_,_,_,_=>none
 | k+1,x1,x1000,x1001,x1002,x1003=>if (x1003.length:Int) > 0 then ((tlv_reader_end.f x1000 x1001 x1002 x1003).bind fun t560=>(if t560=x1 then (if 0≤(wrap64 ((x1003.length:Int) - 1)) then (if (wrap64 ((x1003.length:Int) - 1))≤(x1003.length:Int) then (tlv_reader_close.l0 k x1 x1000 x1001 x1002 (x1003.take ((wrap64 ((x1003.length:Int) - 1)):Int).toNat)) else (none)) else (none)) else (some (((x1003.length:Int) == 0),x1000,x1001,x1002,x1003)))) else (some (((x1003.length:Int) == 0),x1000,x1001,x1002,x1003))
def tlv_reader_close.f (k:Nat) (a0_0:ByteArray) (l0_1:List S41) (l0_2:List (Nat × Nat)) (l0_3:List Int) (a1:Int):Option (Bool × ByteArray × List S41 × List (Nat × Nat) × List Int):=tlv_reader_close.l0 k a1 a0_0 l0_1 l0_2 l0_3
theorem tlv_reader_close.con {k:Nat} {a0_0:ByteArray} {l0_1:List S41} {l0_2:List (Nat × Nat)} {l0_3:List Int} {a1:Int} {r:(Bool × ByteArray × List S41 × List (Nat × Nat) × List Int)} (H:tlv_reader_close.f k a0_0 l0_1 l0_2 l0_3 a1=some r):ConX Tryd.prog 48 [.ptr 0 0,.v (I a1)] [[S a0_0,.row (some 41) 5 (List.map (v41 1) l0_1),.row (some 53) 1 (List.map Cx l0_2),.row (some 3) 1 (List.map I l0_3)]] (.v (B r.1)) [[S r.2.1,.row (some 41) 5 (List.map (v41 1) r.2.2.1),.row (some 53) 1 (List.map Cx r.2.2.2.1),.row (some 3) 1 (List.map I r.2.2.2.2)]]:=by
 refine conX_of_good Tryd.func48 rfl (by kernel_rfl) (by kernel_rfl) fun C hN hL=>?_
 unfold tlv_reader_close.f at H
 refine Sw<|Rg hN<|Sw<|Bl<|Good.loopN (fun k' st=>∃ (x1:Int) (x1000:ByteArray) (x1001:List S41) (x1002:List (Nat × Nat)) (x1003:List Int),k'≤k∧Wk C st ⟨[(0,.d (.ptr 0 0)),(1,.w (I x1))],[.cells [.v (S x1000),.v (.row (some 41) 5 (List.map (v41 1) x1001)),.v (.row (some 53) 1 (List.map Cx x1002)),.v (.row (some 3) 1 (List.map I x1003))]]⟩∧tlv_reader_close.l0 k' x1 x1000 x1001 x1002 x1003=some r) k ⟨a1,a0_0,l0_1,l0_2,l0_3,Nat.le_refl _,Wo [(0,0),(1,0)],H⟩ fun k=>⟨fun st h=>(by obtain ⟨_,_,_,_,_,_,_,H⟩:=h;cases H),?_⟩
 clear H
 rintro st ⟨x1,x1000,x1001,x1002,x1003,hk,W,H⟩
 refine W.good ?_
 rw [tlv_reader_close.l0] at H
 refine Sw<|Sw ?_
 rcases (ifC H).symm with ⟨c559,H⟩ | ⟨c559,H⟩
 ·refine Rh hN [I (x1003.length:Int),B false] (.cons (lenM I x1003) (.cons (df c559) .nil))<|Good.cond false (by kernel_rfl)<|Ex<|Sw<|Rh hN [I (x1003.length:Int)] (.cons (lenM I x1003) .nil) ?_
  cases H
  exact Good.ret (finX_fitR (.refl _) (FitLL.refl _) (by kernel_rfl) rfl)
 obtain ⟨t560,h561,H⟩:=bindS H
 refine Rh hN [I (x1003.length:Int),B true,I t560,.tup [.agg [S x1000,.row (some 41) 5 (List.map (v41 1) x1001),.row (some 53) 1 (List.map Cx x1002),.row (some 3) 1 (List.map I x1003)]]] (.cons (lenM I x1003) (.cons (dt c559) (.cons (tlv_reader_end.con h561).c .nil))) ?_
 rcases (ifC H).symm with ⟨c562,H⟩ | ⟨c562,H⟩
 ·refine Cf (bn c562)<|Ex<|Sw<|Rh hN [I (x1003.length:Int)] (.cons (lenM I x1003) .nil) ?_
  cases H
  exact Good.ret (finX_fitR (.refl _) (FitLL.refl _) (by kernel_rfl) rfl)
 refine Ct (bq c562)<|Sk<|Bl ?_
 obtain ⟨c563,H⟩:=ifS H
 obtain ⟨c564,H⟩:=ifS H
 exact Rd hm hN (.q 0 [[]] (.q 1 [[]] (.q 2 [[]] (.q 3 [[]] (.q 4 [[]] (.q 5 [[]] (.q 6 [[]] (.q 7 [[]] (.q 8 [[]] (.q 9 [[]] (.q 10 [[]] (.e 11 (.q 12 [[13]] (.q 13 [[]] (.e 14 .z))))))))))))))) [(0,some (.pt [S x1000,.row none 5 (List.map (v41 0) x1001),.row none 1 (List.map Cx x1002),.row none 1 (List.map I x1003)]))] (.cons (ptS (shrC (rfl:(V.shr (S x1000))=S x1000) (shrC (shrM (some 41) 5 (v41 1) (v41 0) x1001 (v41.shr _)) (shrC (shrM (some 53) 1 Cx Cx x1002 (fun _=>rfl)) (shrC (shrM (some 3) 1 I I x1003 (fun _=>rfl)) (rfl:shrL []=[])))))) .nil) [I (x1003.length:Int),.row (some 3) 1 (List.map I (x1003.take ((wrap64 ((x1003.length:Int) - 1)):Int).toNat))] [I (x1003.length:Int)] (.cons (lenM I x1003) (.cons c563 (.cons (leM I c564) (.cons (takeM I (l:=x1003) (n:=((wrap64 ((x1003.length:Int) - 1)):Int).toNat)) .nil)))) (.cons (lenM I x1003) .nil) [] []<|⟨k,by omega,x1,x1000,x1001,x1002,x1003.take ((wrap64 ((x1003.length:Int) - 1)):Int).toNat,by omega,Wo [(0,0),(1,0)],H⟩
def tlv_reader_read.g0_0:Nat→Int→Int→ByteArray→List S41→List (Nat × Nat)→List Int→Option (Int × Int × ByteArray × List S41 × List (Nat × Nat) × List Int)
 | 0,_,_,_,_,_,_=>none
 | k+1,x5,x8,x1000,x1001,x1002,x1003=>if x8=0 then (some (0,0,x1000,x1001,x1002,x1003)) else (some (x8,x5,x1000,x1001,x1002,x1003))
mutual
def tlv_reader_read.g0_1:Nat→Int→ByteArray→List S41→List (Nat × Nat)→List Int→Option (Int × Int × ByteArray × List S41 × List (Nat × Nat) × List Int)
 | 0,_,_,_,_,_=>none
 | k+1,x5,x1000,x1001,x1002,x1003=>(tlv_reader_end.f x1000 x1001 x1002 x1003).bind fun t591=>((octets_Cut.f x1000 x5 (wrap64 (t591 - x5))).bind fun t593=>((head_Decode.f k t593).bind fun t595=>(if t595.2.2.2.2.2=0 then (if t595.2.2.2.1 > (wrap64 ((wrap64 (t591 - x5)) - t595.2.2.2.2.1)) then (tlv_reader_read.g0_0 k x5 5 x1000 x1001 x1002 x1003) else ((octets_Cut.f x1000 (wrap64 (x5+t595.2.2.2.2.1)) t595.2.2.2.1).bind fun t599=>((tlv_reader_may.f k x1000 x1001 x1002 x1003 t595.1 t595.2.1 t595.2.2.1 t595.2.2.2.1 t599).bind fun t601=>(if t601.1=0 then ((span_Of.f x5 (wrap64 ((wrap64 (x5+t595.2.2.2.2.1))+t595.2.2.2.1))).bind fun t604=>((tlv_reader_put.f t601.2.1 t601.2.2.1 t601.2.2.2.1 t601.2.2.2.2 t595.1 t595.2.1 t595.2.2.1 t595.2.2.2.1 t599 t604).bind fun t606=>(if t595.2.2.1=true then (tlv_reader_read.j3 k (wrap64 (x5+t595.2.2.2.2.1)) t601.1 t601.2.1 t606.1 t606.2.1 t606.2.2) else (tlv_reader_read.j3 k (wrap64 ((wrap64 (x5+t595.2.2.2.2.1))+t595.2.2.2.1)) t601.1 t601.2.1 t606.1 t606.2.1 t606.2.2)))) else (tlv_reader_read.g0_0 k x5 t601.1 t601.2.1 t601.2.2.1 t601.2.2.2.1 t601.2.2.2.2))))) else (tlv_reader_read.g0_0 k x5 t595.2.2.2.2.2 x1000 x1001 x1002 x1003))))
def tlv_reader_read.j3:Nat→Int→Int→ByteArray→List S41→List (Nat × Nat)→List Int→Option (Int × Int × ByteArray × List S41 × List (Nat × Nat) × List Int)
 | 0,_,_,_,_,_,_=>none
 | k+1,x5,x8,x1000,x1001,x1002,x1003=>(tlv_reader_close.f k x1000 x1001 x1002 x1003 x5).bind fun t609=>(if t609.1=true then (if x5 < (t609.2.1.size:Int) then (some (5,x5,t609.2.1,t609.2.2.1,t609.2.2.2.1,t609.2.2.2.2)) else (if x8=0 then (some (0,0,t609.2.1,t609.2.2.1,t609.2.2.2.1,t609.2.2.2.2)) else (some (x8,x5,t609.2.1,t609.2.2.1,t609.2.2.2.1,t609.2.2.2.2)))) else (tlv_reader_read.g0_1 k x5 t609.2.1 t609.2.2.1 t609.2.2.2.1 t609.2.2.2.2))
end
def tlv_reader_read.j0:Nat→Int→Int→ByteArray→List S41→List (Nat × Nat)→List Int→Option (Int × Int × ByteArray × List S41 × List (Nat × Nat) × List Int)
 | 0,_,_,_,_,_,_=>none
 | k+1,x5,x8,x1000,x1001,x1002,x1003=>(tlv_reader_close.f k x1000 x1001 x1002 x1003 x5).bind fun t585=>(if t585.1=true then (if x5 < (t585.2.1.size:Int) then (some (5,x5,t585.2.1,t585.2.2.1,t585.2.2.2.1,t585.2.2.2.2)) else (if x8=0 then (some (0,0,t585.2.1,t585.2.2.1,t585.2.2.2.1,t585.2.2.2.2)) else (some (x8,x5,t585.2.1,t585.2.2.1,t585.2.2.2.1,t585.2.2.2.2)))) else (tlv_reader_read.g0_1 k x5 t585.2.1 t585.2.2.1 t585.2.2.2.1 t585.2.2.2.2))
def tlv_reader_read.f (k:Nat) (a0_0:ByteArray) (l0_1:List S41) (l0_2:List (Nat × Nat)) (l0_3:List Int):Option (Int × Int × ByteArray × List S41 × List (Nat × Nat) × List Int):=if a0_0.toList=([]:List UInt8) then (tlv_reader_read.g0_0 k 0 3 a0_0 l0_1 l0_2 l0_3) else (if (a0_0.size:Int) > 65535 then (tlv_reader_read.g0_0 k 0 4 a0_0 l0_1 l0_2 l0_3) else ((tlv_reader_end.f a0_0 l0_1 l0_2 l0_3).bind fun t567=>((octets_Cut.f a0_0 0 (wrap64 (t567 - 0))).bind fun t569=>((head_Decode.f k t569).bind fun t571=>(if t571.2.2.2.2.2=0 then (if t571.2.2.2.1 > (wrap64 ((wrap64 (t567 - 0)) - t571.2.2.2.2.1)) then (tlv_reader_read.g0_0 k 0 5 a0_0 l0_1 l0_2 l0_3) else ((octets_Cut.f a0_0 (wrap64 (0+t571.2.2.2.2.1)) t571.2.2.2.1).bind fun t575=>((tlv_reader_may.f k a0_0 l0_1 l0_2 l0_3 t571.1 t571.2.1 t571.2.2.1 t571.2.2.2.1 t575).bind fun t577=>(if t577.1=0 then ((span_Of.f 0 (wrap64 ((wrap64 (0+t571.2.2.2.2.1))+t571.2.2.2.1))).bind fun t580=>((tlv_reader_put.f t577.2.1 t577.2.2.1 t577.2.2.2.1 t577.2.2.2.2 t571.1 t571.2.1 t571.2.2.1 t571.2.2.2.1 t575 t580).bind fun t582=>(if t571.2.2.1=true then (tlv_reader_read.j0 k (wrap64 (0+t571.2.2.2.2.1)) t577.1 t577.2.1 t582.1 t582.2.1 t582.2.2) else (tlv_reader_read.j0 k (wrap64 ((wrap64 (0+t571.2.2.2.2.1))+t571.2.2.2.1)) t577.1 t577.2.1 t582.1 t582.2.1 t582.2.2)))) else (tlv_reader_read.g0_0 k 0 t577.1 t577.2.1 t577.2.2.1 t577.2.2.2.1 t577.2.2.2.2))))) else (tlv_reader_read.g0_0 k 0 t571.2.2.2.2.2 a0_0 l0_1 l0_2 l0_3))))))
theorem tlv_reader_read.con {k:Nat} {a0_0:ByteArray} {l0_1:List S41} {l0_2:List (Nat × Nat)} {l0_3:List Int} {r:(Int × Int × ByteArray × List S41 × List (Nat × Nat) × List Int)} (H:tlv_reader_read.f k a0_0 l0_1 l0_2 l0_3=some r):ConX Tryd.prog 35 [.ptr 0 0] [[S a0_0,.row (some 41) 5 (List.map (v41 1) l0_1),.row (some 53) 1 (List.map Cx l0_2),.row (some 3) 1 (List.map I l0_3)]] (.v (.agg [I r.1,I r.2.1])) [[S r.2.2.1,.row (some 41) 5 (List.map (v41 1) r.2.2.2.1),.row (some 53) 1 (List.map Cx r.2.2.2.2.1),.row (some 3) 1 (List.map I r.2.2.2.2.2)]]:=by
 refine conX_of_good Tryd.func35 rfl (by kernel_rfl) (by kernel_rfl) fun C hN hL=>?_
 unfold tlv_reader_read.f at H
 refine Sw<|Rg hN<|Good.scope [(0,_,fun n st=>∃ (x5:Int) (x8:Int) (x1000:ByteArray) (x1001:List S41) (x1002:List (Nat × Nat)) (x1003:List Int) (x2000:Int) (x2001:Int) (x3000:Int) (x3001:Int) (x3002:Bool) (x3003:Int),n≤k∧Wk C st ⟨[(2,.d (.ptr 1 0)),(5,.w (I x5)),(8,.w (I x8))],[.cells [.v (S x1000),.v (.row (some 41) 5 (List.map (v41 1) x1001)),.v (.row (some 53) 1 (List.map Cx x1002)),.v (.row (some 3) 1 (List.map I x1003))],.cells [.v (I x2000),.v (I x2001)],.cells [.v (I x3000),.v (I x3001),.v (B x3002),.v (I x3003)]]⟩∧tlv_reader_read.g0_0 n x5 x8 x1000 x1001 x1002 x1003=some r),(1,_,fun n st=>∃ (x5:Int) (x1000:ByteArray) (x1001:List S41) (x1002:List (Nat × Nat)) (x1003:List Int) (x2000:Int) (x2001:Int) (x3000:Int) (x3001:Int) (x3002:Bool) (x3003:Int),n≤k∧Wk C st ⟨[(0,.d (.ptr 0 0)),(2,.d (.ptr 1 0)),(3,.d (.ptr 2 0)),(5,.w (I x5))],[.cells [.v (S x1000),.v (.row (some 41) 5 (List.map (v41 1) x1001)),.v (.row (some 53) 1 (List.map Cx x1002)),.v (.row (some 3) 1 (List.map I x1003))],.cells [.v (I x2000),.v (I x2001)],.cells [.v (I x3000),.v (I x3001),.v (B x3002),.v (I x3003)]]⟩∧tlv_reader_read.g0_1 n x5 x1000 x1001 x1002 x1003=some r)] (.cons rfl (.cons rfl .nil)) ?_ (.cons ?_ (.cons ?_ .nil))
 ·refine Sw<|Rg hN<|Sw<|Rg hN<|Sw<|Rg hN<|Sw<|Rg hN<|Sw<|Sw<|Ri hN [] (.cons (strV (rfl:a0_0.toList=a0_0.toList) (litL ([]:List UInt8))) .nil) [(13,.bool (a0_0.toList == ([]:List UInt8)))] ?_
  rcases ifC H with ⟨c565,H⟩ | ⟨c565,H⟩
  ·exact Ct (bq c565)<|Sw<|Rg hN<|Good.goto<|⟨k,(by first | trivial | omega),0,3,a0_0,l0_1,l0_2,l0_3,0,0,0,0,false,0,by omega,Wo [(2,0),(5,0),(8,0)],H⟩
  refine Cf (bn c565)<|Sk<|Sw<|Sw<|Rg hN ?_
  rcases ifC H with ⟨c566,H⟩ | ⟨c566,H⟩
  ·exact Ct (dt c566)<|Sw<|Rg hN<|Good.goto<|⟨k,(by first | trivial | omega),0,4,a0_0,l0_1,l0_2,l0_3,0,0,0,0,false,0,by omega,Wo [(2,0),(5,0),(8,0)],H⟩
  refine Cf (df c566)<|Sk<|Sw<|Good.label<|Sw ?_
  obtain ⟨t567,h568,H⟩:=bindS H
  refine Rh hN [I t567,.tup [.agg [S a0_0,.row (some 41) 5 (List.map (v41 1) l0_1),.row (some 53) 1 (List.map Cx l0_2),.row (some 3) 1 (List.map I l0_3)]]] (.cons (tlv_reader_end.con h568).c .nil)<|Sw ?_
  obtain ⟨t569,h570,H⟩:=bindS H
  obtain ⟨t571,h572,H⟩:=bindS H
  refine Rh hN [S t569,.tup [.agg [I t571.1,I t571.2.1,B t571.2.2.1,I t571.2.2.2.1],I t571.2.2.2.2.1,I t571.2.2.2.2.2]] (.cons (octets_Cut.con h570).c (.cons (head_Decode.con h572).c .nil))<|Sw<|Sw<|Rg hN ?_
  rcases (ifC H).symm with ⟨c573,H⟩ | ⟨c573,H⟩
  ·exact Ct (nq c573)<|Good.goto<|⟨k,(by first | trivial | omega),0,t571.2.2.2.2.2,a0_0,l0_1,l0_2,l0_3,0,0,t571.1,t571.2.1,t571.2.2.1,t571.2.2.2.1,by omega,Wo [(2,0),(5,0),(8,0)],H⟩
  refine Cf (bneF c573)<|Sk<|Sw<|Sw<|Rg hN ?_
  rcases ifC H with ⟨c574,H⟩ | ⟨c574,H⟩
  ·exact Ct (dt c574)<|Sw<|Rg hN<|Good.goto<|⟨k,(by first | trivial | omega),0,5,a0_0,l0_1,l0_2,l0_3,0,0,t571.1,t571.2.1,t571.2.2.1,t571.2.2.2.1,by omega,Wo [(2,0),(5,0),(8,0)],H⟩
  refine Cf (df c574)<|Sk<|Sw ?_
  obtain ⟨t575,h576,H⟩:=bindS H
  refine Rd hm hN (.qs 9 0 (.e 9 (.q 10 [] .z))) [(0,some (.pt [S a0_0,.row none 5 (List.map (v41 0) l0_1),.row none 1 (List.map Cx l0_2),.row none 1 (List.map I l0_3)])),(3,some (.pt [I t571.1,I t571.2.1,B t571.2.2.1,I t571.2.2.2.1])),(4,none),(5,none)] (.cons (ptS (shrC (rfl:(V.shr (S a0_0))=S a0_0) (shrC (shrM (some 41) 5 (v41 1) (v41 0) l0_1 (v41.shr _)) (shrC (shrM (some 53) 1 Cx Cx l0_2 (fun _=>rfl)) (shrC (shrM (some 3) 1 I I l0_3 (fun _=>rfl)) (rfl:shrL []=[])))))) (.cons (ptS (shrC (rfl:(V.shr (I t571.1))=I t571.1) (shrC (rfl:(V.shr (I t571.2.1))=I t571.2.1) (shrC (rfl:(V.shr (B t571.2.2.1))=B t571.2.2.1) (shrC (rfl:(V.shr (I t571.2.2.2.1))=I t571.2.2.2.1) (rfl:shrL []=[])))))) .nil)) [S t575] [] (.cons (octets_Cut.con h576).c .nil) .nil [] []<|Sw<|Sw ?_
  obtain ⟨t577,h578,H⟩:=bindS H
  refine Rh hN [I t577.1,.tup [.agg [S t577.2.1,.row (some 41) 5 (List.map (v41 1) t577.2.2.1),.row (some 53) 1 (List.map Cx t577.2.2.2.1),.row (some 3) 1 (List.map I t577.2.2.2.2)]]] (.cons (tlv_reader_may.con h578).c .nil)<|Sw<|Rg hN ?_
  rcases (ifC H).symm with ⟨c579,H⟩ | ⟨c579,H⟩
  ·exact Ct (nq c579)<|Good.goto<|⟨k,(by first | trivial | omega),0,t577.1,t577.2.1,t577.2.2.1,t577.2.2.2.1,t577.2.2.2.2,0,0,t571.1,t571.2.1,t571.2.2.1,t571.2.2.2.1,by omega,Wo [(2,0),(5,0),(8,0)],H⟩
  refine Cf (bneF c579)<|Sk<|Sw ?_
  obtain ⟨t580,h581,H⟩:=bindS H
  obtain ⟨t582,h583,H⟩:=bindS H
  refine Rd hm hN (.q 0 [[]] (.q 1 [[]] (.q 2 [[]] (.q 3 [[10]] (.q 4 [[10,9,6]] (.q 5 [[10,9,6]] (.q 6 [[10,9]] (.q 7 [[10,9,8]] (.q 8 [[10,9]] (.q 9 [[10]] (.e 10 (.e 11 .z)))))))))))) [(0,some (.pt [S t577.2.1,.row none 5 (List.map (v41 0) t577.2.2.1),.row none 1 (List.map Cx t577.2.2.2.1),.row none 1 (List.map I t577.2.2.2.2)])),(3,some (.pt [I t571.1,I t571.2.1,B t571.2.2.1,I t571.2.2.2.1])),(4,none),(5,none),(7,none)] (.cons (ptS (shrC (rfl:(V.shr (S t577.2.1))=S t577.2.1) (shrC (shrM (some 41) 5 (v41 1) (v41 0) t577.2.2.1 (v41.shr _)) (shrC (shrM (some 53) 1 Cx Cx t577.2.2.2.1 (fun _=>rfl)) (shrC (shrM (some 3) 1 I I t577.2.2.2.2 (fun _=>rfl)) (rfl:shrL []=[])))))) (.cons (ptS (shrC (rfl:(V.shr (I t571.1))=I t571.1) (shrC (rfl:(V.shr (I t571.2.1))=I t571.2.1) (shrC (rfl:(V.shr (B t571.2.2.1))=B t571.2.2.1) (shrC (rfl:(V.shr (I t571.2.2.2.1))=I t571.2.2.2.1) (rfl:shrL []=[])))))) .nil)) [Cx t580,.tup [],.tup [.agg [S t577.2.1,.row (some 41) 5 (List.map (v41 1) t582.1),.row (some 53) 1 (List.map Cx t582.2.1),.row (some 3) 1 (List.map I t582.2.2)]]] [] (.cons (span_Of.con h581).c (.cons (tlv_reader_put.con h583).c .nil)) .nil [] []<|Sw<|Rg hN<|Sw<|Sw<|Rg hN<|Good.cut (fun st=>∃ n':Nat,n'≤k∧∃ (x5:Int) (x8:Int) (x1000:ByteArray) (x1001:List S41) (x1002:List (Nat × Nat)) (x1003:List Int) (x2000:Int) (x2001:Int) (x3000:Int) (x3001:Int) (x3002:Bool) (x3003:Int),Wk C st ⟨[(0,.d (.ptr 0 0)),(2,.d (.ptr 1 0)),(3,.d (.ptr 2 0)),(5,.w (I x5)),(8,.w (I x8))],[.cells [.v (S x1000),.v (.row (some 41) 5 (List.map (v41 1) x1001)),.v (.row (some 53) 1 (List.map Cx x1002)),.v (.row (some 3) 1 (List.map I x1003))],.cells [.v (I x2000),.v (I x2001)],.cells [.v (I x3000),.v (I x3001),.v (B x3002),.v (I x3003)]]⟩∧tlv_reader_read.j0 n' x5 x8 x1000 x1001 x1002 x1003=some r) ?_ ?_
  ·rcases ifC H with ⟨c584,H⟩ | ⟨c584,H⟩
   ·exact Cf (notF c584)<|Sk<|⟨k,by omega,wrap64 (0+t571.2.2.2.2.1),t577.1,t577.2.1,t582.1,t582.2.1,t582.2.2,0,0,t571.1,t571.2.1,t571.2.2.1,t571.2.2.2.1,Wo [(0,0),(2,0),(3,0),(5,0),(8,0)],H⟩
   exact Ct (notT (bf c584))<|Rg hN<|⟨k,by omega,wrap64 ((wrap64 (0+t571.2.2.2.2.1))+t571.2.2.2.1),t577.1,t577.2.1,t582.1,t582.2.1,t582.2.2,0,0,t571.1,t571.2.1,t571.2.2.1,t571.2.2.2.1,Wo [(0,0),(2,0),(3,0),(5,0),(8,0)],H⟩
  clear H
  rintro st ⟨n',hn',x5,x8,x1000,x1001,x1002,x1003,x2000,x2001,x3000,x3001,x3002,x3003,W,H⟩
  rcases n' with _ | k
  ·cases H
  refine W.good ?_
  rw [tlv_reader_read.j0] at H
  refine Sw<|Sw ?_
  obtain ⟨t585,h586,H⟩:=bindS H
  refine Rh hN [B t585.1,.tup [.agg [S t585.2.1,.row (some 41) 5 (List.map (v41 1) t585.2.2.1),.row (some 53) 1 (List.map Cx t585.2.2.2.1),.row (some 3) 1 (List.map I t585.2.2.2.2)]]] (.cons (tlv_reader_close.con h586).c .nil) ?_
  rcases (ifC H).symm with ⟨c587,H⟩ | ⟨c587,H⟩
  ·exact Ct (notT (bf c587))<|Good.goto<|⟨k,(by first | trivial | omega),x5,t585.2.1,t585.2.2.1,t585.2.2.2.1,t585.2.2.2.2,x2000,x2001,x3000,x3001,x3002,x3003,by omega,Wo [(0,0),(2,0),(3,0),(5,0)],H⟩
  refine Cf (notF c587)<|Sk<|Sw<|Sw<|Rg hN ?_
  rcases ifC H with ⟨c588,H⟩ | ⟨c588,H⟩
  ·refine Ct (dt c588)<|Rg hN<|Sw<|Good.label<|Sw<|Sw<|Rg hN<|Cf (bn (show ¬ ((5:Int)=0) by decide))<|Sk<|Sw<|Rg hN ?_
   cases H
   exact Good.ret (finX_fitR (.refl _) (FitLL.refl _) (by kernel_rfl) rfl)
  refine Cf (df c588)<|Sk<|Sw<|Good.label<|Sw<|Sw<|Rg hN ?_
  rcases ifC H with ⟨c589,H⟩ | ⟨c589,H⟩
  ·refine Ct (bq c589)<|Sw<|Rg hN ?_
   cases H
   exact Good.ret (finX_fitR (.refl _) (FitLL.refl _) (by kernel_rfl) rfl)
  refine Cf (bn c589)<|Sk<|Sw<|Rg hN ?_
  cases H
  exact Good.ret (finX_fitR (.refl _) (FitLL.refl _) (by kernel_rfl) rfl)
 ·clear H
  rintro n st ⟨x5,x8,x1000,x1001,x1002,x1003,x2000,x2001,x3000,x3001,x3002,x3003,hn,W,H⟩
  rcases n with _ | k
  ·cases H
  refine W.good ?_
  rw [tlv_reader_read.g0_0] at H
  refine Sw<|Sk<|Sw<|Sw<|Rg hN ?_
  rcases ifC H with ⟨c590,H⟩ | ⟨c590,H⟩
  ·refine Ct (bq c590)<|Sw<|Rg hN ?_
   cases H
   exact Good.ret (finX_fitR (.refl _) (FitLL.refl _) (by kernel_rfl) rfl)
  refine Cf (bn c590)<|Sk<|Sw<|Rg hN ?_
  cases H
  exact Good.ret (finX_fitR (.refl _) (FitLL.refl _) (by kernel_rfl) rfl)
 ·clear H
  rintro n st ⟨x5,x1000,x1001,x1002,x1003,x2000,x2001,x3000,x3001,x3002,x3003,hn,W,H⟩
  rcases n with _ | k
  ·cases H
  refine W.good ?_
  rw [tlv_reader_read.g0_1] at H
  refine Sw<|Sk<|Sw ?_
  obtain ⟨t591,h592,H⟩:=bindS H
  refine Rh hN [I t591,.tup [.agg [S x1000,.row (some 41) 5 (List.map (v41 1) x1001),.row (some 53) 1 (List.map Cx x1002),.row (some 3) 1 (List.map I x1003)]]] (.cons (tlv_reader_end.con h592).c .nil)<|Sw ?_
  obtain ⟨t593,h594,H⟩:=bindS H
  obtain ⟨t595,h596,H⟩:=bindS H
  refine Rh hN [S t593,.tup [.agg [I t595.1,I t595.2.1,B t595.2.2.1,I t595.2.2.2.1],I t595.2.2.2.2.1,I t595.2.2.2.2.2]] (.cons (octets_Cut.con h594).c (.cons (head_Decode.con h596).c .nil))<|Sw<|Sw<|Rg hN ?_
  rcases (ifC H).symm with ⟨c597,H⟩ | ⟨c597,H⟩
  ·exact Ct (nq c597)<|Good.goto<|⟨k,(by first | trivial | omega),x5,t595.2.2.2.2.2,x1000,x1001,x1002,x1003,x2000,x2001,t595.1,t595.2.1,t595.2.2.1,t595.2.2.2.1,by omega,Wo [(2,0),(5,0),(8,0)],H⟩
  refine Cf (bneF c597)<|Sk<|Sw<|Sw<|Rg hN ?_
  rcases ifC H with ⟨c598,H⟩ | ⟨c598,H⟩
  ·exact Ct (dt c598)<|Sw<|Rg hN<|Good.goto<|⟨k,(by first | trivial | omega),x5,5,x1000,x1001,x1002,x1003,x2000,x2001,t595.1,t595.2.1,t595.2.2.1,t595.2.2.2.1,by omega,Wo [(2,0),(5,0),(8,0)],H⟩
  refine Cf (df c598)<|Sk<|Sw ?_
  obtain ⟨t599,h600,H⟩:=bindS H
  refine Rd hm hN (.qs 9 0 (.e 9 (.q 10 [] .z))) [(0,some (.pt [S x1000,.row none 5 (List.map (v41 0) x1001),.row none 1 (List.map Cx x1002),.row none 1 (List.map I x1003)])),(3,some (.pt [I t595.1,I t595.2.1,B t595.2.2.1,I t595.2.2.2.1])),(4,none),(5,none)] (.cons (ptS (shrC (rfl:(V.shr (S x1000))=S x1000) (shrC (shrM (some 41) 5 (v41 1) (v41 0) x1001 (v41.shr _)) (shrC (shrM (some 53) 1 Cx Cx x1002 (fun _=>rfl)) (shrC (shrM (some 3) 1 I I x1003 (fun _=>rfl)) (rfl:shrL []=[])))))) (.cons (ptS (shrC (rfl:(V.shr (I t595.1))=I t595.1) (shrC (rfl:(V.shr (I t595.2.1))=I t595.2.1) (shrC (rfl:(V.shr (B t595.2.2.1))=B t595.2.2.1) (shrC (rfl:(V.shr (I t595.2.2.2.1))=I t595.2.2.2.1) (rfl:shrL []=[])))))) .nil)) [S t599] [] (.cons (octets_Cut.con h600).c .nil) .nil [] []<|Sw<|Sw ?_
  obtain ⟨t601,h602,H⟩:=bindS H
  refine Rh hN [I t601.1,.tup [.agg [S t601.2.1,.row (some 41) 5 (List.map (v41 1) t601.2.2.1),.row (some 53) 1 (List.map Cx t601.2.2.2.1),.row (some 3) 1 (List.map I t601.2.2.2.2)]]] (.cons (tlv_reader_may.con h602).c .nil)<|Sw<|Rg hN ?_
  rcases (ifC H).symm with ⟨c603,H⟩ | ⟨c603,H⟩
  ·exact Ct (nq c603)<|Good.goto<|⟨k,(by first | trivial | omega),x5,t601.1,t601.2.1,t601.2.2.1,t601.2.2.2.1,t601.2.2.2.2,x2000,x2001,t595.1,t595.2.1,t595.2.2.1,t595.2.2.2.1,by omega,Wo [(2,0),(5,0),(8,0)],H⟩
  refine Cf (bneF c603)<|Sk<|Sw ?_
  obtain ⟨t604,h605,H⟩:=bindS H
  obtain ⟨t606,h607,H⟩:=bindS H
  refine Rd hm hN (.q 0 [[]] (.q 1 [[]] (.q 2 [[]] (.q 3 [[10]] (.q 4 [[10,9,6]] (.q 5 [[10,9,6]] (.q 6 [[10,9]] (.q 7 [[10,9,8]] (.q 8 [[10,9]] (.q 9 [[10]] (.e 10 (.e 11 .z)))))))))))) [(0,some (.pt [S t601.2.1,.row none 5 (List.map (v41 0) t601.2.2.1),.row none 1 (List.map Cx t601.2.2.2.1),.row none 1 (List.map I t601.2.2.2.2)])),(3,some (.pt [I t595.1,I t595.2.1,B t595.2.2.1,I t595.2.2.2.1])),(4,none),(5,none),(7,none)] (.cons (ptS (shrC (rfl:(V.shr (S t601.2.1))=S t601.2.1) (shrC (shrM (some 41) 5 (v41 1) (v41 0) t601.2.2.1 (v41.shr _)) (shrC (shrM (some 53) 1 Cx Cx t601.2.2.2.1 (fun _=>rfl)) (shrC (shrM (some 3) 1 I I t601.2.2.2.2 (fun _=>rfl)) (rfl:shrL []=[])))))) (.cons (ptS (shrC (rfl:(V.shr (I t595.1))=I t595.1) (shrC (rfl:(V.shr (I t595.2.1))=I t595.2.1) (shrC (rfl:(V.shr (B t595.2.2.1))=B t595.2.2.1) (shrC (rfl:(V.shr (I t595.2.2.2.1))=I t595.2.2.2.1) (rfl:shrL []=[])))))) .nil)) [Cx t604,.tup [],.tup [.agg [S t601.2.1,.row (some 41) 5 (List.map (v41 1) t606.1),.row (some 53) 1 (List.map Cx t606.2.1),.row (some 3) 1 (List.map I t606.2.2)]]] [] (.cons (span_Of.con h605).c (.cons (tlv_reader_put.con h607).c .nil)) .nil [] []<|Sw<|Rg hN<|Sw<|Sw<|Rg hN<|Good.cut (fun st=>∃ n':Nat,n'≤k∧∃ (x5:Int) (x8:Int) (x1000:ByteArray) (x1001:List S41) (x1002:List (Nat × Nat)) (x1003:List Int) (x2000:Int) (x2001:Int) (x3000:Int) (x3001:Int) (x3002:Bool) (x3003:Int),Wk C st ⟨[(0,.d (.ptr 0 0)),(2,.d (.ptr 1 0)),(3,.d (.ptr 2 0)),(5,.w (I x5)),(8,.w (I x8))],[.cells [.v (S x1000),.v (.row (some 41) 5 (List.map (v41 1) x1001)),.v (.row (some 53) 1 (List.map Cx x1002)),.v (.row (some 3) 1 (List.map I x1003))],.cells [.v (I x2000),.v (I x2001)],.cells [.v (I x3000),.v (I x3001),.v (B x3002),.v (I x3003)]]⟩∧tlv_reader_read.j3 n' x5 x8 x1000 x1001 x1002 x1003=some r) ?_ ?_
  ·rcases ifC H with ⟨c608,H⟩ | ⟨c608,H⟩
   ·exact Cf (notF c608)<|Sk<|⟨k,by omega,wrap64 (x5+t595.2.2.2.2.1),t601.1,t601.2.1,t606.1,t606.2.1,t606.2.2,x2000,x2001,t595.1,t595.2.1,t595.2.2.1,t595.2.2.2.1,Wo [(0,0),(2,0),(3,0),(5,0),(8,0)],H⟩
   exact Ct (notT (bf c608))<|Rg hN<|⟨k,by omega,wrap64 ((wrap64 (x5+t595.2.2.2.2.1))+t595.2.2.2.1),t601.1,t601.2.1,t606.1,t606.2.1,t606.2.2,x2000,x2001,t595.1,t595.2.1,t595.2.2.1,t595.2.2.2.1,Wo [(0,0),(2,0),(3,0),(5,0),(8,0)],H⟩
  clear H
  rintro st ⟨n',hn',x5,x8,x1000,x1001,x1002,x1003,x2000,x2001,x3000,x3001,x3002,x3003,W,H⟩
  rcases n' with _ | k
  ·cases H
  refine W.good ?_
  rw [tlv_reader_read.j3] at H
  refine Sw<|Sw ?_
  obtain ⟨t609,h610,H⟩:=bindS H
  refine Rh hN [B t609.1,.tup [.agg [S t609.2.1,.row (some 41) 5 (List.map (v41 1) t609.2.2.1),.row (some 53) 1 (List.map Cx t609.2.2.2.1),.row (some 3) 1 (List.map I t609.2.2.2.2)]]] (.cons (tlv_reader_close.con h610).c .nil) ?_
  rcases (ifC H).symm with ⟨c611,H⟩ | ⟨c611,H⟩
  ·exact Ct (notT (bf c611))<|Good.goto<|⟨k,(by first | trivial | omega),x5,t609.2.1,t609.2.2.1,t609.2.2.2.1,t609.2.2.2.2,x2000,x2001,x3000,x3001,x3002,x3003,by omega,Wo [(0,0),(2,0),(3,0),(5,0)],H⟩
  refine Cf (notF c611)<|Sk<|Sw<|Sw<|Rg hN ?_
  rcases ifC H with ⟨c612,H⟩ | ⟨c612,H⟩
  ·refine Ct (dt c612)<|Rg hN<|Sw<|Good.label<|Sw<|Sw<|Rg hN<|Cf (bn (show ¬ ((5:Int)=0) by decide))<|Sk<|Sw<|Rg hN ?_
   cases H
   exact Good.ret (finX_fitR (.refl _) (FitLL.refl _) (by kernel_rfl) rfl)
  refine Cf (df c612)<|Sk<|Sw<|Good.label<|Sw<|Sw<|Rg hN ?_
  rcases ifC H with ⟨c613,H⟩ | ⟨c613,H⟩
  ·refine Ct (bq c613)<|Sw<|Rg hN ?_
   cases H
   exact Good.ret (finX_fitR (.refl _) (FitLL.refl _) (by kernel_rfl) rfl)
  refine Cf (bn c613)<|Sk<|Sw<|Rg hN ?_
  cases H
  exact Good.ret (finX_fitR (.refl _) (FitLL.refl _) (by kernel_rfl) rfl)
def tlv_Decode.f (k:Nat) (a0:ByteArray):Option (List S41 × Int × Int):=(tlv_reader_read.f k a0 ([]:List S41) ([]:List (Nat × Nat)) ([]:List Int)).bind fun t614=>(if t614.1=0 then (some (t614.2.2.2.1,0,0)) else (some (([]:List S41),t614.1,t614.2.1)))
theorem tlv_Decode.con {k:Nat} {a0:ByteArray} {r:(List S41 × Int × Int)} (H:tlv_Decode.f k a0=some r):Con Tryd.prog 24 [S a0] (.tup [.row (some 41) 5 (List.map (v41 1) r.1),.agg [I r.2.1,I r.2.2]]):=by
 refine Cg Tryd.func24 rfl fun C hN hL=>?_
 unfold tlv_Decode.f at H
 refine Sw<|Rg hN<|Sw<|Rg hN<|Sw<|Sw ?_
 obtain ⟨t614,h615,H⟩:=bindS H
 refine Rh hN [.agg [I t614.1,I t614.2.1],.tup [.agg [S t614.2.2.1,.row (some 41) 5 (List.map (v41 1) t614.2.2.2.1),.row (some 53) 1 (List.map Cx t614.2.2.2.2.1),.row (some 3) 1 (List.map I t614.2.2.2.2.2)]]] (.cons (ConX.n (tlv_reader_read.con h615) (.cons (.refl _) .nil) (.cons (.cons (.refl _) (.cons (.nilO 41 5) (.cons (.nilO 53 1) (.cons (.nilO 3 1) .nil)))) .nil)) .nil)<|Sw<|Rg hN ?_
 rcases (ifC H).symm with ⟨c616,H⟩ | ⟨c616,H⟩
 ·refine Ct (nq c616)<|Sw<|Rd hm hN (.q 0 [[]] (.q 1 [[]] (.e 2 .z))) [(3,some (.pt [I 0,I 0])),(5,some (.pt [I t614.1,I t614.2.1]))] (.cons (ptS (shrC (rfl:(V.shr (I 0))=I 0) (shrC (rfl:(V.shr (I 0))=I 0) (rfl:shrL []=[])))) (.cons (ptS (shrC (rfl:(V.shr (I t614.1))=I t614.1) (shrC (rfl:(V.shr (I t614.2.1))=I t614.2.1) (rfl:shrL []=[])))) .nil)) [] [] .nil .nil [] [] ?_
  cases H
  exact Good.ret (fin_fit (u:=.tup [.nil 41 5,.agg [I t614.1,I t614.2.1]]) (.tup (.cons (.nilO 41 5) (.cons (.refl _) .nil))) (by kernel_rfl))
 refine Cf (bneF c616)<|Sk<|Sw<|Rg hN ?_
 cases H
 exact Rt dR
def clavigerlaw20_TreeBack.j1:Nat→ByteArray→Option (Bool)
 | 0,_=>none
 | k+1,x1=>(tlv_Decode.f k x1).bind fun t635=>(if t635.2.1=0 then ((tree_Encode.f k t635.1).bind fun t640=>((tree_Right.f k t635.1).bind fun t642=>(if t642=true then (if t640.1.toList=x1.toList then (if t640.2=0 then ((tree_Depth.f k t635.1).bind fun t647=>(if t647≤16 then ((clavigerlaw20_awake.f k).bind fun t650=>(some t650)) else (some false))) else (some false)) else (some false)) else (some false)))) else ((clavigerlaw20_awake.f k).bind fun t638=>(some t638)))
def clavigerlaw20_TreeBack.j0:Nat→List S41→ByteArray→Bool→Option (Bool)
 | 0,_,_,_=>none
 | k+1,x0,x1,x20=>if x20=true then ((clavigerlaw20_awake.f k).bind fun t621=>(some t621)) else ((tree_Encode.f k x0).bind fun t623=>(if t623.2=0 then ((tlv_Decode.f k t623.1).bind fun t626=>(if t626.2.1=0 then ((cp_Same.f k x0 t626.1).bind fun t629=>(if t629=true then ((tree_Size.f k x0).bind fun t632=>(if (t623.1.size:Int)=t632 then (clavigerlaw20_TreeBack.j1 k x1) else (some false))) else (some false))) else (some false))) else (clavigerlaw20_TreeBack.j1 k x1)))
def clavigerlaw20_TreeBack.f (k:Nat) (l0:List S41) (a1:ByteArray):Option (Bool):=(cp_Tree.f k l0 60).bind fun t617=>(if t617=true then (clavigerlaw20_TreeBack.j0 k l0 a1 (decide ((a1.size:Int) > 500))) else (clavigerlaw20_TreeBack.j0 k l0 a1 true))
theorem clavigerlaw20_TreeBack.con {k:Nat} {l0:List S41} {a1:ByteArray} {r:(Bool)} (H:clavigerlaw20_TreeBack.f k l0 a1=some r):Con Tryd.prog 6 [.row none 5 (List.map (v41 0) l0),S a1] (B r):=by
 refine Cg Tryd.func6 rfl fun C hN hL=>?_
 unfold clavigerlaw20_TreeBack.f at H
 refine Sw<|Rg hN<|Sw<|Sw<|Good.cut (fun st=>∃ n':Nat,n'≤k∧∃ (x0:List S41) (x1:ByteArray) (x20:Bool),Wk C st ⟨[(0,.w (.row none 5 (List.map (v41 0) x0))),(1,.w (S x1)),(20,.w (B x20))],[]⟩∧clavigerlaw20_TreeBack.j0 n' x0 x1 x20=some r) ?_ ?_
 ·obtain ⟨t617,h618,H⟩:=bindS H
  rcases ifC H with ⟨c619,H⟩ | ⟨c619,H⟩
  ·exact Rh hN [B t617,B false] (.cons (cp_Tree.con h618).c (.cons (notF c619) .nil))<|⟨k,by omega,l0,a1,decide ((a1.size:Int) > 500),Wo [(0,0),(1,0),(20,0)],H⟩
  exact Rh hN [B t617,B true] (.cons (cp_Tree.con h618).c (.cons (notT (bf c619)) .nil))<|⟨k,by omega,l0,a1,true,Wo [(0,0),(1,0),(20,0)],H⟩
 clear H
 rintro st ⟨n',hn',x0,x1,x20,W,H⟩
 rcases n' with _ | k
 ·cases H
 refine W.good ?_
 rw [clavigerlaw20_TreeBack.j0] at H
 rcases ifC H with ⟨c620,H⟩ | ⟨c620,H⟩
 ·refine Ct c620<|Sw ?_
  obtain ⟨t621,h622,H⟩:=bindS H
  refine Rh hN [B t621] (.cons (clavigerlaw20_awake.con h622).c .nil) ?_
  cases H
  exact Rt dR
 refine Cf (bf c620)<|Sk<|Sw ?_
 obtain ⟨t623,h624,H⟩:=bindS H
 refine Rh hN [.tup [S t623.1,I t623.2]] (.cons (tree_Encode.con h624).c .nil)<|Sw<|Sw<|Rg hN<|Good.cut (fun st=>∃ n':Nat,n'≤k∧∃ (x1:ByteArray),Wk C st ⟨[(1,.w (S x1))],[]⟩∧clavigerlaw20_TreeBack.j1 n' x1=some r) ?_ ?_
 ·rcases (ifC H).symm with ⟨c625,H⟩ | ⟨c625,H⟩
  ·exact Cf (bn c625)<|Sk<|⟨k,by omega,x1,Wo [(1,0)],H⟩
  refine Ct (bq c625)<|Sw ?_
  obtain ⟨t626,h627,H⟩:=bindS H
  refine Rh hN [.tup [.row (some 41) 5 (List.map (v41 1) t626.1),.agg [I t626.2.1,I t626.2.2]]] (.cons (tlv_Decode.con h627).c .nil)<|Sw ?_
  rcases (ifC H).symm with ⟨c628,H⟩ | ⟨c628,H⟩
  ·refine Rh hN [B true,B true] (.cons (nq c628) (.cons (rfl:true=true) .nil))<|Good.cond true (by kernel_rfl)<|Sw<|Rg hN ?_
   cases H
   exact Rt dR
  obtain ⟨t629,h630,H⟩:=bindS H
  rcases (ifC H).symm with ⟨c631,H⟩ | ⟨c631,H⟩
  ·refine Rh hN [B false,.row none 5 (List.map (v41 0) t626.1),B t629,B true] (.cons (bneF c628) (.cons (shrM (some 41) 5 (v41 1) (v41 0) t626.1 (v41.shr _)) (.cons (cp_Same.con h630).c (.cons (notT (bf c631)) .nil))))<|Good.cond true (by kernel_rfl)<|Sw<|Rg hN ?_
   cases H
   exact Rt dR
  obtain ⟨t632,h633,H⟩:=bindS H
  refine Rh hN [B false,.row none 5 (List.map (v41 0) t626.1),B t629,B false,I t632] (.cons (bneF c628) (.cons (shrM (some 41) 5 (v41 1) (v41 0) t626.1 (v41.shr _)) (.cons (cp_Same.con h630).c (.cons (notF c631) (.cons (tree_Size.con h633).c .nil))))) ?_
  rcases ifC H with ⟨c634,H⟩ | ⟨c634,H⟩
  ·exact Cf (bneF c634)<|Sk<|⟨k,by omega,x1,Wk.ofB hL 0 [(1,0)] (by kernel_rfl) (by kernel_rfl) (by kernel_rfl),H⟩
  refine Ct (nq c634)<|Sw<|Rg hN ?_
  cases H
  exact Rt dR
 clear H
 rintro st ⟨n',hn',x1,W,H⟩
 rcases n' with _ | k
 ·cases H
 refine W.good ?_
 rw [clavigerlaw20_TreeBack.j1] at H
 refine Sw ?_
 obtain ⟨t635,h636,H⟩:=bindS H
 refine Rh hN [.tup [.row (some 41) 5 (List.map (v41 1) t635.1),.agg [I t635.2.1,I t635.2.2]]] (.cons (tlv_Decode.con h636).c .nil)<|Sw<|Sw<|Rg hN ?_
 rcases (ifC H).symm with ⟨c637,H⟩ | ⟨c637,H⟩
 ·refine Ct (nq c637)<|Sw ?_
  obtain ⟨t638,h639,H⟩:=bindS H
  refine Rh hN [B t638] (.cons (clavigerlaw20_awake.con h639).c .nil) ?_
  cases H
  exact Rt dR
 refine Cf (bneF c637)<|Sk<|Sw ?_
 obtain ⟨t640,h641,H⟩:=bindS H
 refine Rh hN [.row none 5 (List.map (v41 0) t635.1),.tup [S t640.1,I t640.2]] (.cons (shrM (some 41) 5 (v41 1) (v41 0) t635.1 (v41.shr _)) (.cons (tree_Encode.con h641).c .nil))<|Sw ?_
 obtain ⟨t642,h643,H⟩:=bindS H
 rcases (ifC H).symm with ⟨c644,H⟩ | ⟨c644,H⟩
 ·refine Rh hN [B t642,B false,B false,B false,B false] (.cons (tree_Right.con h643).c (.cons (bf c644) (.cons (rfl:false=false) (.cons (rfl:false=false) (.cons (rfl:false=false) .nil))))) ?_
  cases H
  exact Rt dR
 rcases (ifC H).symm with ⟨c645,H⟩ | ⟨c645,H⟩
 ·refine Rh hN [B t642,B true,B false,B false,B false] (.cons (tree_Right.con h643).c (.cons c644 (.cons (bn c645) (.cons (rfl:false=false) (.cons (rfl:false=false) .nil))))) ?_
  cases H
  exact Rt dR
 rcases (ifC H).symm with ⟨c646,H⟩ | ⟨c646,H⟩
 ·refine Rh hN [B t642,B true,B true,B false,B false] (.cons (tree_Right.con h643).c (.cons c644 (.cons (bq c645) (.cons (bn c646) (.cons (rfl:false=false) .nil))))) ?_
  cases H
  exact Rt dR
 obtain ⟨t647,h648,H⟩:=bindS H
 rcases (ifC H).symm with ⟨c649,H⟩ | ⟨c649,H⟩
 ·refine Rh hN [B t642,B true,B true,B true,I t647,B false] (.cons (tree_Right.con h643).c (.cons c644 (.cons (bq c645) (.cons (bq c646) (.cons (tree_Depth.con h648).c (.cons (df c649) .nil)))))) ?_
  cases H
  exact Rt dR
 obtain ⟨t650,h651,H⟩:=bindS H
 refine Rh hN [B t642,B true,B true,B true,I t647,B true,B t650] (.cons (tree_Right.con h643).c (.cons c644 (.cons (bq c645) (.cons (bq c646) (.cons (tree_Depth.con h648).c (.cons (dt c649) (.cons (clavigerlaw20_awake.con h651).c .nil))))))) ?_
 cases H
 exact Rt dR
def cr18_Unbool.f (a0:ByteArray):Option (Bool × Bool):=if a0.toList=([255]:List UInt8) then (some (true,true)) else (some (false,(a0.toList == ([0]:List UInt8))))
theorem cr18_Unbool.con {a0:ByteArray} {r:(Bool × Bool)} (H:cr18_Unbool.f a0=some r):Con Tryd.prog 62 [S a0] (.tup [B r.1,B r.2]):=by
 refine Cg Tryd.func62 rfl fun C hN hL=>?_
 unfold cr18_Unbool.f at H
 refine Sw<|Rg hN<|Sw<|Sw<|Ri hN [] (.cons (strV (rfl:a0.toList=a0.toList) (litL ([255]:List UInt8))) .nil) [(5,.bool (a0.toList == ([255]:List UInt8)))] ?_
 rcases ifC H with ⟨c652,H⟩ | ⟨c652,H⟩
 ·refine Ct (bq c652)<|Sw<|Rg hN ?_
  cases H
  exact Rt dR
 refine Cf (bn c652)<|Sk<|Sw<|Ri hN [] (.cons (strV (rfl:a0.toList=a0.toList) (litL ([0]:List UInt8))) .nil) [(7,.bool (a0.toList == ([0]:List UInt8)))] ?_
 cases H
 exact Rt dR
def cr16_Right.f (a0:ByteArray):Option (Bool):=if a0.toList=([]:List UInt8) then (some false) else (if (a0.size:Int)=1 then (some true) else (if 0 < (a0.size:Int) then (if (bt a0 0)=0 then (if 1 < (a0.size:Int) then (if (bt a0 1) < 128 then (some false) else (if (bt a0 0)=255 then (some (decide ((bt a0 1) < 128))) else (some true))) else (none)) else (if (bt a0 0)=255 then (if 1 < (a0.size:Int) then (some (decide ((bt a0 1) < 128))) else (none)) else (some true))) else (none)))
theorem cr16_Right.con {a0:ByteArray} {r:(Bool)} (H:cr16_Right.f a0=some r):Con Tryd.prog 63 [S a0] (B r):=by
 refine Cg Tryd.func63 rfl fun C hN hL=>?_
 unfold cr16_Right.f at H
 refine Sw<|Rg hN<|Sw<|Sw<|Ri hN [] (.cons (strV (rfl:a0.toList=a0.toList) (litL ([]:List UInt8))) .nil) [(4,.bool (a0.toList == ([]:List UInt8)))] ?_
 rcases ifC H with ⟨c653,H⟩ | ⟨c653,H⟩
 ·refine Ct (bq c653)<|Sw<|Rg hN ?_
  cases H
  exact Rt dR
 refine Cf (bn c653)<|Sk<|Sw<|Sw<|Rg hN ?_
 rcases ifC H with ⟨c654,H⟩ | ⟨c654,H⟩
 ·refine Ct (bq c654)<|Sw<|Rg hN ?_
  cases H
  exact Rt dR
 refine Cf (bn c654)<|Sk<|Sw<|Sw ?_
 obtain ⟨c655,H⟩:=ifS H
 rcases (ifC H).symm with ⟨c656,H⟩ | ⟨c656,H⟩
 ·refine Rh hN [B false] (.cons (show (0:Int)≤0 by decide) (.cons c655 (.cons (bn c656) .nil)))<|Good.cond false (by kernel_rfl)<|Sk<|Sw ?_
  rcases (ifC H).symm with ⟨c660,H⟩ | ⟨c660,H⟩
  ·refine Rh hN [B true] (.cons (show (0:Int)≤0 by decide) (.cons c655 (.cons (nq c660) .nil))) ?_
   cases H
   exact Rt dR
  obtain ⟨c661,H⟩:=ifS H
  refine Rh hN [B false] (.cons (show (0:Int)≤0 by decide) (.cons c655 (.cons (bneF c660) (.cons (show (0:Int)≤1 by decide) (.cons c661 .nil))))) ?_
  cases H
  exact Rt dR
 obtain ⟨c657,H⟩:=ifS H
 refine Rh hN [B true] (.cons (show (0:Int)≤0 by decide) (.cons c655 (.cons (bq c656) (.cons (show (0:Int)≤1 by decide) (.cons c657 .nil))))) ?_
 rcases ifC H with ⟨c658,H⟩ | ⟨c658,H⟩
 ·refine Ct (dt c658)<|Sw<|Rg hN ?_
  cases H
  exact Rt dR
 refine Cf (df c658)<|Sk<|Sw ?_
 rcases ifC H with ⟨c659,H⟩ | ⟨c659,H⟩
 ·refine Rh hN [B false] (.cons (show (0:Int)≤0 by decide) (.cons c655 (.cons (bneF c659) (.cons (show (0:Int)≤1 by decide) (.cons c657 .nil))))) ?_
  cases H
  exact Rt dR
 refine Rh hN [B true] (.cons (show (0:Int)≤0 by decide) (.cons c655 (.cons (nq c659) .nil))) ?_
 cases H
 exact Rt dR
def cr01_Put.l0:Nat→Int→Int→ByteArray→Int→Option (ByteArray)
 | 0,_,_,_,_=>none
 | k+1,x0,x1,x5,x6=>if x6 < x1 then (if (strOfNums ([(Int.tmod x0 256) % 256]:List Int)).size+x5.size≤9223372036854775807 then (cr01_Put.l0 k (IntKind.u64.wrap (Int.tdiv x0 256)) x1 ((strOfNums ([(Int.tmod x0 256) % 256]:List Int))++x5) (wrap64 (x6+1))) else (none)) else (some x5)
def cr01_Put.j0:Nat→Int→Int→Bool→Option (ByteArray)
 | 0,_,_,_=>none
 | k+1,x0,x1,x12=>if x12=true then (some (⟨#[]⟩:ByteArray)) else (cr01_Put.l0 k x0 x1 (⟨#[]⟩:ByteArray) 0)
def cr01_Put.f (k:Nat) (a0:Int) (a1:Int):Option (ByteArray):=if a1 < 1 then (cr01_Put.j0 k a0 a1 true) else (cr01_Put.j0 k a0 a1 (decide (a1 > 8)))
theorem cr01_Put.con {k:Nat} {a0:Int} {a1:Int} {r:(ByteArray)} (H:cr01_Put.f k a0 a1=some r):Con Tryd.prog 51 [K .u64 a0,I a1] (S r):=by
 refine Cg Tryd.func51 rfl fun C hN hL=>?_
 unfold cr01_Put.f at H
 refine Sw<|Rg hN<|Sw<|Sw<|Good.cut (fun st=>∃ n':Nat,n'≤k∧∃ (x0:Int) (x1:Int) (x12:Bool),Wk C st ⟨[(0,.w (K .u64 x0)),(1,.w (I x1)),(12,.w (B x12))],[]⟩∧cr01_Put.j0 n' x0 x1 x12=some r) ?_ ?_
 ·rcases ifC H with ⟨c662,H⟩ | ⟨c662,H⟩
  ·exact Rh hN [B true] (.cons (dt c662) .nil)<|⟨k,by omega,a0,a1,true,Wo [(0,0),(1,0),(12,0)],H⟩
  exact Rh hN [B false] (.cons (df c662) .nil)<|⟨k,by omega,a0,a1,decide (a1 > 8),Wo [(0,0),(1,0),(12,0)],H⟩
 clear H
 rintro st ⟨n',hn',x0,x1,x12,W,H⟩
 rcases n' with _ | k
 ·cases H
 refine W.good ?_
 rw [cr01_Put.j0] at H
 rcases ifC H with ⟨c663,H⟩ | ⟨c663,H⟩
 ·refine Ct c663<|Sw<|Rg hN ?_
  cases H
  exact Rt dR
 refine Cf (bf c663)<|Sk<|Sw<|Rg hN<|Sw<|Sw<|Rg hN<|Bl<|Good.loopN (fun k' st=>∃ (x0:Int) (x1:Int) (x5:ByteArray) (x6:Int),k'≤k∧Wk C st ⟨[(0,.w (K .u64 x0)),(1,.w (I x1)),(5,.w (S x5)),(6,.w (I x6))],[]⟩∧cr01_Put.l0 k' x0 x1 x5 x6=some r) k ⟨x0,x1,(⟨#[]⟩:ByteArray),0,Nat.le_refl _,Wo [(0,0),(1,0),(5,0),(6,0)],H⟩ fun k=>⟨fun st h=>(by obtain ⟨_,_,_,_,_,_,H⟩:=h;cases H),?_⟩
 clear H
 rintro st ⟨x0,x1,x5,x6,hk,W,H⟩
 refine W.good ?_
 rw [cr01_Put.l0] at H
 refine Sw<|Sw<|Rg hN ?_
 rcases (ifC H).symm with ⟨c664,H⟩ | ⟨c664,H⟩
 ·refine Cf (df c664)<|Ex<|Sw<|Rg hN ?_
  cases H
  exact Rt dR
 refine Ct (dt c664)<|Sk<|Sw<|Bl<|Sw ?_
 obtain ⟨c665,H⟩:=ifS H
 exact Rh hN [S (strOfNums ([(Int.tmod x0 256) % 256]:List Int))] (.cons (show (256:Int)≠0 by decide) (.cons (strN ([(Int.tmod x0 256) % 256]:List Int)) (.cons c665 .nil)))<|Rh hN [] (.cons (show (256:Int)≠0 by decide) .nil)<|Rg hN<|⟨k,by omega,IntKind.u64.wrap (Int.tdiv x0 256),x1,(strOfNums ([(Int.tmod x0 256) % 256]:List Int))++x5,wrap64 (x6+1),by omega,Wo [(0,0),(1,0),(5,0),(6,0)],H⟩
def cr18_Bits.l0:Nat→ByteArray→Int→Int→Int→Option (ByteArray × Bool)
 | 0,_,_,_,_=>none
 | k+1,x0,x1,x6,x7=>if x7 < x1 then (cr18_Bits.l0 k x0 x1 (wrap64 (2*x6)) (wrap64 (x7+1))) else (if x0.toList=([]:List UInt8) then ((cr01_Put.f k (IntKind.u64.wrap (x1)) 1).bind fun t672=>(if t672.size+x0.size≤9223372036854775807 then (some (t672++x0,true)) else (none))) else (if 0≤(wrap64 ((x0.size:Int) - 1)) then (if (wrap64 ((x0.size:Int) - 1)) < (x0.size:Int) then (if x6=0 then (none) else (if (Int.tmod (wrap64 (bt x0 (wrap64 ((x0.size:Int) - 1)))) x6)=0 then ((cr01_Put.f k (IntKind.u64.wrap (x1)) 1).bind fun t679=>(if t679.size+x0.size≤9223372036854775807 then (some (t679++x0,true)) else (none))) else (some ((⟨#[]⟩:ByteArray),false)))) else (none)) else (none)))
def cr18_Bits.j0:Nat→ByteArray→Int→Bool→Option (ByteArray × Bool)
 | 0,_,_,_=>none
 | k+1,x0,x1,x21=>if x21=true then (some ((⟨#[]⟩:ByteArray),false)) else (cr18_Bits.l0 k x0 x1 1 0)
def cr18_Bits.f (k:Nat) (a0:ByteArray) (a1:Int):Option (ByteArray × Bool):=if a1 < 0 then (cr18_Bits.j0 k a0 a1 true) else (if a1 > 7 then (cr18_Bits.j0 k a0 a1 true) else (if a0.toList=([]:List UInt8) then (cr18_Bits.j0 k a0 a1 (a1 != 0)) else (cr18_Bits.j0 k a0 a1 false)))
theorem cr18_Bits.con {k:Nat} {a0:ByteArray} {a1:Int} {r:(ByteArray × Bool)} (H:cr18_Bits.f k a0 a1=some r):Con Tryd.prog 75 [S a0,I a1] (.tup [S r.1,B r.2]):=by
 refine Cg Tryd.func75 rfl fun C hN hL=>?_
 unfold cr18_Bits.f at H
 refine Sw<|Rg hN<|Sw<|Sw<|Good.cut (fun st=>∃ n':Nat,n'≤k∧∃ (x0:ByteArray) (x1:Int) (x21:Bool),Wk C st ⟨[(0,.w (S x0)),(1,.w (I x1)),(21,.w (B x21))],[]⟩∧cr18_Bits.j0 n' x0 x1 x21=some r) ?_ ?_
 ·rcases ifC H with ⟨c666,H⟩ | ⟨c666,H⟩
  ·exact Rh hN [B true,B true] (.cons (dt c666) (.cons (rfl:true=true) .nil))<|⟨k,by omega,a0,a1,true,Wo [(0,0),(1,0),(21,0)],H⟩
  rcases ifC H with ⟨c667,H⟩ | ⟨c667,H⟩
  ·exact Rh hN [B false,B true] (.cons (df c666) (.cons (dt c667) .nil))<|⟨k,by omega,a0,a1,true,Wo [(0,0),(1,0),(21,0)],H⟩
  rcases ifC H with ⟨c668,H⟩ | ⟨c668,H⟩
  ·exact Ri hN [B false,B false,B true] (.cons (df c666) (.cons (df c667) (.cons (strV (rfl:a0.toList=a0.toList) (litL ([]:List UInt8))) (.cons (bq c668) .nil)))) [(16,.bool (a0.toList == ([]:List UInt8)))]<|⟨k,by omega,a0,a1,(a1 != 0),Wo [(0,0),(1,0),(21,0)],H⟩
  exact Ri hN [B false,B false,B false] (.cons (df c666) (.cons (df c667) (.cons (strV (rfl:a0.toList=a0.toList) (litL ([]:List UInt8))) (.cons (bn c668) .nil)))) [(16,.bool (a0.toList == ([]:List UInt8)))]<|⟨k,by omega,a0,a1,false,Wo [(0,0),(1,0),(21,0)],H⟩
 clear H
 rintro st ⟨n',hn',x0,x1,x21,W,H⟩
 rcases n' with _ | k
 ·cases H
 refine W.good ?_
 rw [cr18_Bits.j0] at H
 rcases ifC H with ⟨c669,H⟩ | ⟨c669,H⟩
 ·refine Ct c669<|Sw<|Rg hN ?_
  cases H
  exact Rt dR
 refine Cf (bf c669)<|Sk<|Sw<|Rg hN<|Sw<|Sw<|Rg hN<|Bl<|Good.loopN (fun k' st=>∃ (x0:ByteArray) (x1:Int) (x6:Int) (x7:Int),k'≤k∧Wk C st ⟨[(0,.w (S x0)),(1,.w (I x1)),(6,.w (I x6)),(7,.w (I x7))],[]⟩∧cr18_Bits.l0 k' x0 x1 x6 x7=some r) k ⟨x0,x1,1,0,Nat.le_refl _,Wo [(0,0),(1,0),(6,0),(7,0)],H⟩ fun k=>⟨fun st h=>(by obtain ⟨_,_,_,_,_,_,H⟩:=h;cases H),?_⟩
 clear H
 rintro st ⟨x0,x1,x6,x7,hk,W,H⟩
 refine W.good ?_
 rw [cr18_Bits.l0] at H
 refine Sw<|Sw<|Rg hN ?_
 rcases ifC H with ⟨c670,H⟩ | ⟨c670,H⟩
 ·exact Ct (dt c670)<|Sk<|Sw<|Bl<|Rg hN<|Rg hN<|⟨k,by omega,x0,x1,wrap64 (2*x6),wrap64 (x7+1),by omega,Wo [(0,0),(1,0),(6,0),(7,0)],H⟩
 refine Cf (df c670)<|Ex<|Sw<|Sw ?_
 rcases ifC H with ⟨c671,H⟩ | ⟨c671,H⟩
 ·refine Ri hN [B false] (.cons (nstrV (rfl:x0.toList=x0.toList) (litL ([]:List UInt8))) (.cons (bneF c671) .nil)) [(30,.bool (x0.toList != ([]:List UInt8)))]<|Good.cond false (by kernel_rfl)<|Sk<|Sw ?_
  obtain ⟨t672,h673,H⟩:=bindS H
  obtain ⟨c674,H⟩:=ifS H
  refine Rh hN [S t672] (.cons (cr01_Put.con h673).c (.cons c674 .nil)) ?_
  cases H
  exact Rt dR
 obtain ⟨c675,H⟩:=ifS H
 obtain ⟨c676,H⟩:=ifS H
 obtain ⟨c677,H⟩:=ifN H
 refine Ri hN [B true] (.cons (nstrV (rfl:x0.toList=x0.toList) (litL ([]:List UInt8))) (.cons (nq c671) (.cons c675 (.cons c676 (.cons c677 .nil))))) [(30,.bool (x0.toList != ([]:List UInt8)))] ?_
 rcases (ifC H).symm with ⟨c678,H⟩ | ⟨c678,H⟩
 ·refine Ct (nq c678)<|Sw<|Rg hN ?_
  cases H
  exact Rt dR
 refine Cf (bneF c678)<|Sk<|Sw ?_
 obtain ⟨t679,h680,H⟩:=bindS H
 obtain ⟨c681,H⟩:=ifS H
 refine Rh hN [S t679] (.cons (cr01_Put.con h680).c (.cons c681 .nil)) ?_
 cases H
 exact Rt dR
def cr18_Unbits.f (k:Nat) (a0:ByteArray):Option (ByteArray × Int × Bool):=if a0.toList=([]:List UInt8) then (some ((⟨#[]⟩:ByteArray),0,false)) else (if 1≤(a0.size:Int) then (if 0 < (a0.size:Int) then ((cr18_Bits.f k (a0.extract 1 a0.size) (wrap64 (bt a0 0))).bind fun t685=>(if t685.2=true then (some (a0.extract 1 a0.size,wrap64 (bt a0 0),true)) else (some ((⟨#[]⟩:ByteArray),0,false)))) else (none)) else (none))
theorem cr18_Unbits.con {k:Nat} {a0:ByteArray} {r:(ByteArray × Int × Bool)} (H:cr18_Unbits.f k a0=some r):Con Tryd.prog 64 [S a0] (.tup [S r.1,I r.2.1,B r.2.2]):=by
 refine Cg Tryd.func64 rfl fun C hN hL=>?_
 unfold cr18_Unbits.f at H
 refine Sw<|Rg hN<|Sw<|Sw<|Ri hN [] (.cons (strV (rfl:a0.toList=a0.toList) (litL ([]:List UInt8))) .nil) [(8,.bool (a0.toList == ([]:List UInt8)))] ?_
 rcases ifC H with ⟨c682,H⟩ | ⟨c682,H⟩
 ·refine Ct (bq c682)<|Sw<|Rg hN ?_
  cases H
  exact Rt dR
 refine Cf (bn c682)<|Sk<|Sw ?_
 obtain ⟨c683,H⟩:=ifS H
 obtain ⟨c684,H⟩:=ifS H
 obtain ⟨t685,h686,H⟩:=bindS H
 refine Rd hm hN (.qs 5 0 (.e 5 (.qs 4 6 (.q 10 [] .z)))) [(0,none)] .nil [.tup [S t685.1,B t685.2]] [] (.cons (show (0:Int)≤1 by decide) (.cons c683 (.cons (show (0:Int)≤0 by decide) (.cons c684 (.cons (cr18_Bits.con h686).c .nil))))) (.cons (show (0:Int)≤1 by decide) (.cons c683 (.cons (show (0:Int)≤0 by decide) (.cons c684 .nil)))) [] []<|Sw<|Sw<|Rg hN ?_
 rcases (ifC H).symm with ⟨c687,H⟩ | ⟨c687,H⟩
 ·refine Ct (notT (bf c687))<|Sw<|Rg hN ?_
  cases H
  exact Rt dR
 refine Cf (notF c687)<|Sk<|Sw<|Rd hm hN (.qs 7 0 (.q 7 [] .z)) [(0,none)] .nil [] [] (.cons (show (0:Int)≤1 by decide) (.cons c683 (.cons (show (0:Int)≤0 by decide) (.cons c684 .nil)))) (.cons (show (0:Int)≤1 by decide) (.cons c683 (.cons (show (0:Int)≤0 by decide) (.cons c684 .nil)))) [] [] ?_
 cases H
 exact Rt dR
def cr17_Right.l0:Nat→List Int→Int→Option (Bool)
 | 0,_,_=>none
 | k+1,x0,x3=>if x3 < (x0.length:Int) then (if x3=1 then (if 0 < (x0.length:Int) then (if (rd x0 0) < 2 then (if 0≤x3 then (if (rd x0 x3) < 0 then (some false) else (if (rd x0 x3) > 39 then (some false) else (cr17_Right.l0 k x0 (wrap64 (x3+1))))) else (none)) else (if 0≤x3 then (if (rd x0 x3) < 0 then (some false) else (if (rd x0 x3) > 2147483567 then (some false) else (cr17_Right.l0 k x0 (wrap64 (x3+1))))) else (none))) else (none)) else (if 0≤x3 then (if (rd x0 x3) < 0 then (some false) else (if (rd x0 x3) > 2147483647 then (some false) else (cr17_Right.l0 k x0 (wrap64 (x3+1))))) else (none))) else (some true)
def cr17_Right.j0:Nat→List Int→Bool→Option (Bool)
 | 0,_,_=>none
 | k+1,x0,x24=>if x24=true then (some false) else (cr17_Right.l0 k x0 1)
def cr17_Right.f (k:Nat) (l0:List Int):Option (Bool):=if (l0.length:Int) < 2 then (cr17_Right.j0 k l0 true) else (if (l0.length:Int) > 20 then (cr17_Right.j0 k l0 true) else (if 0 < (l0.length:Int) then (if (rd l0 0) < 0 then (cr17_Right.j0 k l0 true) else (cr17_Right.j0 k l0 (decide ((rd l0 0) > 2)))) else (none)))
theorem cr17_Right.con {k:Nat} {l0:List Int} {r:(Bool)} (H:cr17_Right.f k l0=some r):Con Tryd.prog 83 [.row none 1 (List.map I l0)] (B r):=by
 refine Cg Tryd.func83 rfl fun C hN hL=>?_
 unfold cr17_Right.f at H
 refine Sw<|Rg hN<|Sw<|Sw<|Good.cut (fun st=>∃ n':Nat,n'≤k∧∃ (x0:List Int) (x24:Bool),Wk C st ⟨[(0,.w (.row none 1 (List.map I x0))),(24,.w (B x24))],[]⟩∧cr17_Right.j0 n' x0 x24=some r) ?_ ?_
 ·rcases ifC H with ⟨c688,H⟩ | ⟨c688,H⟩
  ·exact Rh hN [I (l0.length:Int),B true,B true,B true] (.cons (lenM I l0) (.cons (dt c688) (.cons (rfl:true=true) (.cons (rfl:true=true) .nil))))<|⟨k,by omega,l0,true,Wo [(0,0),(24,0)],H⟩
  rcases ifC H with ⟨c689,H⟩ | ⟨c689,H⟩
  ·exact Rh hN [I (l0.length:Int),B false,I (l0.length:Int),B true,B true] (.cons (lenM I l0) (.cons (df c688) (.cons (lenM I l0) (.cons (dt c689) (.cons (rfl:true=true) .nil)))))<|⟨k,by omega,l0,true,Wo [(0,0),(24,0)],H⟩
  obtain ⟨c690,H⟩:=ifS H
  rcases ifC H with ⟨c691,H⟩ | ⟨c691,H⟩
  ·exact Rh hN [I (l0.length:Int),B false,I (l0.length:Int),B false,I (rd l0 0),B true] (.cons (lenM I l0) (.cons (df c688) (.cons (lenM I l0) (.cons (df c689) (.cons (show (0:Int)≤0 by decide) (.cons (atM I (0:Int) (show (0:Int)≤0 by decide) c690) (.cons (dt c691) .nil)))))))<|⟨k,by omega,l0,true,Wo [(0,0),(24,0)],H⟩
  exact Rh hN [I (l0.length:Int),B false,I (l0.length:Int),B false,I (rd l0 0),B false,I (rd l0 0)] (.cons (lenM I l0) (.cons (df c688) (.cons (lenM I l0) (.cons (df c689) (.cons (show (0:Int)≤0 by decide) (.cons (atM I (0:Int) (show (0:Int)≤0 by decide) c690) (.cons (df c691) (.cons (show (0:Int)≤0 by decide) (.cons (atM I (0:Int) (show (0:Int)≤0 by decide) c690) .nil)))))))))<|⟨k,by omega,l0,decide ((rd l0 0) > 2),Wo [(0,0),(24,0)],H⟩
 clear H
 rintro st ⟨n',hn',x0,x24,W,H⟩
 rcases n' with _ | k
 ·cases H
 refine W.good ?_
 rw [cr17_Right.j0] at H
 rcases ifC H with ⟨c692,H⟩ | ⟨c692,H⟩
 ·refine Ct c692<|Sw<|Rg hN ?_
  cases H
  exact Rt dR
 refine Cf (bf c692)<|Sk<|Sw<|Sw<|Rg hN<|Bl<|Good.loopN (fun k' st=>∃ (x0:List Int) (x3:Int),k'≤k∧Wk C st ⟨[(0,.w (.row none 1 (List.map I x0))),(3,.w (I x3))],[]⟩∧cr17_Right.l0 k' x0 x3=some r) k ⟨x0,1,Nat.le_refl _,Wo [(0,0),(3,0)],H⟩ fun k=>⟨fun st h=>(by obtain ⟨_,_,_,_,H⟩:=h;cases H),?_⟩
 clear H
 rintro st ⟨x0,x3,hk,W,H⟩
 refine W.good ?_
 rw [cr17_Right.l0] at H
 refine Sw<|Sw<|Rh hN [I (x0.length:Int)] (.cons (lenM I x0) .nil) ?_
 rcases (ifC H).symm with ⟨c693,H⟩ | ⟨c693,H⟩
 ·refine Cf (df c693)<|Ex<|Sw<|Rg hN ?_
  cases H
  exact Rt dR
 refine Ct (dt c693)<|Sk<|Sw<|Bl<|Sw<|Rg hN<|Sw<|Sw<|Rg hN ?_
 rcases (ifC H).symm with ⟨c694,H⟩ | ⟨c694,H⟩
 ·refine Cf (bn c694)<|Sk<|Sw ?_
  obtain ⟨c703,H⟩:=ifS H
  rcases ifC H with ⟨c704,H⟩ | ⟨c704,H⟩
  ·refine Rh hN [I (rd x0 x3),B true] (.cons c703 (.cons (atM I (0:Int) c703 c693) (.cons (dt c704) .nil)))<|Good.cond true (by kernel_rfl)<|Sw<|Rg hN ?_
   cases H
   exact Rt dR
  refine Rh hN [I (rd x0 x3),B false,I (rd x0 x3)] (.cons c703 (.cons (atM I (0:Int) c703 c693) (.cons (df c704) (.cons c703 (.cons (atM I (0:Int) c703 c693) .nil))))) ?_
  rcases (ifC H).symm with ⟨c705,H⟩ | ⟨c705,H⟩
  ·exact Cf (df c705)<|Sk<|Rg hN<|⟨k,by omega,x0,wrap64 (x3+1),by omega,Wo [(0,0),(3,0)],H⟩
  refine Ct (dt c705)<|Sw<|Rg hN ?_
  cases H
  exact Rt dR
 refine Ct (bq c694)<|Sw<|Rg hN<|Sw ?_
 obtain ⟨c695,H⟩:=ifS H
 refine Rh hN [I (rd x0 0)] (.cons (show (0:Int)≤0 by decide) (.cons (atM I (0:Int) (show (0:Int)≤0 by decide) c695) .nil)) ?_
 rcases ifC H with ⟨c696,H⟩ | ⟨c696,H⟩
 ·refine Ct (dt c696)<|Rg hN<|Sw ?_
  obtain ⟨c697,H⟩:=ifS H
  rcases ifC H with ⟨c698,H⟩ | ⟨c698,H⟩
  ·refine Rh hN [I (rd x0 x3),B true] (.cons c697 (.cons (atM I (0:Int) c697 c693) (.cons (dt c698) .nil)))<|Good.cond true (by kernel_rfl)<|Sw<|Rg hN ?_
   cases H
   exact Rt dR
  refine Rh hN [I (rd x0 x3),B false,I (rd x0 x3)] (.cons c697 (.cons (atM I (0:Int) c697 c693) (.cons (df c698) (.cons c697 (.cons (atM I (0:Int) c697 c693) .nil))))) ?_
  rcases (ifC H).symm with ⟨c699,H⟩ | ⟨c699,H⟩
  ·exact Cf (df c699)<|Sk<|Rg hN<|⟨k,by omega,x0,wrap64 (x3+1),by omega,Wo [(0,0),(3,0)],H⟩
  refine Ct (dt c699)<|Sw<|Rg hN ?_
  cases H
  exact Rt dR
 refine Cf (df c696)<|Sk<|Sw ?_
 obtain ⟨c700,H⟩:=ifS H
 rcases ifC H with ⟨c701,H⟩ | ⟨c701,H⟩
 ·refine Rh hN [I (rd x0 x3),B true] (.cons c700 (.cons (atM I (0:Int) c700 c693) (.cons (dt c701) .nil)))<|Good.cond true (by kernel_rfl)<|Sw<|Rg hN ?_
  cases H
  exact Rt dR
 refine Rh hN [I (rd x0 x3),B false,I (rd x0 x3)] (.cons c700 (.cons (atM I (0:Int) c700 c693) (.cons (df c701) (.cons c700 (.cons (atM I (0:Int) c700 c693) .nil))))) ?_
 rcases (ifC H).symm with ⟨c702,H⟩ | ⟨c702,H⟩
 ·exact Cf (df c702)<|Sk<|Rg hN<|⟨k,by omega,x0,wrap64 (x3+1),by omega,Wo [(0,0),(3,0)],H⟩
 refine Ct (dt c702)<|Sw<|Rg hN ?_
 cases H
 exact Rt dR
end Go.Rf.T
