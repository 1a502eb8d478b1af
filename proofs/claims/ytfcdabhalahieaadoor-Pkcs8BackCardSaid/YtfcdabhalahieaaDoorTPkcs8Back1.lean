import Derived.Test.YtfcdabhalahieaaDoorTPkcs8Back0
set_option linter.unusedSectionVars false
set_option linter.unusedSimpArgs false
set_option linter.unusedVariables false
set_option linter.unusedVariables false
namespace Go.Rf.T
open Go Go.Rf Go.Proofs Go.RowKit Go.Proofs.YtfcdabhalahieaaDoor
def tree_end.l0:Nat→List S52→Int→Option (Int)
 | 0,_,_=>none
 | k+1,x0,x1=>if 0≤x1 then (if x1 < (x0.length:Int) then (if (((rd_T52 x0 x1).f4).length:Int) > 0 then (if 0≤(wrap64 ((((rd_T52 x0 x1).f4).length:Int) - 1)) then (if (wrap64 ((((rd_T52 x0 x1).f4).length:Int) - 1)) < (((rd_T52 x0 x1).f4).length:Int) then (tree_end.l0 k x0 (rd ((rd_T52 x0 x1).f4) (wrap64 ((((rd_T52 x0 x1).f4).length:Int) - 1)))) else (none)) else (none)) else (some (wrap64 (x1+1)))) else (none)) else (none)
def tree_end.f (k:Nat) (l0:List S52) (a1:Int):Option (Int):=tree_end.l0 k l0 a1
theorem tree_end.con {k:Nat} {l0:List S52} {a1:Int} {r:(Int)} (H:tree_end.f k l0 a1=some r):Con Tryd.prog 46 [.row none 5 (List.map (v52 0) l0),I a1] (I r):=by
 refine Cg Tryd.func46 rfl fun C hN hL=>?_
 unfold tree_end.f at H
 refine Sw<|Rg hN<|Sw<|Bl<|Good.loopN (fun k' st=>∃ (x0:List S52) (x1:Int),k'≤k∧Wk C st ⟨[(0,.w (.row none 5 (List.map (v52 0) x0))),(1,.w (I x1))],[]⟩∧tree_end.l0 k' x0 x1=some r) k ⟨l0,a1,Nat.le_refl _,Wo [(0,0),(1,0)],H⟩ fun k=>⟨fun st h=>(by obtain ⟨_,_,_,_,H⟩:=h;cases H),?_⟩
 clear H
 rintro st ⟨x0,x1,hk,W,H⟩
 refine W.good ?_
 rw [tree_end.l0] at H
 refine Sw<|Sw ?_
 obtain ⟨c600,H⟩:=ifS H
 obtain ⟨c601,H⟩:=ifS H
 refine Rh hN [(v52 0) (rd_T52 x0 x1),I (((rd_T52 x0 x1).f4).length:Int)] (.cons c600 (.cons (atM (v52 0) z52 c600 c601) (.cons (lenM I ((rd_T52 x0 x1).f4)) .nil))) ?_
 rcases (ifC H).symm with ⟨c602,H⟩ | ⟨c602,H⟩
 ·refine Cf (df c602)<|Ex<|Sw<|Rg hN ?_
  cases H
  exact Rt dR
 refine Ct (dt c602)<|Sk<|Bl ?_
 obtain ⟨c603,H⟩:=ifS H
 obtain ⟨c604,H⟩:=ifS H
 exact Rd hm hN (.qs 14 0 (.q 14 [] .z)) [(0,none),(1,none)] .nil [(v52 0) (rd_T52 x0 x1),(v52 0) (rd_T52 x0 x1),I (((rd_T52 x0 x1).f4).length:Int),I (rd ((rd_T52 x0 x1).f4) (wrap64 ((((rd_T52 x0 x1).f4).length:Int) - 1)))] [(v52 0) (rd_T52 x0 x1),(v52 0) (rd_T52 x0 x1),I (((rd_T52 x0 x1).f4).length:Int),I (rd ((rd_T52 x0 x1).f4) (wrap64 ((((rd_T52 x0 x1).f4).length:Int) - 1)))] (.cons c600 (.cons (atM (v52 0) z52 c600 c601) (.cons c600 (.cons (atM (v52 0) z52 c600 c601) (.cons (lenM I ((rd_T52 x0 x1).f4)) (.cons c603 (.cons (atM I (0:Int) c603 c604) .nil))))))) (.cons c600 (.cons (atM (v52 0) z52 c600 c601) (.cons c600 (.cons (atM (v52 0) z52 c600 c601) (.cons (lenM I ((rd_T52 x0 x1).f4)) (.cons c603 (.cons (atM I (0:Int) c603 c604) .nil))))))) [] []<|⟨k,by omega,x0,rd ((rd_T52 x0 x1).f4) (wrap64 ((((rd_T52 x0 x1).f4).length:Int) - 1)),by omega,Wo [(0,0),(1,0)],H⟩
def tree_Sub.l0:Nat→Int→List S52→List S52→Int→Int→Option (List S52)
 | 0,_,_,_,_,_=>none
 | k+1,x1,x5,x26,x27,x28=>if x28 < x27 then (if 0≤x28 then (if x28 < (x26.length:Int) then ((tree_moved.f k ((rd_T52 x26 x28).f0) ((rd_T52 x26 x28).f1) ((rd_T52 x26 x28).f2) ((rd_T52 x26 x28).f3) ((rd_T52 x26 x28).f4) (wrap64 (-x1))).bind fun t635=>(if x5.length < 2199023255552 then (tree_Sub.l0 k x1 (x5++[(⟨t635.1,t635.2.1,t635.2.2.1,t635.2.2.2.1,t635.2.2.2.2⟩:S52)]) x26 x27 (wrap64 (x28+1))) else (none))) else (none)) else (none)) else (some x5)
def tree_Sub.j0:Nat→List S52→Int→Bool→Option (List S52)
 | 0,_,_,_=>none
 | k+1,x0,x1,x20=>if x20=true then (some ([]:List S52)) else ((tree_end.f k x0 x1).bind fun t627=>(if 0≤x1 then (if x1≤t627 then (if t627≤(x0.length:Int) then (tree_Sub.l0 k x1 ([]:List S52) ((x0.take (t627:Int).toNat).drop (x1:Int).toNat) (((x0.take (t627:Int).toNat).drop (x1:Int).toNat).length:Int) 0) else (none)) else (none)) else (none)))
def tree_Sub.f (k:Nat) (l0:List S52) (a1:Int):Option (List S52):=if a1 < 0 then (tree_Sub.j0 k l0 a1 true) else (if a1≥(l0.length:Int) then (tree_Sub.j0 k l0 a1 true) else ((tree_Right.f k l0).bind fun t624=>(tree_Sub.j0 k l0 a1 (!t624))))
theorem tree_Sub.con {k:Nat} {l0:List S52} {a1:Int} {r:(List S52)} (H:tree_Sub.f k l0 a1=some r):Con Tryd.prog 29 [.row none 5 (List.map (v52 0) l0),I a1] (.row (some 52) 5 (List.map (v52 1) r)):=by
 refine Cg Tryd.func29 rfl fun C hN hL=>?_
 unfold tree_Sub.f at H
 refine Sw<|Rg hN<|Sw<|Sw<|Good.cut (fun st=>∃ n':Nat,n'≤k∧∃ (x0:List S52) (x1:Int) (x20:Bool),Wk C st ⟨[(0,.w (.row none 5 (List.map (v52 0) x0))),(1,.w (I x1)),(20,.w (B x20))],[]⟩∧tree_Sub.j0 n' x0 x1 x20=some r) ?_ ?_
 ·rcases ifC H with ⟨c622,H⟩ | ⟨c622,H⟩
  ·exact Rh hN [B true,B true] (.cons (dt c622) (.cons (rfl:true=true) .nil))<|⟨k,by omega,l0,a1,true,Wo [(0,0),(1,0),(20,0)],H⟩
  rcases ifC H with ⟨c623,H⟩ | ⟨c623,H⟩
  ·exact Rh hN [B false,I (l0.length:Int),B true] (.cons (df c622) (.cons (lenM (v52 0) l0) (.cons (dt c623) .nil)))<|⟨k,by omega,l0,a1,true,Wo [(0,0),(1,0),(20,0)],H⟩
  obtain ⟨t624,h625,H⟩:=bindS H
  exact Rh hN [B false,I (l0.length:Int),B false,B t624] (.cons (df c622) (.cons (lenM (v52 0) l0) (.cons (df c623) (.cons (tree_Right.con h625).c .nil))))<|⟨k,by omega,l0,a1,!t624,Wo [(0,0),(1,0),(20,0)],H⟩
 clear H
 rintro st ⟨n',hn',x0,x1,x20,W,H⟩
 rcases n' with _ | k
 ·cases H
 refine W.good ?_
 rw [tree_Sub.j0] at H
 rcases ifC H with ⟨c626,H⟩ | ⟨c626,H⟩
 ·refine Ct c626<|Sw<|Rg hN ?_
  cases H
  exact Good.ret (fin_fit (u:=.nil 52 5) (.nilO 52 5) (by kernel_rfl))
 refine Cf (bf c626)<|Sk<|Sw<|Rg hN<|Sw<|Sw ?_
 obtain ⟨t627,h628,H⟩:=bindS H
 obtain ⟨c629,H⟩:=ifS H
 obtain ⟨c630,H⟩:=ifS H
 obtain ⟨c631,H⟩:=ifS H
 refine Rh hN [I t627,.row none 5 (List.map (v52 0) ((x0.take (t627:Int).toNat).drop (x1:Int).toNat)),I (((x0.take (t627:Int).toNat).drop (x1:Int).toNat).length:Int)] (.cons (tree_end.con h628).c (.cons c629 (.cons c630 (.cons (leM (v52 0) c631) (.cons (cutM (v52 0) (l:=x0) (n:=(x1:Int).toNat) (m:=(t627:Int).toNat)) (.cons (lenM (v52 0) ((x0.take (t627:Int).toNat).drop (x1:Int).toNat)) .nil))))))<|Bl<|Good.loopN (fun k' st=>∃ (x1:Int) (x5:List S52) (x26:List S52) (x27:Int) (x28:Int),k'≤k∧Wk C st ⟨[(1,.w (I x1)),(5,.w (.row (some 52) 5 (List.map (v52 1) x5))),(26,.w (.row none 5 (List.map (v52 0) x26))),(27,.w (I x27)),(28,.w (I x28))],[]⟩∧tree_Sub.l0 k' x1 x5 x26 x27 x28=some r) k ⟨x1,([]:List S52),(x0.take (t627:Int).toNat).drop (x1:Int).toNat,(((x0.take (t627:Int).toNat).drop (x1:Int).toNat).length:Int),0,Nat.le_refl _,Wo [(1,0),(5,1),(26,0),(27,0),(28,0)],H⟩ fun k=>⟨fun st h=>(by obtain ⟨_,_,_,_,_,_,_,H⟩:=h;cases H),?_⟩
 clear H
 rintro st ⟨x1,x5,x26,x27,x28,hk,W,H⟩
 refine W.good ?_
 rw [tree_Sub.l0] at H
 refine Sw<|Rg hN<|Sw ?_
 rcases (ifC H).symm with ⟨c632,H⟩ | ⟨c632,H⟩
 ·refine Cf (df c632)<|Ex<|Sw<|Rg hN ?_
  cases H
  exact Rt dR
 refine Ct (dt c632)<|Sk<|Sw<|Bl<|Sw ?_
 obtain ⟨c633,H⟩:=ifS H
 obtain ⟨c634,H⟩:=ifS H
 refine Rh hN [(v52 0) (rd_T52 x26 x28)] (.cons c633 (.cons (atM (v52 0) z52 c633 c634) .nil)) ?_
 obtain ⟨t635,h636,H⟩:=bindS H
 obtain ⟨c637,H⟩:=ifS H
 exact Ri hN [.agg [I t635.1,I t635.2.1,B t635.2.2.1,S t635.2.2.2.1,.row (some 3) 1 (List.map I t635.2.2.2.2)],.tup [],.kb true,.row (some 52) 5 (List.map (v52 1) (x5++[(⟨t635.1,t635.2.1,t635.2.2.1,t635.2.2.2.1,t635.2.2.2.2⟩:S52)]))] (.cons (congrArg (Value.int .i64) ((wrapK_eq .i64 (0 - x1)).symm.trans (congrArg wrap64 (Int.zero_sub x1)))) (.cons (tree_moved.con h636).c (.cons (fitM (v52 1) x5 [(⟨t635.1,t635.2.1,t635.2.2.1,t635.2.2.2.1,t635.2.2.2.2⟩:S52)] (.refl _)) (.cons (limM1 (v52 1) c637) .nil)))) [(35,.int .i64 (wrap64 (-x1)))]<|Rg hN<|⟨k,by omega,x1,(x5++[(⟨t635.1,t635.2.1,t635.2.2.1,t635.2.2.2.1,t635.2.2.2.2⟩:S52)]),x26,x27,wrap64 (x28+1),by omega,Wk.ofB hL 0 [(1,0),(5,0),(26,0),(27,0),(28,0)] (by kernel_rfl) (by kernel_rfl) (by kernel_rfl),H⟩
def tree_Kids.l0:Nat→List S52→List (List S52)→List Int→Int→Int→Option (List (List S52))
 | 0,_,_,_,_,_=>none
 | k+1,x0,x3,x12,x13,x14=>if x14 < x13 then (if 0≤x14 then (if x14 < (x12.length:Int) then ((tree_Sub.f k x0 (rd x12 x14)).bind fun t657=>(if x3.length < 5864062014805 then (tree_Kids.l0 k x0 (x3++[t657]) x12 x13 (wrap64 (x14+1))) else (none))) else (none)) else (none)) else (some x3)
def tree_Kids.f (k:Nat) (l0:List S52):Option (List (List S52)):=(tree_Right.f k l0).bind fun t650=>(if t650=true then (if 0 < (l0.length:Int) then (tree_Kids.l0 k l0 ([]:List (List S52)) ((rd_T52 l0 0).f4) (((rd_T52 l0 0).f4).length:Int) 0) else (none)) else (some ([]:List (List S52))))
theorem tree_Kids.con {k:Nat} {l0:List S52} {r:(List (List S52))} (H:tree_Kids.f k l0=some r):Con Tryd.prog 15 [.row none 5 (List.map (v52 0) l0)] (.row (some 35) 1 (List.map (vL52 0) r)):=by
 refine Cg Tryd.func15 rfl fun C hN hL=>?_
 unfold tree_Kids.f at H
 refine Sw<|Rg hN<|Sw<|Sw ?_
 obtain ⟨t650,h651,H⟩:=bindS H
 refine Rh hN [B t650] (.cons (tree_Right.con h651).c .nil) ?_
 rcases (ifC H).symm with ⟨c652,H⟩ | ⟨c652,H⟩
 ·refine Ct (notT (bf c652))<|Sw<|Rg hN ?_
  cases H
  exact Good.ret (fin_fit (u:=.nil 35 1) (.nilO 35 1) (by kernel_rfl))
 refine Cf (notF c652)<|Sk<|Sw<|Rg hN<|Sw<|Sw ?_
 obtain ⟨c653,H⟩:=ifS H
 refine Rh hN [(v52 0) (rd_T52 l0 0),I (((rd_T52 l0 0).f4).length:Int)] (.cons (show (0:Int)≤0 by decide) (.cons (atM (v52 0) z52 (show (0:Int)≤0 by decide) c653) (.cons (lenM I ((rd_T52 l0 0).f4)) .nil)))<|Bl<|Good.loopN (fun k' st=>∃ (x0:List S52) (x3:List (List S52)) (x12:List Int) (x13:Int) (x14:Int),k'≤k∧Wk C st ⟨[(0,.w (.row none 5 (List.map (v52 0) x0))),(3,.w (.row (some 35) 1 (List.map (vL52 0) x3))),(12,.w (.row none 1 (List.map I x12))),(13,.w (I x13)),(14,.w (I x14))],[]⟩∧tree_Kids.l0 k' x0 x3 x12 x13 x14=some r) k ⟨l0,([]:List (List S52)),(rd_T52 l0 0).f4,(((rd_T52 l0 0).f4).length:Int),0,Nat.le_refl _,Wo [(0,0),(3,1),(12,0),(13,0),(14,0)],H⟩ fun k=>⟨fun st h=>(by obtain ⟨_,_,_,_,_,_,_,H⟩:=h;cases H),?_⟩
 clear H
 rintro st ⟨x0,x3,x12,x13,x14,hk,W,H⟩
 refine W.good ?_
 rw [tree_Kids.l0] at H
 refine Sw<|Rg hN<|Sw ?_
 rcases (ifC H).symm with ⟨c654,H⟩ | ⟨c654,H⟩
 ·refine Cf (df c654)<|Ex<|Sw<|Rg hN ?_
  cases H
  exact Rt dR
 refine Ct (dt c654)<|Sk<|Sw<|Bl<|Sw ?_
 obtain ⟨c655,H⟩:=ifS H
 obtain ⟨c656,H⟩:=ifS H
 refine Rh hN [I (rd x12 x14)] (.cons c655 (.cons (atM I (0:Int) c655 c656) .nil)) ?_
 obtain ⟨t657,h658,H⟩:=bindS H
 obtain ⟨c659,H⟩:=ifS H
 exact Rh hN [.row (some 52) 5 (List.map (v52 1) t657),.row none 5 (List.map (v52 0) t657),.kb true,.row (some 35) 1 (List.map (vL52 0) (x3++[t657]))] (.cons (tree_Sub.con h658).c (.cons (shrM (some 52) 5 (v52 1) (v52 0) t657 (v52.shr _)) (.cons (fitM (vL52 0) x3 [t657] (.refl _)) (.cons (limM1 (vL52 0) c659) .nil))))<|Rg hN<|⟨k,by omega,x0,(x3++[t657]),x12,x13,wrap64 (x14+1),by omega,Wo [(0,0),(3,0),(12,0),(13,0),(14,0)],H⟩
def slices_Index_int_int.l0:Nat→List Int→Int→Int→Int→Option (Int)
 | 0,_,_,_,_=>none
 | k+1,x0,x1,x7,x8=>if x8 < x7 then (if 0≤x8 then (if x8 < (x0.length:Int) then (if x1=(rd x0 x8) then (some x8) else (slices_Index_int_int.l0 k x0 x1 x7 (wrap64 (x8+1)))) else (none)) else (none)) else (some (-1))
def slices_Index_int_int.f (k:Nat) (l0:List Int) (a1:Int):Option (Int):=slices_Index_int_int.l0 k l0 a1 (l0.length:Int) 0
theorem slices_Index_int_int.con {k:Nat} {l0:List Int} {a1:Int} {r:(Int)} (H:slices_Index_int_int.f k l0 a1=some r):Con Tryd.prog 47 [.row none 1 (List.map I l0),I a1] (I r):=by
 refine Cg Tryd.func47 rfl fun C hN hL=>?_
 unfold slices_Index_int_int.f at H
 refine Sw<|Rg hN<|Sw<|Sw<|Rh hN [I (l0.length:Int)] (.cons (lenM I l0) .nil)<|Bl<|Good.loopN (fun k' st=>∃ (x0:List Int) (x1:Int) (x7:Int) (x8:Int),k'≤k∧Wk C st ⟨[(0,.w (.row none 1 (List.map I x0))),(1,.w (I x1)),(7,.w (I x7)),(8,.w (I x8))],[]⟩∧slices_Index_int_int.l0 k' x0 x1 x7 x8=some r) k ⟨l0,a1,(l0.length:Int),0,Nat.le_refl _,Wo [(0,0),(1,0),(7,0),(8,0)],H⟩ fun k=>⟨fun st h=>(by obtain ⟨_,_,_,_,_,_,H⟩:=h;cases H),?_⟩
 clear H
 rintro st ⟨x0,x1,x7,x8,hk,W,H⟩
 refine W.good ?_
 rw [slices_Index_int_int.l0] at H
 refine Sw<|Rg hN<|Sw ?_
 rcases (ifC H).symm with ⟨c661,H⟩ | ⟨c661,H⟩
 ·refine Cf (df c661)<|Ex<|Sw<|Rg hN ?_
  cases H
  exact Rt dR
 refine Ct (dt c661)<|Sk<|Sw<|Bl<|Sw<|Rg hN<|Sw ?_
 obtain ⟨c662,H⟩:=ifS H
 obtain ⟨c663,H⟩:=ifS H
 refine Rh hN [I (rd x0 x8)] (.cons c662 (.cons (atM I (0:Int) c662 c663) .nil)) ?_
 rcases (ifC H).symm with ⟨c664,H⟩ | ⟨c664,H⟩
 ·exact Cf (bn c664)<|Sk<|Rg hN<|⟨k,by omega,x0,x1,x7,wrap64 (x8+1),by omega,Wo [(0,0),(1,0),(7,0),(8,0)],H⟩
 refine Ct (bq c664)<|Sw<|Rg hN ?_
 cases H
 exact Rt dR
def slices_Contains_int_int.f (k:Nat) (l0:List Int) (a1:Int):Option (Bool):=(slices_Index_int_int.f k l0 a1).bind fun t665=>(some (decide (t665≥0)))
theorem slices_Contains_int_int.con {k:Nat} {l0:List Int} {a1:Int} {r:(Bool)} (H:slices_Contains_int_int.f k l0 a1=some r):Con Tryd.prog 30 [.row none 1 (List.map I l0),I a1] (B r):=by
 refine Cg Tryd.func30 rfl fun C hN hL=>?_
 unfold slices_Contains_int_int.f at H
 refine Sw<|Rg hN<|Sw ?_
 obtain ⟨t665,h666,H⟩:=bindS H
 refine Rh hN [I t665] (.cons (slices_Index_int_int.con h666).c .nil) ?_
 cases H
 exact Rt dR
def pkcs8_is.f (k:Nat) (l0:List S52) (l1:List Int):Option (Bool):=if 0 < (l0.length:Int) then (if ((rd_T52 l0 0).f0)=0 then ((slices_Contains_int_int.f k l1 ((rd_T52 l0 0).f1)).bind fun t669=>(some t669)) else (some false)) else (none)
theorem pkcs8_is.con {k:Nat} {l0:List S52} {l1:List Int} {r:(Bool)} (H:pkcs8_is.f k l0 l1=some r):Con Tryd.prog 16 [.row none 5 (List.map (v52 0) l0),.row none 1 (List.map I l1)] (B r):=by
 refine Cg Tryd.func16 rfl fun C hN hL=>?_
 unfold pkcs8_is.f at H
 refine Sw<|Rg hN<|Sw ?_
 obtain ⟨c667,H⟩:=ifS H
 rcases (ifC H).symm with ⟨c668,H⟩ | ⟨c668,H⟩
 ·refine Rh hN [(v52 0) (rd_T52 l0 0),B false] (.cons (show (0:Int)≤0 by decide) (.cons (atM (v52 0) z52 (show (0:Int)≤0 by decide) c667) (.cons (bn c668) .nil))) ?_
  cases H
  exact Rt dR
 obtain ⟨t669,h670,H⟩:=bindS H
 refine Rh hN [(v52 0) (rd_T52 l0 0),B true,(v52 0) (rd_T52 l0 0),B t669] (.cons (show (0:Int)≤0 by decide) (.cons (atM (v52 0) z52 (show (0:Int)≤0 by decide) c667) (.cons (bq c668) (.cons (show (0:Int)≤0 by decide) (.cons (atM (v52 0) z52 (show (0:Int)≤0 by decide) c667) (.cons (slices_Contains_int_int.con h670).c .nil)))))) ?_
 cases H
 exact Rt dR
def pkcs8_algorithm.j0:Nat→List (List S52)→Bool→List Int→List Int→ByteArray→ByteArray→Option (Bool × List Int × List Int × ByteArray × ByteArray)
 | 0,_,_,_,_,_,_=>none
 | k+1,x5,x24,x1000,x1001,x1002,x1003=>if x24=true then (some (false,x1000,x1001,x1002,x1003)) else (if 0 < (x5.length:Int) then (if 0 < ((rd_L52 x5 0).length:Int) then ((oid_Decode.f k ((rd_T52 (rd_L52 x5 0) 0).f3)).bind fun t683=>(if 1 < (x5.length:Int) then ((pkcs8_is.f k (rd_L52 x5 1) ([6]:List Int)).bind fun t686=>(if t686=true then (if 0 < ((rd_L52 x5 1).length:Int) then ((oid_Decode.f k ((rd_T52 (rd_L52 x5 1) 0).f3)).bind fun t690=>((pkcs8_is.f k (rd_L52 x5 1) ([6,5]:List Int)).bind fun t692=>(some (t692,t683.1,t690.1,x1002,x1003)))) else (none)) else ((pkcs8_is.f k (rd_L52 x5 1) ([6,5]:List Int)).bind fun t694=>(some (t694,t683.1,x1001,x1002,x1003))))) else (none))) else (none)) else (none))
def pkcs8_algorithm.f (k:Nat) (l0:List S52) (l1_0:List Int) (l1_1:List Int) (a1_2:ByteArray) (a1_3:ByteArray):Option (Bool × List Int × List Int × ByteArray × ByteArray):=(tree_Kids.f k l0).bind fun t671=>((pkcs8_is.f k l0 ([16]:List Int)).bind fun t673=>(if t673=true then (if (t671.length:Int)=2 then (if 0 < (t671.length:Int) then ((pkcs8_is.f k (rd_L52 t671 0) ([6]:List Int)).bind fun t678=>(pkcs8_algorithm.j0 k t671 (!t678) l1_0 l1_1 a1_2 a1_3)) else (none)) else (pkcs8_algorithm.j0 k t671 true l1_0 l1_1 a1_2 a1_3)) else (pkcs8_algorithm.j0 k t671 true l1_0 l1_1 a1_2 a1_3)))
theorem pkcs8_algorithm.con {k:Nat} {l0:List S52} {l1_0:List Int} {l1_1:List Int} {a1_2:ByteArray} {a1_3:ByteArray} {r:(Bool × List Int × List Int × ByteArray × ByteArray)} (H:pkcs8_algorithm.f k l0 l1_0 l1_1 a1_2 a1_3=some r):ConX Tryd.prog 17 [.v (.row none 5 (List.map (v52 0) l0)),.ptr 0 0] [[.row none 1 (List.map I l1_0),.row none 1 (List.map I l1_1),S a1_2,S a1_3]] (.v (B r.1)) [[.row none 1 (List.map I r.2.1),.row none 1 (List.map I r.2.2.1),S r.2.2.2.1,S r.2.2.2.2]]:=by
 refine conX_of_good Tryd.func17 rfl (by kernel_rfl) (by kernel_rfl) fun C hN hL=>?_
 unfold pkcs8_algorithm.f at H
 refine Sw<|Rg hN<|Sw ?_
 obtain ⟨t671,h672,H⟩:=bindS H
 refine Rh hN [.row (some 35) 1 (List.map (vL52 0) t671)] (.cons (tree_Kids.con h672).c .nil)<|Sw<|Sw<|Good.cut (fun st=>∃ n':Nat,n'≤k∧∃ (x5:List (List S52)) (x24:Bool) (x1000:List Int) (x1001:List Int) (x1002:ByteArray) (x1003:ByteArray),Wk C st ⟨[(1,.d (.ptr 0 0)),(5,.w (.row (some 35) 1 (List.map (vL52 0) x5))),(24,.w (B x24))],[.cells [.v (.row none 1 (List.map I x1000)),.v (.row none 1 (List.map I x1001)),.v (S x1002),.v (S x1003)]]⟩∧pkcs8_algorithm.j0 n' x5 x24 x1000 x1001 x1002 x1003=some r) ?_ ?_
 ·obtain ⟨t673,h674,H⟩:=bindS H
  rcases (ifC H).symm with ⟨c675,H⟩ | ⟨c675,H⟩
  ·exact Rh hN [.row none 1 (List.map I ([16]:List Int)),B t673,B true,B true] (.cons (shrM (some 3) 1 I I ([16]:List Int) (fun _=>rfl)) (.cons (pkcs8_is.con h674).c (.cons (notT (bf c675)) (.cons (rfl:true=true) .nil))))<|⟨k,by omega,t671,true,l1_0,l1_1,a1_2,a1_3,Wo [(1,0),(5,0),(24,0)],H⟩
  rcases (ifC H).symm with ⟨c676,H⟩ | ⟨c676,H⟩
  ·exact Rh hN [.row none 1 (List.map I ([16]:List Int)),B t673,B false,I (t671.length:Int),B true] (.cons (shrM (some 3) 1 I I ([16]:List Int) (fun _=>rfl)) (.cons (pkcs8_is.con h674).c (.cons (notF c675) (.cons (lenM (vL52 0) t671) (.cons (nq c676) .nil)))))<|⟨k,by omega,t671,true,l1_0,l1_1,a1_2,a1_3,Wo [(1,0),(5,0),(24,0)],H⟩
  obtain ⟨c677,H⟩:=ifS H
  obtain ⟨t678,h679,H⟩:=bindS H
  exact Rh hN [.row none 1 (List.map I ([16]:List Int)),B t673,B false,I (t671.length:Int),B false,(vL52 0) (rd_L52 t671 0),.row none 1 (List.map I ([6]:List Int)),B t678] (.cons (shrM (some 3) 1 I I ([16]:List Int) (fun _=>rfl)) (.cons (pkcs8_is.con h674).c (.cons (notF c675) (.cons (lenM (vL52 0) t671) (.cons (bneF c676) (.cons (show (0:Int)≤0 by decide) (.cons (ltM (vL52 0) c677) (.cons (atM (vL52 0) ([]:List S52) (show (0:Int)≤0 by decide) c677) (.cons (shrM (some 3) 1 I I ([6]:List Int) (fun _=>rfl)) (.cons (pkcs8_is.con h679).c .nil))))))))))<|⟨k,by omega,t671,!t678,l1_0,l1_1,a1_2,a1_3,Wo [(1,0),(5,0),(24,0)],H⟩
 clear H
 rintro st ⟨n',hn',x5,x24,x1000,x1001,x1002,x1003,W,H⟩
 rcases n' with _ | k
 ·cases H
 refine W.good ?_
 rw [pkcs8_algorithm.j0] at H
 rcases ifC H with ⟨c680,H⟩ | ⟨c680,H⟩
 ·refine Ct c680<|Sw<|Rg hN ?_
  cases H
  exact Good.ret (finX_fitR (.refl _) (FitLL.refl _) (by kernel_rfl) rfl)
 refine Cf (bf c680)<|Sk<|Sw ?_
 obtain ⟨c681,H⟩:=ifS H
 obtain ⟨c682,H⟩:=ifS H
 obtain ⟨t683,h684,H⟩:=bindS H
 refine Rh hN [(vL52 0) (rd_L52 x5 0),(v52 0) (rd_T52 (rd_L52 x5 0) 0),.tup [.row none 1 (List.map I t683.1),B t683.2]] (.cons (show (0:Int)≤0 by decide) (.cons (ltM (vL52 0) c681) (.cons (atM (vL52 0) ([]:List S52) (show (0:Int)≤0 by decide) c681) (.cons (show (0:Int)≤0 by decide) (.cons (atM (v52 0) z52 (show (0:Int)≤0 by decide) c682) (.cons (oid_Decode.con h684).c .nil))))))<|Sw<|Sw ?_
 obtain ⟨c685,H⟩:=ifS H
 obtain ⟨t686,h687,H⟩:=bindS H
 refine Rh hN [(vL52 0) (rd_L52 x5 1),.row none 1 (List.map I ([6]:List Int)),B t686] (.cons (show (0:Int)≤1 by decide) (.cons (ltM (vL52 0) c685) (.cons (atM (vL52 0) ([]:List S52) (show (0:Int)≤1 by decide) c685) (.cons (shrM (some 3) 1 I I ([6]:List Int) (fun _=>rfl)) (.cons (pkcs8_is.con h687).c .nil))))) ?_
 rcases (ifC H).symm with ⟨c688,H⟩ | ⟨c688,H⟩
 ·refine Cf (bf c688)<|Sk<|Sw ?_
  obtain ⟨t694,h695,H⟩:=bindS H
  refine Rh hN [(vL52 0) (rd_L52 x5 1),.row none 1 (List.map I ([6,5]:List Int)),B t694] (.cons (show (0:Int)≤1 by decide) (.cons (ltM (vL52 0) c685) (.cons (atM (vL52 0) ([]:List S52) (show (0:Int)≤1 by decide) c685) (.cons (shrM (some 3) 1 I I ([6,5]:List Int) (fun _=>rfl)) (.cons (pkcs8_is.con h695).c .nil))))) ?_
  cases H
  exact Good.ret (finX_fitR (.refl _) (FitLL.refl _) (by kernel_rfl) rfl)
 refine Ct c688 ?_
 obtain ⟨c689,H⟩:=ifS H
 obtain ⟨t690,h691,H⟩:=bindS H
 refine Rh hN [(vL52 0) (rd_L52 x5 1),(v52 0) (rd_T52 (rd_L52 x5 1) 0),.tup [.row none 1 (List.map I t690.1),B t690.2]] (.cons (show (0:Int)≤1 by decide) (.cons (ltM (vL52 0) c685) (.cons (atM (vL52 0) ([]:List S52) (show (0:Int)≤1 by decide) c685) (.cons (show (0:Int)≤0 by decide) (.cons (atM (v52 0) z52 (show (0:Int)≤0 by decide) c689) (.cons (oid_Decode.con h691).c .nil))))))<|Sw ?_
 obtain ⟨t692,h693,H⟩:=bindS H
 refine Rh hN [(vL52 0) (rd_L52 x5 1),.row none 1 (List.map I ([6,5]:List Int)),B t692] (.cons (show (0:Int)≤1 by decide) (.cons (ltM (vL52 0) c685) (.cons (atM (vL52 0) ([]:List S52) (show (0:Int)≤1 by decide) c685) (.cons (shrM (some 3) 1 I I ([6,5]:List Int) (fun _=>rfl)) (.cons (pkcs8_is.con h693).c .nil))))) ?_
 cases H
 exact Good.ret (finX_fitR (.refl _) (FitLL.refl _) (by kernel_rfl) rfl)
def pkcs8_attributes.l0:Nat→List (List S52)→Int→Int→List Int→List Int→ByteArray→ByteArray→Option (Bool × List Int × List Int × ByteArray × ByteArray)
 | 0,_,_,_,_,_,_,_=>none
 | k+1,x30,x31,x32,x1000,x1001,x1002,x1003=>if x32 < x31 then (if 0≤x32 then (if x32 < (x30.length:Int) then ((tree_Encode.f k (rd_L52 x30 x32)).bind fun t705=>(if x1003.size+t705.1.size≤9223372036854775807 then (pkcs8_attributes.l0 k x30 x31 (wrap64 (x32+1)) x1000 x1001 x1002 (x1003++t705.1)) else (none))) else (none)) else (none)) else (some (true,x1000,x1001,x1002,x1003))
def pkcs8_attributes.j0:Nat→List S52→Bool→List Int→List Int→ByteArray→ByteArray→Option (Bool × List Int × List Int × ByteArray × ByteArray)
 | 0,_,_,_,_,_,_=>none
 | k+1,x0,x28,x1000,x1001,x1002,x1003=>if x28=true then (some (false,x1000,x1001,x1002,x1003)) else ((tree_Kids.f k x0).bind fun t700=>(pkcs8_attributes.l0 k t700 (t700.length:Int) 0 x1000 x1001 x1002 x1003))
def pkcs8_attributes.f (k:Nat) (l0:List S52) (l1_0:List Int) (l1_1:List Int) (a1_2:ByteArray) (a1_3:ByteArray):Option (Bool × List Int × List Int × ByteArray × ByteArray):=if 0 < (l0.length:Int) then (if ((rd_T52 l0 0).f0)=2 then (if ((rd_T52 l0 0).f1)=0 then (pkcs8_attributes.j0 k l0 ((((rd_T52 l0 0).f4).length:Int) == 0) l1_0 l1_1 a1_2 a1_3) else (pkcs8_attributes.j0 k l0 true l1_0 l1_1 a1_2 a1_3)) else (pkcs8_attributes.j0 k l0 true l1_0 l1_1 a1_2 a1_3)) else (none)
theorem pkcs8_attributes.con {k:Nat} {l0:List S52} {l1_0:List Int} {l1_1:List Int} {a1_2:ByteArray} {a1_3:ByteArray} {r:(Bool × List Int × List Int × ByteArray × ByteArray)} (H:pkcs8_attributes.f k l0 l1_0 l1_1 a1_2 a1_3=some r):ConX Tryd.prog 18 [.v (.row none 5 (List.map (v52 0) l0)),.ptr 0 0] [[.row none 1 (List.map I l1_0),.row none 1 (List.map I l1_1),S a1_2,S a1_3]] (.v (B r.1)) [[.row none 1 (List.map I r.2.1),.row none 1 (List.map I r.2.2.1),S r.2.2.2.1,S r.2.2.2.2]]:=by
 refine conX_of_good Tryd.func18 rfl (by kernel_rfl) (by kernel_rfl) fun C hN hL=>?_
 unfold pkcs8_attributes.f at H
 refine Sw<|Rg hN<|Sw<|Sw<|Good.cut (fun st=>∃ n':Nat,n'≤k∧∃ (x0:List S52) (x28:Bool) (x1000:List Int) (x1001:List Int) (x1002:ByteArray) (x1003:ByteArray),Wk C st ⟨[(0,.w (.row none 5 (List.map (v52 0) x0))),(1,.d (.ptr 0 0)),(28,.w (B x28))],[.cells [.v (.row none 1 (List.map I x1000)),.v (.row none 1 (List.map I x1001)),.v (S x1002),.v (S x1003)]]⟩∧pkcs8_attributes.j0 n' x0 x28 x1000 x1001 x1002 x1003=some r) ?_ ?_
 ·obtain ⟨c696,H⟩:=ifS H
  rcases (ifC H).symm with ⟨c697,H⟩ | ⟨c697,H⟩
  ·exact Rh hN [(v52 0) (rd_T52 l0 0),B true,B true] (.cons (show (0:Int)≤0 by decide) (.cons (atM (v52 0) z52 (show (0:Int)≤0 by decide) c696) (.cons (nq c697) (.cons (rfl:true=true) .nil))))<|⟨k,by omega,l0,true,l1_0,l1_1,a1_2,a1_3,Wo [(0,0),(1,0),(28,0)],H⟩
  rcases ifC H with ⟨c698,H⟩ | ⟨c698,H⟩
  ·exact Rh hN [(v52 0) (rd_T52 l0 0),B false,(v52 0) (rd_T52 l0 0),B false,(v52 0) (rd_T52 l0 0),I (((rd_T52 l0 0).f4).length:Int)] (.cons (show (0:Int)≤0 by decide) (.cons (atM (v52 0) z52 (show (0:Int)≤0 by decide) c696) (.cons (bneF c697) (.cons (show (0:Int)≤0 by decide) (.cons (atM (v52 0) z52 (show (0:Int)≤0 by decide) c696) (.cons (bneF c698) (.cons (show (0:Int)≤0 by decide) (.cons (atM (v52 0) z52 (show (0:Int)≤0 by decide) c696) (.cons (lenM I ((rd_T52 l0 0).f4)) .nil)))))))))<|⟨k,by omega,l0,((((rd_T52 l0 0).f4).length:Int) == 0),l1_0,l1_1,a1_2,a1_3,Wo [(0,0),(1,0),(28,0)],H⟩
  exact Rh hN [(v52 0) (rd_T52 l0 0),B false,(v52 0) (rd_T52 l0 0),B true] (.cons (show (0:Int)≤0 by decide) (.cons (atM (v52 0) z52 (show (0:Int)≤0 by decide) c696) (.cons (bneF c697) (.cons (show (0:Int)≤0 by decide) (.cons (atM (v52 0) z52 (show (0:Int)≤0 by decide) c696) (.cons (nq c698) .nil))))))<|⟨k,by omega,l0,true,l1_0,l1_1,a1_2,a1_3,Wo [(0,0),(1,0),(28,0)],H⟩
 clear H
 rintro st ⟨n',hn',x0,x28,x1000,x1001,x1002,x1003,W,H⟩
 rcases n' with _ | k
 ·cases H
 refine W.good ?_
 rw [pkcs8_attributes.j0] at H
 rcases ifC H with ⟨c699,H⟩ | ⟨c699,H⟩
 ·refine Ct c699<|Sw<|Rg hN ?_
  cases H
  exact Good.ret (finX_fitR (.refl _) (FitLL.refl _) (by kernel_rfl) rfl)
 refine Cf (bf c699)<|Sk<|Sw<|Sw ?_
 obtain ⟨t700,h701,H⟩:=bindS H
 refine Rh hN [.row (some 35) 1 (List.map (vL52 0) t700),I (t700.length:Int)] (.cons (tree_Kids.con h701).c (.cons (lenM (vL52 0) t700) .nil))<|Bl<|Good.loopN (fun k' st=>∃ (x30:List (List S52)) (x31:Int) (x32:Int) (x1000:List Int) (x1001:List Int) (x1002:ByteArray) (x1003:ByteArray),k'≤k∧Wk C st ⟨[(1,.d (.ptr 0 0)),(30,.w (.row (some 35) 1 (List.map (vL52 0) x30))),(31,.w (I x31)),(32,.w (I x32))],[.cells [.v (.row none 1 (List.map I x1000)),.v (.row none 1 (List.map I x1001)),.v (S x1002),.v (S x1003)]]⟩∧pkcs8_attributes.l0 k' x30 x31 x32 x1000 x1001 x1002 x1003=some r) k ⟨t700,(t700.length:Int),0,x1000,x1001,x1002,x1003,Nat.le_refl _,Wo [(1,0),(30,0),(31,0),(32,0)],H⟩ fun k=>⟨fun st h=>(by obtain ⟨_,_,_,_,_,_,_,_,_,H⟩:=h;cases H),?_⟩
 clear H
 rintro st ⟨x30,x31,x32,x1000,x1001,x1002,x1003,hk,W,H⟩
 refine W.good ?_
 rw [pkcs8_attributes.l0] at H
 refine Sw<|Rg hN<|Sw ?_
 rcases (ifC H).symm with ⟨c702,H⟩ | ⟨c702,H⟩
 ·refine Cf (df c702)<|Ex<|Sw<|Rg hN ?_
  cases H
  exact Good.ret (finX_fitR (.refl _) (FitLL.refl _) (by kernel_rfl) rfl)
 refine Ct (dt c702)<|Sk<|Sw<|Bl<|Sw ?_
 obtain ⟨c703,H⟩:=ifS H
 obtain ⟨c704,H⟩:=ifS H
 refine Rh hN [(vL52 0) (rd_L52 x30 x32)] (.cons c703 (.cons (ltM (vL52 0) c704) (.cons (atM (vL52 0) ([]:List S52) c703 c704) .nil)))<|Sw ?_
 obtain ⟨t705,h706,H⟩:=bindS H
 refine Rh hN [.tup [S t705.1,I t705.2]] (.cons (tree_Encode.con h706).c .nil) ?_
 obtain ⟨c707,H⟩:=ifS H
 exact Rh hN [] (.cons c707 .nil)<|Rg hN<|⟨k,by omega,x30,x31,wrap64 (x32+1),x1000,x1001,x1002,x1003++t705.1,by omega,Wo [(1,0),(30,0),(31,0),(32,0)],H⟩
def pkcs8_Decode.j1:Nat→List (List S52)→Bool→List Int→List Int→ByteArray→ByteArray→Option (List Int × List Int × ByteArray × ByteArray × Int)
 | 0,_,_,_,_,_,_=>none
 | k+1,x7,x40,x3000,x3001,x3002,x3003=>if x40=true then (some (([]:List Int),([]:List Int),(⟨#[]⟩:ByteArray),(⟨#[]⟩:ByteArray),5)) else (if (x7.length:Int)=4 then (if 3 < (x7.length:Int) then ((pkcs8_attributes.f k (rd_L52 x7 3) x3000 x3001 x3002 x3003).bind fun t736=>(if t736.1=true then (if 2 < (x7.length:Int) then (if 0 < ((rd_L52 x7 2).length:Int) then (some (t736.2.1,t736.2.2.1,(rd_T52 (rd_L52 x7 2) 0).f3,t736.2.2.2.2,0)) else (none)) else (none)) else (some (([]:List Int),([]:List Int),(⟨#[]⟩:ByteArray),(⟨#[]⟩:ByteArray),5)))) else (none)) else (if 2 < (x7.length:Int) then (if 0 < ((rd_L52 x7 2).length:Int) then (some (x3000,x3001,(rd_T52 (rd_L52 x7 2) 0).f3,x3003,0)) else (none)) else (none)))
def pkcs8_Decode.j0:Nat→List (List S52)→Bool→ByteArray→ByteArray→Option (List Int × List Int × ByteArray × ByteArray × Int)
 | 0,_,_,_,_=>none
 | k+1,x7,x29,x3002,x3003=>if x29=true then (some (([]:List Int),([]:List Int),(⟨#[]⟩:ByteArray),(⟨#[]⟩:ByteArray),5)) else (if 0 < (x7.length:Int) then ((pkcs8_is.f k (rd_L52 x7 0) ([2]:List Int)).bind fun t719=>(if t719=true then (if 0 < ((rd_L52 x7 0).length:Int) then ((whole_Encode.f k 0).bind fun t723=>(if ((rd_T52 (rd_L52 x7 0) 0).f3).toList=t723.toList then (if 1 < (x7.length:Int) then ((pkcs8_algorithm.f k (rd_L52 x7 1) ([]:List Int) ([]:List Int) x3002 x3003).bind fun t727=>(if t727.1=true then (if 2 < (x7.length:Int) then ((pkcs8_is.f k (rd_L52 x7 2) ([4]:List Int)).bind fun t731=>(pkcs8_Decode.j1 k x7 (!t731) t727.2.1 t727.2.2.1 t727.2.2.2.1 t727.2.2.2.2)) else (none)) else (pkcs8_Decode.j1 k x7 (!t727.1) t727.2.1 t727.2.2.1 t727.2.2.2.1 t727.2.2.2.2))) else (none)) else (pkcs8_Decode.j1 k x7 (((rd_T52 (rd_L52 x7 0) 0).f3).toList != t723.toList) ([]:List Int) ([]:List Int) x3002 x3003))) else (none)) else (pkcs8_Decode.j1 k x7 (!t719) ([]:List Int) ([]:List Int) x3002 x3003))) else (none))
def pkcs8_Decode.f (k:Nat) (a0:ByteArray):Option (List Int × List Int × ByteArray × ByteArray × Int):=(tlv_Decode.f k a0).bind fun t708=>(if t708.2.1=0 then ((tree_Kids.f k t708.1).bind fun t711=>((pkcs8_is.f k t708.1 ([16]:List Int)).bind fun t713=>(if t713=true then (if (t711.length:Int) < 3 then (pkcs8_Decode.j0 k t711 (decide ((t711.length:Int) < 3)) (⟨#[]⟩:ByteArray) (⟨#[]⟩:ByteArray)) else (pkcs8_Decode.j0 k t711 (decide ((t711.length:Int) > 4)) (⟨#[]⟩:ByteArray) (⟨#[]⟩:ByteArray))) else (pkcs8_Decode.j0 k t711 (!t713) (⟨#[]⟩:ByteArray) (⟨#[]⟩:ByteArray))))) else (some (([]:List Int),([]:List Int),(⟨#[]⟩:ByteArray),(⟨#[]⟩:ByteArray),t708.2.1)))
theorem pkcs8_Decode.con {k:Nat} {a0:ByteArray} {r:(List Int × List Int × ByteArray × ByteArray × Int)} (H:pkcs8_Decode.f k a0=some r):Con Tryd.prog 6 [S a0] (.tup [.agg [.row none 1 (List.map I r.1),.row none 1 (List.map I r.2.1),S r.2.2.1,S r.2.2.2.1],I r.2.2.2.2]):=by
 refine Cg Tryd.func6 rfl fun C hN hL=>?_
 unfold pkcs8_Decode.f at H
 refine Sw<|Rg hN<|Sw ?_
 obtain ⟨t708,h709,H⟩:=bindS H
 refine Rh hN [.tup [.row (some 52) 5 (List.map (v52 1) t708.1),.agg [I t708.2.1,I t708.2.2]]] (.cons (tlv_Decode.con h709).c .nil)<|Sw<|Sw<|Rg hN ?_
 rcases (ifC H).symm with ⟨c710,H⟩ | ⟨c710,H⟩
 ·refine Ct (nq c710)<|Sw<|Good.regTB (n:=2) hm hN hL (.q 0 [[]] (.i 1 (.b 2 [] [] (.e 3 (.i 4 .z)) [] [] (.e 3 (.e 2 (.i 4 .z)))))) [(2,some (.pt [.nil 3 1,.nil 3 1,S (⟨#[]⟩:ByteArray),S (⟨#[]⟩:ByteArray)])),(5,some (.pt [I t708.2.1,I t708.2.2]))] (by kernel_rfl) (.cons (ptS (shrC (rfl:(V.shr (.nil 3 1))=.nil 3 1) (shrC (rfl:(V.shr (.nil 3 1))=.nil 3 1) (shrC (rfl:(V.shr (S (⟨#[]⟩:ByteArray)))=S (⟨#[]⟩:ByteArray)) (shrC (rfl:(V.shr (S (⟨#[]⟩:ByteArray)))=S (⟨#[]⟩:ByteArray)) (rfl:shrL []=[])))))) (.cons (ptS (shrC (rfl:(V.shr (I t708.2.1))=I t708.2.1) (shrC (rfl:(V.shr (I t708.2.2))=I t708.2.2) (rfl:shrL []=[])))) .nil)) [] [] (.cons .nil .nil (.cons .nil .nil .nil)) [] [] (by kernel_rfl) (by kernel_rfl) [[],[]] [(2,0),(3,0)] [(2,.d (.ptr 0 0)),(3,.w (I t708.2.1))] [.cells [.v (.nil 3 1),.v (.nil 3 1),.v (S (⟨#[]⟩:ByteArray)),.v (S (⟨#[]⟩:ByteArray))],.cells [.v (I t708.2.1),.v (I t708.2.2)]] (by kernel_rfl) (by kernel_rfl) ?_
  cases H
  exact Good.ret (fin_fit (u:=.tup [.agg [.nil 3 1,.nil 3 1,S (⟨#[]⟩:ByteArray),S (⟨#[]⟩:ByteArray)],I t708.2.1]) (.tup (.cons (.agg (.cons (.nilS 3 1 _) (.cons (.nilS 3 1 _) (.cons (.refl _) (.cons (.refl _) .nil))))) (.cons (.refl _) .nil))) (by kernel_rfl))
 refine Cf (bneF c710)<|Sk<|Sw<|Rg hN<|Sw ?_
 obtain ⟨t711,h712,H⟩:=bindS H
 refine Rh hN [.row none 5 (List.map (v52 0) t708.1),.row (some 35) 1 (List.map (vL52 0) t711)] (.cons (shrM (some 52) 5 (v52 1) (v52 0) t708.1 (v52.shr _)) (.cons (tree_Kids.con h712).c .nil))<|Sw<|Bl<|Sw<|Sw ?_
 obtain ⟨t713,h714,H⟩:=bindS H
 refine Rh hN [.row none 1 (List.map I ([16]:List Int)),B t713] (.cons (shrM (some 3) 1 I I ([16]:List Int) (fun _=>rfl)) (.cons (pkcs8_is.con h714).c .nil))<|Good.cut (fun st=>∃ n':Nat,n'≤k∧∃ (x7:List (List S52)) (x29:Bool) (x1002:ByteArray) (x1003:ByteArray) (x2000:Int) (x2001:Int) (x3002:ByteArray) (x3003:ByteArray),Wk C st ⟨[(2,.d (.ptr 0 0)),(6,.d (.ptr 2 0)),(7,.w (.row (some 35) 1 (List.map (vL52 0) x7))),(29,.w (B x29))],[.cells [.v (.nil 3 1),.v (.nil 3 1),.v (S x1002),.v (S x1003)],.cells [.v (I x2000),.v (I x2001)],.cells [.v (.nil 3 1),.v (.nil 3 1),.v (S x3002),.v (S x3003)]]⟩∧pkcs8_Decode.j0 n' x7 x29 x3002 x3003=some r) ?_ ?_
 ·rcases (ifC H).symm with ⟨c715,H⟩ | ⟨c715,H⟩
  ·exact Ct (notT (bf c715))<|Sk<|⟨k,by omega,t711,!t713,(⟨#[]⟩:ByteArray),(⟨#[]⟩:ByteArray),t708.2.1,t708.2.2,(⟨#[]⟩:ByteArray),(⟨#[]⟩:ByteArray),Wo [(2,0),(6,0),(7,0),(29,0)],H⟩
  refine Cf (notF c715)<|Sw<|Rh hN [I (t711.length:Int)] (.cons (lenM (vL52 0) t711) .nil) ?_
  rcases ifC H with ⟨c716,H⟩ | ⟨c716,H⟩
  ·exact Ct (dt c716)<|Sk<|⟨k,by omega,t711,decide ((t711.length:Int) < 3),(⟨#[]⟩:ByteArray),(⟨#[]⟩:ByteArray),t708.2.1,t708.2.2,(⟨#[]⟩:ByteArray),(⟨#[]⟩:ByteArray),Wo [(2,0),(6,0),(7,0),(29,0)],H⟩
  exact Cf (df c716)<|Rh hN [I (t711.length:Int)] (.cons (lenM (vL52 0) t711) .nil)<|⟨k,by omega,t711,decide ((t711.length:Int) > 4),(⟨#[]⟩:ByteArray),(⟨#[]⟩:ByteArray),t708.2.1,t708.2.2,(⟨#[]⟩:ByteArray),(⟨#[]⟩:ByteArray),Wo [(2,0),(6,0),(7,0),(29,0)],H⟩
 clear H
 rintro st ⟨n',hn',x7,x29,x1002,x1003,x2000,x2001,x3002,x3003,W,H⟩
 rcases n' with _ | k
 ·cases H
 refine W.good ?_
 rw [pkcs8_Decode.j0] at H
 rcases ifC H with ⟨c717,H⟩ | ⟨c717,H⟩
 ·refine Ct c717<|Sk<|Sw<|Rg hN ?_
  cases H
  exact Good.ret (fin_fit (u:=.tup [.agg [.nil 3 1,.nil 3 1,S (⟨#[]⟩:ByteArray),S (⟨#[]⟩:ByteArray)],I 5]) (.tup (.cons (.agg (.cons (.nilS 3 1 _) (.cons (.nilS 3 1 _) (.cons (.refl _) (.cons (.refl _) .nil))))) (.cons (.refl _) .nil))) (by kernel_rfl))
 refine Cf (bf c717)<|Sw<|Sw ?_
 obtain ⟨c718,H⟩:=ifS H
 obtain ⟨t719,h720,H⟩:=bindS H
 refine Rh hN [(vL52 0) (rd_L52 x7 0),.row none 1 (List.map I ([2]:List Int)),B t719] (.cons (show (0:Int)≤0 by decide) (.cons (ltM (vL52 0) c718) (.cons (atM (vL52 0) ([]:List S52) (show (0:Int)≤0 by decide) c718) (.cons (shrM (some 3) 1 I I ([2]:List Int) (fun _=>rfl)) (.cons (pkcs8_is.con h720).c .nil)))))<|Good.cut (fun st=>∃ n':Nat,n'≤k∧∃ (x7:List (List S52)) (x40:Bool) (x1002:ByteArray) (x1003:ByteArray) (x2000:Int) (x2001:Int) (x3000:List Int) (x3001:List Int) (x3002:ByteArray) (x3003:ByteArray),Wk C st ⟨[(2,.d (.ptr 0 0)),(6,.d (.ptr 2 0)),(7,.w (.row (some 35) 1 (List.map (vL52 0) x7))),(40,.w (B x40))],[.cells [.v (.nil 3 1),.v (.nil 3 1),.v (S x1002),.v (S x1003)],.cells [.v (I x2000),.v (I x2001)],.cells [.v (.row none 1 (List.map I x3000)),.v (.row none 1 (List.map I x3001)),.v (S x3002),.v (S x3003)]]⟩∧pkcs8_Decode.j1 n' x7 x40 x3000 x3001 x3002 x3003=some r) ?_ ?_
 ·rcases (ifC H).symm with ⟨c721,H⟩ | ⟨c721,H⟩
  ·exact Ct (notT (bf c721))<|Sk<|⟨k,by omega,x7,!t719,x1002,x1003,x2000,x2001,([]:List Int),([]:List Int),x3002,x3003,Wk.box 2 (c:=[.nil 3 1,.nil 3 1,S x3002,S x3003]) (d:=[.row none 1 (List.map I ([]:List Int)),.row none 1 (List.map I ([]:List Int)),S x3002,S x3003]) (by kernel_rfl) (.cons (.nilS 3 1 _) (.cons (.nilS 3 1 _) (.cons (.refl _) (.cons (.refl _) .nil)))) (Wo [(2,0),(6,0),(7,0),(40,0)]),H⟩
  refine Cf (notF c721)<|Sw ?_
  obtain ⟨c722,H⟩:=ifS H
  obtain ⟨t723,h724,H⟩:=bindS H
  refine Rd hm hN (.qs 6 0 (.e 6 (.q 7 [] (.q 8 [] .z)))) [(7,some (.row none 1 (List.map (vL52 0) x7)))] (.cons (shrM (some 35) 1 (vL52 0) (vL52 0) x7 (vL52.shr _)) .nil) [(vL52 0) (rd_L52 x7 0),(v52 0) (rd_T52 (rd_L52 x7 0) 0),S t723] [(vL52 0) (rd_L52 x7 0),(v52 0) (rd_T52 (rd_L52 x7 0) 0)] (.cons (show (0:Int)≤0 by decide) (.cons (ltM (vL52 0) c718) (.cons (atM (vL52 0) ([]:List S52) (show (0:Int)≤0 by decide) c718) (.cons (show (0:Int)≤0 by decide) (.cons (atM (v52 0) z52 (show (0:Int)≤0 by decide) c722) (.cons (whole_Encode.con h724).c .nil)))))) (.cons (show (0:Int)≤0 by decide) (.cons (atM (vL52 0) ([]:List S52) (show (0:Int)≤0 by decide) c718) (.cons (show (0:Int)≤0 by decide) (.cons (atM (v52 0) z52 (show (0:Int)≤0 by decide) c722) .nil)))) [] [] ?_
  rcases (ifC H).symm with ⟨c725,H⟩ | ⟨c725,H⟩
  ·exact Ct (nq c725)<|Sk<|⟨k,by omega,x7,(((rd_T52 (rd_L52 x7 0) 0).f3).toList != t723.toList),x1002,x1003,x2000,x2001,([]:List Int),([]:List Int),x3002,x3003,Wk.box 2 (c:=[.nil 3 1,.nil 3 1,S x3002,S x3003]) (d:=[.row none 1 (List.map I ([]:List Int)),.row none 1 (List.map I ([]:List Int)),S x3002,S x3003]) (by kernel_rfl) (.cons (.nilS 3 1 _) (.cons (.nilS 3 1 _) (.cons (.refl _) (.cons (.refl _) .nil)))) (Wo [(2,0),(6,0),(7,0),(40,0)]),H⟩
  refine Cf (bneF c725)<|Sw ?_
  obtain ⟨c726,H⟩:=ifS H
  obtain ⟨t727,h728,H⟩:=bindS H
  refine Rh hN [(vL52 0) (rd_L52 x7 1),B t727.1,.tup [.agg [.row none 1 (List.map I t727.2.1),.row none 1 (List.map I t727.2.2.1),S t727.2.2.2.1,S t727.2.2.2.2]]] (.cons (show (0:Int)≤1 by decide) (.cons (ltM (vL52 0) c726) (.cons (atM (vL52 0) ([]:List S52) (show (0:Int)≤1 by decide) c726) (.cons (ConX.n (pkcs8_algorithm.con h728) (.cons (.refl _) (.cons (.refl _) .nil)) (.cons (.cons (.nilS 3 1 _) (.cons (.nilS 3 1 _) (.cons (.refl _) (.cons (.refl _) .nil)))) .nil)) .nil)))) ?_
  rcases (ifC H).symm with ⟨c729,H⟩ | ⟨c729,H⟩
  ·exact Ct (notT (bf c729))<|Sk<|⟨k,by omega,x7,!t727.1,x1002,x1003,x2000,x2001,t727.2.1,t727.2.2.1,t727.2.2.2.1,t727.2.2.2.2,Wo [(2,0),(6,0),(7,0),(40,0)],H⟩
  refine Cf (notF c729) ?_
  obtain ⟨c730,H⟩:=ifS H
  obtain ⟨t731,h732,H⟩:=bindS H
  exact Rh hN [(vL52 0) (rd_L52 x7 2),.row none 1 (List.map I ([4]:List Int)),B t731] (.cons (show (0:Int)≤2 by decide) (.cons (ltM (vL52 0) c730) (.cons (atM (vL52 0) ([]:List S52) (show (0:Int)≤2 by decide) c730) (.cons (shrM (some 3) 1 I I ([4]:List Int) (fun _=>rfl)) (.cons (pkcs8_is.con h732).c .nil)))))<|⟨k,by omega,x7,!t731,x1002,x1003,x2000,x2001,t727.2.1,t727.2.2.1,t727.2.2.2.1,t727.2.2.2.2,Wo [(2,0),(6,0),(7,0),(40,0)],H⟩
 clear H
 rintro st ⟨n',hn',x7,x40,x1002,x1003,x2000,x2001,x3000,x3001,x3002,x3003,W,H⟩
 rcases n' with _ | k
 ·cases H
 refine W.good ?_
 rw [pkcs8_Decode.j1] at H
 rcases ifC H with ⟨c733,H⟩ | ⟨c733,H⟩
 ·refine Ct c733<|Sk<|Sw<|Rg hN ?_
  cases H
  exact Good.ret (fin_fit (u:=.tup [.agg [.nil 3 1,.nil 3 1,S (⟨#[]⟩:ByteArray),S (⟨#[]⟩:ByteArray)],I 5]) (.tup (.cons (.agg (.cons (.nilS 3 1 _) (.cons (.nilS 3 1 _) (.cons (.refl _) (.cons (.refl _) .nil))))) (.cons (.refl _) .nil))) (by kernel_rfl))
 refine Cf (bf c733)<|Sw ?_
 rcases (ifC H).symm with ⟨c734,H⟩ | ⟨c734,H⟩
 ·refine Rh hN [I (x7.length:Int),B false] (.cons (lenM (vL52 0) x7) (.cons (bn c734) .nil))<|Good.cond false (by kernel_rfl)<|Sw ?_
  obtain ⟨c741,H⟩:=ifS H
  obtain ⟨c742,H⟩:=ifS H
  refine Rh hN [(vL52 0) (rd_L52 x7 2),(v52 0) (rd_T52 (rd_L52 x7 2) 0)] (.cons (show (0:Int)≤2 by decide) (.cons (ltM (vL52 0) c741) (.cons (atM (vL52 0) ([]:List S52) (show (0:Int)≤2 by decide) c741) (.cons (show (0:Int)≤0 by decide) (.cons (atM (v52 0) z52 (show (0:Int)≤0 by decide) c742) .nil)))))<|Sw<|Rg hN ?_
  cases H
  exact Rt dR
 obtain ⟨c735,H⟩:=ifS H
 obtain ⟨t736,h737,H⟩:=bindS H
 refine Rh hN [I (x7.length:Int),B true,(vL52 0) (rd_L52 x7 3),B t736.1,.tup [.agg [.row none 1 (List.map I t736.2.1),.row none 1 (List.map I t736.2.2.1),S t736.2.2.2.1,S t736.2.2.2.2]]] (.cons (lenM (vL52 0) x7) (.cons (bq c734) (.cons (show (0:Int)≤3 by decide) (.cons (ltM (vL52 0) c735) (.cons (atM (vL52 0) ([]:List S52) (show (0:Int)≤3 by decide) c735) (.cons (pkcs8_attributes.con h737).c .nil)))))) ?_
 rcases (ifC H).symm with ⟨c738,H⟩ | ⟨c738,H⟩
 ·refine Ct (notT (bf c738))<|Sk<|Sw<|Rg hN ?_
  cases H
  exact Good.ret (fin_fit (u:=.tup [.agg [.nil 3 1,.nil 3 1,S (⟨#[]⟩:ByteArray),S (⟨#[]⟩:ByteArray)],I 5]) (.tup (.cons (.agg (.cons (.nilS 3 1 _) (.cons (.nilS 3 1 _) (.cons (.refl _) (.cons (.refl _) .nil))))) (.cons (.refl _) .nil))) (by kernel_rfl))
 refine Cf (notF c738)<|Sw ?_
 obtain ⟨c739,H⟩:=ifS H
 obtain ⟨c740,H⟩:=ifS H
 refine Rh hN [(vL52 0) (rd_L52 x7 2),(v52 0) (rd_T52 (rd_L52 x7 2) 0)] (.cons (show (0:Int)≤2 by decide) (.cons (ltM (vL52 0) c739) (.cons (atM (vL52 0) ([]:List S52) (show (0:Int)≤2 by decide) c739) (.cons (show (0:Int)≤0 by decide) (.cons (atM (v52 0) z52 (show (0:Int)≤0 by decide) c740) .nil)))))<|Sw<|Rg hN ?_
 cases H
 exact Rt dR
def clavigerlaw26_awake.f (k:Nat)  : Option (Bool):=(pkcs8_Encode.f k ([2,5]:List Int) ([]:List Int) (⟨#[107]⟩:ByteArray) (⟨#[]⟩:ByteArray)).bind fun t743=>((pkcs8_Decode.f k t743.1).bind fun t745=>(if t743.1.toList=([48,13,2,1,0,48,5,6,1,85,5,0,4,1,107]:List UInt8) then (if t743.2=0 then (if t745.2.2.1.toList=([107]:List UInt8) then (if (t745.1.length:Int)=2 then (some (t745.2.2.2.2 == 0)) else (some false)) else (some false)) else (some false)) else (some false)))
theorem clavigerlaw26_awake.con {k:Nat} {r:(Bool)} (H:clavigerlaw26_awake.f k  = some r):Con Tryd.prog 4 [] (B r):=by
 refine Cg Tryd.func4 rfl fun C hN hL=>?_
 unfold clavigerlaw26_awake.f at H
 refine Sw<|Rg hN<|Sw ?_
 obtain ⟨t743,h744,H⟩:=bindS H
 refine Rh hN [.row none 1 (List.map I ([2,5]:List Int)),.tup [S t743.1,I t743.2]] (.cons (shrM (some 3) 1 I I ([2,5]:List Int) (fun _=>rfl)) (.cons ((pkcs8_Encode.con h744).n (.cons (.agg (.cons (.refl _) (.cons (.nilS 3 1 _) (.cons (.refl _) (.cons (.refl _) .nil))))) .nil)) .nil))<|Sw ?_
 obtain ⟨t745,h746,H⟩:=bindS H
 refine Rh hN [.tup [.agg [.row none 1 (List.map I t745.1),.row none 1 (List.map I t745.2.1),S t745.2.2.1,S t745.2.2.2.1],I t745.2.2.2.2]] (.cons (pkcs8_Decode.con h746).c .nil)<|Sw ?_
 rcases (ifC H).symm with ⟨c747,H⟩ | ⟨c747,H⟩
 ·refine Ri hN [B false,B false,B false,B false] (.cons (strV (rfl:t743.1.toList=t743.1.toList) (litL ([48,13,2,1,0,48,5,6,1,85,5,0,4,1,107]:List UInt8))) (.cons (bn c747) (.cons (rfl:false=false) (.cons (rfl:false=false) (.cons (rfl:false=false) .nil))))) [(17,.bool (t743.1.toList == ([48,13,2,1,0,48,5,6,1,85,5,0,4,1,107]:List UInt8)))] ?_
  cases H
  exact Rt dR
 rcases (ifC H).symm with ⟨c748,H⟩ | ⟨c748,H⟩
 ·refine Ri hN [B true,B false,B false,B false] (.cons (strV (rfl:t743.1.toList=t743.1.toList) (litL ([48,13,2,1,0,48,5,6,1,85,5,0,4,1,107]:List UInt8))) (.cons (bq c747) (.cons (bn c748) (.cons (rfl:false=false) (.cons (rfl:false=false) .nil))))) [(17,.bool (t743.1.toList == ([48,13,2,1,0,48,5,6,1,85,5,0,4,1,107]:List UInt8)))] ?_
  cases H
  exact Rt dR
 rcases (ifC H).symm with ⟨c749,H⟩ | ⟨c749,H⟩
 ·refine Ri hN [B true,B true,B false,B false] (.cons (strV (rfl:t743.1.toList=t743.1.toList) (litL ([48,13,2,1,0,48,5,6,1,85,5,0,4,1,107]:List UInt8))) (.cons (bq c747) (.cons (bq c748) (.cons (strV (rfl:t745.2.2.1.toList=t745.2.2.1.toList) (litL ([107]:List UInt8))) (.cons (bn c749) (.cons (rfl:false=false) .nil)))))) [(17,.bool (t743.1.toList == ([48,13,2,1,0,48,5,6,1,85,5,0,4,1,107]:List UInt8))),(25,.bool (t745.2.2.1.toList == ([107]:List UInt8)))] ?_
  cases H
  exact Rt dR
 rcases ifC H with ⟨c750,H⟩ | ⟨c750,H⟩
 ·refine Ri hN [B true,B true,B true,I (t745.1.length:Int),B true] (.cons (strV (rfl:t743.1.toList=t743.1.toList) (litL ([48,13,2,1,0,48,5,6,1,85,5,0,4,1,107]:List UInt8))) (.cons (bq c747) (.cons (bq c748) (.cons (strV (rfl:t745.2.2.1.toList=t745.2.2.1.toList) (litL ([107]:List UInt8))) (.cons (bq c749) (.cons (lenM I t745.1) (.cons (bq c750) .nil))))))) [(17,.bool (t743.1.toList == ([48,13,2,1,0,48,5,6,1,85,5,0,4,1,107]:List UInt8))),(25,.bool (t745.2.2.1.toList == ([107]:List UInt8)))] ?_
  cases H
  exact Rt dR
 refine Ri hN [B true,B true,B true,I (t745.1.length:Int),B false] (.cons (strV (rfl:t743.1.toList=t743.1.toList) (litL ([48,13,2,1,0,48,5,6,1,85,5,0,4,1,107]:List UInt8))) (.cons (bq c747) (.cons (bq c748) (.cons (strV (rfl:t745.2.2.1.toList=t745.2.2.1.toList) (litL ([107]:List UInt8))) (.cons (bq c749) (.cons (lenM I t745.1) (.cons (bn c750) .nil))))))) [(17,.bool (t743.1.toList == ([48,13,2,1,0,48,5,6,1,85,5,0,4,1,107]:List UInt8))),(25,.bool (t745.2.2.1.toList == ([107]:List UInt8)))] ?_
 cases H
 exact Rt dR
def cp_Ints.l0:Nat→List Int→List Int→Int→Option (Bool)
 | 0,_,_,_=>none
 | k+1,x0,x1,x5=>if x5 < (x0.length:Int) then (if 0≤x5 then (if x5 < (x1.length:Int) then (if (rd x0 x5)=(rd x1 x5) then (cp_Ints.l0 k x0 x1 (wrap64 (x5+1))) else (some false)) else (none)) else (none)) else (some true)
def cp_Ints.f (k:Nat) (l0:List Int) (l1:List Int):Option (Bool):=if (l0.length:Int)=(l1.length:Int) then (cp_Ints.l0 k l0 l1 0) else (some false)
theorem cp_Ints.con {k:Nat} {l0:List Int} {l1:List Int} {r:(Bool)} (H:cp_Ints.f k l0 l1=some r):Con Tryd.prog 19 [.row none 1 (List.map I l0),.row none 1 (List.map I l1)] (B r):=by
 refine Cg Tryd.func19 rfl fun C hN hL=>?_
 unfold cp_Ints.f at H
 refine Sw<|Rg hN<|Sw<|Sw<|Rh hN [I (l0.length:Int),I (l1.length:Int)] (.cons (lenM I l0) (.cons (lenM I l1) .nil)) ?_
 rcases (ifC H).symm with ⟨c751,H⟩ | ⟨c751,H⟩
 ·refine Ct (nq c751)<|Sw<|Rg hN ?_
  cases H
  exact Rt dR
 refine Cf (bneF c751)<|Sk<|Sw<|Sw<|Rg hN<|Bl<|Good.loopN (fun k' st=>∃ (x0:List Int) (x1:List Int) (x5:Int),k'≤k∧Wk C st ⟨[(0,.w (.row none 1 (List.map I x0))),(1,.w (.row none 1 (List.map I x1))),(5,.w (I x5))],[]⟩∧cp_Ints.l0 k' x0 x1 x5=some r) k ⟨l0,l1,0,Nat.le_refl _,Wo [(0,0),(1,0),(5,0)],H⟩ fun k=>⟨fun st h=>(by obtain ⟨_,_,_,_,_,H⟩:=h;cases H),?_⟩
 clear H
 rintro st ⟨x0,x1,x5,hk,W,H⟩
 refine W.good ?_
 rw [cp_Ints.l0] at H
 refine Sw<|Sw<|Rh hN [I (x0.length:Int)] (.cons (lenM I x0) .nil) ?_
 rcases (ifC H).symm with ⟨c752,H⟩ | ⟨c752,H⟩
 ·refine Cf (df c752)<|Ex<|Sw<|Rg hN ?_
  cases H
  exact Rt dR
 refine Ct (dt c752)<|Sk<|Sw<|Bl<|Sw ?_
 obtain ⟨c753,H⟩:=ifS H
 obtain ⟨c754,H⟩:=ifS H
 refine Rd hm hN (.qs 8 0 (.q 8 [] .z)) [(0,none),(1,none),(5,none)] .nil [I (rd x0 x5),I (rd x1 x5)] [I (rd x0 x5),I (rd x1 x5)] (.cons c753 (.cons (atM I (0:Int) c753 c752) (.cons c753 (.cons (atM I (0:Int) c753 c754) .nil)))) (.cons c753 (.cons (atM I (0:Int) c753 c752) (.cons c753 (.cons (atM I (0:Int) c753 c754) .nil)))) [] [] ?_
 rcases ifC H with ⟨c755,H⟩ | ⟨c755,H⟩
 ·exact Cf (bneF c755)<|Sk<|Rg hN<|⟨k,by omega,x0,x1,wrap64 (x5+1),by omega,Wo [(0,0),(1,0),(5,0)],H⟩
 refine Ct (nq c755)<|Sw<|Rg hN ?_
 cases H
 exact Rt dR
def clavigerlaw26_same.f (k:Nat) (l0_0:List Int) (l0_1:List Int) (a0_2:ByteArray) (a0_3:ByteArray) (l1_0:List Int) (l1_1:List Int) (a1_2:ByteArray) (a1_3:ByteArray):Option (Bool):=(cp_Ints.f k l0_0 l1_0).bind fun t756=>(if t756=true then ((cp_Ints.f k l0_1 l1_1).bind fun t759=>(if t759=true then (if a0_2.toList=a1_2.toList then (some (a0_3.toList == a1_3.toList)) else (some false)) else (some false))) else (some false))
theorem clavigerlaw26_same.con {k:Nat} {l0_0:List Int} {l0_1:List Int} {a0_2:ByteArray} {a0_3:ByteArray} {l1_0:List Int} {l1_1:List Int} {a1_2:ByteArray} {a1_3:ByteArray} {r:(Bool)} (H:clavigerlaw26_same.f k l0_0 l0_1 a0_2 a0_3 l1_0 l1_1 a1_2 a1_3=some r):Con Tryd.prog 7 [.agg [.row none 1 (List.map I l0_0),.row none 1 (List.map I l0_1),S a0_2,S a0_3],.agg [.row none 1 (List.map I l1_0),.row none 1 (List.map I l1_1),S a1_2,S a1_3]] (B r):=by
 refine Cg Tryd.func7 rfl fun C hN hL=>?_
 unfold clavigerlaw26_same.f at H
 refine Sw<|Rg hN<|Sw ?_
 obtain ⟨t756,h757,H⟩:=bindS H
 rcases (ifC H).symm with ⟨c758,H⟩ | ⟨c758,H⟩
 ·refine Rh hN [B t756,B false,B false,B false] (.cons (cp_Ints.con h757).c (.cons (bf c758) (.cons (rfl:false=false) (.cons (rfl:false=false) .nil)))) ?_
  cases H
  exact Rt dR
 obtain ⟨t759,h760,H⟩:=bindS H
 rcases (ifC H).symm with ⟨c761,H⟩ | ⟨c761,H⟩
 ·refine Rh hN [B t756,B true,B t759,B false,B false] (.cons (cp_Ints.con h757).c (.cons c758 (.cons (cp_Ints.con h760).c (.cons (bf c761) (.cons (rfl:false=false) .nil))))) ?_
  cases H
  exact Rt dR
 rcases ifC H with ⟨c762,H⟩ | ⟨c762,H⟩
 ·refine Rh hN [B t756,B true,B t759,B true,B true] (.cons (cp_Ints.con h757).c (.cons c758 (.cons (cp_Ints.con h760).c (.cons c761 (.cons (bq c762) .nil))))) ?_
  cases H
  exact Rt dR
 refine Rh hN [B t756,B true,B t759,B true,B false] (.cons (cp_Ints.con h757).c (.cons c758 (.cons (cp_Ints.con h760).c (.cons c761 (.cons (bn c762) .nil))))) ?_
 cases H
 exact Rt dR
def clavigerlaw26_Pkcs8Back.j1:Nat→ByteArray→Option (Bool)
 | 0,_=>none
 | k+1,x1=>(pkcs8_Decode.f k x1).bind fun t779=>(if t779.2.2.2.2=0 then ((pkcs8_Encode.f k t779.1 t779.2.1 t779.2.2.1 t779.2.2.2.1).bind fun t782=>(if t782.1.toList=x1.toList then (if t782.2=0 then ((clavigerlaw26_awake.f k).bind fun t786=>(some t786)) else (some false)) else (some false))) else ((clavigerlaw26_same.f k t779.1 t779.2.1 t779.2.2.1 t779.2.2.2.1 ([]:List Int) ([]:List Int) (⟨#[]⟩:ByteArray) (⟨#[]⟩:ByteArray)).bind fun t788=>(if t788=true then ((clavigerlaw26_awake.f k).bind fun t791=>(some t791)) else (some false))))
def clavigerlaw26_Pkcs8Back.j0:Nat→ByteArray→Bool→List Int→List Int→ByteArray→ByteArray→Option (Bool)
 | 0,_,_,_,_,_,_=>none
 | k+1,x1,x39,x1000,x1001,x1002,x1003=>if x39=true then ((clavigerlaw26_awake.f k).bind fun t768=>(some t768)) else ((pkcs8_Encode.f k x1000 x1001 x1002 x1003).bind fun t770=>(if t770.2=0 then ((pkcs8_Decode.f k t770.1).bind fun t773=>(if t773.2.2.2.2=0 then ((clavigerlaw26_same.f k t773.1 t773.2.1 t773.2.2.1 t773.2.2.2.1 x1000 x1001 x1002 x1003).bind fun t776=>(if t776=true then (clavigerlaw26_Pkcs8Back.j1 k x1) else (some false))) else (some false))) else (clavigerlaw26_Pkcs8Back.j1 k x1)))
def clavigerlaw26_Pkcs8Back.f (k:Nat) (l0_0:List Int) (l0_1:List Int) (a0_2:ByteArray) (a0_3:ByteArray) (a1:ByteArray):Option (Bool):=if (l0_0.length:Int) > 60 then (clavigerlaw26_Pkcs8Back.j0 k a1 true l0_0 l0_1 a0_2 a0_3) else (if (l0_1.length:Int) > 60 then (clavigerlaw26_Pkcs8Back.j0 k a1 true l0_0 l0_1 a0_2 a0_3) else (if (a0_2.size:Int) > 500 then (clavigerlaw26_Pkcs8Back.j0 k a1 true l0_0 l0_1 a0_2 a0_3) else (if (a0_3.size:Int) > 500 then (clavigerlaw26_Pkcs8Back.j0 k a1 true l0_0 l0_1 a0_2 a0_3) else (clavigerlaw26_Pkcs8Back.j0 k a1 (decide ((a1.size:Int) > 1000)) l0_0 l0_1 a0_2 a0_3))))
theorem clavigerlaw26_Pkcs8Back.con {k:Nat} {l0_0:List Int} {l0_1:List Int} {a0_2:ByteArray} {a0_3:ByteArray} {a1:ByteArray} {r:(Bool)} (H:clavigerlaw26_Pkcs8Back.f k l0_0 l0_1 a0_2 a0_3 a1=some r):Con Tryd.prog 3 [.agg [.row none 1 (List.map I l0_0),.row none 1 (List.map I l0_1),S a0_2,S a0_3],S a1] (B r):=by
 refine Cg Tryd.func3 rfl fun C hN hL=>?_
 unfold clavigerlaw26_Pkcs8Back.f at H
 refine Sw<|Rg hN<|Sw<|Sw<|Good.cut (fun st=>∃ n':Nat,n'≤k∧∃ (x1:ByteArray) (x39:Bool) (x1000:List Int) (x1001:List Int) (x1002:ByteArray) (x1003:ByteArray),Wk C st ⟨[(1,.w (S x1)),(2,.d (.ptr 0 0)),(39,.w (B x39))],[.cells [.v (.row none 1 (List.map I x1000)),.v (.row none 1 (List.map I x1001)),.v (S x1002),.v (S x1003)]]⟩∧clavigerlaw26_Pkcs8Back.j0 n' x1 x39 x1000 x1001 x1002 x1003=some r) ?_ ?_
 ·rcases ifC H with ⟨c763,H⟩ | ⟨c763,H⟩
  ·exact Rh hN [I (l0_0.length:Int),B true,B true,B true,B true] (.cons (lenM I l0_0) (.cons (dt c763) (.cons (rfl:true=true) (.cons (rfl:true=true) (.cons (rfl:true=true) .nil)))))<|⟨k,by omega,a1,true,l0_0,l0_1,a0_2,a0_3,Wo [(1,0),(2,0),(39,0)],H⟩
  rcases ifC H with ⟨c764,H⟩ | ⟨c764,H⟩
  ·exact Rh hN [I (l0_0.length:Int),B false,I (l0_1.length:Int),B true,B true,B true] (.cons (lenM I l0_0) (.cons (df c763) (.cons (lenM I l0_1) (.cons (dt c764) (.cons (rfl:true=true) (.cons (rfl:true=true) .nil))))))<|⟨k,by omega,a1,true,l0_0,l0_1,a0_2,a0_3,Wo [(1,0),(2,0),(39,0)],H⟩
  rcases ifC H with ⟨c765,H⟩ | ⟨c765,H⟩
  ·exact Rh hN [I (l0_0.length:Int),B false,I (l0_1.length:Int),B false,B true,B true] (.cons (lenM I l0_0) (.cons (df c763) (.cons (lenM I l0_1) (.cons (df c764) (.cons (dt c765) (.cons (rfl:true=true) .nil))))))<|⟨k,by omega,a1,true,l0_0,l0_1,a0_2,a0_3,Wo [(1,0),(2,0),(39,0)],H⟩
  rcases ifC H with ⟨c766,H⟩ | ⟨c766,H⟩
  ·exact Rh hN [I (l0_0.length:Int),B false,I (l0_1.length:Int),B false,B false,B true] (.cons (lenM I l0_0) (.cons (df c763) (.cons (lenM I l0_1) (.cons (df c764) (.cons (df c765) (.cons (dt c766) .nil))))))<|⟨k,by omega,a1,true,l0_0,l0_1,a0_2,a0_3,Wo [(1,0),(2,0),(39,0)],H⟩
  exact Rh hN [I (l0_0.length:Int),B false,I (l0_1.length:Int),B false,B false,B false] (.cons (lenM I l0_0) (.cons (df c763) (.cons (lenM I l0_1) (.cons (df c764) (.cons (df c765) (.cons (df c766) .nil))))))<|⟨k,by omega,a1,decide ((a1.size:Int) > 1000),l0_0,l0_1,a0_2,a0_3,Wo [(1,0),(2,0),(39,0)],H⟩
 clear H
 rintro st ⟨n',hn',x1,x39,x1000,x1001,x1002,x1003,W,H⟩
 rcases n' with _ | k
 ·cases H
 refine W.good ?_
 rw [clavigerlaw26_Pkcs8Back.j0] at H
 rcases ifC H with ⟨c767,H⟩ | ⟨c767,H⟩
 ·refine Ct c767<|Sw ?_
  obtain ⟨t768,h769,H⟩:=bindS H
  refine Rh hN [B t768] (.cons (clavigerlaw26_awake.con h769).c .nil) ?_
  cases H
  exact Rt dR
 refine Cf (bf c767)<|Sk<|Sw<|Sw ?_
 obtain ⟨t770,h771,H⟩:=bindS H
 refine Rh hN [.tup [S t770.1,I t770.2]] (.cons (pkcs8_Encode.con h771).c .nil)<|Sw<|Rg hN<|Good.cut (fun st=>∃ n':Nat,n'≤k∧∃ (x1:ByteArray) (x1000:List Int) (x1001:List Int) (x1002:ByteArray) (x1003:ByteArray),Wk C st ⟨[(1,.w (S x1))],[.cells [.v (.row none 1 (List.map I x1000)),.v (.row none 1 (List.map I x1001)),.v (S x1002),.v (S x1003)]]⟩∧clavigerlaw26_Pkcs8Back.j1 n' x1=some r) ?_ ?_
 ·rcases (ifC H).symm with ⟨c772,H⟩ | ⟨c772,H⟩
  ·exact Cf (bn c772)<|Sk<|⟨k,by omega,x1,x1000,x1001,x1002,x1003,Wo [(1,0)],H⟩
  refine Ct (bq c772)<|Sw ?_
  obtain ⟨t773,h774,H⟩:=bindS H
  refine Rh hN [.tup [.agg [.row none 1 (List.map I t773.1),.row none 1 (List.map I t773.2.1),S t773.2.2.1,S t773.2.2.2.1],I t773.2.2.2.2]] (.cons (pkcs8_Decode.con h774).c .nil)<|Sw ?_
  rcases (ifC H).symm with ⟨c775,H⟩ | ⟨c775,H⟩
  ·refine Rh hN [B true] (.cons (nq c775) .nil)<|Good.cond true (by kernel_rfl)<|Sw<|Rg hN ?_
   cases H
   exact Rt dR
  obtain ⟨t776,h777,H⟩:=bindS H
  refine Rh hN [B false,B t776] (.cons (bneF c775) (.cons (clavigerlaw26_same.con h777).c .nil)) ?_
  rcases ifC H with ⟨c778,H⟩ | ⟨c778,H⟩
  ·exact Cf (notF c778)<|Sk<|⟨k,by omega,x1,x1000,x1001,x1002,x1003,Wk.ofB hL 1 [(1,0)] (by kernel_rfl) (by kernel_rfl) (by kernel_rfl),H⟩
  refine Ct (notT (bf c778))<|Sw<|Rg hN ?_
  cases H
  exact Rt dR
 clear H
 rintro st ⟨n',hn',x1,x1000,x1001,x1002,x1003,W,H⟩
 rcases n' with _ | k
 ·cases H
 refine W.good ?_
 rw [clavigerlaw26_Pkcs8Back.j1] at H
 refine Sw ?_
 obtain ⟨t779,h780,H⟩:=bindS H
 refine Rh hN [.tup [.agg [.row none 1 (List.map I t779.1),.row none 1 (List.map I t779.2.1),S t779.2.2.1,S t779.2.2.2.1],I t779.2.2.2.2]] (.cons (pkcs8_Decode.con h780).c .nil)<|Sw<|Sw<|Rg hN ?_
 rcases (ifC H).symm with ⟨c781,H⟩ | ⟨c781,H⟩
 ·refine Ct (nq c781)<|Sw ?_
  obtain ⟨t788,h789,H⟩:=bindS H
  rcases (ifC H).symm with ⟨c790,H⟩ | ⟨c790,H⟩
  ·refine Rh hN [B t788,B false] (.cons ((clavigerlaw26_same.con h789).n (.cons (.refl _) (.cons (.agg (.cons (.nilS 3 1 _) (.cons (.nilS 3 1 _) (.cons (.refl _) (.cons (.refl _) .nil))))) .nil))) (.cons (bf c790) .nil)) ?_
   cases H
   exact Rt dR
  obtain ⟨t791,h792,H⟩:=bindS H
  refine Rh hN [B t788,B true,B t791] (.cons ((clavigerlaw26_same.con h789).n (.cons (.refl _) (.cons (.agg (.cons (.nilS 3 1 _) (.cons (.nilS 3 1 _) (.cons (.refl _) (.cons (.refl _) .nil))))) .nil))) (.cons c790 (.cons (clavigerlaw26_awake.con h792).c .nil))) ?_
  cases H
  exact Rt dR
 refine Cf (bneF c781)<|Sk<|Sw ?_
 obtain ⟨t782,h783,H⟩:=bindS H
 refine Rh hN [.tup [S t782.1,I t782.2]] (.cons (pkcs8_Encode.con h783).c .nil)<|Sw ?_
 rcases (ifC H).symm with ⟨c784,H⟩ | ⟨c784,H⟩
 ·refine Rh hN [B false,B false] (.cons (bn c784) (.cons (rfl:false=false) .nil)) ?_
  cases H
  exact Rt dR
 rcases (ifC H).symm with ⟨c785,H⟩ | ⟨c785,H⟩
 ·refine Rh hN [B true,B false] (.cons (bq c784) (.cons (bn c785) .nil)) ?_
  cases H
  exact Rt dR
 obtain ⟨t786,h787,H⟩:=bindS H
 refine Rh hN [B true,B true,B t786] (.cons (bq c784) (.cons (bq c785) (.cons (clavigerlaw26_awake.con h787).c .nil))) ?_
 cases H
 exact Rt dR
end Go.Rf.T
