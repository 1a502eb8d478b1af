import Derived.Test.YtcbcojbhbhaimaaDoorTTreeBack0
set_option linter.unusedSectionVars false
set_option linter.unusedSimpArgs false
set_option linter.unusedVariables false
set_option linter.unusedVariables false
namespace Go.Rf.T
open Go Go.Rf Go.Proofs Go.RowKit Go.Proofs.YtcbcojbhbhaimaaDoor
def cr17_digits.l0:Nat→Int→ByteArray→Option (ByteArray)
 | 0,_,_=>none
 | k+1,x0,x3=>if x0 > 0 then (if (strOfNums ([(wrap64 (128+(Int.tmod x0 128))) % 256]:List Int)).size+x3.size≤9223372036854775807 then (cr17_digits.l0 k (wrap64 (Int.tdiv x0 128)) ((strOfNums ([(wrap64 (128+(Int.tmod x0 128))) % 256]:List Int))++x3)) else (none)) else (some x3)
def cr17_digits.f (k:Nat) (a0:Int):Option (ByteArray):=cr17_digits.l0 k (wrap64 (Int.tdiv a0 128)) (strOfNums ([(Int.tmod a0 128) % 256]:List Int))
theorem cr17_digits.con {k:Nat} {a0:Int} {r:(ByteArray)} (H:cr17_digits.f k a0=some r):Con Tryd.prog 84 [I a0] (S r):=by
 refine Cg Tryd.func84 rfl fun C hN hL=>?_
 unfold cr17_digits.f at H
 refine Sw<|Rg hN<|Sw<|Rh hN [S (strOfNums ([(Int.tmod a0 128) % 256]:List Int))] (.cons (show (128:Int)≠0 by decide) (.cons (strN ([(Int.tmod a0 128) % 256]:List Int)) .nil))<|Sw<|Rh hN [] (.cons (show (128:Int)≠0 by decide) .nil)<|Sw<|Bl<|Good.loopN (fun k' st=>∃ (x0:Int) (x3:ByteArray),k'≤k∧Wk C st ⟨[(0,.w (I x0)),(3,.w (S x3))],[]⟩∧cr17_digits.l0 k' x0 x3=some r) k ⟨wrap64 (Int.tdiv a0 128),strOfNums ([(Int.tmod a0 128) % 256]:List Int),Nat.le_refl _,Wo [(0,0),(3,0)],H⟩ fun k=>⟨fun st h=>(by obtain ⟨_,_,_,_,H⟩:=h;cases H),?_⟩
 clear H
 rintro st ⟨x0,x3,hk,W,H⟩
 refine W.good ?_
 rw [cr17_digits.l0] at H
 refine Sw<|Sw<|Rg hN ?_
 rcases (ifC H).symm with ⟨c706,H⟩ | ⟨c706,H⟩
 ·refine Cf (df c706)<|Ex<|Sw<|Rg hN ?_
  cases H
  exact Rt dR
 refine Ct (dt c706)<|Sk<|Bl<|Sw ?_
 obtain ⟨c707,H⟩:=ifS H
 exact Rh hN [S (strOfNums ([(wrap64 (128+(Int.tmod x0 128))) % 256]:List Int))] (.cons (show (128:Int)≠0 by decide) (.cons (strN ([(wrap64 (128+(Int.tmod x0 128))) % 256]:List Int)) (.cons c707 .nil)))<|Rh hN [] (.cons (show (128:Int)≠0 by decide) .nil)<|⟨k,by omega,wrap64 (Int.tdiv x0 128),(strOfNums ([(wrap64 (128+(Int.tmod x0 128))) % 256]:List Int))++x3,by omega,Wo [(0,0),(3,0)],H⟩
def cr17_Encode.l0:Nat→List Int→ByteArray→Int→Option (ByteArray × Bool)
 | 0,_,_,_=>none
 | k+1,x0,x4,x5=>if x5 < (x0.length:Int) then (if 0≤x5 then ((cr17_digits.f k (rd x0 x5)).bind fun t717=>(if x4.size+t717.size≤9223372036854775807 then (cr17_Encode.l0 k x0 (x4++t717) (wrap64 (x5+1))) else (none))) else (none)) else (some (x4,true))
def cr17_Encode.f (k:Nat) (l0:List Int):Option (ByteArray × Bool):=(cr17_Right.f k l0).bind fun t708=>(if t708=true then (if 0 < (l0.length:Int) then (if 1 < (l0.length:Int) then ((cr17_digits.f k (wrap64 ((wrap64 (40*(rd l0 0)))+(rd l0 1)))).bind fun t713=>(cr17_Encode.l0 k l0 t713 2)) else (none)) else (none)) else (some ((⟨#[]⟩:ByteArray),false)))
theorem cr17_Encode.con {k:Nat} {l0:List Int} {r:(ByteArray × Bool)} (H:cr17_Encode.f k l0=some r):Con Tryd.prog 76 [.row none 1 (List.map I l0)] (.tup [S r.1,B r.2]):=by
 refine Cg Tryd.func76 rfl fun C hN hL=>?_
 unfold cr17_Encode.f at H
 refine Sw<|Rg hN<|Sw<|Sw ?_
 obtain ⟨t708,h709,H⟩:=bindS H
 refine Rh hN [B t708] (.cons (cr17_Right.con h709).c .nil) ?_
 rcases (ifC H).symm with ⟨c710,H⟩ | ⟨c710,H⟩
 ·refine Ct (notT (bf c710))<|Sw<|Rg hN ?_
  cases H
  exact Rt dR
 refine Cf (notF c710)<|Sk<|Sw ?_
 obtain ⟨c711,H⟩:=ifS H
 obtain ⟨c712,H⟩:=ifS H
 obtain ⟨t713,h714,H⟩:=bindS H
 refine Rd hm hN (.qs 8 0 (.e 8 (.q 9 [] .z))) [(0,none)] .nil [I (rd l0 0),I (rd l0 1),S t713] [I (rd l0 0),I (rd l0 1)] (.cons (show (0:Int)≤0 by decide) (.cons (atM I (0:Int) (show (0:Int)≤0 by decide) c711) (.cons (show (0:Int)≤1 by decide) (.cons (atM I (0:Int) (show (0:Int)≤1 by decide) c712) (.cons (cr17_digits.con h714).c .nil))))) (.cons (show (0:Int)≤0 by decide) (.cons (atM I (0:Int) (show (0:Int)≤0 by decide) c711) (.cons (show (0:Int)≤1 by decide) (.cons (atM I (0:Int) (show (0:Int)≤1 by decide) c712) .nil)))) [] []<|Sw<|Sw<|Rg hN<|Bl<|Good.loopN (fun k' st=>∃ (x0:List Int) (x4:ByteArray) (x5:Int),k'≤k∧Wk C st ⟨[(0,.w (.row none 1 (List.map I x0))),(4,.w (S x4)),(5,.w (I x5))],[]⟩∧cr17_Encode.l0 k' x0 x4 x5=some r) k ⟨l0,t713,2,Nat.le_refl _,Wo [(0,0),(4,0),(5,0)],H⟩ fun k=>⟨fun st h=>(by obtain ⟨_,_,_,_,_,H⟩:=h;cases H),?_⟩
 clear H
 rintro st ⟨x0,x4,x5,hk,W,H⟩
 refine W.good ?_
 rw [cr17_Encode.l0] at H
 refine Sw<|Sw<|Rh hN [I (x0.length:Int)] (.cons (lenM I x0) .nil) ?_
 rcases (ifC H).symm with ⟨c715,H⟩ | ⟨c715,H⟩
 ·refine Cf (df c715)<|Ex<|Sw<|Rg hN ?_
  cases H
  exact Rt dR
 refine Ct (dt c715)<|Sk<|Sw<|Bl ?_
 obtain ⟨c716,H⟩:=ifS H
 obtain ⟨t717,h718,H⟩:=bindS H
 obtain ⟨c719,H⟩:=ifS H
 exact Rh hN [I (rd x0 x5),S t717] (.cons c716 (.cons (atM I (0:Int) c716 c715) (.cons (cr17_digits.con h718).c (.cons c719 .nil))))<|Rg hN<|⟨k,by omega,x0,x4++t717,wrap64 (x5+1),by omega,Wo [(0,0),(4,0),(5,0)],H⟩
mutual
def cr17_Decode.l0:Nat→ByteArray→List Int→Int→Int→Option (List Int × Bool)
 | 0,_,_,_,_=>none
 | k+1,x0,x4,x5,x6=>if x6 < (x0.size:Int) then (cr17_Decode.j1 k x0 x4 x5 x6 (decide ((x4.length:Int) < 21))) else (cr17_Decode.j1 k x0 x4 x5 x6 false)
def cr17_Decode.j1:Nat→ByteArray→List Int→Int→Int→Bool→Option (List Int × Bool)
 | 0,_,_,_,_,_=>none
 | k+1,x0,x4,x5,x6,x18=>if x18=true then (if 0≤x6 then (if x6 < (x0.size:Int) then (if (wrap64 ((wrap64 (128*x5))+(Int.tmod (wrap64 (bt x0 x6)) 128))) > 4294967296 then (some (([]:List Int),false)) else (if (bt x0 x6) > 127 then (cr17_Decode.l0 k x0 x4 (wrap64 ((wrap64 (128*x5))+(Int.tmod (wrap64 (bt x0 x6)) 128))) (wrap64 (x6+1))) else (if (x4.length:Int)=0 then (if (wrap64 (Int.tdiv (wrap64 ((wrap64 (128*x5))+(Int.tmod (wrap64 (bt x0 x6)) 128))) 40)) > 2 then (if x4.length < 17592186044416 then ((some (x4++[2]:List Int)).bind fun y748=>(if y748.length < 17592186044416 then (cr17_Decode.l0 k x0 (y748++[wrap64 ((wrap64 ((wrap64 (128*x5))+(Int.tmod (wrap64 (bt x0 x6)) 128))) - 80)]) 0 (wrap64 (x6+1))) else (none))) else (none)) else (if x4.length < 17592186044416 then ((some (x4++[wrap64 (Int.tdiv (wrap64 ((wrap64 (128*x5))+(Int.tmod (wrap64 (bt x0 x6)) 128))) 40)]:List Int)).bind fun y752=>(if y752.length < 17592186044416 then (cr17_Decode.l0 k x0 (y752++[wrap64 ((wrap64 ((wrap64 (128*x5))+(Int.tmod (wrap64 (bt x0 x6)) 128))) - (wrap64 (40*(wrap64 (Int.tdiv (wrap64 ((wrap64 (128*x5))+(Int.tmod (wrap64 (bt x0 x6)) 128))) 40)))))]) 0 (wrap64 (x6+1))) else (none))) else (none))) else (if x4.length < 17592186044416 then (cr17_Decode.l0 k x0 (x4++[wrap64 ((wrap64 (128*x5))+(Int.tmod (wrap64 (bt x0 x6)) 128))]) 0 (wrap64 (x6+1))) else (none))))) else (none)) else (none)) else ((cr17_Encode.f k x4).bind fun t737=>(if t737.2=true then (if t737.1.toList=x0.toList then (some (x4,true)) else (some (([]:List Int),false))) else (some (([]:List Int),false))))
end
def cr17_Decode.f (k:Nat) (a0:ByteArray):Option (List Int × Bool):=cr17_Decode.l0 k a0 ([]:List Int) 0 0
theorem cr17_Decode.con {k:Nat} {a0:ByteArray} {r:(List Int × Bool)} (H:cr17_Decode.f k a0=some r):Con Tryd.prog 65 [S a0] (.tup [.row none 1 (List.map I r.1),B r.2]):=by
 refine Cg Tryd.func65 rfl fun C hN hL=>?_
 unfold cr17_Decode.f at H
 refine Sw<|Rg hN<|Sw<|Rg hN<|Sw<|Rg hN<|Sw<|Sw<|Rg hN<|Bl<|Good.loopN (fun k' st=>∃ (x0:ByteArray) (x4:List Int) (x5:Int) (x6:Int),k'≤k∧Wk C st ⟨[(0,.w (S x0)),(4,.w (.row (some 3) 1 (List.map I x4))),(5,.w (I x5)),(6,.w (I x6))],[]⟩∧cr17_Decode.l0 k' x0 x4 x5 x6=some r) k ⟨a0,([]:List Int),0,0,Nat.le_refl _,Wo [(0,0),(4,1),(5,0),(6,0)],H⟩ fun k=>⟨fun st h=>(by obtain ⟨_,_,_,_,_,_,H⟩:=h;cases H),?_⟩
 clear H
 rintro st ⟨x0,x4,x5,x6,hk,W,H⟩
 refine W.good ?_
 rw [cr17_Decode.l0] at H
 refine Sw<|Sw<|Good.cut (fun st=>∃ n':Nat,n'≤k∧∃ (x0:ByteArray) (x4:List Int) (x5:Int) (x6:Int) (x18:Bool),Wk C st ⟨[(0,.w (S x0)),(4,.w (.row (some 3) 1 (List.map I x4))),(5,.w (I x5)),(6,.w (I x6)),(18,.w (B x18))],[]⟩∧cr17_Decode.j1 n' x0 x4 x5 x6 x18=some r) ?_ ?_
 ·rcases ifC H with ⟨c735,H⟩ | ⟨c735,H⟩
  ·exact Rh hN [B true,I (x4.length:Int)] (.cons (dt c735) (.cons (lenM I x4) .nil))<|⟨k,by omega,x0,x4,x5,x6,decide ((x4.length:Int) < 21),Wo [(0,0),(4,0),(5,0),(6,0),(18,0)],H⟩
  exact Rh hN [B false] (.cons (df c735) .nil)<|⟨k,by omega,x0,x4,x5,x6,false,Wo [(0,0),(4,0),(5,0),(6,0),(18,0)],H⟩
 clear H
 rintro st ⟨n',hn',x0,x4,x5,x6,x18,W,H⟩
 rcases n' with _ | k
 ·cases H
 refine W.good ?_
 rw [cr17_Decode.j1] at H
 rcases (ifC H).symm with ⟨c736,H⟩ | ⟨c736,H⟩
 ·refine Cf (bf c736)<|Ex<|Sw ?_
  obtain ⟨t737,h738,H⟩:=bindS H
  refine Rh hN [.row none 1 (List.map I x4),.tup [S t737.1,B t737.2]] (.cons (shrM (some 3) 1 I I x4 (fun _=>rfl)) (.cons (cr17_Encode.con h738).c .nil))<|Sw<|Sw ?_
  rcases (ifC H).symm with ⟨c739,H⟩ | ⟨c739,H⟩
  ·refine Rh hN [B true] (.cons (notT (bf c739)) .nil)<|Good.cond true (by kernel_rfl)<|Sw<|Rg hN ?_
   cases H
   exact Good.ret (fin_fit (u:=.tup [.nil 3 1,B false]) (.tup (.cons (.nilS 3 1 _) (.cons (.refl _) .nil))) (by kernel_rfl))
  refine Rh hN [B false] (.cons (notF c739) .nil) ?_
  rcases (ifC H).symm with ⟨c740,H⟩ | ⟨c740,H⟩
  ·refine Ct (nq c740)<|Sw<|Rg hN ?_
   cases H
   exact Good.ret (fin_fit (u:=.tup [.nil 3 1,B false]) (.tup (.cons (.nilS 3 1 _) (.cons (.refl _) .nil))) (by kernel_rfl))
  refine Cf (bneF c740)<|Sk<|Sw<|Rg hN ?_
  cases H
  exact Rt dR
 refine Ct c736<|Sk<|Sw<|Bl<|Sw ?_
 obtain ⟨c741,H⟩:=ifS H
 obtain ⟨c742,H⟩:=ifS H
 refine Rh hN [] (.cons c741 (.cons c742 (.cons (show (128:Int)≠0 by decide) .nil)))<|Sw<|Sw<|Rg hN ?_
 rcases ifC H with ⟨c743,H⟩ | ⟨c743,H⟩
 ·refine Ct (dt c743)<|Sw<|Rg hN ?_
  cases H
  exact Good.ret (fin_fit (u:=.tup [.nil 3 1,B false]) (.tup (.cons (.nilS 3 1 _) (.cons (.refl _) .nil))) (by kernel_rfl))
 refine Cf (df c743)<|Sk<|Sw<|Sw<|Rh hN [] (.cons c741 (.cons c742 .nil)) ?_
 rcases ifC H with ⟨c744,H⟩ | ⟨c744,H⟩
 ·exact Ct (dt c744)<|Ex<|Rg hN<|⟨k,by omega,x0,x4,wrap64 ((wrap64 (128*x5))+(Int.tmod (wrap64 (bt x0 x6)) 128)),wrap64 (x6+1),by omega,Wo [(0,0),(4,0),(5,0),(6,0)],H⟩
 refine Cf (df c744)<|Sk<|Sw<|Sw<|Rh hN [I (x4.length:Int)] (.cons (lenM I x4) .nil) ?_
 rcases (ifC H).symm with ⟨c745,H⟩ | ⟨c745,H⟩
 ·refine Cf (bn c745)<|Sk<|Sw ?_
  obtain ⟨c755,H⟩:=ifS H
  exact Rh hN [.kb true,.row (some 3) 1 (List.map I (x4++[wrap64 ((wrap64 (128*x5))+(Int.tmod (wrap64 (bt x0 x6)) 128))]))] (.cons (fitM I x4 [wrap64 ((wrap64 (128*x5))+(Int.tmod (wrap64 (bt x0 x6)) 128))] (.refl _)) (.cons (limM1 I c755) .nil))<|Rg hN<|Rg hN<|⟨k,by omega,x0,(x4++[wrap64 ((wrap64 (128*x5))+(Int.tmod (wrap64 (bt x0 x6)) 128))]),0,wrap64 (x6+1),by omega,Wo [(0,0),(4,0),(5,0),(6,0)],H⟩
 refine Ct (bq c745)<|Sw<|Rh hN [] (.cons (show (40:Int)≠0 by decide) .nil)<|Sw<|Sw<|Rg hN ?_
 rcases ifC H with ⟨c746,H⟩ | ⟨c746,H⟩
 ·refine Ct (dt c746)<|Rg hN<|Sw ?_
  obtain ⟨c747,H⟩:=ifS H
  replace H:=bindI H
  refine Rh hN [.kb true,.row (some 3) 1 (List.map I (x4++[2]))] (.cons (fitM I x4 [2] (.refl _)) (.cons (limM1 I c747) .nil))<|Rg hN<|Sw ?_
  obtain ⟨c749,H⟩:=ifS H
  exact Rh hN [.kb true,.row (some 3) 1 (List.map I ((x4++[2])++[wrap64 ((wrap64 ((wrap64 (128*x5))+(Int.tmod (wrap64 (bt x0 x6)) 128))) - 80)]))] (.cons (fitM I (x4++[2]) [wrap64 ((wrap64 ((wrap64 (128*x5))+(Int.tmod (wrap64 (bt x0 x6)) 128))) - 80)] (.refl _)) (.cons (limM1 I c749) .nil))<|Rg hN<|Rg hN<|⟨k,by omega,x0,((x4++[2])++[wrap64 ((wrap64 ((wrap64 (128*x5))+(Int.tmod (wrap64 (bt x0 x6)) 128))) - 80)]),0,wrap64 (x6+1),by omega,Wo [(0,0),(4,0),(5,0),(6,0)],H⟩
 refine Cf (df c746)<|Sk<|Sw ?_
 obtain ⟨c751,H⟩:=ifS H
 replace H:=bindI H
 refine Rh hN [.kb true,.row (some 3) 1 (List.map I (x4++[wrap64 (Int.tdiv (wrap64 ((wrap64 (128*x5))+(Int.tmod (wrap64 (bt x0 x6)) 128))) 40)]))] (.cons (fitM I x4 [wrap64 (Int.tdiv (wrap64 ((wrap64 (128*x5))+(Int.tmod (wrap64 (bt x0 x6)) 128))) 40)] (.refl _)) (.cons (limM1 I c751) .nil))<|Rg hN<|Sw ?_
 obtain ⟨c753,H⟩:=ifS H
 exact Rh hN [.kb true,.row (some 3) 1 (List.map I ((x4++[wrap64 (Int.tdiv (wrap64 ((wrap64 (128*x5))+(Int.tmod (wrap64 (bt x0 x6)) 128))) 40)])++[wrap64 ((wrap64 ((wrap64 (128*x5))+(Int.tmod (wrap64 (bt x0 x6)) 128))) - (wrap64 (40*(wrap64 (Int.tdiv (wrap64 ((wrap64 (128*x5))+(Int.tmod (wrap64 (bt x0 x6)) 128))) 40)))))]))] (.cons (fitM I (x4++[wrap64 (Int.tdiv (wrap64 ((wrap64 (128*x5))+(Int.tmod (wrap64 (bt x0 x6)) 128))) 40)]) [wrap64 ((wrap64 ((wrap64 (128*x5))+(Int.tmod (wrap64 (bt x0 x6)) 128))) - (wrap64 (40*(wrap64 (Int.tdiv (wrap64 ((wrap64 (128*x5))+(Int.tmod (wrap64 (bt x0 x6)) 128))) 40)))))] (.refl _)) (.cons (limM1 I c753) .nil))<|Rg hN<|Rg hN<|⟨k,by omega,x0,((x4++[wrap64 (Int.tdiv (wrap64 ((wrap64 (128*x5))+(Int.tmod (wrap64 (bt x0 x6)) 128))) 40)])++[wrap64 ((wrap64 ((wrap64 (128*x5))+(Int.tmod (wrap64 (bt x0 x6)) 128))) - (wrap64 (40*(wrap64 (Int.tdiv (wrap64 ((wrap64 (128*x5))+(Int.tmod (wrap64 (bt x0 x6)) 128))) 40)))))]),0,wrap64 (x6+1),by omega,Wo [(0,0),(4,0),(5,0),(6,0)],H⟩
def cr18_point.l0:Nat→ByteArray→Int→Int→Int→Int→Option (Int)
 | 0,_,_,_,_,_=>none
 | k+1,x0,x4,x5,x6,x7=>if x7≤x5 then (if 0≤x7 then (if x7 < (x0.size:Int) then (if (bt x0 x7) < 128 then (some 0) else (if (bt x0 x7) > 191 then (some 0) else (cr18_point.l0 k x0 (wrap64 ((wrap64 ((wrap64 (64*x4))+(wrap64 (bt x0 x7)))) - 128)) x5 x6 (wrap64 (x7+1))))) else (none)) else (none)) else (if x4 < x6 then (some 0) else (if x4 > 1114111 then (some 0) else (if x4 > 55295 then (if x4 < 57344 then (some 0) else (some (wrap64 (x5+1)))) else (some (wrap64 (x5+1))))))
def cr18_point.j6:Nat→ByteArray→Int→Int→Int→Bool→Option (Int)
 | 0,_,_,_,_,_=>none
 | k+1,x0,x4,x5,x6,x44=>if x44=true then (some 0) else (cr18_point.l0 k x0 x4 x5 x6 1)
def cr18_point.j5:Nat→ByteArray→Int→Int→Int→Option (Int)
 | 0,_,_,_,_=>none
 | k+1,x0,x4,x5,x6=>if x5=0 then (cr18_point.j6 k x0 x4 x5 x6 true) else (cr18_point.j6 k x0 x4 x5 x6 (decide ((x0.size:Int)≤x5)))
def cr18_point.j4:Nat→ByteArray→Int→Int→Int→Int→Bool→Option (Int)
 | 0,_,_,_,_,_,_=>none
 | k+1,x0,x3,x4,x5,x6,x34=>if x34=true then (cr18_point.j5 k x0 (wrap64 (x3 - 240)) 3 65536) else (cr18_point.j5 k x0 x4 x5 x6)
def cr18_point.j3:Nat→ByteArray→Int→Int→Int→Int→Option (Int)
 | 0,_,_,_,_,_=>none
 | k+1,x0,x3,x4,x5,x6=>if x3≥240 then (cr18_point.j4 k x0 x3 x4 x5 x6 (decide (x3 < 248))) else (cr18_point.j4 k x0 x3 x4 x5 x6 false)
def cr18_point.j2:Nat→ByteArray→Int→Int→Int→Int→Bool→Option (Int)
 | 0,_,_,_,_,_,_=>none
 | k+1,x0,x3,x4,x5,x6,x26=>if x26=true then (cr18_point.j3 k x0 x3 (wrap64 (x3 - 224)) 2 2048) else (cr18_point.j3 k x0 x3 x4 x5 x6)
def cr18_point.j1:Nat→ByteArray→Int→Int→Int→Int→Option (Int)
 | 0,_,_,_,_,_=>none
 | k+1,x0,x3,x4,x5,x6=>if x3≥224 then (cr18_point.j2 k x0 x3 x4 x5 x6 (decide (x3 < 240))) else (cr18_point.j2 k x0 x3 x4 x5 x6 false)
def cr18_point.j0:Nat→ByteArray→Int→Int→Int→Int→Bool→Option (Int)
 | 0,_,_,_,_,_,_=>none
 | k+1,x0,x3,x4,x5,x6,x18=>if x18=true then (cr18_point.j1 k x0 x3 (wrap64 (x3 - 192)) 1 128) else (cr18_point.j1 k x0 x3 x4 x5 x6)
def cr18_point.f (k:Nat) (a0:ByteArray):Option (Int):=if 0 < (a0.size:Int) then (if (wrap64 (bt a0 0)) < 128 then (some 1) else (if (wrap64 (bt a0 0))≥192 then (cr18_point.j0 k a0 (wrap64 (bt a0 0)) 0 0 0 (decide ((wrap64 (bt a0 0)) < 224))) else (cr18_point.j0 k a0 (wrap64 (bt a0 0)) 0 0 0 false))) else (none)
theorem cr18_point.con {k:Nat} {a0:ByteArray} {r:(Int)} (H:cr18_point.f k a0=some r):Con Tryd.prog 77 [S a0] (I r):=by
 refine Cg Tryd.func77 rfl fun C hN hL=>?_
 unfold cr18_point.f at H
 refine Sw<|Rg hN<|Sw ?_
 obtain ⟨c757,H⟩:=ifS H
 refine Rh hN [] (.cons (show (0:Int)≤0 by decide) (.cons c757 .nil))<|Sw<|Rg hN<|Sw<|Sw<|Rg hN ?_
 rcases ifC H with ⟨c758,H⟩ | ⟨c758,H⟩
 ·refine Ct (dt c758)<|Sw<|Rg hN ?_
  cases H
  exact Rt dR
 refine Cf (df c758)<|Sk<|Sw<|Sw<|Good.cut (fun st=>∃ n':Nat,n'≤k∧∃ (x0:ByteArray) (x3:Int) (x4:Int) (x5:Int) (x6:Int) (x18:Bool),Wk C st ⟨[(0,.w (S x0)),(3,.w (I x3)),(4,.w (I x4)),(5,.w (I x5)),(6,.w (I x6)),(18,.w (B x18))],[]⟩∧cr18_point.j0 n' x0 x3 x4 x5 x6 x18=some r) ?_ ?_
 ·rcases ifC H with ⟨c759,H⟩ | ⟨c759,H⟩
  ·exact Rh hN [B true] (.cons (dt c759) .nil)<|⟨k,by omega,a0,wrap64 (bt a0 0),0,0,0,decide ((wrap64 (bt a0 0)) < 224),Wo [(0,0),(3,0),(4,0),(5,0),(6,0),(18,0)],H⟩
  exact Rh hN [B false] (.cons (df c759) .nil)<|⟨k,by omega,a0,wrap64 (bt a0 0),0,0,0,false,Wo [(0,0),(3,0),(4,0),(5,0),(6,0),(18,0)],H⟩
 clear H
 rintro st ⟨n',hn',x0,x3,x4,x5,x6,x18,W,H⟩
 rcases n' with _ | k
 ·cases H
 refine W.good ?_
 rw [cr18_point.j0] at H
 refine Good.cut (fun st=>∃ n':Nat,n'≤k∧∃ (x0:ByteArray) (x3:Int) (x4:Int) (x5:Int) (x6:Int),Wk C st ⟨[(0,.w (S x0)),(3,.w (I x3)),(4,.w (I x4)),(5,.w (I x5)),(6,.w (I x6))],[]⟩∧cr18_point.j1 n' x0 x3 x4 x5 x6=some r) ?_ ?_
 ·rcases ifC H with ⟨c760,H⟩ | ⟨c760,H⟩
  ·exact Ct c760<|Rg hN<|⟨k,by omega,x0,x3,wrap64 (x3 - 192),1,128,Wo [(0,0),(3,0),(4,0),(5,0),(6,0)],H⟩
  exact Cf (bf c760)<|Sk<|⟨k,by omega,x0,x3,x4,x5,x6,Wo [(0,0),(3,0),(4,0),(5,0),(6,0)],H⟩
 clear H
 rintro st ⟨n',hn',x0,x3,x4,x5,x6,W,H⟩
 rcases n' with _ | k
 ·cases H
 refine W.good ?_
 rw [cr18_point.j1] at H
 refine Sw<|Sw<|Good.cut (fun st=>∃ n':Nat,n'≤k∧∃ (x0:ByteArray) (x3:Int) (x4:Int) (x5:Int) (x6:Int) (x26:Bool),Wk C st ⟨[(0,.w (S x0)),(3,.w (I x3)),(4,.w (I x4)),(5,.w (I x5)),(6,.w (I x6)),(26,.w (B x26))],[]⟩∧cr18_point.j2 n' x0 x3 x4 x5 x6 x26=some r) ?_ ?_
 ·rcases ifC H with ⟨c761,H⟩ | ⟨c761,H⟩
  ·exact Rh hN [B true] (.cons (dt c761) .nil)<|⟨k,by omega,x0,x3,x4,x5,x6,decide (x3 < 240),Wo [(0,0),(3,0),(4,0),(5,0),(6,0),(26,0)],H⟩
  exact Rh hN [B false] (.cons (df c761) .nil)<|⟨k,by omega,x0,x3,x4,x5,x6,false,Wo [(0,0),(3,0),(4,0),(5,0),(6,0),(26,0)],H⟩
 clear H
 rintro st ⟨n',hn',x0,x3,x4,x5,x6,x26,W,H⟩
 rcases n' with _ | k
 ·cases H
 refine W.good ?_
 rw [cr18_point.j2] at H
 refine Good.cut (fun st=>∃ n':Nat,n'≤k∧∃ (x0:ByteArray) (x3:Int) (x4:Int) (x5:Int) (x6:Int),Wk C st ⟨[(0,.w (S x0)),(3,.w (I x3)),(4,.w (I x4)),(5,.w (I x5)),(6,.w (I x6))],[]⟩∧cr18_point.j3 n' x0 x3 x4 x5 x6=some r) ?_ ?_
 ·rcases ifC H with ⟨c762,H⟩ | ⟨c762,H⟩
  ·exact Ct c762<|Rg hN<|⟨k,by omega,x0,x3,wrap64 (x3 - 224),2,2048,Wo [(0,0),(3,0),(4,0),(5,0),(6,0)],H⟩
  exact Cf (bf c762)<|Sk<|⟨k,by omega,x0,x3,x4,x5,x6,Wo [(0,0),(3,0),(4,0),(5,0),(6,0)],H⟩
 clear H
 rintro st ⟨n',hn',x0,x3,x4,x5,x6,W,H⟩
 rcases n' with _ | k
 ·cases H
 refine W.good ?_
 rw [cr18_point.j3] at H
 refine Sw<|Sw<|Good.cut (fun st=>∃ n':Nat,n'≤k∧∃ (x0:ByteArray) (x3:Int) (x4:Int) (x5:Int) (x6:Int) (x34:Bool),Wk C st ⟨[(0,.w (S x0)),(3,.w (I x3)),(4,.w (I x4)),(5,.w (I x5)),(6,.w (I x6)),(34,.w (B x34))],[]⟩∧cr18_point.j4 n' x0 x3 x4 x5 x6 x34=some r) ?_ ?_
 ·rcases ifC H with ⟨c763,H⟩ | ⟨c763,H⟩
  ·exact Rh hN [B true] (.cons (dt c763) .nil)<|⟨k,by omega,x0,x3,x4,x5,x6,decide (x3 < 248),Wo [(0,0),(3,0),(4,0),(5,0),(6,0),(34,0)],H⟩
  exact Rh hN [B false] (.cons (df c763) .nil)<|⟨k,by omega,x0,x3,x4,x5,x6,false,Wo [(0,0),(3,0),(4,0),(5,0),(6,0),(34,0)],H⟩
 clear H
 rintro st ⟨n',hn',x0,x3,x4,x5,x6,x34,W,H⟩
 rcases n' with _ | k
 ·cases H
 refine W.good ?_
 rw [cr18_point.j4] at H
 refine Good.cut (fun st=>∃ n':Nat,n'≤k∧∃ (x0:ByteArray) (x4:Int) (x5:Int) (x6:Int),Wk C st ⟨[(0,.w (S x0)),(4,.w (I x4)),(5,.w (I x5)),(6,.w (I x6))],[]⟩∧cr18_point.j5 n' x0 x4 x5 x6=some r) ?_ ?_
 ·rcases ifC H with ⟨c764,H⟩ | ⟨c764,H⟩
  ·exact Ct c764<|Rg hN<|⟨k,by omega,x0,wrap64 (x3 - 240),3,65536,Wo [(0,0),(4,0),(5,0),(6,0)],H⟩
  exact Cf (bf c764)<|Sk<|⟨k,by omega,x0,x4,x5,x6,Wo [(0,0),(4,0),(5,0),(6,0)],H⟩
 clear H
 rintro st ⟨n',hn',x0,x4,x5,x6,W,H⟩
 rcases n' with _ | k
 ·cases H
 refine W.good ?_
 rw [cr18_point.j5] at H
 refine Sw<|Sw<|Good.cut (fun st=>∃ n':Nat,n'≤k∧∃ (x0:ByteArray) (x4:Int) (x5:Int) (x6:Int) (x44:Bool),Wk C st ⟨[(0,.w (S x0)),(4,.w (I x4)),(5,.w (I x5)),(6,.w (I x6)),(44,.w (B x44))],[]⟩∧cr18_point.j6 n' x0 x4 x5 x6 x44=some r) ?_ ?_
 ·rcases ifC H with ⟨c765,H⟩ | ⟨c765,H⟩
  ·exact Rh hN [B true] (.cons (bq c765) .nil)<|⟨k,by omega,x0,x4,x5,x6,true,Wo [(0,0),(4,0),(5,0),(6,0),(44,0)],H⟩
  exact Rh hN [B false] (.cons (bn c765) .nil)<|⟨k,by omega,x0,x4,x5,x6,decide ((x0.size:Int)≤x5),Wo [(0,0),(4,0),(5,0),(6,0),(44,0)],H⟩
 clear H
 rintro st ⟨n',hn',x0,x4,x5,x6,x44,W,H⟩
 rcases n' with _ | k
 ·cases H
 refine W.good ?_
 rw [cr18_point.j6] at H
 rcases ifC H with ⟨c766,H⟩ | ⟨c766,H⟩
 ·refine Ct c766<|Sw<|Rg hN ?_
  cases H
  exact Rt dR
 refine Cf (bf c766)<|Sk<|Sw<|Sw<|Rg hN<|Bl<|Good.loopN (fun k' st=>∃ (x0:ByteArray) (x4:Int) (x5:Int) (x6:Int) (x7:Int),k'≤k∧Wk C st ⟨[(0,.w (S x0)),(4,.w (I x4)),(5,.w (I x5)),(6,.w (I x6)),(7,.w (I x7))],[]⟩∧cr18_point.l0 k' x0 x4 x5 x6 x7=some r) k ⟨x0,x4,x5,x6,1,Nat.le_refl _,Wo [(0,0),(4,0),(5,0),(6,0),(7,0)],H⟩ fun k=>⟨fun st h=>(by obtain ⟨_,_,_,_,_,_,_,H⟩:=h;cases H),?_⟩
 clear H
 rintro st ⟨x0,x4,x5,x6,x7,hk,W,H⟩
 refine W.good ?_
 rw [cr18_point.l0] at H
 refine Sw<|Sw<|Rg hN ?_
 rcases ifC H with ⟨c767,H⟩ | ⟨c767,H⟩
 ·refine Ct (dt c767)<|Sk<|Sw<|Bl<|Sw<|Sw ?_
  obtain ⟨c768,H⟩:=ifS H
  obtain ⟨c769,H⟩:=ifS H
  rcases ifC H with ⟨c770,H⟩ | ⟨c770,H⟩
  ·refine Rh hN [B true] (.cons c768 (.cons c769 (.cons (dt c770) .nil)))<|Good.cond true (by kernel_rfl)<|Sw<|Rg hN ?_
   cases H
   exact Rt dR
  refine Rh hN [B false] (.cons c768 (.cons c769 (.cons (df c770) (.cons c768 (.cons c769 .nil))))) ?_
  rcases ifC H with ⟨c771,H⟩ | ⟨c771,H⟩
  ·refine Ct (dt c771)<|Sw<|Rg hN ?_
   cases H
   exact Rt dR
  exact Cf (df c771)<|Sk<|Rh hN [] (.cons c768 (.cons c769 .nil))<|Rg hN<|⟨k,by omega,x0,wrap64 ((wrap64 ((wrap64 (64*x4))+(wrap64 (bt x0 x7)))) - 128),x5,x6,wrap64 (x7+1),by omega,Wo [(0,0),(4,0),(5,0),(6,0),(7,0)],H⟩
 refine Cf (df c767)<|Ex<|Sw<|Sw ?_
 rcases ifC H with ⟨c772,H⟩ | ⟨c772,H⟩
 ·refine Rh hN [B true,B true] (.cons (dt c772) (.cons (rfl:true=true) .nil))<|Good.cond true (by kernel_rfl)<|Sw<|Rg hN ?_
  cases H
  exact Rt dR
 rcases ifC H with ⟨c773,H⟩ | ⟨c773,H⟩
 ·refine Rh hN [B false,B true] (.cons (df c772) (.cons (dt c773) .nil))<|Good.cond true (by kernel_rfl)<|Sw<|Rg hN ?_
  cases H
  exact Rt dR
 rcases (ifC H).symm with ⟨c774,H⟩ | ⟨c774,H⟩
 ·refine Rh hN [B false,B false,B false] (.cons (df c772) (.cons (df c773) (.cons (df c774) .nil)))<|Good.cond false (by kernel_rfl)<|Sk<|Sw<|Rg hN ?_
  cases H
  exact Rt dR
 refine Rh hN [B false,B false,B true] (.cons (df c772) (.cons (df c773) (.cons (dt c774) .nil))) ?_
 rcases ifC H with ⟨c775,H⟩ | ⟨c775,H⟩
 ·refine Ct (dt c775)<|Sw<|Rg hN ?_
  cases H
  exact Rt dR
 refine Cf (df c775)<|Sk<|Sw<|Rg hN ?_
 cases H
 exact Rt dR
def cr18_Utf.l0:Nat→ByteArray→Option (Bool)
 | 0,_=>none
 | k+1,x0=>if (x0.size:Int) > 0 then ((cr18_point.f k x0).bind fun t777=>(if t777=0 then (some false) else (if 0≤t777 then (if t777≤(x0.size:Int) then (cr18_Utf.l0 k (x0.extract (t777:Int).toNat x0.size)) else (none)) else (none)))) else (some true)
def cr18_Utf.f (k:Nat) (a0:ByteArray):Option (Bool):=cr18_Utf.l0 k a0
theorem cr18_Utf.con {k:Nat} {a0:ByteArray} {r:(Bool)} (H:cr18_Utf.f k a0=some r):Con Tryd.prog 66 [S a0] (B r):=by
 refine Cg Tryd.func66 rfl fun C hN hL=>?_
 unfold cr18_Utf.f at H
 refine Sw<|Rg hN<|Sw<|Bl<|Good.loopN (fun k' st=>∃ (x0:ByteArray),k'≤k∧Wk C st ⟨[(0,.w (S x0))],[]⟩∧cr18_Utf.l0 k' x0=some r) k ⟨a0,Nat.le_refl _,Wo [(0,0)],H⟩ fun k=>⟨fun st h=>(by obtain ⟨_,_,_,H⟩:=h;cases H),?_⟩
 clear H
 rintro st ⟨x0,hk,W,H⟩
 refine W.good ?_
 rw [cr18_Utf.l0] at H
 refine Sw<|Sw<|Rg hN ?_
 rcases (ifC H).symm with ⟨c776,H⟩ | ⟨c776,H⟩
 ·refine Cf (df c776)<|Ex<|Sw<|Rg hN ?_
  cases H
  exact Rt dR
 refine Ct (dt c776)<|Sk<|Bl<|Sw ?_
 obtain ⟨t777,h778,H⟩:=bindS H
 refine Rh hN [I t777] (.cons (cr18_point.con h778).c .nil)<|Sw<|Sw<|Rg hN ?_
 rcases ifC H with ⟨c779,H⟩ | ⟨c779,H⟩
 ·refine Ct (bq c779)<|Sw<|Rg hN ?_
  cases H
  exact Rt dR
 refine Cf (bn c779)<|Sk ?_
 obtain ⟨c780,H⟩:=ifS H
 obtain ⟨c781,H⟩:=ifS H
 exact Rh hN [] (.cons c780 (.cons c781 .nil))<|⟨k,by omega,x0.extract (t777:Int).toNat x0.size,by omega,Wo [(0,0)],H⟩
mutual
def cr18_Printable.l0:Nat→ByteArray→Int→Option (Bool)
 | 0,_,_=>none
 | k+1,x0,x3=>if x3 < (x0.size:Int) then (cr18_Printable.l1 k x0 x3 false 0) else (some true)
def cr18_Printable.l1:Nat→ByteArray→Int→Bool→Int→Option (Bool)
 | 0,_,_,_,_=>none
 | k+1,x0,x3,x4,x5=>if x5 < 74 then (if 0≤x5 then (if 0≤x3 then (if x3 < (x0.size:Int) then (if (bt (⟨#[65,66,67,68,69,70,71,72,73,74,75,76,77,78,79,80,81,82,83,84,85,86,87,88,89,90,97,98,99,100,101,102,103,104,105,106,107,108,109,110,111,112,113,114,115,116,117,118,119,120,121,122,48,49,50,51,52,53,54,55,56,57,32,39,40,41,43,44,45,46,47,58,61,63]⟩:ByteArray) x5)=(bt x0 x3) then (cr18_Printable.l1 k x0 x3 true (wrap64 (x5+1))) else (cr18_Printable.l1 k x0 x3 x4 (wrap64 (x5+1)))) else (none)) else (none)) else (none)) else (if x4=true then (cr18_Printable.l0 k x0 (wrap64 (x3+1))) else (some false))
end
def cr18_Printable.f (k:Nat) (a0:ByteArray):Option (Bool):=cr18_Printable.l0 k a0 0
theorem cr18_Printable.con {k:Nat} {a0:ByteArray} {r:(Bool)} (H:cr18_Printable.f k a0=some r):Con Tryd.prog 67 [S a0] (B r):=by
 refine Cg Tryd.func67 rfl fun C hN hL=>?_
 unfold cr18_Printable.f at H
 refine Sw<|Rg hN<|Sw<|Sw<|Rg hN<|Bl<|Good.loopN (fun k' st=>∃ (x0:ByteArray) (x3:Int),k'≤k∧Wk C st ⟨[(0,.w (S x0)),(3,.w (I x3))],[]⟩∧cr18_Printable.l0 k' x0 x3=some r) k ⟨a0,0,Nat.le_refl _,Wo [(0,0),(3,0)],H⟩ fun k=>⟨fun st h=>(by obtain ⟨_,_,_,_,H⟩:=h;cases H),?_⟩
 clear H
 rintro st ⟨x0,x3,hk,W,H⟩
 refine W.good ?_
 rw [cr18_Printable.l0] at H
 refine Sw<|Sw<|Rg hN ?_
 rcases (ifC H).symm with ⟨c782,H⟩ | ⟨c782,H⟩
 ·refine Cf (df c782)<|Ex<|Sw<|Rg hN ?_
  cases H
  exact Rt dR
 refine Ct (dt c782)<|Sk<|Sw<|Bl<|Sw<|Rg hN<|Sw<|Sw<|Rg hN<|Bl<|Good.loopN (fun k' st=>∃ (x0:ByteArray) (x3:Int) (x4:Bool) (x5:Int),k'≤k∧Wk C st ⟨[(0,.w (S x0)),(3,.w (I x3)),(4,.w (B x4)),(5,.w (I x5))],[]⟩∧cr18_Printable.l1 k' x0 x3 x4 x5=some r) k ⟨x0,x3,false,0,Nat.le_refl _,Wo [(0,0),(3,0),(4,0),(5,0)],H⟩ fun k=>⟨fun st h=>(by obtain ⟨_,_,_,_,_,_,H⟩:=h;cases H),?_⟩
 clear H
 rintro st ⟨x0,x3,x4,x5,hk,W,H⟩
 refine W.good ?_
 rw [cr18_Printable.l1] at H
 refine Sw<|Sw<|Rg hN ?_
 rcases (ifC H).symm with ⟨c783,H⟩ | ⟨c783,H⟩
 ·refine Cf (df c783)<|Ex<|Sw<|Rg hN ?_
  rcases ifC H with ⟨c788,H⟩ | ⟨c788,H⟩
  ·exact Cf (notF c788)<|Sk<|Rg hN<|⟨k,by omega,x0,wrap64 (x3+1),by omega,Wo [(0,0),(3,0)],H⟩
  refine Ct (notT (bf c788))<|Sw<|Rg hN ?_
  cases H
  exact Rt dR
 refine Ct (dt c783)<|Sk<|Sw<|Bl<|Sw ?_
 obtain ⟨c784,H⟩:=ifS H
 obtain ⟨c785,H⟩:=ifS H
 obtain ⟨c786,H⟩:=ifS H
 refine Rd hm hN (.qs 5 0 (.q 5 [] .z)) [(0,none),(3,none),(5,none)] .nil [] [] (.cons c784 (.cons c783 (.cons c785 (.cons c786 .nil)))) (.cons c784 (.cons c783 (.cons c785 (.cons c786 .nil)))) [] [] ?_
 rcases ifC H with ⟨c787,H⟩ | ⟨c787,H⟩
 ·exact Ct (bq c787)<|Rg hN<|Rg hN<|⟨k,by omega,x0,x3,true,wrap64 (x5+1),by omega,Wo [(0,0),(3,0),(4,0),(5,0)],H⟩
 exact Cf (bn c787)<|Sk<|Rg hN<|⟨k,by omega,x0,x3,x4,wrap64 (x5+1),by omega,Wo [(0,0),(3,0),(4,0),(5,0)],H⟩
def cr18_Right.f (k:Nat) (a0:Int) (a1:ByteArray):Option (Bool):=if a0=1 then ((cr18_Unbool.f a1).bind fun t790=>(some t790.2)) else (if a0=2 then ((cr16_Right.f a1).bind fun t793=>(some t793)) else (if a0=3 then ((cr18_Unbits.f k a1).bind fun t796=>(some t796.2.2)) else (if a0=4 then (some true) else (if a0=5 then (some (a1.toList == ([]:List UInt8))) else (if a0=6 then ((cr17_Decode.f k a1).bind fun t801=>(some t801.2)) else (if a0=12 then ((cr18_Utf.f k a1).bind fun t804=>(some t804)) else (if a0=19 then ((cr18_Printable.f k a1).bind fun t807=>(some t807)) else (some false))))))))
theorem cr18_Right.con {k:Nat} {a0:Int} {a1:ByteArray} {r:(Bool)} (H:cr18_Right.f k a0 a1=some r):Con Tryd.prog 53 [I a0,S a1] (B r):=by
 refine Cg Tryd.func53 rfl fun C hN hL=>?_
 unfold cr18_Right.f at H
 refine Sw<|Rg hN<|Sw<|Sw<|Rg hN<|Bl<|Sw<|Rg hN ?_
 rcases ifC H with ⟨c789,H⟩ | ⟨c789,H⟩
 ·refine Ct (bq c789)<|Sw ?_
  obtain ⟨t790,h791,H⟩:=bindS H
  refine Rh hN [.tup [B t790.1,B t790.2]] (.cons (cr18_Unbool.con h791).c .nil)<|Sw<|Rg hN ?_
  cases H
  exact Rt dR
 refine Cf (bn c789)<|Sw<|Rg hN ?_
 rcases ifC H with ⟨c792,H⟩ | ⟨c792,H⟩
 ·refine Ct (bq c792)<|Sw ?_
  obtain ⟨t793,h794,H⟩:=bindS H
  refine Rh hN [B t793] (.cons (cr16_Right.con h794).c .nil) ?_
  cases H
  exact Rt dR
 refine Cf (bn c792)<|Sw<|Rg hN ?_
 rcases ifC H with ⟨c795,H⟩ | ⟨c795,H⟩
 ·refine Ct (bq c795)<|Sw ?_
  obtain ⟨t796,h797,H⟩:=bindS H
  refine Rh hN [.tup [S t796.1,I t796.2.1,B t796.2.2]] (.cons (cr18_Unbits.con h797).c .nil)<|Sw<|Rg hN ?_
  cases H
  exact Rt dR
 refine Cf (bn c795)<|Sw<|Rg hN ?_
 rcases ifC H with ⟨c798,H⟩ | ⟨c798,H⟩
 ·refine Ct (bq c798)<|Sw<|Rg hN ?_
  cases H
  exact Rt dR
 refine Cf (bn c798)<|Sw<|Rg hN ?_
 rcases ifC H with ⟨c799,H⟩ | ⟨c799,H⟩
 ·refine Ct (bq c799)<|Sw<|Ri hN [] (.cons (strV (rfl:a1.toList=a1.toList) (litL ([]:List UInt8))) .nil) [(39,.bool (a1.toList == ([]:List UInt8)))] ?_
  cases H
  exact Rt dR
 refine Cf (bn c799)<|Sw<|Rg hN ?_
 rcases ifC H with ⟨c800,H⟩ | ⟨c800,H⟩
 ·refine Ct (bq c800)<|Sw ?_
  obtain ⟨t801,h802,H⟩:=bindS H
  refine Rh hN [.tup [.row none 1 (List.map I t801.1),B t801.2]] (.cons (cr17_Decode.con h802).c .nil)<|Sw<|Rg hN ?_
  cases H
  exact Rt dR
 refine Cf (bn c800)<|Sw<|Rg hN ?_
 rcases ifC H with ⟨c803,H⟩ | ⟨c803,H⟩
 ·refine Ct (bq c803)<|Sw ?_
  obtain ⟨t804,h805,H⟩:=bindS H
  refine Rh hN [B t804] (.cons (cr18_Utf.con h805).c .nil) ?_
  cases H
  exact Rt dR
 refine Cf (bn c803)<|Sw<|Rg hN ?_
 rcases ifC H with ⟨c806,H⟩ | ⟨c806,H⟩
 ·refine Ct (bq c806)<|Sw ?_
  obtain ⟨t807,h808,H⟩:=bindS H
  refine Rh hN [B t807] (.cons (cr18_Printable.con h808).c .nil) ?_
  cases H
  exact Rt dR
 refine Cf (bn c806)<|Sk<|Sw<|Rg hN ?_
 cases H
 exact Rt dR
def cr20_one.j0:Nat→Bool→Int→Int→Bool→ByteArray→List Int→Option (Bool)
 | 0,_,_,_,_,_,_=>none
 | k+1,x20,x1000,x1001,x1002,x1003,x1004=>if x20=true then (some false) else (if x1002=true then (if x1003.toList=([]:List UInt8) then (if x1000=0 then (if x1001=16 then (some true) else (some (x1001 == 17))) else (some true)) else (some false)) else (if (x1004.length:Int)=0 then (if x1000=0 then ((cr18_Right.f k x1001 x1003).bind fun t819=>(some t819)) else (some true)) else (some false)))
def cr20_one.f (k:Nat) (a0_0:Int) (a0_1:Int) (a0_2:Bool) (a0_3:ByteArray) (l0_4:List Int):Option (Bool):=if a0_0 < 0 then (cr20_one.j0 k true a0_0 a0_1 a0_2 a0_3 l0_4) else (if a0_0 > 3 then (cr20_one.j0 k true a0_0 a0_1 a0_2 a0_3 l0_4) else (if a0_1 < 0 then (cr20_one.j0 k true a0_0 a0_1 a0_2 a0_3 l0_4) else (cr20_one.j0 k (decide (a0_1 > 2097151)) a0_0 a0_1 a0_2 a0_3 l0_4)))
theorem cr20_one.con {k:Nat} {a0_0:Int} {a0_1:Int} {a0_2:Bool} {a0_3:ByteArray} {l0_4:List Int} {r:(Bool)} (H:cr20_one.f k a0_0 a0_1 a0_2 a0_3 l0_4=some r):Con Tryd.prog 40 [.agg [I a0_0,I a0_1,B a0_2,S a0_3,.row none 1 (List.map I l0_4)]] (B r):=by
 refine Cg Tryd.func40 rfl fun C hN hL=>?_
 unfold cr20_one.f at H
 refine Sw<|Rg hN<|Sw<|Sw<|Good.cut (fun st=>∃ n':Nat,n'≤k∧∃ (x20:Bool) (x1000:Int) (x1001:Int) (x1002:Bool) (x1003:ByteArray) (x1004:List Int),Wk C st ⟨[(1,.d (.ptr 0 0)),(20,.w (B x20))],[.cells [.v (I x1000),.v (I x1001),.v (B x1002),.v (S x1003),.v (.row none 1 (List.map I x1004))]]⟩∧cr20_one.j0 n' x20 x1000 x1001 x1002 x1003 x1004=some r) ?_ ?_
 ·rcases ifC H with ⟨c809,H⟩ | ⟨c809,H⟩
  ·exact Rh hN [B true,B true,B true] (.cons (dt c809) (.cons (rfl:true=true) (.cons (rfl:true=true) .nil)))<|⟨k,by omega,true,a0_0,a0_1,a0_2,a0_3,l0_4,Wo [(1,0),(20,0)],H⟩
  rcases ifC H with ⟨c810,H⟩ | ⟨c810,H⟩
  ·exact Rh hN [B false,B true,B true] (.cons (df c809) (.cons (dt c810) (.cons (rfl:true=true) .nil)))<|⟨k,by omega,true,a0_0,a0_1,a0_2,a0_3,l0_4,Wo [(1,0),(20,0)],H⟩
  rcases ifC H with ⟨c811,H⟩ | ⟨c811,H⟩
  ·exact Rh hN [B false,B false,B true] (.cons (df c809) (.cons (df c810) (.cons (dt c811) .nil)))<|⟨k,by omega,true,a0_0,a0_1,a0_2,a0_3,l0_4,Wo [(1,0),(20,0)],H⟩
  exact Rh hN [B false,B false,B false] (.cons (df c809) (.cons (df c810) (.cons (df c811) .nil)))<|⟨k,by omega,decide (a0_1 > 2097151),a0_0,a0_1,a0_2,a0_3,l0_4,Wo [(1,0),(20,0)],H⟩
 clear H
 rintro st ⟨n',hn',x20,x1000,x1001,x1002,x1003,x1004,W,H⟩
 rcases n' with _ | k
 ·cases H
 refine W.good ?_
 rw [cr20_one.j0] at H
 rcases ifC H with ⟨c812,H⟩ | ⟨c812,H⟩
 ·refine Ct c812<|Sw<|Rg hN ?_
  cases H
  exact Rt dR
 refine Cf (bf c812)<|Sk<|Sw<|Sw<|Rg hN ?_
 rcases (ifC H).symm with ⟨c813,H⟩ | ⟨c813,H⟩
 ·refine Cf (bf c813)<|Sk<|Sw ?_
  rcases (ifC H).symm with ⟨c817,H⟩ | ⟨c817,H⟩
  ·refine Rh hN [I (x1004.length:Int),B false] (.cons (lenM I x1004) (.cons (bn c817) .nil)) ?_
   cases H
   exact Rt dR
  rcases (ifC H).symm with ⟨c818,H⟩ | ⟨c818,H⟩
  ·refine Rh hN [I (x1004.length:Int),B true,B true] (.cons (lenM I x1004) (.cons (bq c817) (.cons (nq c818) .nil))) ?_
   cases H
   exact Rt dR
  obtain ⟨t819,h820,H⟩:=bindS H
  refine Rh hN [I (x1004.length:Int),B true,B false,B t819] (.cons (lenM I x1004) (.cons (bq c817) (.cons (bneF c818) (.cons (cr18_Right.con h820).c .nil)))) ?_
  cases H
  exact Rt dR
 refine Ct c813<|Sw ?_
 rcases (ifC H).symm with ⟨c814,H⟩ | ⟨c814,H⟩
 ·refine Ri hN [B false] (.cons (strV (rfl:x1003.toList=x1003.toList) (litL ([]:List UInt8))) (.cons (bn c814) .nil)) [(25,.bool (x1003.toList == ([]:List UInt8)))] ?_
  cases H
  exact Rt dR
 rcases (ifC H).symm with ⟨c815,H⟩ | ⟨c815,H⟩
 ·refine Ri hN [B true,B true,B true] (.cons (strV (rfl:x1003.toList=x1003.toList) (litL ([]:List UInt8))) (.cons (bq c814) (.cons (nq c815) (.cons (rfl:true=true) .nil)))) [(25,.bool (x1003.toList == ([]:List UInt8)))] ?_
  cases H
  exact Rt dR
 rcases ifC H with ⟨c816,H⟩ | ⟨c816,H⟩
 ·refine Ri hN [B true,B false,B true] (.cons (strV (rfl:x1003.toList=x1003.toList) (litL ([]:List UInt8))) (.cons (bq c814) (.cons (bneF c815) (.cons (bq c816) .nil)))) [(25,.bool (x1003.toList == ([]:List UInt8)))] ?_
  cases H
  exact Rt dR
 refine Ri hN [B true,B false,B false] (.cons (strV (rfl:x1003.toList=x1003.toList) (litL ([]:List UInt8))) (.cons (bq c814) (.cons (bneF c815) (.cons (bn c816) .nil)))) [(25,.bool (x1003.toList == ([]:List UInt8)))] ?_
 cases H
 exact Rt dR
mutual
def cr20_behind.j0:Nat→List S41→Int→Int→Bool→Option (Int)
 | 0,_,_,_,_=>none
 | k+1,x0,x1,x2,x24=>if x24=true then (some (-1)) else (cr20_behind.l0 k x0 x1 x2 (wrap64 (x1+1)) 0)
def cr20_behind.l0:Nat→List S41→Int→Int→Int→Int→Option (Int)
 | 0,_,_,_,_,_=>none
 | k+1,x0,x1,x2,x7,x8=>if 0≤x1 then (if x1 < (x0.length:Int) then (if x8 < (((rd_T41 x0 x1).f4).length:Int) then (if 0≤x8 then (if (rd ((rd_T41 x0 x1).f4) x8)=x7 then ((cr20_behind.f k x0 x7 (wrap64 (x2+1))).bind fun t833=>(if t833 < 0 then (some (-1)) else (cr20_behind.l0 k x0 x1 x2 t833 (wrap64 (x8+1))))) else (some (-1))) else (none)) else (some x7)) else (none)) else (none)
def cr20_behind.f:Nat→List S41→Int→Int→Option (Int)
 | 0,_,_,_=>none
 | k+1,l0,a1,a2=>if a1≥(l0.length:Int) then (cr20_behind.j0 k l0 a1 a2 true) else (if a2 > 16 then (cr20_behind.j0 k l0 a1 a2 true) else (if 0≤a1 then (if a1 < (l0.length:Int) then ((cr20_one.f k ((rd_T41 l0 a1).f0) ((rd_T41 l0 a1).f1) ((rd_T41 l0 a1).f2) ((rd_T41 l0 a1).f3) ((rd_T41 l0 a1).f4)).bind fun t825=>(cr20_behind.j0 k l0 a1 a2 (!t825))) else (none)) else (none)))
end
theorem cr20_behind.cons:∀ n k (l0:List S41) (a1:Int) (a2:Int) (r:(Int)),k≤n→cr20_behind.f k l0 a1 a2=some r→Con Tryd.prog 29 [.row none 5 (List.map (v41 0) l0),I a1,I a2] (I r):=by
 intro n
 induction n with
 | zero =>
  intro k l0 a1 a2 r hk H
  rcases k with _ | k
  ·cases H
  ·omega
 | succ n ih =>
  intro k l0 a1 a2 r hk H
  rcases k with _ | k
  ·cases H
  rw [cr20_behind.f] at H
  refine con_of_good Tryd.func29 rfl (by kernel_rfl) (by kernel_rfl) fun C hN hL=>?_
  refine Good.seq ?_
  refine Good.reg hN [] .nil [] (by kernel_rfl) ?_
  refine Good.seq ?_
  refine Good.seq ?_
  refine Good.cut (fun st=>∃ n':Nat,n'≤k∧∃ (x0:List S41) (x1:Int) (x2:Int) (x24:Bool),Wk C st ⟨[(0,.d (.v (.row none 5 (List.map (v41 0) x0)))),(1,.d (.v (I x1))),(2,.d (.v (I x2))),(24,.d (.v (B x24)))],[]⟩∧cr20_behind.j0 n' x0 x1 x2 x24=some r) ?_ ?_
  ·rcases ifC H with ⟨c821,H⟩ | ⟨c821,H⟩
   ·refine Good.reg hN [I (l0.length:Int),B true,B true] (.cons (lenM (v41 0) l0) (.cons (decide_eq_true c821) (.cons (rfl:true=true) .nil))) [] (by kernel_rfl) ?_
    exact ⟨k,by omega,l0,a1,a2,true,Wk.of [(0,0),(1,0),(2,0),(24,0)] (by kernel_rfl) (by kernel_rfl),H⟩
   rcases ifC H with ⟨c822,H⟩ | ⟨c822,H⟩
   ·refine Good.reg hN [I (l0.length:Int),B false,B true] (.cons (lenM (v41 0) l0) (.cons (decide_eq_false c821) (.cons (decide_eq_true c822) .nil))) [] (by kernel_rfl) ?_
    exact ⟨k,by omega,l0,a1,a2,true,Wk.of [(0,0),(1,0),(2,0),(24,0)] (by kernel_rfl) (by kernel_rfl),H⟩
   obtain ⟨c823,H⟩:=ifS H
   obtain ⟨c824,H⟩:=ifS H
   obtain ⟨t825,h826,H⟩:=bindS H
   refine Good.reg hN [I (l0.length:Int),B false,B false,(v41 0) (rd_T41 l0 a1),B t825] (.cons (lenM (v41 0) l0) (.cons (decide_eq_false c821) (.cons (decide_eq_false c822) (.cons c823 (.cons (atM (v41 0) z41 c823 c824) (.cons (cr20_one.con h826).c .nil)))))) [] (by kernel_rfl) ?_
   exact ⟨k,by omega,l0,a1,a2,!t825,Wk.of [(0,0),(1,0),(2,0),(24,0)] (by kernel_rfl) (by kernel_rfl),H⟩
  clear H
  rintro st ⟨n',hn',x0,x1,x2,x24,W,H⟩
  rcases n' with _ | k
  ·cases H
  refine W.good ?_
  rw [cr20_behind.j0] at H
  rcases ifC H with ⟨c827,H⟩ | ⟨c827,H⟩
  ·refine Good.condT c827 (by kernel_rfl) ?_
   refine Good.seq ?_
   refine Good.reg hN [] .nil [] (by kernel_rfl) ?_
   obtain rfl:=Option.some.inj H
   exact Good.ret (fin.doneR (by kernel_rfl))
  refine Good.condF (Bool.eq_false_iff.2 c827) (by kernel_rfl) ?_
  refine Good.skip ?_
  refine Good.seq ?_
  refine Good.reg hN [] .nil [] (by kernel_rfl) ?_
  refine Good.seq ?_
  refine Good.seq ?_
  refine Good.reg hN [] .nil [] (by kernel_rfl) ?_
  refine Good.block ?_
  refine Good.loopN (fun k' st=>∃ (x0:List S41) (x1:Int) (x2:Int) (x7:Int) (x8:Int),k'≤k∧Wk C st ⟨[(0,.d (.v (.row none 5 (List.map (v41 0) x0)))),(1,.d (.v (I x1))),(2,.d (.v (I x2))),(7,.d (.v (I x7))),(8,.d (.v (I x8)))],[]⟩∧cr20_behind.l0 k' x0 x1 x2 x7 x8=some r) k ⟨x0,x1,x2,wrap64 (x1+1),0,Nat.le_refl _,Wk.of [(0,0),(1,0),(2,0),(7,0),(8,0)] (by kernel_rfl) (by kernel_rfl),H⟩ fun k=>⟨fun st h=>(by obtain ⟨_,_,_,_,_,_,_,H⟩:=h;cases H),?_⟩
  clear H
  rintro st ⟨x0,x1,x2,x7,x8,hk,W,H⟩
  refine W.good ?_
  rw [cr20_behind.l0] at H
  refine Good.seq ?_
  refine Good.seq ?_
  obtain ⟨c828,H⟩:=ifS H
  obtain ⟨c829,H⟩:=ifS H
  refine Good.reg hN [(v41 0) (rd_T41 x0 x1),I (((rd_T41 x0 x1).f4).length:Int)] (.cons c828 (.cons (atM (v41 0) z41 c828 c829) (.cons (lenM I ((rd_T41 x0 x1).f4)) .nil))) [] (by kernel_rfl) ?_
  rcases (ifC H).symm with ⟨c830,H⟩ | ⟨c830,H⟩
  ·refine Good.condF (decide_eq_false c830) (by kernel_rfl) ?_
   refine Good.exit ?_
   refine Good.seq ?_
   refine Good.reg hN [] .nil [] (by kernel_rfl) ?_
   obtain rfl:=Option.some.inj H
   exact Good.ret (fin.doneR (by kernel_rfl))
  refine Good.condT (decide_eq_true c830) (by kernel_rfl) ?_
  refine Good.skip ?_
  refine Good.seq ?_
  refine Good.block ?_
  refine Good.seq ?_
  refine Good.seq ?_
  obtain ⟨c831,H⟩:=ifS H
  refine Good.reg hN [(v41 0) (rd_T41 x0 x1),I (rd ((rd_T41 x0 x1).f4) x8)] (.cons c828 (.cons (atM (v41 0) z41 c828 c829) (.cons c831 (.cons (atM I (0:Int) c831 c830) .nil)))) [] (by kernel_rfl) ?_
  rcases (ifC H).symm with ⟨c832,H⟩ | ⟨c832,H⟩
  ·refine Good.condT (bne_iff_ne.2 c832) (by kernel_rfl) ?_
   refine Good.seq ?_
   refine Good.reg hN [] .nil [] (by kernel_rfl) ?_
   obtain rfl:=Option.some.inj H
   exact Good.ret (fin.doneR (by kernel_rfl))
  refine Good.condF (bneF c832) (by kernel_rfl) ?_
  refine Good.skip ?_
  refine Good.seq ?_
  obtain ⟨t833,h834,H⟩:=bindS H
  refine Good.reg hN [I t833] (.cons (ih _ _ _ _ _ (by omega) h834).c .nil) [] (by kernel_rfl) ?_
  refine Good.seq ?_
  refine Good.reg hN [] .nil [] (by kernel_rfl) ?_
  rcases (ifC H).symm with ⟨c835,H⟩ | ⟨c835,H⟩
  ·refine Good.condF (decide_eq_false c835) (by kernel_rfl) ?_
   refine Good.skip ?_
   refine Good.reg hN [] .nil [] (by kernel_rfl) ?_
   exact ⟨k,by omega,x0,x1,x2,t833,wrap64 (x8+1),by omega,Wk.of [(0,0),(1,0),(2,0),(7,0),(8,0)] (by kernel_rfl) (by kernel_rfl),H⟩
  refine Good.condT (decide_eq_true c835) (by kernel_rfl) ?_
  refine Good.seq ?_
  refine Good.reg hN [] .nil [] (by kernel_rfl) ?_
  obtain rfl:=Option.some.inj H
  exact Good.ret (fin.doneR (by kernel_rfl))
theorem cr20_behind.con {k:Nat} {l0:List S41} {a1:Int} {a2:Int} {r:(Int)} (H:cr20_behind.f k l0 a1 a2=some r):Con Tryd.prog 29 [.row none 5 (List.map (v41 0) l0),I a1,I a2] (I r):=cr20_behind.cons k k l0 a1 a2 r (Nat.le_refl _) H
def cr20_Right.f (k:Nat) (l0:List S41):Option (Bool):=if (l0.length:Int) > 0 then (if (l0.length:Int)≤1000 then ((cr20_behind.f k l0 0 1).bind fun t838=>(some (t838 == (l0.length:Int)))) else (some false)) else (some false)
theorem cr20_Right.con {k:Nat} {l0:List S41} {r:(Bool)} (H:cr20_Right.f k l0=some r):Con Tryd.prog 12 [.row none 5 (List.map (v41 0) l0)] (B r):=by
 refine Cg Tryd.func12 rfl fun C hN hL=>?_
 unfold cr20_Right.f at H
 refine Sw<|Rg hN<|Sw ?_
 rcases (ifC H).symm with ⟨c836,H⟩ | ⟨c836,H⟩
 ·refine Rh hN [I (l0.length:Int),B false,B false] (.cons (lenM (v41 0) l0) (.cons (df c836) (.cons (rfl:false=false) .nil))) ?_
  cases H
  exact Rt dR
 rcases (ifC H).symm with ⟨c837,H⟩ | ⟨c837,H⟩
 ·refine Rh hN [I (l0.length:Int),B true,I (l0.length:Int),B false] (.cons (lenM (v41 0) l0) (.cons (dt c836) (.cons (lenM (v41 0) l0) (.cons (df c837) .nil)))) ?_
  cases H
  exact Rt dR
 obtain ⟨t838,h839,H⟩:=bindS H
 refine Rh hN [I (l0.length:Int),B true,I (l0.length:Int),B true,I t838,I (l0.length:Int)] (.cons (lenM (v41 0) l0) (.cons (dt c836) (.cons (lenM (v41 0) l0) (.cons (dt c837) (.cons (cr20_behind.con h839).c (.cons (lenM (v41 0) l0) .nil)))))) ?_
 cases H
 exact Rt dR
def cr15_may.f (a0_0:Int) (a0_1:Int) (a0_2:Bool) (a0_3:Int):Option (Bool):=if a0_0≥0 then (if a0_0 < 4 then (if a0_1≥0 then (if a0_1≤2097151 then (if a0_3≥0 then (some (decide (a0_3≤65535))) else (some false)) else (some false)) else (some false)) else (some false)) else (some false)
theorem cr15_may.con {a0_0:Int} {a0_1:Int} {a0_2:Bool} {a0_3:Int} {r:(Bool)} (H:cr15_may.f a0_0 a0_1 a0_2 a0_3=some r):Con Tryd.prog 49 [.agg [I a0_0,I a0_1,B a0_2,I a0_3]] (B r):=by
 refine Cg Tryd.func49 rfl fun C hN hL=>?_
 unfold cr15_may.f at H
 refine Sw<|Rg hN<|Sw ?_
 rcases (ifC H).symm with ⟨c840,H⟩ | ⟨c840,H⟩
 ·refine Rh hN [B false,B false,B false,B false,B false] (.cons (df c840) (.cons (rfl:false=false) (.cons (rfl:false=false) (.cons (rfl:false=false) (.cons (rfl:false=false) .nil))))) ?_
  cases H
  exact Rt dR
 rcases (ifC H).symm with ⟨c841,H⟩ | ⟨c841,H⟩
 ·refine Rh hN [B true,B false,B false,B false,B false] (.cons (dt c840) (.cons (df c841) (.cons (rfl:false=false) (.cons (rfl:false=false) (.cons (rfl:false=false) .nil))))) ?_
  cases H
  exact Rt dR
 rcases (ifC H).symm with ⟨c842,H⟩ | ⟨c842,H⟩
 ·refine Rh hN [B true,B true,B false,B false,B false] (.cons (dt c840) (.cons (dt c841) (.cons (df c842) (.cons (rfl:false=false) (.cons (rfl:false=false) .nil))))) ?_
  cases H
  exact Rt dR
 rcases (ifC H).symm with ⟨c843,H⟩ | ⟨c843,H⟩
 ·refine Rh hN [B true,B true,B true,B false,B false] (.cons (dt c840) (.cons (dt c841) (.cons (dt c842) (.cons (df c843) (.cons (rfl:false=false) .nil))))) ?_
  cases H
  exact Rt dR
 rcases ifC H with ⟨c844,H⟩ | ⟨c844,H⟩
 ·refine Rh hN [B true,B true,B true,B true,B true] (.cons (dt c840) (.cons (dt c841) (.cons (dt c842) (.cons (dt c843) (.cons (dt c844) .nil))))) ?_
  cases H
  exact Rt dR
 refine Rh hN [B true,B true,B true,B true,B false] (.cons (dt c840) (.cons (dt c841) (.cons (dt c842) (.cons (dt c843) (.cons (df c844) .nil))))) ?_
 cases H
 exact Rt dR
def cr15_digits.l0:Nat→Int→ByteArray→Option (ByteArray)
 | 0,_,_=>none
 | k+1,x0,x3=>if x0 > 0 then (if (strOfNums ([(wrap64 (128+(Int.tmod x0 128))) % 256]:List Int)).size+x3.size≤9223372036854775807 then (cr15_digits.l0 k (wrap64 (Int.tdiv x0 128)) ((strOfNums ([(wrap64 (128+(Int.tmod x0 128))) % 256]:List Int))++x3)) else (none)) else (some x3)
def cr15_digits.f (k:Nat) (a0:Int):Option (ByteArray):=cr15_digits.l0 k (wrap64 (Int.tdiv a0 128)) (strOfNums ([(Int.tmod a0 128) % 256]:List Int))
theorem cr15_digits.con {k:Nat} {a0:Int} {r:(ByteArray)} (H:cr15_digits.f k a0=some r):Con Tryd.prog 50 [I a0] (S r):=by
 refine Cg Tryd.func50 rfl fun C hN hL=>?_
 unfold cr15_digits.f at H
 refine Sw<|Rg hN<|Sw<|Rh hN [S (strOfNums ([(Int.tmod a0 128) % 256]:List Int))] (.cons (show (128:Int)≠0 by decide) (.cons (strN ([(Int.tmod a0 128) % 256]:List Int)) .nil))<|Sw<|Rh hN [] (.cons (show (128:Int)≠0 by decide) .nil)<|Sw<|Bl<|Good.loopN (fun k' st=>∃ (x0:Int) (x3:ByteArray),k'≤k∧Wk C st ⟨[(0,.w (I x0)),(3,.w (S x3))],[]⟩∧cr15_digits.l0 k' x0 x3=some r) k ⟨wrap64 (Int.tdiv a0 128),strOfNums ([(Int.tmod a0 128) % 256]:List Int),Nat.le_refl _,Wo [(0,0),(3,0)],H⟩ fun k=>⟨fun st h=>(by obtain ⟨_,_,_,_,H⟩:=h;cases H),?_⟩
 clear H
 rintro st ⟨x0,x3,hk,W,H⟩
 refine W.good ?_
 rw [cr15_digits.l0] at H
 refine Sw<|Sw<|Rg hN ?_
 rcases (ifC H).symm with ⟨c845,H⟩ | ⟨c845,H⟩
 ·refine Cf (df c845)<|Ex<|Sw<|Rg hN ?_
  cases H
  exact Rt dR
 refine Ct (dt c845)<|Sk<|Bl<|Sw ?_
 obtain ⟨c846,H⟩:=ifS H
 exact Rh hN [S (strOfNums ([(wrap64 (128+(Int.tmod x0 128))) % 256]:List Int))] (.cons (show (128:Int)≠0 by decide) (.cons (strN ([(wrap64 (128+(Int.tmod x0 128))) % 256]:List Int)) (.cons c846 .nil)))<|Rh hN [] (.cons (show (128:Int)≠0 by decide) .nil)<|⟨k,by omega,wrap64 (Int.tdiv x0 128),(strOfNums ([(wrap64 (128+(Int.tmod x0 128))) % 256]:List Int))++x3,by omega,Wo [(0,0),(3,0)],H⟩
def cr15_Encode.j1:Nat→ByteArray→Int→Option (ByteArray × Int)
 | 0,_,_=>none
 | k+1,x5,x1003=>if x1003 < 128 then (if x5.size+(strOfNums ([(x1003) % 256]:List Int)).size≤9223372036854775807 then (some (x5++(strOfNums ([(x1003) % 256]:List Int)),0)) else (none)) else (if x1003 < 256 then (if x5.size+1≤9223372036854775807 then ((cr01_Put.f k (IntKind.u64.wrap (x1003)) 1).bind fun t859=>(if (x5++(⟨#[129]⟩:ByteArray)).size+t859.size≤9223372036854775807 then (some ((x5++(⟨#[129]⟩:ByteArray))++t859,0)) else (none))) else (none)) else (if x5.size+1≤9223372036854775807 then ((cr01_Put.f k (IntKind.u64.wrap (x1003)) 2).bind fun t863=>(if (x5++(⟨#[130]⟩:ByteArray)).size+t863.size≤9223372036854775807 then (some ((x5++(⟨#[130]⟩:ByteArray))++t863,0)) else (none))) else (none)))
def cr15_Encode.j0:Nat→Int→Int→Int→Option (ByteArray × Int)
 | 0,_,_,_=>none
 | k+1,x4,x1001,x1003=>if x1001 < 31 then (cr15_Encode.j1 k (strOfNums ([(wrap64 (x4+x1001)) % 256]:List Int)) x1003) else ((cr15_digits.f k x1001).bind fun t852=>(if (strOfNums ([(wrap64 (x4+31)) % 256]:List Int)).size+t852.size≤9223372036854775807 then (cr15_Encode.j1 k ((strOfNums ([(wrap64 (x4+31)) % 256]:List Int))++t852) x1003) else (none)))
def cr15_Encode.f (k:Nat) (a0_0:Int) (a0_1:Int) (a0_2:Bool) (a0_3:Int):Option (ByteArray × Int):=(cr15_may.f a0_0 a0_1 a0_2 a0_3).bind fun t847=>(if t847=true then (if a0_2=true then (cr15_Encode.j0 k (wrap64 ((wrap64 (64*a0_0))+32)) a0_1 a0_3) else (cr15_Encode.j0 k (wrap64 (64*a0_0)) a0_1 a0_3)) else (some ((⟨#[]⟩:ByteArray),1)))
theorem cr15_Encode.con {k:Nat} {a0_0:Int} {a0_1:Int} {a0_2:Bool} {a0_3:Int} {r:(ByteArray × Int)} (H:cr15_Encode.f k a0_0 a0_1 a0_2 a0_3=some r):Con Tryd.prog 38 [.agg [I a0_0,I a0_1,B a0_2,I a0_3]] (.tup [S r.1,I r.2]):=by
 refine Cg Tryd.func38 rfl fun C hN hL=>?_
 unfold cr15_Encode.f at H
 refine Sw<|Rg hN<|Sw<|Sw ?_
 obtain ⟨t847,h848,H⟩:=bindS H
 refine Rh hN [B t847] (.cons (cr15_may.con h848).c .nil) ?_
 rcases (ifC H).symm with ⟨c849,H⟩ | ⟨c849,H⟩
 ·refine Ct (notT (bf c849))<|Sw<|Rg hN ?_
  cases H
  exact Rt dR
 refine Cf (notF c849)<|Sk<|Sw<|Rg hN<|Sw<|Sw<|Rg hN<|Good.cut (fun st=>∃ n':Nat,n'≤k∧∃ (x4:Int) (x1000:Int) (x1001:Int) (x1002:Bool) (x1003:Int),Wk C st ⟨[(1,.d (.ptr 0 0)),(4,.w (I x4))],[.cells [.v (I x1000),.v (I x1001),.v (B x1002),.v (I x1003)]]⟩∧cr15_Encode.j0 n' x4 x1001 x1003=some r) ?_ ?_
 ·rcases ifC H with ⟨c850,H⟩ | ⟨c850,H⟩
  ·exact Ct c850<|Rg hN<|⟨k,by omega,wrap64 ((wrap64 (64*a0_0))+32),a0_0,a0_1,a0_2,a0_3,Wo [(1,0),(4,0)],H⟩
  exact Cf (bf c850)<|Sk<|⟨k,by omega,wrap64 (64*a0_0),a0_0,a0_1,a0_2,a0_3,Wo [(1,0),(4,0)],H⟩
 clear H
 rintro st ⟨n',hn',x4,x1000,x1001,x1002,x1003,W,H⟩
 rcases n' with _ | k
 ·cases H
 refine W.good ?_
 rw [cr15_Encode.j0] at H
 refine Sw<|Rg hN<|Sw<|Sw<|Rg hN<|Good.cut (fun st=>∃ n':Nat,n'≤k∧∃ (x5:ByteArray) (x1000:Int) (x1001:Int) (x1002:Bool) (x1003:Int),Wk C st ⟨[(1,.d (.ptr 0 0)),(5,.w (S x5))],[.cells [.v (I x1000),.v (I x1001),.v (B x1002),.v (I x1003)]]⟩∧cr15_Encode.j1 n' x5 x1003=some r) ?_ ?_
 ·rcases ifC H with ⟨c851,H⟩ | ⟨c851,H⟩
  ·exact Ct (dt c851)<|Rh hN [S (strOfNums ([(wrap64 (x4+x1001)) % 256]:List Int))] (.cons (strN ([(wrap64 (x4+x1001)) % 256]:List Int)) .nil)<|⟨k,by omega,strOfNums ([(wrap64 (x4+x1001)) % 256]:List Int),x1000,x1001,x1002,x1003,Wo [(1,0),(5,0)],H⟩
  refine Cf (df c851) ?_
  obtain ⟨t852,h853,H⟩:=bindS H
  obtain ⟨c854,H⟩:=ifS H
  exact Good.regTB (n:=3) hm hN hL (.q 0 [] (.q 1 [] (.q 2 [] (.q 5 [] (.q 6 [] (.b 3 [] [] (.b 4 [S (strOfNums ([(wrap64 (x4+31)) % 256]:List Int)),S t852] [] (.e 7 (.q 8 [] (.q 9 [] .z))) [S t852,S (strOfNums ([(wrap64 (x4+31)) % 256]:List Int))] [] (.e 7 (.e 4 (.q 8 [] (.q 9 [] .z))))) [S t852,S (strOfNums ([(wrap64 (x4+31)) % 256]:List Int))] [] (.e 7 (.e 3 (.e 4 (.q 8 [] (.q 9 [] .z))))))))))) [(1,some (.pt [I x1000,I x1001,B x1002,I x1003])),(4,none)] (by kernel_rfl) (.cons (ptS (shrC (rfl:(V.shr (I x1000))=I x1000) (shrC (rfl:(V.shr (I x1001))=I x1001) (shrC (rfl:(V.shr (B x1002))=B x1002) (shrC (rfl:(V.shr (I x1003))=I x1003) (rfl:shrL []=[])))))) .nil) [] [] (.cons (.cons (strN ([(wrap64 (x4+31)) % 256]:List Int)) (.cons (cr15_digits.con h853).c (.cons c854 .nil))) (.cons c854 .nil) (.cons (.cons (cr15_digits.con h853).c (.cons (strN ([(wrap64 (x4+31)) % 256]:List Int)) (.cons c854 .nil))) (.cons c854 .nil) (.cons (.cons (cr15_digits.con h853).c (.cons (strN ([(wrap64 (x4+31)) % 256]:List Int)) (.cons c854 .nil))) (.cons c854 .nil) .nil))) [] [] (by kernel_rfl) (by kernel_rfl) [[],[],[]] [(1,0),(5,0)] [(1,.d (.ptr 0 0)),(5,.w (S ((strOfNums ([(wrap64 (x4+31)) % 256]:List Int))++t852)))] [.cells [.v (I x1000),.v (I x1001),.v (B x1002),.v (I x1003)]] (by kernel_rfl) (by kernel_rfl)<|⟨k,by omega,(strOfNums ([(wrap64 (x4+31)) % 256]:List Int))++t852,x1000,x1001,x1002,x1003,Wo [(1,0),(5,0)],H⟩
 clear H
 rintro st ⟨n',hn',x5,x1000,x1001,x1002,x1003,W,H⟩
 rcases n' with _ | k
 ·cases H
 refine W.good ?_
 rw [cr15_Encode.j1] at H
 refine Sw<|Sw<|Rg hN ?_
 rcases ifC H with ⟨c855,H⟩ | ⟨c855,H⟩
 ·refine Ct (dt c855)<|Sw ?_
  obtain ⟨c856,H⟩:=ifS H
  refine Rh hN [S (strOfNums ([(x1003) % 256]:List Int))] (.cons (strN ([(x1003) % 256]:List Int)) (.cons c856 .nil)) ?_
  cases H
  exact Rt dR
 refine Cf (df c855)<|Sk<|Sw<|Sw<|Rg hN ?_
 rcases ifC H with ⟨c857,H⟩ | ⟨c857,H⟩
 ·refine Ct (dt c857)<|Sw ?_
  obtain ⟨c858,H⟩:=ifS H
  obtain ⟨t859,h860,H⟩:=bindS H
  obtain ⟨c861,H⟩:=ifS H
  refine Rh hN [S t859] (.cons c858 (.cons (cr01_Put.con h860).c (.cons c861 .nil))) ?_
  cases H
  exact Rt dR
 refine Cf (df c857)<|Sk<|Sw ?_
 obtain ⟨c862,H⟩:=ifS H
 obtain ⟨t863,h864,H⟩:=bindS H
 obtain ⟨c865,H⟩:=ifS H
 refine Rh hN [S t863] (.cons c862 (.cons (cr01_Put.con h864).c (.cons c865 .nil))) ?_
 cases H
 exact Rt dR
mutual
def cr20_bytes.l0:Nat→List S41→Int→ByteArray→Int→Option (ByteArray × Bool)
 | 0,_,_,_,_=>none
 | k+1,x0,x1,x6,x7=>if 0≤x1 then (if x1 < (x0.length:Int) then (if x7 < (((rd_T41 x0 x1).f4).length:Int) then (if 0≤x7 then ((cr20_bytes.f k x0 (rd ((rd_T41 x0 x1).f4) x7)).bind fun t872=>(if x6.size+t872.1.size≤9223372036854775807 then (if t872.2=true then (if ((x6++t872.1).size:Int) > 65535 then (some ((⟨#[]⟩:ByteArray),false)) else (cr20_bytes.l0 k x0 x1 (x6++t872.1) (wrap64 (x7+1)))) else (some ((⟨#[]⟩:ByteArray),false))) else (none))) else (none)) else ((cr15_Encode.f k ((rd_T41 x0 x1).f0) ((rd_T41 x0 x1).f1) ((rd_T41 x0 x1).f2) (x6.size:Int)).bind fun t877=>(if t877.1.size+x6.size≤9223372036854775807 then (if t877.2=0 then (some (t877.1++x6,decide ((wrap64 ((t877.1.size:Int)+(x6.size:Int)))≤65535))) else (some (t877.1++x6,false))) else (none)))) else (none)) else (none)
def cr20_bytes.f:Nat→List S41→Int→Option (ByteArray × Bool)
 | 0,_,_=>none
 | k+1,l0,a1=>if 0≤a1 then (if a1 < (l0.length:Int) then (cr20_bytes.l0 k l0 a1 ((rd_T41 l0 a1).f3) 0) else (none)) else (none)
end
theorem cr20_bytes.cons:∀ n k (l0:List S41) (a1:Int) (r:(ByteArray × Bool)),k≤n→cr20_bytes.f k l0 a1=some r→Con Tryd.prog 27 [.row none 5 (List.map (v41 0) l0),I a1] (.tup [S r.1,B r.2]):=by
 intro n
 induction n with
 | zero =>
  intro k l0 a1 r hk H
  rcases k with _ | k
  ·cases H
  ·omega
 | succ n ih =>
  intro k l0 a1 r hk H
  rcases k with _ | k
  ·cases H
  rw [cr20_bytes.f] at H
  refine con_of_good Tryd.func27 rfl (by kernel_rfl) (by kernel_rfl) fun C hN hL=>?_
  refine Good.seq ?_
  refine Good.reg hN [] .nil [] (by kernel_rfl) ?_
  refine Good.seq ?_
  obtain ⟨c866,H⟩:=ifS H
  obtain ⟨c867,H⟩:=ifS H
  refine Good.reg hN [(v41 0) (rd_T41 l0 a1)] (.cons c866 (.cons (atM (v41 0) z41 c866 c867) .nil)) [] (by kernel_rfl) ?_
  refine Good.seq ?_
  refine Good.seq ?_
  refine Good.reg hN [] .nil [] (by kernel_rfl) ?_
  refine Good.block ?_
  refine Good.loopN (fun k' st=>∃ (x0:List S41) (x1:Int) (x6:ByteArray) (x7:Int),k'≤k∧Wk C st ⟨[(0,.d (.v (.row none 5 (List.map (v41 0) x0)))),(1,.d (.v (I x1))),(6,.d (.v (S x6))),(7,.d (.v (I x7)))],[]⟩∧cr20_bytes.l0 k' x0 x1 x6 x7=some r) k ⟨l0,a1,(rd_T41 l0 a1).f3,0,Nat.le_refl _,Wk.of [(0,0),(1,0),(6,0),(7,0)] (by kernel_rfl) (by kernel_rfl),H⟩ fun k=>⟨fun st h=>(by obtain ⟨_,_,_,_,_,_,H⟩:=h;cases H),?_⟩
  clear H
  rintro st ⟨x0,x1,x6,x7,hk,W,H⟩
  refine W.good ?_
  rw [cr20_bytes.l0] at H
  refine Good.seq ?_
  refine Good.seq ?_
  obtain ⟨c868,H⟩:=ifS H
  obtain ⟨c869,H⟩:=ifS H
  refine Good.reg hN [(v41 0) (rd_T41 x0 x1),I (((rd_T41 x0 x1).f4).length:Int)] (.cons c868 (.cons (atM (v41 0) z41 c868 c869) (.cons (lenM I ((rd_T41 x0 x1).f4)) .nil))) [] (by kernel_rfl) ?_
  rcases (ifC H).symm with ⟨c870,H⟩ | ⟨c870,H⟩
  ·refine Good.condF (decide_eq_false c870) (by kernel_rfl) ?_
   refine Good.exit ?_
   refine Good.seq ?_
   obtain ⟨t877,h878,H⟩:=bindS H
   refine Good.regDF hm hN (.q 0 [] (.q 1 [] (.q 2 [] (.q 3 [] (.q 4 [] (.q 5 [] (.q 6 [] (.q 7 [] (.q 8 [] (.q 9 [] (.q 10 [] (.q 11 [] (.q 12 [] (.q 13 [] (.q 14 [] (.q 15 [] (.q 16 [] (.q 17 [] (.e 18 (.q 19 [] (.q 20 [] (.q 21 [] (.q 22 [] (.q 23 [] .z)))))))))))))))))))))))) [(0,none),(1,none),(6,none)] (by kernel_rfl) .nil [(v41 0) (rd_T41 x0 x1),(v41 0) (rd_T41 x0 x1),(v41 0) (rd_T41 x0 x1),.tup [S t877.1,I t877.2]] [(v41 0) (rd_T41 x0 x1),(v41 0) (rd_T41 x0 x1),(v41 0) (rd_T41 x0 x1)] (.cons c868 (.cons (atM (v41 0) z41 c868 c869) (.cons c868 (.cons (atM (v41 0) z41 c868 c869) (.cons c868 (.cons (atM (v41 0) z41 c868 c869) (.cons (cr15_Encode.con h878).c .nil))))))) (.cons c868 (.cons (atM (v41 0) z41 c868 c869) (.cons c868 (.cons (atM (v41 0) z41 c868 c869) (.cons c868 (.cons (atM (v41 0) z41 c868 c869) .nil)))))) [] [] (by kernel_rfl) (by kernel_rfl) ?_
   refine Good.seq ?_
   obtain ⟨c879,H⟩:=ifS H
   rcases ifC H with ⟨c880,H⟩ | ⟨c880,H⟩
   ·refine Good.reg hN [B true] (.cons c879 (.cons (beq_iff_eq.2 c880) .nil)) [] (by kernel_rfl) ?_
    obtain rfl:=Option.some.inj H
    exact Good.ret (fin.doneR (by kernel_rfl))
   refine Good.reg hN [B false] (.cons c879 (.cons (beq_eq_false_iff_ne.2 c880) .nil)) [] (by kernel_rfl) ?_
   obtain rfl:=Option.some.inj H
   exact Good.ret (fin.doneR (by kernel_rfl))
  refine Good.condT (decide_eq_true c870) (by kernel_rfl) ?_
  refine Good.skip ?_
  refine Good.seq ?_
  refine Good.block ?_
  refine Good.seq ?_
  obtain ⟨c871,H⟩:=ifS H
  obtain ⟨t872,h873,H⟩:=bindS H
  refine Good.reg hN [(v41 0) (rd_T41 x0 x1),I (rd ((rd_T41 x0 x1).f4) x7),.tup [S t872.1,B t872.2]] (.cons c868 (.cons (atM (v41 0) z41 c868 c869) (.cons c871 (.cons (atM I (0:Int) c871 c870) (.cons (ih _ _ _ _ (by omega) h873).c .nil))))) [] (by kernel_rfl) ?_
  refine Good.seq ?_
  obtain ⟨c874,H⟩:=ifS H
  refine Good.reg hN [] (.cons c874 .nil) [] (by kernel_rfl) ?_
  refine Good.seq ?_
  rcases (ifC H).symm with ⟨c875,H⟩ | ⟨c875,H⟩
  ·refine Good.reg hN [B true] (.cons (notT (Bool.eq_false_iff.2 c875)) .nil) [] (by kernel_rfl) ?_
   refine Good.cond true (by kernel_rfl) ?_
   refine Good.seq ?_
   refine Good.reg hN [] .nil [] (by kernel_rfl) ?_
   obtain rfl:=Option.some.inj H
   exact Good.ret (fin.doneR (by kernel_rfl))
  refine Good.reg hN [B false] (.cons (notF c875) .nil) [] (by kernel_rfl) ?_
  rcases (ifC H).symm with ⟨c876,H⟩ | ⟨c876,H⟩
  ·refine Good.condF (decide_eq_false c876) (by kernel_rfl) ?_
   refine Good.skip ?_
   refine Good.reg hN [] .nil [] (by kernel_rfl) ?_
   exact ⟨k,by omega,x0,x1,x6++t872.1,wrap64 (x7+1),by omega,Wk.of [(0,0),(1,0),(6,0),(7,0)] (by kernel_rfl) (by kernel_rfl),H⟩
  refine Good.condT (decide_eq_true c876) (by kernel_rfl) ?_
  refine Good.seq ?_
  refine Good.reg hN [] .nil [] (by kernel_rfl) ?_
  obtain rfl:=Option.some.inj H
  exact Good.ret (fin.doneR (by kernel_rfl))
theorem cr20_bytes.con {k:Nat} {l0:List S41} {a1:Int} {r:(ByteArray × Bool)} (H:cr20_bytes.f k l0 a1=some r):Con Tryd.prog 27 [.row none 5 (List.map (v41 0) l0),I a1] (.tup [S r.1,B r.2]):=cr20_bytes.cons k k l0 a1 r (Nat.le_refl _) H
def cr20_Encode.f (k:Nat) (l0:List S41):Option (ByteArray × Int):=(cr20_Right.f k l0).bind fun t881=>(if t881=true then ((cr20_bytes.f k l0 0).bind fun t884=>(if t884.2=true then (some (t884.1,0)) else (some ((⟨#[]⟩:ByteArray),4)))) else (some ((⟨#[]⟩:ByteArray),1)))
theorem cr20_Encode.con {k:Nat} {l0:List S41} {r:(ByteArray × Int)} (H:cr20_Encode.f k l0=some r):Con Tryd.prog 10 [.row none 5 (List.map (v41 0) l0)] (.tup [S r.1,I r.2]):=by
 refine Cg Tryd.func10 rfl fun C hN hL=>?_
 unfold cr20_Encode.f at H
 refine Sw<|Rg hN<|Sw<|Sw ?_
 obtain ⟨t881,h882,H⟩:=bindS H
 refine Rh hN [B t881] (.cons (cr20_Right.con h882).c .nil) ?_
 rcases (ifC H).symm with ⟨c883,H⟩ | ⟨c883,H⟩
 ·refine Ct (notT (bf c883))<|Sw<|Rg hN ?_
  cases H
  exact Rt dR
 refine Cf (notF c883)<|Sk<|Sw ?_
 obtain ⟨t884,h885,H⟩:=bindS H
 refine Rh hN [.tup [S t884.1,B t884.2]] (.cons (cr20_bytes.con h885).c .nil)<|Sw<|Sw<|Rg hN ?_
 rcases (ifC H).symm with ⟨c886,H⟩ | ⟨c886,H⟩
 ·refine Ct (notT (bf c886))<|Sw<|Rg hN ?_
  cases H
  exact Rt dR
 refine Cf (notF c886)<|Sk<|Sw<|Rg hN ?_
 cases H
 exact Rt dR
mutual
def cr20_depth.l0:Nat→List S41→Int→Int→Int→Option (Int)
 | 0,_,_,_,_=>none
 | k+1,x0,x1,x5,x6=>if 0≤x1 then (if x1 < (x0.length:Int) then (if x6 < (((rd_T41 x0 x1).f4).length:Int) then (if 0≤x6 then ((cr20_depth.f k x0 (rd ((rd_T41 x0 x1).f4) x6)).bind fun t891=>(if t891 > x5 then (cr20_depth.l0 k x0 x1 t891 (wrap64 (x6+1))) else (cr20_depth.l0 k x0 x1 x5 (wrap64 (x6+1))))) else (none)) else (some (wrap64 (x5+1)))) else (none)) else (none)
def cr20_depth.f:Nat→List S41→Int→Option (Int)
 | 0,_,_=>none
 | k+1,l0,a1=>cr20_depth.l0 k l0 a1 0 0
end
theorem cr20_depth.cons:∀ n k (l0:List S41) (a1:Int) (r:(Int)),k≤n→cr20_depth.f k l0 a1=some r→Con Tryd.prog 30 [.row none 5 (List.map (v41 0) l0),I a1] (I r):=by
 intro n
 induction n with
 | zero =>
  intro k l0 a1 r hk H
  rcases k with _ | k
  ·cases H
  ·omega
 | succ n ih =>
  intro k l0 a1 r hk H
  rcases k with _ | k
  ·cases H
  rw [cr20_depth.f] at H
  refine con_of_good Tryd.func30 rfl (by kernel_rfl) (by kernel_rfl) fun C hN hL=>?_
  refine Good.seq ?_
  refine Good.reg hN [] .nil [] (by kernel_rfl) ?_
  refine Good.seq ?_
  refine Good.reg hN [] .nil [] (by kernel_rfl) ?_
  refine Good.seq ?_
  refine Good.seq ?_
  refine Good.reg hN [] .nil [] (by kernel_rfl) ?_
  refine Good.block ?_
  refine Good.loopN (fun k' st=>∃ (x0:List S41) (x1:Int) (x5:Int) (x6:Int),k'≤k∧Wk C st ⟨[(0,.d (.v (.row none 5 (List.map (v41 0) x0)))),(1,.d (.v (I x1))),(5,.d (.v (I x5))),(6,.d (.v (I x6)))],[]⟩∧cr20_depth.l0 k' x0 x1 x5 x6=some r) k ⟨l0,a1,0,0,Nat.le_refl _,Wk.of [(0,0),(1,0),(5,0),(6,0)] (by kernel_rfl) (by kernel_rfl),H⟩ fun k=>⟨fun st h=>(by obtain ⟨_,_,_,_,_,_,H⟩:=h;cases H),?_⟩
  clear H
  rintro st ⟨x0,x1,x5,x6,hk,W,H⟩
  refine W.good ?_
  rw [cr20_depth.l0] at H
  refine Good.seq ?_
  refine Good.seq ?_
  obtain ⟨c887,H⟩:=ifS H
  obtain ⟨c888,H⟩:=ifS H
  refine Good.reg hN [(v41 0) (rd_T41 x0 x1),I (((rd_T41 x0 x1).f4).length:Int)] (.cons c887 (.cons (atM (v41 0) z41 c887 c888) (.cons (lenM I ((rd_T41 x0 x1).f4)) .nil))) [] (by kernel_rfl) ?_
  rcases (ifC H).symm with ⟨c889,H⟩ | ⟨c889,H⟩
  ·refine Good.condF (decide_eq_false c889) (by kernel_rfl) ?_
   refine Good.exit ?_
   refine Good.seq ?_
   refine Good.reg hN [] .nil [] (by kernel_rfl) ?_
   obtain rfl:=Option.some.inj H
   exact Good.ret (fin.doneR (by kernel_rfl))
  refine Good.condT (decide_eq_true c889) (by kernel_rfl) ?_
  refine Good.skip ?_
  refine Good.seq ?_
  refine Good.block ?_
  refine Good.seq ?_
  obtain ⟨c890,H⟩:=ifS H
  obtain ⟨t891,h892,H⟩:=bindS H
  refine Good.reg hN [(v41 0) (rd_T41 x0 x1),I (rd ((rd_T41 x0 x1).f4) x6),I t891] (.cons c887 (.cons (atM (v41 0) z41 c887 c888) (.cons c890 (.cons (atM I (0:Int) c890 c889) (.cons (ih _ _ _ _ (by omega) h892).c .nil))))) [] (by kernel_rfl) ?_
  refine Good.seq ?_
  refine Good.reg hN [] .nil [] (by kernel_rfl) ?_
  rcases ifC H with ⟨c893,H⟩ | ⟨c893,H⟩
  ·refine Good.condT (decide_eq_true c893) (by kernel_rfl) ?_
   refine Good.reg hN [] .nil [] (by kernel_rfl) ?_
   refine Good.reg hN [] .nil [] (by kernel_rfl) ?_
   exact ⟨k,by omega,x0,x1,t891,wrap64 (x6+1),by omega,Wk.of [(0,0),(1,0),(5,0),(6,0)] (by kernel_rfl) (by kernel_rfl),H⟩
  refine Good.condF (decide_eq_false c893) (by kernel_rfl) ?_
  refine Good.skip ?_
  refine Good.reg hN [] .nil [] (by kernel_rfl) ?_
  exact ⟨k,by omega,x0,x1,x5,wrap64 (x6+1),by omega,Wk.of [(0,0),(1,0),(5,0),(6,0)] (by kernel_rfl) (by kernel_rfl),H⟩
theorem cr20_depth.con {k:Nat} {l0:List S41} {a1:Int} {r:(Int)} (H:cr20_depth.f k l0 a1=some r):Con Tryd.prog 30 [.row none 5 (List.map (v41 0) l0),I a1] (I r):=cr20_depth.cons k k l0 a1 r (Nat.le_refl _) H
def cr20_Depth.f (k:Nat) (l0:List S41):Option (Int):=(cr20_Right.f k l0).bind fun t894=>(if t894=true then ((cr20_depth.f k l0 0).bind fun t897=>(some t897)) else (some 0))
theorem cr20_Depth.con {k:Nat} {l0:List S41} {r:(Int)} (H:cr20_Depth.f k l0=some r):Con Tryd.prog 15 [.row none 5 (List.map (v41 0) l0)] (I r):=by
 refine Cg Tryd.func15 rfl fun C hN hL=>?_
 unfold cr20_Depth.f at H
 refine Sw<|Rg hN<|Sw<|Sw ?_
 obtain ⟨t894,h895,H⟩:=bindS H
 refine Rh hN [B t894] (.cons (cr20_Right.con h895).c .nil) ?_
 rcases (ifC H).symm with ⟨c896,H⟩ | ⟨c896,H⟩
 ·refine Ct (notT (bf c896))<|Sw<|Rg hN ?_
  cases H
  exact Rt dR
 refine Cf (notF c896)<|Sk<|Sw ?_
 obtain ⟨t897,h898,H⟩:=bindS H
 refine Rh hN [I t897] (.cons (cr20_depth.con h898).c .nil) ?_
 cases H
 exact Rt dR
def cr20_moved.l0:Nat→List Int→Int→List Int→Int→Option (List Int)
 | 0,_,_,_,_=>none
 | k+1,x0,x1,x5,x6=>if x6 < (x0.length:Int) then (if 0≤x6 then (if x5.length < 17592186044416 then (cr20_moved.l0 k x0 x1 (x5++[wrap64 ((rd x0 x6)+x1)]) (wrap64 (x6+1))) else (none)) else (none)) else (some x5)
def cr20_moved.f (k:Nat) (l0:List Int) (a1:Int):Option (List Int):=cr20_moved.l0 k l0 a1 ([]:List Int) 0
theorem cr20_moved.con {k:Nat} {l0:List Int} {a1:Int} {r:(List Int)} (H:cr20_moved.f k l0 a1=some r):Con Tryd.prog 34 [.row none 1 (List.map I l0),I a1] (.row (some 3) 1 (List.map I r)):=by
 refine Cg Tryd.func34 rfl fun C hN hL=>?_
 unfold cr20_moved.f at H
 refine Sw<|Rg hN<|Sw<|Rg hN<|Sw<|Sw<|Rg hN<|Bl<|Good.loopN (fun k' st=>∃ (x0:List Int) (x1:Int) (x5:List Int) (x6:Int),k'≤k∧Wk C st ⟨[(0,.w (.row none 1 (List.map I x0))),(1,.w (I x1)),(5,.w (.row (some 3) 1 (List.map I x5))),(6,.w (I x6))],[]⟩∧cr20_moved.l0 k' x0 x1 x5 x6=some r) k ⟨l0,a1,([]:List Int),0,Nat.le_refl _,Wo [(0,0),(1,0),(5,1),(6,0)],H⟩ fun k=>⟨fun st h=>(by obtain ⟨_,_,_,_,_,_,H⟩:=h;cases H),?_⟩
 clear H
 rintro st ⟨x0,x1,x5,x6,hk,W,H⟩
 refine W.good ?_
 rw [cr20_moved.l0] at H
 refine Sw<|Sw<|Rh hN [I (x0.length:Int)] (.cons (lenM I x0) .nil) ?_
 rcases (ifC H).symm with ⟨c903,H⟩ | ⟨c903,H⟩
 ·refine Cf (df c903)<|Ex<|Sw<|Rg hN ?_
  cases H
  exact Rt dR
 refine Ct (dt c903)<|Sk<|Sw<|Bl ?_
 obtain ⟨c904,H⟩:=ifS H
 obtain ⟨c905,H⟩:=ifS H
 exact Rh hN [I (rd x0 x6),.kb true,.row (some 3) 1 (List.map I (x5++[wrap64 ((rd x0 x6)+x1)]))] (.cons c904 (.cons (atM I (0:Int) c904 c903) (.cons (fitM I x5 [wrap64 ((rd x0 x6)+x1)] (.refl _)) (.cons (limM1 I c905) .nil))))<|Rg hN<|⟨k,by omega,x0,x1,(x5++[wrap64 ((rd x0 x6)+x1)]),wrap64 (x6+1),by omega,Wo [(0,0),(1,0),(5,0),(6,0)],H⟩
def cr20_Sub.l0:Nat→List S41→Int→List S41→Int→Int→Option (List S41)
 | 0,_,_,_,_,_=>none
 | k+1,x0,x1,x5,x6,x7=>if x7 < x6 then (if 0≤x7 then (if x7 < (x0.length:Int) then ((cr20_moved.f k ((rd_T41 x0 x7).f4) (wrap64 (-x1))).bind fun t931=>(if x5.length < 2199023255552 then (cr20_Sub.l0 k x0 x1 (x5++[(⟨(rd_T41 x0 x7).f0,(rd_T41 x0 x7).f1,(rd_T41 x0 x7).f2,(rd_T41 x0 x7).f3,t931⟩:S41)]) x6 (wrap64 (x7+1))) else (none))) else (none)) else (none)) else (some x5)
def cr20_Sub.j0:Nat→List S41→Int→Bool→Option (List S41)
 | 0,_,_,_=>none
 | k+1,x0,x1,x21=>if x21=true then (some ([]:List S41)) else ((cr20_behind.f k x0 x1 1).bind fun t926=>(cr20_Sub.l0 k x0 x1 ([]:List S41) t926 x1))
def cr20_Sub.f (k:Nat) (l0:List S41) (a1:Int):Option (List S41):=(cr20_Right.f k l0).bind fun t921=>(if t921=true then (if a1 < 0 then (cr20_Sub.j0 k l0 a1 true) else (cr20_Sub.j0 k l0 a1 (decide (a1≥(l0.length:Int))))) else (cr20_Sub.j0 k l0 a1 true))
theorem cr20_Sub.con {k:Nat} {l0:List S41} {a1:Int} {r:(List S41)} (H:cr20_Sub.f k l0 a1=some r):Con Tryd.prog 18 [.row none 5 (List.map (v41 0) l0),I a1] (.row (some 41) 5 (List.map (v41 1) r)):=by
 refine Cg Tryd.func18 rfl fun C hN hL=>?_
 unfold cr20_Sub.f at H
 refine Sw<|Rg hN<|Sw<|Rg hN<|Sw<|Sw<|Good.cut (fun st=>∃ n':Nat,n'≤k∧∃ (x0:List S41) (x1:Int) (x21:Bool),Wk C st ⟨[(0,.w (.row none 5 (List.map (v41 0) x0))),(1,.w (I x1)),(5,.w (.nil 41 5)),(21,.w (B x21))],[]⟩∧cr20_Sub.j0 n' x0 x1 x21=some r) ?_ ?_
 ·obtain ⟨t921,h922,H⟩:=bindS H
  rcases (ifC H).symm with ⟨c923,H⟩ | ⟨c923,H⟩
  ·exact Rh hN [B t921,B true,B true] (.cons (cr20_Right.con h922).c (.cons (notT (bf c923)) (.cons (rfl:true=true) .nil)))<|⟨k,by omega,l0,a1,true,Wo [(0,0),(1,0),(5,0),(21,0)],H⟩
  rcases ifC H with ⟨c924,H⟩ | ⟨c924,H⟩
  ·exact Rh hN [B t921,B false,B true] (.cons (cr20_Right.con h922).c (.cons (notF c923) (.cons (dt c924) .nil)))<|⟨k,by omega,l0,a1,true,Wo [(0,0),(1,0),(5,0),(21,0)],H⟩
  exact Rh hN [B t921,B false,B false,I (l0.length:Int)] (.cons (cr20_Right.con h922).c (.cons (notF c923) (.cons (df c924) (.cons (lenM (v41 0) l0) .nil))))<|⟨k,by omega,l0,a1,decide (a1≥(l0.length:Int)),Wo [(0,0),(1,0),(5,0),(21,0)],H⟩
 clear H
 rintro st ⟨n',hn',x0,x1,x21,W,H⟩
 rcases n' with _ | k
 ·cases H
 refine W.good ?_
 rw [cr20_Sub.j0] at H
 rcases ifC H with ⟨c925,H⟩ | ⟨c925,H⟩
 ·refine Ct c925<|Sw<|Rg hN ?_
  cases H
  exact Good.ret (fin_fit (u:=.nil 41 5) (.nilO 41 5) (by kernel_rfl))
 refine Cf (bf c925)<|Sk<|Sw ?_
 obtain ⟨t926,h927,H⟩:=bindS H
 refine Rh hN [I t926] (.cons (cr20_behind.con h927).c .nil)<|Sw<|Sw<|Rg hN<|Bl<|Good.loopN (fun k' st=>∃ (x0:List S41) (x1:Int) (x5:List S41) (x6:Int) (x7:Int),k'≤k∧Wk C st ⟨[(0,.w (.row none 5 (List.map (v41 0) x0))),(1,.w (I x1)),(5,.w (.row (some 41) 5 (List.map (v41 1) x5))),(6,.w (I x6)),(7,.w (I x7))],[]⟩∧cr20_Sub.l0 k' x0 x1 x5 x6 x7=some r) k ⟨x0,x1,([]:List S41),t926,x1,Nat.le_refl _,Wo [(0,0),(1,0),(5,1),(6,0),(7,0)],H⟩ fun k=>⟨fun st h=>(by obtain ⟨_,_,_,_,_,_,_,H⟩:=h;cases H),?_⟩
 clear H
 rintro st ⟨x0,x1,x5,x6,x7,hk,W,H⟩
 refine W.good ?_
 rw [cr20_Sub.l0] at H
 refine Sw<|Sw<|Rg hN ?_
 rcases (ifC H).symm with ⟨c928,H⟩ | ⟨c928,H⟩
 ·refine Cf (df c928)<|Ex<|Sw<|Rg hN ?_
  cases H
  exact Rt dR
 refine Ct (dt c928)<|Sk<|Sw<|Bl<|Sw ?_
 obtain ⟨c929,H⟩:=ifS H
 obtain ⟨c930,H⟩:=ifS H
 refine Rh hN [(v41 0) (rd_T41 x0 x7)] (.cons c929 (.cons (atM (v41 0) z41 c929 c930) .nil))<|Sw ?_
 obtain ⟨t931,h932,H⟩:=bindS H
 refine Ri hN [.row (some 3) 1 (List.map I t931)] (.cons (congrArg (Value.int .i64) ((wrapK_eq .i64 (0 - x1)).symm.trans (congrArg wrap64 (Int.zero_sub x1)))) (.cons (cr20_moved.con h932).c .nil)) [(39,.int .i64 (wrap64 (-x1)))] ?_
 obtain ⟨c933,H⟩:=ifS H
 exact Rh hN [.tup [],.kb true,.row (some 41) 5 (List.map (v41 1) (x5++[(⟨(rd_T41 x0 x7).f0,(rd_T41 x0 x7).f1,(rd_T41 x0 x7).f2,(rd_T41 x0 x7).f3,t931⟩:S41)]))] (.cons (fitM (v41 1) x5 [(⟨(rd_T41 x0 x7).f0,(rd_T41 x0 x7).f1,(rd_T41 x0 x7).f2,(rd_T41 x0 x7).f3,t931⟩:S41)] (.refl _)) (.cons (limM1 (v41 1) c933) .nil))<|Rg hN<|⟨k,by omega,x0,x1,(x5++[(⟨(rd_T41 x0 x7).f0,(rd_T41 x0 x7).f1,(rd_T41 x0 x7).f2,(rd_T41 x0 x7).f3,t931⟩:S41)]),x6,wrap64 (x7+1),by omega,Wk.ofB hL 0 [(0,0),(1,0),(5,0),(6,0),(7,0)] (by kernel_rfl) (by kernel_rfl) (by kernel_rfl),H⟩
def clavigerlaw20_TreeTells.f (k:Nat) (l0:List S41) (a1:Int):Option (Bool):=(cp_Tree.f k l0 60).bind fun t935=>(if t935=true then ((tree_Encode.f k l0).bind fun t940=>((cr20_Encode.f k l0).bind fun t942=>((tree_Right.f k l0).bind fun t944=>((cr20_Right.f k l0).bind fun t946=>(if (t944 == t946)=true then (if t940.1.toList=t942.1.toList then (if t940.2=t942.2 then ((tree_Size.f k l0).bind fun t951=>(if t951=(t942.1.size:Int) then ((tree_Depth.f k l0).bind fun t954=>((cr20_Depth.f k l0).bind fun t956=>(if t954=t956 then ((tree_Sub.f k l0 a1).bind fun t959=>((cr20_Sub.f k l0 a1).bind fun t961=>((cp_Same.f k t959 t961).bind fun t963=>(if t963=true then ((clavigerlaw20_awake.f k).bind fun t966=>(some t966)) else (some false))))) else (some false)))) else (some false))) else (some false)) else (some false)) else (some false)))))) else ((clavigerlaw20_awake.f k).bind fun t938=>(some t938)))
theorem clavigerlaw20_TreeTells.con {k:Nat} {l0:List S41} {a1:Int} {r:(Bool)} (H:clavigerlaw20_TreeTells.f k l0 a1=some r):Con Tryd.prog 3 [.row none 5 (List.map (v41 0) l0),I a1] (B r):=by
 refine Cg Tryd.func3 rfl fun C hN hL=>?_
 unfold clavigerlaw20_TreeTells.f at H
 refine Sw<|Rg hN<|Sw<|Sw ?_
 obtain ⟨t935,h936,H⟩:=bindS H
 refine Rh hN [B t935] (.cons (cp_Tree.con h936).c .nil) ?_
 rcases (ifC H).symm with ⟨c937,H⟩ | ⟨c937,H⟩
 ·refine Ct (notT (bf c937))<|Sw ?_
  obtain ⟨t938,h939,H⟩:=bindS H
  refine Rh hN [B t938] (.cons (clavigerlaw20_awake.con h939).c .nil) ?_
  cases H
  exact Rt dR
 refine Cf (notF c937)<|Sk<|Sw ?_
 obtain ⟨t940,h941,H⟩:=bindS H
 refine Rh hN [.tup [S t940.1,I t940.2]] (.cons (tree_Encode.con h941).c .nil)<|Sw ?_
 obtain ⟨t942,h943,H⟩:=bindS H
 refine Rh hN [.tup [S t942.1,I t942.2]] (.cons (cr20_Encode.con h943).c .nil)<|Sw ?_
 obtain ⟨t944,h945,H⟩:=bindS H
 obtain ⟨t946,h947,H⟩:=bindS H
 rcases (ifC H).symm with ⟨c948,H⟩ | ⟨c948,H⟩
 ·refine Rh hN [B t944,B t946,B false,B false,B false,B false,B false,B false] (.cons (tree_Right.con h945).c (.cons (cr20_Right.con h947).c (.cons (bf c948) (.cons (rfl:false=false) (.cons (rfl:false=false) (.cons (rfl:false=false) (.cons (rfl:false=false) (.cons (rfl:false=false) .nil)))))))) ?_
  cases H
  exact Rt dR
 rcases (ifC H).symm with ⟨c949,H⟩ | ⟨c949,H⟩
 ·refine Rh hN [B t944,B t946,B true,B false,B false,B false,B false,B false] (.cons (tree_Right.con h945).c (.cons (cr20_Right.con h947).c (.cons c948 (.cons (bn c949) (.cons (rfl:false=false) (.cons (rfl:false=false) (.cons (rfl:false=false) (.cons (rfl:false=false) .nil)))))))) ?_
  cases H
  exact Rt dR
 rcases (ifC H).symm with ⟨c950,H⟩ | ⟨c950,H⟩
 ·refine Rh hN [B t944,B t946,B true,B true,B false,B false,B false,B false] (.cons (tree_Right.con h945).c (.cons (cr20_Right.con h947).c (.cons c948 (.cons (bq c949) (.cons (bn c950) (.cons (rfl:false=false) (.cons (rfl:false=false) (.cons (rfl:false=false) .nil)))))))) ?_
  cases H
  exact Rt dR
 obtain ⟨t951,h952,H⟩:=bindS H
 rcases (ifC H).symm with ⟨c953,H⟩ | ⟨c953,H⟩
 ·refine Rh hN [B t944,B t946,B true,B true,B true,I t951,B false,B false,B false] (.cons (tree_Right.con h945).c (.cons (cr20_Right.con h947).c (.cons c948 (.cons (bq c949) (.cons (bq c950) (.cons (tree_Size.con h952).c (.cons (bn c953) (.cons (rfl:false=false) (.cons (rfl:false=false) .nil))))))))) ?_
  cases H
  exact Rt dR
 obtain ⟨t954,h955,H⟩:=bindS H
 obtain ⟨t956,h957,H⟩:=bindS H
 rcases (ifC H).symm with ⟨c958,H⟩ | ⟨c958,H⟩
 ·refine Rh hN [B t944,B t946,B true,B true,B true,I t951,B true,I t954,I t956,B false,B false] (.cons (tree_Right.con h945).c (.cons (cr20_Right.con h947).c (.cons c948 (.cons (bq c949) (.cons (bq c950) (.cons (tree_Size.con h952).c (.cons (bq c953) (.cons (tree_Depth.con h955).c (.cons (cr20_Depth.con h957).c (.cons (bn c958) (.cons (rfl:false=false) .nil))))))))))) ?_
  cases H
  exact Rt dR
 obtain ⟨t959,h960,H⟩:=bindS H
 obtain ⟨t961,h962,H⟩:=bindS H
 obtain ⟨t963,h964,H⟩:=bindS H
 rcases (ifC H).symm with ⟨c965,H⟩ | ⟨c965,H⟩
 ·refine Rh hN [B t944,B t946,B true,B true,B true,I t951,B true,I t954,I t956,B true,.row (some 41) 5 (List.map (v41 1) t959),.row (some 41) 5 (List.map (v41 1) t961),.row none 5 (List.map (v41 0) t959),.row none 5 (List.map (v41 0) t961),B t963,B false] (.cons (tree_Right.con h945).c (.cons (cr20_Right.con h947).c (.cons c948 (.cons (bq c949) (.cons (bq c950) (.cons (tree_Size.con h952).c (.cons (bq c953) (.cons (tree_Depth.con h955).c (.cons (cr20_Depth.con h957).c (.cons (bq c958) (.cons (tree_Sub.con h960).c (.cons (cr20_Sub.con h962).c (.cons (shrM (some 41) 5 (v41 1) (v41 0) t959 (v41.shr _)) (.cons (shrM (some 41) 5 (v41 1) (v41 0) t961 (v41.shr _)) (.cons (cp_Same.con h964).c (.cons (bf c965) .nil)))))))))))))))) ?_
  cases H
  exact Rt dR
 obtain ⟨t966,h967,H⟩:=bindS H
 refine Rh hN [B t944,B t946,B true,B true,B true,I t951,B true,I t954,I t956,B true,.row (some 41) 5 (List.map (v41 1) t959),.row (some 41) 5 (List.map (v41 1) t961),.row none 5 (List.map (v41 0) t959),.row none 5 (List.map (v41 0) t961),B t963,B true,B t966] (.cons (tree_Right.con h945).c (.cons (cr20_Right.con h947).c (.cons c948 (.cons (bq c949) (.cons (bq c950) (.cons (tree_Size.con h952).c (.cons (bq c953) (.cons (tree_Depth.con h955).c (.cons (cr20_Depth.con h957).c (.cons (bq c958) (.cons (tree_Sub.con h960).c (.cons (cr20_Sub.con h962).c (.cons (shrM (some 41) 5 (v41 1) (v41 0) t959 (v41.shr _)) (.cons (shrM (some 41) 5 (v41 1) (v41 0) t961 (v41.shr _)) (.cons (cp_Same.con h964).c (.cons c965 (.cons (clavigerlaw20_awake.con h967).c .nil))))))))))))))))) ?_
 cases H
 exact Rt dR
mutual
def cr20_Of.l0:Nat→List (List S41)→List S41→Int→Option (List S41)
 | 0,_,_,_=>none
 | k+1,x2,x7,x8=>if x8 < (x2.length:Int) then (if 0≤x8 then (if ((rd_L41 x2 x8).length:Int) > 0 then (if 0 < (x7.length:Int) then (if ((rd_T41 x7 0).f4).length < 17592186044416 then (cr20_Of.j1 k x2 (x7.set (0:Int).toNat (⟨(rd_T41 x7 0).f0,(rd_T41 x7 0).f1,(rd_T41 x7 0).f2,(rd_T41 x7 0).f3,(((rd_T41 x7 0).f4)++[(x7.length:Int)])⟩:S41)) x8 (x7.length:Int)) else (none)) else (none)) else (cr20_Of.j1 k x2 x7 x8 (x7.length:Int))) else (none)) else (some x7)
def cr20_Of.j1:Nat→List (List S41)→List S41→Int→Int→Option (List S41)
 | 0,_,_,_,_=>none
 | k+1,x2,x7,x8,x9=>cr20_Of.l1 k x2 x7 x8 x9 0
def cr20_Of.l1:Nat→List (List S41)→List S41→Int→Int→Int→Option (List S41)
 | 0,_,_,_,_,_=>none
 | k+1,x2,x7,x8,x9,x10=>if 0≤x8 then (if x8 < (x2.length:Int) then (if x10 < ((rd_L41 x2 x8).length:Int) then (if 0≤x10 then ((cr20_moved.f k ((rd_T41 (rd_L41 x2 x8) x10).f4) x9).bind fun t983=>(if x7.length < 2199023255552 then (cr20_Of.l1 k x2 (x7++[(⟨(rd_T41 (rd_L41 x2 x8) x10).f0,(rd_T41 (rd_L41 x2 x8) x10).f1,(rd_T41 (rd_L41 x2 x8) x10).f2,(rd_T41 (rd_L41 x2 x8) x10).f3,t983⟩:S41)]) x8 x9 (wrap64 (x10+1))) else (none))) else (none)) else (cr20_Of.l0 k x2 x7 (wrap64 (x8+1)))) else (none)) else (none)
end
def cr20_Of.f (k:Nat) (a0:Int) (a1:Int) (l2:List (List S41)):Option (List S41):=cr20_Of.l0 k l2 ([(⟨a0,a1,true,(⟨#[]⟩:ByteArray),([]:List Int)⟩:S41)]:List S41) 0
theorem cr20_Of.con {k:Nat} {a0:Int} {a1:Int} {l2:List (List S41)} {r:(List S41)} (H:cr20_Of.f k a0 a1 l2=some r):Con Tryd.prog 20 [I a0,I a1,.row none 1 (List.map (vL41 0) l2)] (.row (some 41) 5 (List.map (v41 1) r)):=by
 refine Cg Tryd.func20 rfl fun C hN hL=>?_
 unfold cr20_Of.f at H
 refine Sw<|Rg hN<|Sw<|Rj hN [] (.cons (fitR (o:=some 41) (sz:=5) (n:=[.agg [I a0,I a1,B true,S (⟨#[]⟩:ByteArray),.row (some 3) 1 (List.map I ([]:List Int))]]) (.cons (.agg (.cons (.refl _) (.cons (.refl _) (.cons (.refl _) (.cons (.refl _) (.cons (.nilO 3 1) .nil)))))) .nil)) .nil) [] [(15,.row (some 41) 5 (List.map (v41 1) ([(⟨a0,a1,true,(⟨#[]⟩:ByteArray),([]:List Int)⟩:S41)]:List S41)))]<|Sw<|Sw<|Rg hN<|Bl<|Good.loopN (fun k' st=>∃ (x2:List (List S41)) (x7:List S41) (x8:Int),k'≤k∧Wk C st ⟨[(2,.w (.row none 1 (List.map (vL41 0) x2))),(7,.w (.row (some 41) 5 (List.map (v41 1) x7))),(8,.w (I x8))],[]⟩∧cr20_Of.l0 k' x2 x7 x8=some r) k ⟨l2,([(⟨a0,a1,true,(⟨#[]⟩:ByteArray),([]:List Int)⟩:S41)]:List S41),0,Nat.le_refl _,Wo [(2,0),(7,0),(8,0)],H⟩ fun k=>⟨fun st h=>(by obtain ⟨_,_,_,_,_,H⟩:=h;cases H),?_⟩
 clear H
 rintro st ⟨x2,x7,x8,hk,W,H⟩
 refine W.good ?_
 rw [cr20_Of.l0] at H
 refine Sw<|Sw<|Rh hN [I (x2.length:Int)] (.cons (lenM (vL41 0) x2) .nil) ?_
 rcases (ifC H).symm with ⟨c972,H⟩ | ⟨c972,H⟩
 ·refine Cf (df c972)<|Ex<|Sw<|Rg hN ?_
  cases H
  exact Rt dR
 refine Ct (dt c972)<|Sk<|Sw<|Bl<|Sw<|Rh hN [I (x7.length:Int)] (.cons (lenM (v41 1) x7) .nil)<|Sw<|Sw ?_
 obtain ⟨c973,H⟩:=ifS H
 refine Rh hN [(vL41 0) (rd_L41 x2 x8),I ((rd_L41 x2 x8).length:Int)] (.cons c973 (.cons (atM (vL41 0) ([]:List S41) c973 c972) (.cons (lenM (v41 0) (rd_L41 x2 x8)) .nil)))<|Good.cut (fun st=>∃ n':Nat,n'≤k∧∃ (x2:List (List S41)) (x7:List S41) (x8:Int) (x9:Int),Wk C st ⟨[(2,.w (.row none 1 (List.map (vL41 0) x2))),(7,.w (.row (some 41) 5 (List.map (v41 1) x7))),(8,.w (I x8)),(9,.w (I x9))],[]⟩∧cr20_Of.j1 n' x2 x7 x8 x9=some r) ?_ ?_
 ·rcases (ifC H).symm with ⟨c974,H⟩ | ⟨c974,H⟩
  ·exact Cf (df c974)<|Sk<|⟨k,by omega,x2,x7,x8,(x7.length:Int),Wo [(2,0),(7,0),(8,0),(9,0)],H⟩
  refine Ct (dt c974) ?_
  obtain ⟨c975,H⟩:=ifS H
  obtain ⟨c976,H⟩:=ifS H
  exact Rh hN [(v41 1) (rd_T41 x7 0),.kb true,(v41 1) (rd_T41 x7 0),.row (some 3) 1 (List.map I (((rd_T41 x7 0).f4)++[(x7.length:Int)])),setC ((v41 1) (rd_T41 x7 0)) 4 [.any],(v41 1) (⟨(rd_T41 x7 0).f0,(rd_T41 x7 0).f1,(rd_T41 x7 0).f2,(rd_T41 x7 0).f3,(((rd_T41 x7 0).f4)++[(x7.length:Int)])⟩:S41),.row (some 41) 5 (List.map (v41 1) (x7.set (0:Int).toNat (⟨(rd_T41 x7 0).f0,(rd_T41 x7 0).f1,(rd_T41 x7 0).f2,(rd_T41 x7 0).f3,(((rd_T41 x7 0).f4)++[(x7.length:Int)])⟩:S41)))] (.cons (show (0:Int)≤0 by decide) (.cons (ltM (v41 1) c975) (.cons (atM (v41 1) z41 (show (0:Int)≤0 by decide) c975) (.cons (atM (v41 1) z41 (show (0:Int)≤0 by decide) c975) (.cons (fitM I ((rd_T41 x7 0).f4) [(x7.length:Int)] (.refl _)) (.cons (limM1 I c976) (.cons (show (0:Int)≤0 by decide) (.cons (ltH (v41 1) (m:=(0:Int).toNat) (X:=setC ((v41 1) (rd_T41 x7 0)) 4 [.any]) c975) (.cons (atH (v41 1) (X:=setC ((v41 1) (rd_T41 x7 0)) 4 [.any]) (show (0:Int)≤0 by decide) c975) (.cons (Fit.refl ((v41 1) (⟨(rd_T41 x7 0).f0,(rd_T41 x7 0).f1,(rd_T41 x7 0).f2,(rd_T41 x7 0).f3,(((rd_T41 x7 0).f4)++[(x7.length:Int)])⟩:S41))) (.cons (setH (v41 1) (l:=x7) (n:=(0:Int).toNat) (x:=(⟨(rd_T41 x7 0).f0,(rd_T41 x7 0).f1,(rd_T41 x7 0).f2,(rd_T41 x7 0).f3,(((rd_T41 x7 0).f4)++[(x7.length:Int)])⟩:S41)) (X:=setC ((v41 1) (rd_T41 x7 0)) 4 [.any])) .nil)))))))))))<|⟨k,by omega,x2,(x7.set (0:Int).toNat (⟨(rd_T41 x7 0).f0,(rd_T41 x7 0).f1,(rd_T41 x7 0).f2,(rd_T41 x7 0).f3,(((rd_T41 x7 0).f4)++[(x7.length:Int)])⟩:S41)),x8,(x7.length:Int),Wo [(2,0),(7,0),(8,0),(9,0)],H⟩
 clear H
 rintro st ⟨n',hn',x2,x7,x8,x9,W,H⟩
 rcases n' with _ | k
 ·cases H
 refine W.good ?_
 rw [cr20_Of.j1] at H
 refine Sw<|Rg hN<|Bl<|Good.loopN (fun k' st=>∃ (x2:List (List S41)) (x7:List S41) (x8:Int) (x9:Int) (x10:Int),k'≤k∧Wk C st ⟨[(2,.w (.row none 1 (List.map (vL41 0) x2))),(7,.w (.row (some 41) 5 (List.map (v41 1) x7))),(8,.w (I x8)),(9,.w (I x9)),(10,.w (I x10))],[]⟩∧cr20_Of.l1 k' x2 x7 x8 x9 x10=some r) k ⟨x2,x7,x8,x9,0,Nat.le_refl _,Wo [(2,0),(7,0),(8,0),(9,0),(10,0)],H⟩ fun k=>⟨fun st h=>(by obtain ⟨_,_,_,_,_,_,_,H⟩:=h;cases H),?_⟩
 clear H
 rintro st ⟨x2,x7,x8,x9,x10,hk,W,H⟩
 refine W.good ?_
 rw [cr20_Of.l1] at H
 refine Sw<|Sw ?_
 obtain ⟨c979,H⟩:=ifS H
 obtain ⟨c980,H⟩:=ifS H
 refine Rh hN [(vL41 0) (rd_L41 x2 x8),I ((rd_L41 x2 x8).length:Int)] (.cons c979 (.cons (atM (vL41 0) ([]:List S41) c979 c980) (.cons (lenM (v41 0) (rd_L41 x2 x8)) .nil))) ?_
 rcases (ifC H).symm with ⟨c981,H⟩ | ⟨c981,H⟩
 ·exact Cf (df c981)<|Ex<|Rg hN<|⟨k,by omega,x2,x7,wrap64 (x8+1),by omega,Wo [(2,0),(7,0),(8,0)],H⟩
 refine Ct (dt c981)<|Sk<|Sw<|Bl<|Sw ?_
 obtain ⟨c982,H⟩:=ifS H
 refine Rh hN [(vL41 0) (rd_L41 x2 x8),(v41 0) (rd_T41 (rd_L41 x2 x8) x10)] (.cons c979 (.cons (atM (vL41 0) ([]:List S41) c979 c980) (.cons c982 (.cons (atM (v41 0) z41 c982 c981) .nil))))<|Sw ?_
 obtain ⟨t983,h984,H⟩:=bindS H
 refine Rh hN [.row (some 3) 1 (List.map I t983)] (.cons (cr20_moved.con h984).c .nil) ?_
 obtain ⟨c985,H⟩:=ifS H
 exact Rh hN [.tup [],.kb true,.row (some 41) 5 (List.map (v41 1) (x7++[(⟨(rd_T41 (rd_L41 x2 x8) x10).f0,(rd_T41 (rd_L41 x2 x8) x10).f1,(rd_T41 (rd_L41 x2 x8) x10).f2,(rd_T41 (rd_L41 x2 x8) x10).f3,t983⟩:S41)]))] (.cons (fitM (v41 1) x7 [(⟨(rd_T41 (rd_L41 x2 x8) x10).f0,(rd_T41 (rd_L41 x2 x8) x10).f1,(rd_T41 (rd_L41 x2 x8) x10).f2,(rd_T41 (rd_L41 x2 x8) x10).f3,t983⟩:S41)] (.refl _)) (.cons (limM1 (v41 1) c985) .nil))<|Rg hN<|⟨k,by omega,x2,(x7++[(⟨(rd_T41 (rd_L41 x2 x8) x10).f0,(rd_T41 (rd_L41 x2 x8) x10).f1,(rd_T41 (rd_L41 x2 x8) x10).f2,(rd_T41 (rd_L41 x2 x8) x10).f3,t983⟩:S41)]),x8,x9,wrap64 (x10+1),by omega,Wk.ofB hL 0 [(2,0),(7,0),(8,0),(9,0),(10,0)] (by kernel_rfl) (by kernel_rfl) (by kernel_rfl),H⟩
def cr20_Leaf.f (a0:Int) (a1:Int) (a2:ByteArray):Option (List S41):=some ([(⟨a0,a1,false,a2,([]:List Int)⟩:S41)]:List S41)
theorem cr20_Leaf.con {a0:Int} {a1:Int} {a2:ByteArray} {r:(List S41)} (H:cr20_Leaf.f a0 a1 a2=some r):Con Tryd.prog 22 [I a0,I a1,S a2] (.row (some 41) 5 (List.map (v41 0) r)):=by
 refine Cg Tryd.func22 rfl fun C hN hL=>?_
 unfold cr20_Leaf.f at H
 refine Sw<|Rg hN<|Sw<|Rj hN [] (.cons (fitR (o:=some 41) (sz:=5) (n:=[.agg [I a0,I a1,B false,S a2,.row none 1 (List.map I ([]:List Int))]]) (.cons (.agg (.cons (.refl _) (.cons (.refl _) (.cons (.refl _) (.cons (.refl _) (.cons (.nilS 3 1 _) .nil)))))) .nil)) .nil) [] [(11,.row (some 41) 5 (List.map (v41 0) ([(⟨a0,a1,false,a2,([]:List Int)⟩:S41)]:List S41)))] ?_
 cases H
 exact Rt dR
def clavigerlaw20_TreeMakes.l1:Nat→List (List S41)→Int→List (List S41)→Int→Int→Option (Bool)
 | 0,_,_,_,_,_=>none
 | k+1,x12,x13,x71,x72,x73=>if x73 < x72 then (if 0≤x73 then (if x73 < (x71.length:Int) then (if ((rd_L41 x71 x73).length:Int)=0 then (clavigerlaw20_TreeMakes.l1 k x12 x13 x71 x72 (wrap64 (x73+1))) else (if x13≥(x12.length:Int) then (some false) else (if 0≤x13 then (if x13 < (x12.length:Int) then ((cp_Same.f k (rd_L41 x12 x13) (rd_L41 x71 x73)).bind fun t1033=>(if t1033=true then (clavigerlaw20_TreeMakes.l1 k x12 (wrap64 (x13+1)) x71 x72 (wrap64 (x73+1))) else (some false))) else (none)) else (none)))) else (none)) else (none)) else (if x13=(x12.length:Int) then ((clavigerlaw20_awake.f k).bind fun t1025=>(some t1025)) else (some false))
def clavigerlaw20_TreeMakes.j2:Nat→List (List S41)→List S41→Bool→Option (Bool)
 | 0,_,_,_=>none
 | k+1,x3,x11,x58=>if x58=true then (some false) else ((cr20_Right.f k x11).bind fun t1013=>(if t1013=true then ((tree_Kids.f k x11).bind fun t1021=>(clavigerlaw20_TreeMakes.l1 k t1021 0 x3 (x3.length:Int) 0)) else ((tree_Kids.f k x11).bind fun t1016=>(if (t1016.length:Int)=0 then ((clavigerlaw20_awake.f k).bind fun t1019=>(some t1019)) else (some false)))))
def clavigerlaw20_TreeMakes.l0:Nat→Int→Int→ByteArray→List (List S41)→List (List S41)→Int→Int→Option (Bool)
 | 0,_,_,_,_,_,_,_=>none
 | k+1,x0,x1,x2,x3,x25,x26,x27=>if x27 < x26 then (if 0≤x27 then (if x27 < (x25.length:Int) then ((cp_Tree.f k (rd_L41 x25 x27) 20).bind fun t994=>(if t994=true then (clavigerlaw20_TreeMakes.l0 k x0 x1 x2 x3 x25 x26 (wrap64 (x27+1))) else ((clavigerlaw20_awake.f k).bind fun t997=>(some t997)))) else (none)) else (none)) else ((tree_Of.f k x0 x1 x3).bind fun t999=>((cr20_Of.f k x0 x1 x3).bind fun t1001=>((cp_Same.f k t999 t1001).bind fun t1003=>(if t1003=true then ((tree_Leaf.f x0 x1 x2).bind fun t1006=>((cr20_Leaf.f x0 x1 x2).bind fun t1008=>((cp_Same.f k t1006 t1008).bind fun t1010=>(clavigerlaw20_TreeMakes.j2 k x3 t999 (!t1010))))) else (clavigerlaw20_TreeMakes.j2 k x3 t999 true)))))
def clavigerlaw20_TreeMakes.j0:Nat→Int→Int→ByteArray→List (List S41)→Bool→Option (Bool)
 | 0,_,_,_,_,_=>none
 | k+1,x0,x1,x2,x3,x23=>if x23=true then ((clavigerlaw20_awake.f k).bind fun t989=>(some t989)) else (clavigerlaw20_TreeMakes.l0 k x0 x1 x2 x3 x3 (x3.length:Int) 0)
def clavigerlaw20_TreeMakes.f (k:Nat) (a0:Int) (a1:Int) (a2:ByteArray) (l3:List (List S41)):Option (Bool):=if (a2.size:Int) > 200 then (clavigerlaw20_TreeMakes.j0 k a0 a1 a2 l3 true) else (clavigerlaw20_TreeMakes.j0 k a0 a1 a2 l3 (decide ((l3.length:Int) > 10)))
theorem clavigerlaw20_TreeMakes.con {k:Nat} {a0:Int} {a1:Int} {a2:ByteArray} {l3:List (List S41)} {r:(Bool)} (H:clavigerlaw20_TreeMakes.f k a0 a1 a2 l3=some r):Con Tryd.prog 4 [I a0,I a1,S a2,.row none 1 (List.map (vL41 0) l3)] (B r):=by
 refine Cg Tryd.func4 rfl fun C hN hL=>?_
 unfold clavigerlaw20_TreeMakes.f at H
 refine Sw<|Rg hN<|Sw<|Sw<|Good.cut (fun st=>∃ n':Nat,n'≤k∧∃ (x0:Int) (x1:Int) (x2:ByteArray) (x3:List (List S41)) (x23:Bool),Wk C st ⟨[(0,.w (I x0)),(1,.w (I x1)),(2,.w (S x2)),(3,.w (.row none 1 (List.map (vL41 0) x3))),(23,.w (B x23))],[]⟩∧clavigerlaw20_TreeMakes.j0 n' x0 x1 x2 x3 x23=some r) ?_ ?_
 ·rcases ifC H with ⟨c987,H⟩ | ⟨c987,H⟩
  ·exact Rh hN [B true] (.cons (dt c987) .nil)<|⟨k,by omega,a0,a1,a2,l3,true,Wo [(0,0),(1,0),(2,0),(3,0),(23,0)],H⟩
  exact Rh hN [B false,I (l3.length:Int)] (.cons (df c987) (.cons (lenM (vL41 0) l3) .nil))<|⟨k,by omega,a0,a1,a2,l3,decide ((l3.length:Int) > 10),Wo [(0,0),(1,0),(2,0),(3,0),(23,0)],H⟩
 clear H
 rintro st ⟨n',hn',x0,x1,x2,x3,x23,W,H⟩
 rcases n' with _ | k
 ·cases H
 refine W.good ?_
 rw [clavigerlaw20_TreeMakes.j0] at H
 rcases ifC H with ⟨c988,H⟩ | ⟨c988,H⟩
 ·refine Ct c988<|Sw ?_
  obtain ⟨t989,h990,H⟩:=bindS H
  refine Rh hN [B t989] (.cons (clavigerlaw20_awake.con h990).c .nil) ?_
  cases H
  exact Rt dR
 refine Cf (bf c988)<|Sk<|Sw<|Sw<|Rh hN [I (x3.length:Int)] (.cons (lenM (vL41 0) x3) .nil)<|Bl<|Good.loopN (fun k' st=>∃ (x0:Int) (x1:Int) (x2:ByteArray) (x3:List (List S41)) (x25:List (List S41)) (x26:Int) (x27:Int),k'≤k∧Wk C st ⟨[(0,.w (I x0)),(1,.w (I x1)),(2,.w (S x2)),(3,.w (.row none 1 (List.map (vL41 0) x3))),(25,.w (.row none 1 (List.map (vL41 0) x25))),(26,.w (I x26)),(27,.w (I x27))],[]⟩∧clavigerlaw20_TreeMakes.l0 k' x0 x1 x2 x3 x25 x26 x27=some r) k ⟨x0,x1,x2,x3,x3,(x3.length:Int),0,Nat.le_refl _,Wo [(0,0),(1,0),(2,0),(3,0),(25,0),(26,0),(27,0)],H⟩ fun k=>⟨fun st h=>(by obtain ⟨_,_,_,_,_,_,_,_,_,H⟩:=h;cases H),?_⟩
 clear H
 rintro st ⟨x0,x1,x2,x3,x25,x26,x27,hk,W,H⟩
 refine W.good ?_
 rw [clavigerlaw20_TreeMakes.l0] at H
 refine Sw<|Rg hN<|Sw ?_
 rcases ifC H with ⟨c991,H⟩ | ⟨c991,H⟩
 ·refine Ct (dt c991)<|Sk<|Sw<|Bl<|Sw ?_
  obtain ⟨c992,H⟩:=ifS H
  obtain ⟨c993,H⟩:=ifS H
  refine Rh hN [(vL41 0) (rd_L41 x25 x27)] (.cons c992 (.cons (atM (vL41 0) ([]:List S41) c992 c993) .nil))<|Sw ?_
  obtain ⟨t994,h995,H⟩:=bindS H
  refine Rh hN [B t994] (.cons (cp_Tree.con h995).c .nil) ?_
  rcases ifC H with ⟨c996,H⟩ | ⟨c996,H⟩
  ·exact Cf (notF c996)<|Sk<|Rg hN<|⟨k,by omega,x0,x1,x2,x3,x25,x26,wrap64 (x27+1),by omega,Wo [(0,0),(1,0),(2,0),(3,0),(25,0),(26,0),(27,0)],H⟩
  refine Ct (notT (bf c996))<|Sw ?_
  obtain ⟨t997,h998,H⟩:=bindS H
  refine Rh hN [B t997] (.cons (clavigerlaw20_awake.con h998).c .nil) ?_
  cases H
  exact Rt dR
 refine Cf (df c991)<|Ex<|Sw ?_
 obtain ⟨t999,h1000,H⟩:=bindS H
 refine Rh hN [.row (some 41) 5 (List.map (v41 1) t999)] (.cons (tree_Of.con h1000).c .nil)<|Sw<|Sw<|Good.cut (fun st=>∃ n':Nat,n'≤k∧∃ (x3:List (List S41)) (x11:List S41) (x58:Bool),Wk C st ⟨[(3,.w (.row none 1 (List.map (vL41 0) x3))),(11,.w (.row none 5 (List.map (v41 0) x11))),(58,.w (B x58))],[]⟩∧clavigerlaw20_TreeMakes.j2 n' x3 x11 x58=some r) ?_ ?_
 ·obtain ⟨t1001,h1002,H⟩:=bindS H
  obtain ⟨t1003,h1004,H⟩:=bindS H
  rcases (ifC H).symm with ⟨c1005,H⟩ | ⟨c1005,H⟩
  ·exact Rh hN [.row (some 41) 5 (List.map (v41 1) t1001),.row none 5 (List.map (v41 0) t999),.row none 5 (List.map (v41 0) t1001),B t1003,B true] (.cons (cr20_Of.con h1002).c (.cons (shrM (some 41) 5 (v41 1) (v41 0) t999 (v41.shr _)) (.cons (shrM (some 41) 5 (v41 1) (v41 0) t1001 (v41.shr _)) (.cons (cp_Same.con h1004).c (.cons (notT (bf c1005)) .nil)))))<|⟨k,by omega,x3,t999,true,Wo [(3,0),(11,0),(58,0)],H⟩
  obtain ⟨t1006,h1007,H⟩:=bindS H
  obtain ⟨t1008,h1009,H⟩:=bindS H
  obtain ⟨t1010,h1011,H⟩:=bindS H
  exact Rh hN [.row (some 41) 5 (List.map (v41 1) t1001),.row none 5 (List.map (v41 0) t999),.row none 5 (List.map (v41 0) t1001),B t1003,B false,.row (some 41) 5 (List.map (v41 0) t1006),.row (some 41) 5 (List.map (v41 0) t1008),.row none 5 (List.map (v41 0) t1006),.row none 5 (List.map (v41 0) t1008),B t1010] (.cons (cr20_Of.con h1002).c (.cons (shrM (some 41) 5 (v41 1) (v41 0) t999 (v41.shr _)) (.cons (shrM (some 41) 5 (v41 1) (v41 0) t1001 (v41.shr _)) (.cons (cp_Same.con h1004).c (.cons (notF c1005) (.cons (tree_Leaf.con h1007).c (.cons (cr20_Leaf.con h1009).c (.cons (shrM (some 41) 5 (v41 0) (v41 0) t1006 (v41.shr _)) (.cons (shrM (some 41) 5 (v41 0) (v41 0) t1008 (v41.shr _)) (.cons (cp_Same.con h1011).c .nil))))))))))<|⟨k,by omega,x3,t999,!t1010,Wo [(3,0),(11,0),(58,0)],H⟩
 clear H
 rintro st ⟨n',hn',x3,x11,x58,W,H⟩
 rcases n' with _ | k
 ·cases H
 refine W.good ?_
 rw [clavigerlaw20_TreeMakes.j2] at H
 rcases ifC H with ⟨c1012,H⟩ | ⟨c1012,H⟩
 ·refine Ct c1012<|Sw<|Rg hN ?_
  cases H
  exact Rt dR
 refine Cf (bf c1012)<|Sk<|Sw<|Sw ?_
 obtain ⟨t1013,h1014,H⟩:=bindS H
 refine Rh hN [B t1013] (.cons (cr20_Right.con h1014).c .nil) ?_
 rcases (ifC H).symm with ⟨c1015,H⟩ | ⟨c1015,H⟩
 ·refine Ct (notT (bf c1015))<|Sw ?_
  obtain ⟨t1016,h1017,H⟩:=bindS H
  rcases (ifC H).symm with ⟨c1018,H⟩ | ⟨c1018,H⟩
  ·refine Rh hN [.row (some 23) 1 (List.map (vL41 0) t1016),I (t1016.length:Int),B false] (.cons (tree_Kids.con h1017).c (.cons (lenM (vL41 0) t1016) (.cons (bn c1018) .nil))) ?_
   cases H
   exact Rt dR
  obtain ⟨t1019,h1020,H⟩:=bindS H
  refine Rh hN [.row (some 23) 1 (List.map (vL41 0) t1016),I (t1016.length:Int),B true,B t1019] (.cons (tree_Kids.con h1017).c (.cons (lenM (vL41 0) t1016) (.cons (bq c1018) (.cons (clavigerlaw20_awake.con h1020).c .nil)))) ?_
  cases H
  exact Rt dR
 refine Cf (notF c1015)<|Sk<|Sw ?_
 obtain ⟨t1021,h1022,H⟩:=bindS H
 refine Rh hN [.row (some 23) 1 (List.map (vL41 0) t1021)] (.cons (tree_Kids.con h1022).c .nil)<|Sw<|Rg hN<|Sw<|Sw<|Rh hN [I (x3.length:Int)] (.cons (lenM (vL41 0) x3) .nil)<|Bl<|Good.loopN (fun k' st=>∃ (x12:List (List S41)) (x13:Int) (x71:List (List S41)) (x72:Int) (x73:Int),k'≤k∧Wk C st ⟨[(12,.w (.row (some 23) 1 (List.map (vL41 0) x12))),(13,.w (I x13)),(71,.w (.row none 1 (List.map (vL41 0) x71))),(72,.w (I x72)),(73,.w (I x73))],[]⟩∧clavigerlaw20_TreeMakes.l1 k' x12 x13 x71 x72 x73=some r) k ⟨t1021,0,x3,(x3.length:Int),0,Nat.le_refl _,Wo [(12,0),(13,0),(71,0),(72,0),(73,0)],H⟩ fun k=>⟨fun st h=>(by obtain ⟨_,_,_,_,_,_,_,H⟩:=h;cases H),?_⟩
 clear H
 rintro st ⟨x12,x13,x71,x72,x73,hk,W,H⟩
 refine W.good ?_
 rw [clavigerlaw20_TreeMakes.l1] at H
 refine Sw<|Rg hN<|Sw ?_
 rcases (ifC H).symm with ⟨c1023,H⟩ | ⟨c1023,H⟩
 ·refine Cf (df c1023)<|Ex<|Sw ?_
  rcases (ifC H).symm with ⟨c1024,H⟩ | ⟨c1024,H⟩
  ·refine Rh hN [I (x12.length:Int),B false] (.cons (lenM (vL41 0) x12) (.cons (bn c1024) .nil)) ?_
   cases H
   exact Rt dR
  obtain ⟨t1025,h1026,H⟩:=bindS H
  refine Rh hN [I (x12.length:Int),B true,B t1025] (.cons (lenM (vL41 0) x12) (.cons (bq c1024) (.cons (clavigerlaw20_awake.con h1026).c .nil))) ?_
  cases H
  exact Rt dR
 refine Ct (dt c1023)<|Sk<|Sw<|Bl<|Sw ?_
 obtain ⟨c1027,H⟩:=ifS H
 obtain ⟨c1028,H⟩:=ifS H
 refine Rh hN [(vL41 0) (rd_L41 x71 x73)] (.cons c1027 (.cons (atM (vL41 0) ([]:List S41) c1027 c1028) .nil))<|Sw<|Sw<|Rh hN [I ((rd_L41 x71 x73).length:Int)] (.cons (lenM (v41 0) (rd_L41 x71 x73)) .nil) ?_
 rcases ifC H with ⟨c1029,H⟩ | ⟨c1029,H⟩
 ·exact Ct (bq c1029)<|Ex<|Rg hN<|⟨k,by omega,x12,x13,x71,x72,wrap64 (x73+1),by omega,Wo [(12,0),(13,0),(71,0),(72,0),(73,0)],H⟩
 refine Cf (bn c1029)<|Sk<|Sw<|Sw ?_
 rcases ifC H with ⟨c1030,H⟩ | ⟨c1030,H⟩
 ·refine Rh hN [I (x12.length:Int),B true] (.cons (lenM (vL41 0) x12) (.cons (dt c1030) .nil))<|Good.cond true (by kernel_rfl)<|Sw<|Rg hN ?_
  cases H
  exact Rt dR
 obtain ⟨c1031,H⟩:=ifS H
 obtain ⟨c1032,H⟩:=ifS H
 obtain ⟨t1033,h1034,H⟩:=bindS H
 refine Rh hN [I (x12.length:Int),B false,(vL41 0) (rd_L41 x12 x13),B t1033] (.cons (lenM (vL41 0) x12) (.cons (df c1030) (.cons c1031 (.cons (ltM (vL41 0) c1032) (.cons (atM (vL41 0) ([]:List S41) c1031 c1032) (.cons (cp_Same.con h1034).c .nil)))))) ?_
 rcases ifC H with ⟨c1035,H⟩ | ⟨c1035,H⟩
 ·exact Cf (notF c1035)<|Sk<|Rg hN<|Rg hN<|⟨k,by omega,x12,wrap64 (x13+1),x71,x72,wrap64 (x73+1),by omega,Wo [(12,0),(13,0),(71,0),(72,0),(73,0)],H⟩
 refine Ct (notT (bf c1035))<|Sw<|Rg hN ?_
 cases H
 exact Rt dR
def clavigerlaw20_TreeAgain.l0:Nat→List S41→List (List S41)→Int→Int→Option (Bool)
 | 0,_,_,_,_=>none
 | k+1,x0,x3,x36,x37=>if x37 < x36 then (if 0≤x37 then (if x37 < (x3.length:Int) then ((tree_Right.f k (rd_L41 x3 x37)).bind fun t1069=>(if t1069=true then ((tree_Depth.f k (rd_L41 x3 x37)).bind fun t1072=>((tree_Depth.f k x0).bind fun t1074=>(if t1072≥t1074 then (some false) else (clavigerlaw20_TreeAgain.l0 k x0 x3 x36 (wrap64 (x37+1)))))) else (some false))) else (none)) else (none)) else (if 0 < (x0.length:Int) then ((tree_Of.f k ((rd_T41 x0 0).f0) ((rd_T41 x0 0).f1) x3).bind fun t1060=>((cp_Same.f k t1060 x0).bind fun t1062=>(if t1062=true then ((clavigerlaw20_awake.f k).bind fun t1065=>(some t1065)) else (some false)))) else (none))
def clavigerlaw20_TreeAgain.j0:Nat→List S41→Bool→Option (Bool)
 | 0,_,_=>none
 | k+1,x0,x13=>if x13=true then ((clavigerlaw20_awake.f k).bind fun t1042=>(some t1042)) else (if 0 < (x0.length:Int) then (if (rd_T41 x0 0).f2=true then ((tree_Kids.f k x0).bind fun t1056=>(clavigerlaw20_TreeAgain.l0 k x0 t1056 (t1056.length:Int) 0)) else ((tree_Kids.f k x0).bind fun t1046=>(if (t1046.length:Int)=0 then ((tree_Sub.f k x0 0).bind fun t1049=>((cp_Same.f k t1049 x0).bind fun t1051=>(if t1051=true then ((clavigerlaw20_awake.f k).bind fun t1054=>(some t1054)) else (some false)))) else (some false)))) else (none))
def clavigerlaw20_TreeAgain.f (k:Nat) (l0:List S41):Option (Bool):=(cp_Tree.f k l0 60).bind fun t1036=>(if t1036=true then ((cr20_Right.f k l0).bind fun t1039=>(clavigerlaw20_TreeAgain.j0 k l0 (!t1039))) else (clavigerlaw20_TreeAgain.j0 k l0 true))
theorem clavigerlaw20_TreeAgain.con {k:Nat} {l0:List S41} {r:(Bool)} (H:clavigerlaw20_TreeAgain.f k l0=some r):Con Tryd.prog 5 [.row none 5 (List.map (v41 0) l0)] (B r):=by
 refine Cg Tryd.func5 rfl fun C hN hL=>?_
 unfold clavigerlaw20_TreeAgain.f at H
 refine Sw<|Rg hN<|Sw<|Sw<|Good.cut (fun st=>∃ n':Nat,n'≤k∧∃ (x0:List S41) (x13:Bool),Wk C st ⟨[(0,.w (.row none 5 (List.map (v41 0) x0))),(13,.w (B x13))],[]⟩∧clavigerlaw20_TreeAgain.j0 n' x0 x13=some r) ?_ ?_
 ·obtain ⟨t1036,h1037,H⟩:=bindS H
  rcases (ifC H).symm with ⟨c1038,H⟩ | ⟨c1038,H⟩
  ·exact Rh hN [B t1036,B true] (.cons (cp_Tree.con h1037).c (.cons (notT (bf c1038)) .nil))<|⟨k,by omega,l0,true,Wo [(0,0),(13,0)],H⟩
  obtain ⟨t1039,h1040,H⟩:=bindS H
  exact Rh hN [B t1036,B false,B t1039] (.cons (cp_Tree.con h1037).c (.cons (notF c1038) (.cons (cr20_Right.con h1040).c .nil)))<|⟨k,by omega,l0,!t1039,Wo [(0,0),(13,0)],H⟩
 clear H
 rintro st ⟨n',hn',x0,x13,W,H⟩
 rcases n' with _ | k
 ·cases H
 refine W.good ?_
 rw [clavigerlaw20_TreeAgain.j0] at H
 rcases ifC H with ⟨c1041,H⟩ | ⟨c1041,H⟩
 ·refine Ct c1041<|Sw ?_
  obtain ⟨t1042,h1043,H⟩:=bindS H
  refine Rh hN [B t1042] (.cons (clavigerlaw20_awake.con h1043).c .nil) ?_
  cases H
  exact Rt dR
 refine Cf (bf c1041)<|Sk<|Sw<|Sw ?_
 obtain ⟨c1044,H⟩:=ifS H
 refine Rh hN [(v41 0) (rd_T41 x0 0)] (.cons (show (0:Int)≤0 by decide) (.cons (atM (v41 0) z41 (show (0:Int)≤0 by decide) c1044) .nil)) ?_
 rcases (ifC H).symm with ⟨c1045,H⟩ | ⟨c1045,H⟩
 ·refine Ct (notT (bf c1045))<|Sw ?_
  obtain ⟨t1046,h1047,H⟩:=bindS H
  rcases (ifC H).symm with ⟨c1048,H⟩ | ⟨c1048,H⟩
  ·refine Rh hN [.row (some 23) 1 (List.map (vL41 0) t1046),I (t1046.length:Int),B false,B false] (.cons (tree_Kids.con h1047).c (.cons (lenM (vL41 0) t1046) (.cons (bn c1048) (.cons (rfl:false=false) .nil)))) ?_
   cases H
   exact Rt dR
  obtain ⟨t1049,h1050,H⟩:=bindS H
  obtain ⟨t1051,h1052,H⟩:=bindS H
  rcases (ifC H).symm with ⟨c1053,H⟩ | ⟨c1053,H⟩
  ·refine Rh hN [.row (some 23) 1 (List.map (vL41 0) t1046),I (t1046.length:Int),B true,.row (some 41) 5 (List.map (v41 1) t1049),.row none 5 (List.map (v41 0) t1049),B t1051,B false] (.cons (tree_Kids.con h1047).c (.cons (lenM (vL41 0) t1046) (.cons (bq c1048) (.cons (tree_Sub.con h1050).c (.cons (shrM (some 41) 5 (v41 1) (v41 0) t1049 (v41.shr _)) (.cons (cp_Same.con h1052).c (.cons (bf c1053) .nil))))))) ?_
   cases H
   exact Rt dR
  obtain ⟨t1054,h1055,H⟩:=bindS H
  refine Rh hN [.row (some 23) 1 (List.map (vL41 0) t1046),I (t1046.length:Int),B true,.row (some 41) 5 (List.map (v41 1) t1049),.row none 5 (List.map (v41 0) t1049),B t1051,B true,B t1054] (.cons (tree_Kids.con h1047).c (.cons (lenM (vL41 0) t1046) (.cons (bq c1048) (.cons (tree_Sub.con h1050).c (.cons (shrM (some 41) 5 (v41 1) (v41 0) t1049 (v41.shr _)) (.cons (cp_Same.con h1052).c (.cons c1053 (.cons (clavigerlaw20_awake.con h1055).c .nil)))))))) ?_
  cases H
  exact Rt dR
 refine Cf (notF c1045)<|Sk<|Sw ?_
 obtain ⟨t1056,h1057,H⟩:=bindS H
 refine Rh hN [.row (some 23) 1 (List.map (vL41 0) t1056)] (.cons (tree_Kids.con h1057).c .nil)<|Sw<|Sw<|Rh hN [I (t1056.length:Int)] (.cons (lenM (vL41 0) t1056) .nil)<|Bl<|Good.loopN (fun k' st=>∃ (x0:List S41) (x3:List (List S41)) (x36:Int) (x37:Int),k'≤k∧Wk C st ⟨[(0,.w (.row none 5 (List.map (v41 0) x0))),(3,.w (.row (some 23) 1 (List.map (vL41 0) x3))),(35,.al (.top (.t 3))),(36,.w (I x36)),(37,.w (I x37))],[]⟩∧clavigerlaw20_TreeAgain.l0 k' x0 x3 x36 x37=some r) k ⟨x0,t1056,(t1056.length:Int),0,Nat.le_refl _,Wo [(0,0),(3,0),(35,0),(36,0),(37,0)],H⟩ fun k=>⟨fun st h=>(by obtain ⟨_,_,_,_,_,_,H⟩:=h;cases H),?_⟩
 clear H
 rintro st ⟨x0,x3,x36,x37,hk,W,H⟩
 refine W.good ?_
 rw [clavigerlaw20_TreeAgain.l0] at H
 refine Sw<|Rg hN<|Sw ?_
 rcases (ifC H).symm with ⟨c1058,H⟩ | ⟨c1058,H⟩
 ·refine Cf (df c1058)<|Ex<|Sw ?_
  obtain ⟨c1059,H⟩:=ifS H
  obtain ⟨t1060,h1061,H⟩:=bindS H
  obtain ⟨t1062,h1063,H⟩:=bindS H
  rcases (ifC H).symm with ⟨c1064,H⟩ | ⟨c1064,H⟩
  ·refine Rd hm hN (.qs 9 0 (.q 10 [] (.e 9 (.e 11 (.q 12 [] (.k 64 (.i 13 (.q 14 [] (.q 15 [] .z))))))))) [(0,none),(3,some (.row none 1 (List.map (vL41 0) x3)))] (.cons (shrM (some 23) 1 (vL41 0) (vL41 0) x3 (vL41.shr _)) .nil) [(v41 0) (rd_T41 x0 0),(v41 0) (rd_T41 x0 0),.row none 1 (List.map (vL41 0) x3),.row (some 41) 5 (List.map (v41 1) t1060),.row none 5 (List.map (v41 0) t1060),B t1062,B false] [(v41 0) (rd_T41 x0 0),(v41 0) (rd_T41 x0 0)] (.cons (show (0:Int)≤0 by decide) (.cons (atM (v41 0) z41 (show (0:Int)≤0 by decide) c1059) (.cons (show (0:Int)≤0 by decide) (.cons (atM (v41 0) z41 (show (0:Int)≤0 by decide) c1059) (.cons (shrM (some 23) 1 (vL41 0) (vL41 0) x3 (vL41.shr _)) (.cons (tree_Of.con h1061).c (.cons (shrM (some 41) 5 (v41 1) (v41 0) t1060 (v41.shr _)) (.cons (cp_Same.con h1063).c (.cons (bf c1064) .nil))))))))) (.cons (show (0:Int)≤0 by decide) (.cons (atM (v41 0) z41 (show (0:Int)≤0 by decide) c1059) (.cons (show (0:Int)≤0 by decide) (.cons (atM (v41 0) z41 (show (0:Int)≤0 by decide) c1059) (.cons (bf c1064) .nil))))) [] [] ?_
   cases H
   exact Rt dR
  obtain ⟨t1065,h1066,H⟩:=bindS H
  refine Rd hm hN (.qs 9 0 (.q 10 [] (.e 9 (.e 11 (.q 12 [] (.k 64 (.e 13 (.q 14 [] (.q 15 [] .z))))))))) [(0,none),(3,some (.row none 1 (List.map (vL41 0) x3)))] (.cons (shrM (some 23) 1 (vL41 0) (vL41 0) x3 (vL41.shr _)) .nil) [(v41 0) (rd_T41 x0 0),(v41 0) (rd_T41 x0 0),.row none 1 (List.map (vL41 0) x3),.row (some 41) 5 (List.map (v41 1) t1060),.row none 5 (List.map (v41 0) t1060),B t1062,B true,B t1065] [(v41 0) (rd_T41 x0 0),(v41 0) (rd_T41 x0 0)] (.cons (show (0:Int)≤0 by decide) (.cons (atM (v41 0) z41 (show (0:Int)≤0 by decide) c1059) (.cons (show (0:Int)≤0 by decide) (.cons (atM (v41 0) z41 (show (0:Int)≤0 by decide) c1059) (.cons (shrM (some 23) 1 (vL41 0) (vL41 0) x3 (vL41.shr _)) (.cons (tree_Of.con h1061).c (.cons (shrM (some 41) 5 (v41 1) (v41 0) t1060 (v41.shr _)) (.cons (cp_Same.con h1063).c (.cons c1064 (.cons (clavigerlaw20_awake.con h1066).c .nil)))))))))) (.cons (show (0:Int)≤0 by decide) (.cons (atM (v41 0) z41 (show (0:Int)≤0 by decide) c1059) (.cons (show (0:Int)≤0 by decide) (.cons (atM (v41 0) z41 (show (0:Int)≤0 by decide) c1059) (.cons c1064 .nil))))) [] [] ?_
  cases H
  exact Rt dR
 refine Ct (dt c1058)<|Sk<|Sw<|Bl<|Sw ?_
 obtain ⟨c1067,H⟩:=ifS H
 obtain ⟨c1068,H⟩:=ifS H
 refine Rh hN [(vL41 0) (rd_L41 x3 x37)] (.cons c1067 (.cons (ltM (vL41 0) c1068) (.cons (atM (vL41 0) ([]:List S41) c1067 c1068) .nil)))<|Sw ?_
 obtain ⟨t1069,h1070,H⟩:=bindS H
 rcases (ifC H).symm with ⟨c1071,H⟩ | ⟨c1071,H⟩
 ·refine Rh hN [B t1069,B true] (.cons (tree_Right.con h1070).c (.cons (notT (bf c1071)) .nil))<|Good.cond true (by kernel_rfl)<|Sw<|Rg hN ?_
  cases H
  exact Rt dR
 obtain ⟨t1072,h1073,H⟩:=bindS H
 obtain ⟨t1074,h1075,H⟩:=bindS H
 refine Rh hN [B t1069,B false,I t1072,I t1074] (.cons (tree_Right.con h1070).c (.cons (notF c1071) (.cons (tree_Depth.con h1073).c (.cons (tree_Depth.con h1075).c .nil)))) ?_
 rcases (ifC H).symm with ⟨c1076,H⟩ | ⟨c1076,H⟩
 ·exact Cf (df c1076)<|Sk<|Rg hN<|⟨k,by omega,x0,x3,x36,wrap64 (x37+1),by omega,Wo [(0,0),(3,0),(35,0),(36,0),(37,0)],H⟩
 refine Ct (dt c1076)<|Sw<|Rg hN ?_
 cases H
 exact Rt dR
end Go.Rf.T
