import Derived.Test.YtfcdabhalahieaaGreatDoorTPkcs8Tells0
set_option linter.unusedSectionVars false
set_option linter.unusedSimpArgs false
set_option linter.unusedVariables false
set_option linter.unusedVariables false
namespace Go.Rf.T
open Go Go.Rf Go.Proofs Go.RowKit Go.Proofs.YtfcdabhalahieaaGreatDoor
def mG.l0:Nat→List af→Int→Option (Int)
 | 0,_,_=>none
 | k+1,x0,x1=>if 0≤x1 then (if x1 < (x0.length:Int) then (if (((aa x0 x1).f4).length:Int) > 0 then (if 0≤(wrap64 ((((aa x0 x1).f4).length:Int) - 1)) then (if (wrap64 ((((aa x0 x1).f4).length:Int) - 1)) < (((aa x0 x1).f4).length:Int) then (mG.l0 k x0 (rd ((aa x0 x1).f4) (wrap64 ((((aa x0 x1).f4).length:Int) - 1)))) else (none)) else (none)) else (some (wrap64 (x1+1)))) else (none)) else (none)
def mG.f (k:Nat) (l0:List af) (a1:Int):Option (Int):=mG.l0 k l0 a1
theorem mG.az {k:Nat} {l0:List af} {a1:Int} {r:(Int)} (H:mG.f k l0 a1=some r):aW Tryz.prog 67 [.row none 5 (List.map (v56 0) l0),I a1] (I r):=by
 refine Cg Tryz.func67 rfl fun C hN hL=>?_
 unfold mG.f at H
 refine Sw<|Rg hN<|Sw<|Bl<|Good.dK (fun k' st=>∃ (x0:List af) (x1:Int),k'≤k∧Wk C st ⟨[(0,.w (.row none 5 (List.map (v56 0) x0))),(1,.w (I x1))],[]⟩∧mG.l0 k' x0 x1=some r) k ⟨l0,a1,Nat.le_refl _,Wo [(0,0),(1,0)],H⟩ fun k=>⟨fun st h=>(by obtain ⟨_,_,_,_,H⟩:=h;cases H),?_⟩
 clear H
 rintro st ⟨x0,x1,hk,W,H⟩
 refine W.good ?_
 rw [mG.l0] at H
 refine Sw<|Sw ?_
 obtain ⟨pX,H⟩:=ax H
 obtain ⟨zO,H⟩:=ax H
 refine Rh hN [(v56 0) (aa x0 x1),I (((aa x0 x1).f4).length:Int)] (.cons pX (.cons (aG (v56 0) z56 pX zO) (.cons (aR I ((aa x0 x1).f4)) .nil))) ?_
 rcases (ak H).symm with ⟨NV,H⟩ | ⟨NV,H⟩
 ·refine Cf (df NV)<|Ex<|Sw<|Rg hN ?_
  cases H
  exact Rt dR
 refine Ct (dt NV)<|Sk<|Bl ?_
 obtain ⟨Ei,H⟩:=ax H
 obtain ⟨XJ,H⟩:=ax H
 exact Rd hm hN (.qs 14 0 (.q 14 [] .z)) [(0,none),(1,none)] .nil [(v56 0) (aa x0 x1),(v56 0) (aa x0 x1),I (((aa x0 x1).f4).length:Int),I (rd ((aa x0 x1).f4) (wrap64 ((((aa x0 x1).f4).length:Int) - 1)))] [(v56 0) (aa x0 x1),(v56 0) (aa x0 x1),I (((aa x0 x1).f4).length:Int),I (rd ((aa x0 x1).f4) (wrap64 ((((aa x0 x1).f4).length:Int) - 1)))] (.cons pX (.cons (aG (v56 0) z56 pX zO) (.cons pX (.cons (aG (v56 0) z56 pX zO) (.cons (aR I ((aa x0 x1).f4)) (.cons Ei (.cons (aG I (0:Int) Ei XJ) .nil))))))) (.cons pX (.cons (aG (v56 0) z56 pX zO) (.cons pX (.cons (aG (v56 0) z56 pX zO) (.cons (aR I ((aa x0 x1).f4)) (.cons Ei (.cons (aG I (0:Int) Ei XJ) .nil))))))) [] []<|⟨k,by omega,x0,rd ((aa x0 x1).f4) (wrap64 ((((aa x0 x1).f4).length:Int) - 1)),by omega,Wo [(0,0),(1,0)],H⟩
def ji.l0:Nat→Int→List af→List af→Int→Int→Option (List af)
 | 0,_,_,_,_,_=>none
 | k+1,x1,x5,kC,x27,x28=>if x28 < x27 then (if 0≤x28 then (if x28 < (kC.length:Int) then ((kQ.f k ((aa kC x28).f0) ((aa kC x28).f1) ((aa kC x28).f2) ((aa kC x28).f3) ((aa kC x28).f4) (wrap64 (-x1))).bind fun iG=>(if x5.length < 2199023255552 then (ji.l0 k x1 (x5++[(⟨iG.1,iG.2.1,iG.2.2.1,iG.2.2.2.1,iG.2.2.2.2⟩:af)]) kC x27 (wrap64 (x28+1))) else (none))) else (none)) else (none)) else (some x5)
def ji.j0:Nat→List af→Int→Bool→Option (List af)
 | 0,_,_,_=>none
 | k+1,x0,x1,x20=>if x20=true then (some ([]:List af)) else ((mG.f k x0 x1).bind fun nY=>(if 0≤x1 then (if x1≤nY then (if nY≤(x0.length:Int) then (ji.l0 k x1 ([]:List af) ((x0.take (nY:Int).toNat).drop (x1:Int).toNat) (((x0.take (nY:Int).toNat).drop (x1:Int).toNat).length:Int) 0) else (none)) else (none)) else (none)))
def ji.f (k:Nat) (l0:List af) (a1:Int):Option (List af):=if a1 < 0 then (ji.j0 k l0 a1 true) else (if a1≥(l0.length:Int) then (ji.j0 k l0 a1 true) else ((lH.f k l0).bind fun Ej=>(ji.j0 k l0 a1 (!Ej))))
theorem ji.az {k:Nat} {l0:List af} {a1:Int} {r:(List af)} (H:ji.f k l0 a1=some r):aW Tryz.prog 42 [.row none 5 (List.map (v56 0) l0),I a1] (.row (some 56) 5 (List.map (v56 1) r)):=by
 refine Cg Tryz.func42 rfl fun C hN hL=>?_
 unfold ji.f at H
 refine Sw<|Rg hN<|Sw<|Sw<|Good.cut (fun st=>∃ n':Nat,n'≤k∧∃ (x0:List af) (x1:Int) (x20:Bool),Wk C st ⟨[(0,.w (.row none 5 (List.map (v56 0) x0))),(1,.w (I x1)),(20,.w (B x20))],[]⟩∧ji.j0 n' x0 x1 x20=some r) ?_ ?_
 ·rcases ak H with ⟨El,H⟩ | ⟨El,H⟩
  ·exact Rh hN [B true,B true] (.cons (dt El) (.cons (rfl:true=true) .nil))<|⟨k,by omega,l0,a1,true,Wo [(0,0),(1,0),(20,0)],H⟩
  rcases ak H with ⟨NW,H⟩ | ⟨NW,H⟩
  ·exact Rh hN [B false,I (l0.length:Int),B true] (.cons (df El) (.cons (aR (v56 0) l0) (.cons (dt NW) .nil)))<|⟨k,by omega,l0,a1,true,Wo [(0,0),(1,0),(20,0)],H⟩
  obtain ⟨Ej,ah8,H⟩:=aF H
  exact Rh hN [B false,I (l0.length:Int),B false,B Ej] (.cons (df El) (.cons (aR (v56 0) l0) (.cons (df NW) (.cons (lH.az ah8).c .nil))))<|⟨k,by omega,l0,a1,!Ej,Wo [(0,0),(1,0),(20,0)],H⟩
 clear H
 rintro st ⟨n',hn',x0,x1,x20,W,H⟩
 rcases n' with _ | k
 ·cases H
 refine W.good ?_
 rw [ji.j0] at H
 rcases ak H with ⟨NY,H⟩ | ⟨NY,H⟩
 ·refine Ct NY<|Sw<|Rg hN ?_
  cases H
  exact Good.ret (eY (u:=.nil 56 5) (.fP 56 5) (by kernel_rfl))
 refine Cf (bf NY)<|Sk<|Sw<|Rg hN<|Sw<|Sw ?_
 obtain ⟨nY,ah9,H⟩:=aF H
 obtain ⟨aia,H⟩:=ax H
 obtain ⟨aib,H⟩:=ax H
 obtain ⟨aic,H⟩:=ax H
 refine Rh hN [I nY,.row none 5 (List.map (v56 0) ((x0.take (nY:Int).toNat).drop (x1:Int).toNat)),I (((x0.take (nY:Int).toNat).drop (x1:Int).toNat).length:Int)] (.cons (mG.az ah9).c (.cons aia (.cons aib (.cons (uI (v56 0) aic) (.cons (agh (v56 0) (l:=x0) (n:=(x1:Int).toNat) (m:=(nY:Int).toNat)) (.cons (aR (v56 0) ((x0.take (nY:Int).toNat).drop (x1:Int).toNat)) .nil))))))<|Bl<|Good.dK (fun k' st=>∃ (x1:Int) (x5:List af) (kC:List af) (x27:Int) (x28:Int),k'≤k∧Wk C st ⟨[(1,.w (I x1)),(5,.w (.row (some 56) 5 (List.map (v56 1) x5))),(26,.w (.row none 5 (List.map (v56 0) kC))),(27,.w (I x27)),(28,.w (I x28))],[]⟩∧ji.l0 k' x1 x5 kC x27 x28=some r) k ⟨x1,([]:List af),(x0.take (nY:Int).toNat).drop (x1:Int).toNat,(((x0.take (nY:Int).toNat).drop (x1:Int).toNat).length:Int),0,Nat.le_refl _,Wo [(1,0),(5,1),(26,0),(27,0),(28,0)],H⟩ fun k=>⟨fun st h=>(by obtain ⟨_,_,_,_,_,_,_,H⟩:=h;cases H),?_⟩
 clear H
 rintro st ⟨x1,x5,kC,x27,x28,hk,W,H⟩
 refine W.good ?_
 rw [ji.l0] at H
 refine Sw<|Rg hN<|Sw ?_
 rcases (ak H).symm with ⟨NZ,H⟩ | ⟨NZ,H⟩
 ·refine Cf (df NZ)<|Ex<|Sw<|Rg hN ?_
  cases H
  exact Rt dR
 refine Ct (dt NZ)<|Sk<|Sw<|Bl<|Sw ?_
 obtain ⟨XK,H⟩:=ax H
 obtain ⟨aid,H⟩:=ax H
 refine Rh hN [(v56 0) (aa kC x28)] (.cons XK (.cons (aG (v56 0) z56 XK aid) .nil)) ?_
 obtain ⟨iG,aie,H⟩:=aF H
 obtain ⟨aif,H⟩:=ax H
 exact Ri hN [.agg [I iG.1,I iG.2.1,B iG.2.2.1,S iG.2.2.2.1,.row (some 3) 1 (List.map I iG.2.2.2.2)],.aC [],.kb true,.row (some 56) 5 (List.map (v56 1) (x5++[(⟨iG.1,iG.2.1,iG.2.2.1,iG.2.2.2.1,iG.2.2.2.2⟩:af)]))] (.cons (congrArg (Value.int .i64) ((ve .i64 (0 - x1)).symm.trans (congrArg wrap64 (Int.zero_sub x1)))) (.cons (kQ.az aie).c (.cons (dL (v56 1) x5 [(⟨iG.1,iG.2.1,iG.2.2.1,iG.2.2.2.1,iG.2.2.2.2⟩:af)] (.refl _)) (.cons (dZ (v56 1) aif) .nil)))) [(35,.int .i64 (wrap64 (-x1)))]<|Rg hN<|⟨k,by omega,x1,(x5++[(⟨iG.1,iG.2.1,iG.2.2.1,iG.2.2.2.1,iG.2.2.2.2⟩:af)]),kC,x27,wrap64 (x28+1),by omega,Wk.mq hL 0 [(1,0),(5,0),(26,0),(27,0),(28,0)] (by kernel_rfl) (by kernel_rfl) (by kernel_rfl),H⟩
def jF.l0:Nat→List af→List (List af)→List Int→Int→Int→Option (List (List af))
 | 0,_,_,_,_,_=>none
 | k+1,x0,x3,dI,bF,bY=>if bY < bF then (if 0≤bY then (if bY < (dI.length:Int) then ((ji.f k x0 (rd dI bY)).bind fun rX=>(if x3.length < 5864062014805 then (jF.l0 k x0 (x3++[rX]) dI bF (wrap64 (bY+1))) else (none))) else (none)) else (none)) else (some x3)
def jF.f (k:Nat) (l0:List af):Option (List (List af)):=(lH.f k l0).bind fun N7=>(if N7=true then (if 0 < (l0.length:Int) then (jF.l0 k l0 ([]:List (List af)) ((aa l0 0).f4) (((aa l0 0).f4).length:Int) 0) else (none)) else (some ([]:List (List af))))
theorem jF.az {k:Nat} {l0:List af} {r:(List (List af))} (H:jF.f k l0=some r):aW Tryz.prog 19 [.row none 5 (List.map (v56 0) l0)] (.row (some 38) 1 (List.map (aQ 0) r)):=by
 refine Cg Tryz.func19 rfl fun C hN hL=>?_
 unfold jF.f at H
 refine Sw<|Rg hN<|Sw<|Sw ?_
 obtain ⟨N7,aih,H⟩:=aF H
 refine Rh hN [B N7] (.cons (lH.az aih).c .nil) ?_
 rcases (ak H).symm with ⟨N8,H⟩ | ⟨N8,H⟩
 ·refine Ct (ed (bf N8))<|Sw<|Rg hN ?_
  cases H
  exact Good.ret (eY (u:=.nil 38 1) (.fP 38 1) (by kernel_rfl))
 refine Cf (eH N8)<|Sk<|Sw<|Rg hN<|Sw<|Sw ?_
 obtain ⟨aii,H⟩:=ax H
 refine Rh hN [(v56 0) (aa l0 0),I (((aa l0 0).f4).length:Int)] (.cons (show (0:Int)≤0 by decide) (.cons (aG (v56 0) z56 (show (0:Int)≤0 by decide) aii) (.cons (aR I ((aa l0 0).f4)) .nil)))<|Bl<|Good.dK (fun k' st=>∃ (x0:List af) (x3:List (List af)) (dI:List Int) (bF:Int) (bY:Int),k'≤k∧Wk C st ⟨[(0,.w (.row none 5 (List.map (v56 0) x0))),(3,.w (.row (some 38) 1 (List.map (aQ 0) x3))),(12,.w (.row none 1 (List.map I dI))),(13,.w (I bF)),(14,.w (I bY))],[]⟩∧jF.l0 k' x0 x3 dI bF bY=some r) k ⟨l0,([]:List (List af)),(aa l0 0).f4,(((aa l0 0).f4).length:Int),0,Nat.le_refl _,Wo [(0,0),(3,1),(12,0),(13,0),(14,0)],H⟩ fun k=>⟨fun st h=>(by obtain ⟨_,_,_,_,_,_,_,H⟩:=h;cases H),?_⟩
 clear H
 rintro st ⟨x0,x3,dI,bF,bY,hk,W,H⟩
 refine W.good ?_
 rw [jF.l0] at H
 refine Sw<|Rg hN<|Sw ?_
 rcases (ak H).symm with ⟨N9,H⟩ | ⟨N9,H⟩
 ·refine Cf (df N9)<|Ex<|Sw<|Rg hN ?_
  cases H
  exact Rt dR
 refine Ct (dt N9)<|Sk<|Sw<|Bl<|Sw ?_
 obtain ⟨XL,H⟩:=ax H
 obtain ⟨aij,H⟩:=ax H
 refine Rh hN [I (rd dI bY)] (.cons XL (.cons (aG I (0:Int) XL aij) .nil)) ?_
 obtain ⟨rX,aik,H⟩:=aF H
 obtain ⟨ail,H⟩:=ax H
 exact Rh hN [.row (some 56) 5 (List.map (v56 1) rX),.row none 5 (List.map (v56 0) rX),.kb true,.row (some 38) 1 (List.map (aQ 0) (x3++[rX]))] (.cons (ji.az aik).c (.cons (aP (some 56) 5 (v56 1) (v56 0) rX (v56.shr _)) (.cons (dL (aQ 0) x3 [rX] (.refl _)) (.cons (dZ (aQ 0) ail) .nil))))<|Rg hN<|⟨k,by omega,x0,(x3++[rX]),dI,bF,wrap64 (bY+1),by omega,Wo [(0,0),(3,0),(12,0),(13,0),(14,0)],H⟩
def jQ.l0:Nat→List Int→Int→Int→Int→Option (Int)
 | 0,_,_,_,_=>none
 | k+1,x0,x1,x7,x8=>if x8 < x7 then (if 0≤x8 then (if x8 < (x0.length:Int) then (if x1=(rd x0 x8) then (some x8) else (jQ.l0 k x0 x1 x7 (wrap64 (x8+1)))) else (none)) else (none)) else (some (-1))
def jQ.f (k:Nat) (l0:List Int) (a1:Int):Option (Int):=jQ.l0 k l0 a1 (l0.length:Int) 0
theorem jQ.az {k:Nat} {l0:List Int} {a1:Int} {r:(Int)} (H:jQ.f k l0 a1=some r):aW Tryz.prog 68 [.row none 1 (List.map I l0),I a1] (I r):=by
 refine Cg Tryz.func68 rfl fun C hN hL=>?_
 unfold jQ.f at H
 refine Sw<|Rg hN<|Sw<|Sw<|Rh hN [I (l0.length:Int)] (.cons (aR I l0) .nil)<|Bl<|Good.dK (fun k' st=>∃ (x0:List Int) (x1:Int) (x7:Int) (x8:Int),k'≤k∧Wk C st ⟨[(0,.w (.row none 1 (List.map I x0))),(1,.w (I x1)),(7,.w (I x7)),(8,.w (I x8))],[]⟩∧jQ.l0 k' x0 x1 x7 x8=some r) k ⟨l0,a1,(l0.length:Int),0,Nat.le_refl _,Wo [(0,0),(1,0),(7,0),(8,0)],H⟩ fun k=>⟨fun st h=>(by obtain ⟨_,_,_,_,_,_,H⟩:=h;cases H),?_⟩
 clear H
 rintro st ⟨x0,x1,x7,x8,hk,W,H⟩
 refine W.good ?_
 rw [jQ.l0] at H
 refine Sw<|Rg hN<|Sw ?_
 rcases (ak H).symm with ⟨Oa,H⟩ | ⟨Oa,H⟩
 ·refine Cf (df Oa)<|Ex<|Sw<|Rg hN ?_
  cases H
  exact Rt dR
 refine Ct (dt Oa)<|Sk<|Sw<|Bl<|Sw<|Rg hN<|Sw ?_
 obtain ⟨XM,H⟩:=ax H
 obtain ⟨aim,H⟩:=ax H
 refine Rh hN [I (rd x0 x8)] (.cons XM (.cons (aG I (0:Int) XM aim) .nil)) ?_
 rcases (ak H).symm with ⟨Ob,H⟩ | ⟨Ob,H⟩
 ·exact Cf (bn Ob)<|Sk<|Rg hN<|⟨k,by omega,x0,x1,x7,wrap64 (x8+1),by omega,Wo [(0,0),(1,0),(7,0),(8,0)],H⟩
 refine Ct (bq Ob)<|Sw<|Rg hN ?_
 cases H
 exact Rt dR
def qb.f (k:Nat) (l0:List Int) (a1:Int):Option (Bool):=(jQ.f k l0 a1).bind fun Oc=>(some (decide (Oc≥0)))
theorem qb.az {k:Nat} {l0:List Int} {a1:Int} {r:(Bool)} (H:qb.f k l0 a1=some r):aW Tryz.prog 43 [.row none 1 (List.map I l0),I a1] (B r):=by
 refine Cg Tryz.func43 rfl fun C hN hL=>?_
 unfold qb.f at H
 refine Sw<|Rg hN<|Sw ?_
 obtain ⟨Oc,ain,H⟩:=aF H
 refine Rh hN [I Oc] (.cons (jQ.az ain).c .nil) ?_
 cases H
 exact Rt dR
def gH.f (k:Nat) (l0:List af) (l1:List Int):Option (Bool):=if 0 < (l0.length:Int) then (if ((aa l0 0).f0)=0 then ((qb.f k l1 ((aa l0 0).f1)).bind fun Od=>(some Od)) else (some false)) else (none)
theorem gH.az {k:Nat} {l0:List af} {l1:List Int} {r:(Bool)} (H:gH.f k l0 l1=some r):aW Tryz.prog 20 [.row none 5 (List.map (v56 0) l0),.row none 1 (List.map I l1)] (B r):=by
 refine Cg Tryz.func20 rfl fun C hN hL=>?_
 unfold gH.f at H
 refine Sw<|Rg hN<|Sw ?_
 obtain ⟨Oe,H⟩:=ax H
 rcases (ak H).symm with ⟨Og,H⟩ | ⟨Og,H⟩
 ·refine Rh hN [(v56 0) (aa l0 0),B false] (.cons (show (0:Int)≤0 by decide) (.cons (aG (v56 0) z56 (show (0:Int)≤0 by decide) Oe) (.cons (bn Og) .nil))) ?_
  cases H
  exact Rt dR
 obtain ⟨Od,aio,H⟩:=aF H
 refine Rh hN [(v56 0) (aa l0 0),B true,(v56 0) (aa l0 0),B Od] (.cons (show (0:Int)≤0 by decide) (.cons (aG (v56 0) z56 (show (0:Int)≤0 by decide) Oe) (.cons (bq Og) (.cons (show (0:Int)≤0 by decide) (.cons (aG (v56 0) z56 (show (0:Int)≤0 by decide) Oe) (.cons (qb.az aio).c .nil)))))) ?_
 cases H
 exact Rt dR
def ib.j0:Nat→List (List af)→Bool→List Int→List Int→ByteArray→ByteArray→Option (Bool × List Int × List Int × ByteArray × ByteArray)
 | 0,_,_,_,_,_,_=>none
 | k+1,x5,x24,x1000,ah,ay,au=>if x24=true then (some (false,x1000,ah,ay,au)) else (if 0 < (x5.length:Int) then (if 0 < ((bC x5 0).length:Int) then ((mE.f k ((aa (bC x5 0) 0).f3)).bind fun zP=>(if 1 < (x5.length:Int) then ((gH.f k (bC x5 1) ([6]:List Int)).bind fun zQ=>(if zQ=true then (if 0 < ((bC x5 1).length:Int) then ((mE.f k ((aa (bC x5 1) 0).f3)).bind fun wE=>((gH.f k (bC x5 1) ([6,5]:List Int)).bind fun zR=>(some (zR,zP.1,wE.1,ay,au)))) else (none)) else ((gH.f k (bC x5 1) ([6,5]:List Int)).bind fun zS=>(some (zS,zP.1,ah,ay,au))))) else (none))) else (none)) else (none))
def ib.f (k:Nat) (l0:List af) (iV:List Int) (iW:List Int) (cZ:ByteArray) (fI:ByteArray):Option (Bool × List Int × List Int × ByteArray × ByteArray):=(jF.f k l0).bind fun lU=>((gH.f k l0 ([16]:List Int)).bind fun zT=>(if zT=true then (if (lU.length:Int)=2 then (if 0 < (lU.length:Int) then ((gH.f k (bC lU 0) ([6]:List Int)).bind fun wF=>(ib.j0 k lU (!wF) iV iW cZ fI)) else (none)) else (ib.j0 k lU true iV iW cZ fI)) else (ib.j0 k lU true iV iW cZ fI)))
theorem ib.az {k:Nat} {l0:List af} {iV:List Int} {iW:List Int} {cZ:ByteArray} {fI:ByteArray} {r:(Bool × List Int × List Int × ByteArray × ByteArray)} (H:ib.f k l0 iV iW cZ fI=some r):kI Tryz.prog 21 [.v (.row none 5 (List.map (v56 0) l0)),.ptr 0 0] [[.row none 1 (List.map I iV),.row none 1 (List.map I iW),S cZ,S fI]] (.v (B r.1)) [[.row none 1 (List.map I r.2.1),.row none 1 (List.map I r.2.2.1),S r.2.2.2.1,S r.2.2.2.2]]:=by
 refine qQ Tryz.func21 rfl (by kernel_rfl) (by kernel_rfl) fun C hN hL=>?_
 unfold ib.f at H
 refine Sw<|Rg hN<|Sw ?_
 obtain ⟨lU,aip,H⟩:=aF H
 refine Rh hN [.row (some 38) 1 (List.map (aQ 0) lU)] (.cons (jF.az aip).c .nil)<|Sw<|Sw<|Good.cut (fun st=>∃ n':Nat,n'≤k∧∃ (x5:List (List af)) (x24:Bool) (x1000:List Int) (ah:List Int) (ay:ByteArray) (au:ByteArray),Wk C st ⟨[(1,.d (.ptr 0 0)),(5,.w (.row (some 38) 1 (List.map (aQ 0) x5))),(24,.w (B x24))],[.cells [.v (.row none 1 (List.map I x1000)),.v (.row none 1 (List.map I ah)),.v (S ay),.v (S au)]]⟩∧ib.j0 n' x5 x24 x1000 ah ay au=some r) ?_ ?_
 ·obtain ⟨zT,Oh,H⟩:=aF H
  rcases (ak H).symm with ⟨Em,H⟩ | ⟨Em,H⟩
  ·exact Rh hN [.row none 1 (List.map I ([16]:List Int)),B zT,B true,B true] (.cons (aP (some 3) 1 I I ([16]:List Int) (fun _=>rfl)) (.cons (gH.az Oh).c (.cons (ed (bf Em)) (.cons (rfl:true=true) .nil))))<|⟨k,by omega,lU,true,iV,iW,cZ,fI,Wo [(1,0),(5,0),(24,0)],H⟩
  rcases (ak H).symm with ⟨Oi,H⟩ | ⟨Oi,H⟩
  ·exact Rh hN [.row none 1 (List.map I ([16]:List Int)),B zT,B false,I (lU.length:Int),B true] (.cons (aP (some 3) 1 I I ([16]:List Int) (fun _=>rfl)) (.cons (gH.az Oh).c (.cons (eH Em) (.cons (aR (aQ 0) lU) (.cons (nq Oi) .nil)))))<|⟨k,by omega,lU,true,iV,iW,cZ,fI,Wo [(1,0),(5,0),(24,0)],H⟩
  obtain ⟨XN,H⟩:=ax H
  obtain ⟨wF,aiq,H⟩:=aF H
  exact Rh hN [.row none 1 (List.map I ([16]:List Int)),B zT,B false,I (lU.length:Int),B false,(aQ 0) (bC lU 0),.row none 1 (List.map I ([6]:List Int)),B wF] (.cons (aP (some 3) 1 I I ([16]:List Int) (fun _=>rfl)) (.cons (gH.az Oh).c (.cons (eH Em) (.cons (aR (aQ 0) lU) (.cons (dE Oi) (.cons (show (0:Int)≤0 by decide) (.cons (eF (aQ 0) XN) (.cons (aG (aQ 0) ([]:List af) (show (0:Int)≤0 by decide) XN) (.cons (aP (some 3) 1 I I ([6]:List Int) (fun _=>rfl)) (.cons (gH.az aiq).c .nil))))))))))<|⟨k,by omega,lU,!wF,iV,iW,cZ,fI,Wo [(1,0),(5,0),(24,0)],H⟩
 clear H
 rintro st ⟨n',hn',x5,x24,x1000,ah,ay,au,W,H⟩
 rcases n' with _ | k
 ·cases H
 refine W.good ?_
 rw [ib.j0] at H
 rcases ak H with ⟨Oj,H⟩ | ⟨Oj,H⟩
 ·refine Ct Oj<|Sw<|Rg hN ?_
  cases H
  exact Good.ret (fU (.refl _) (dF.refl _) (by kernel_rfl) rfl)
 refine Cf (bf Oj)<|Sk<|Sw ?_
 obtain ⟨XO,H⟩:=ax H
 obtain ⟨air,H⟩:=ax H
 obtain ⟨zP,ais,H⟩:=aF H
 refine Rh hN [(aQ 0) (bC x5 0),(v56 0) (aa (bC x5 0) 0),.aC [.row none 1 (List.map I zP.1),B zP.2]] (.cons (show (0:Int)≤0 by decide) (.cons (eF (aQ 0) XO) (.cons (aG (aQ 0) ([]:List af) (show (0:Int)≤0 by decide) XO) (.cons (show (0:Int)≤0 by decide) (.cons (aG (v56 0) z56 (show (0:Int)≤0 by decide) air) (.cons (mE.az ais).c .nil))))))<|Sw<|Sw ?_
 obtain ⟨rY,H⟩:=ax H
 obtain ⟨zQ,ait,H⟩:=aF H
 refine Rh hN [(aQ 0) (bC x5 1),.row none 1 (List.map I ([6]:List Int)),B zQ] (.cons (show (0:Int)≤1 by decide) (.cons (eF (aQ 0) rY) (.cons (aG (aQ 0) ([]:List af) (show (0:Int)≤1 by decide) rY) (.cons (aP (some 3) 1 I I ([6]:List Int) (fun _=>rfl)) (.cons (gH.az ait).c .nil))))) ?_
 rcases (ak H).symm with ⟨Ol,H⟩ | ⟨Ol,H⟩
 ·refine Cf (bf Ol)<|Sk<|Sw ?_
  obtain ⟨zS,aiu,H⟩:=aF H
  refine Rh hN [(aQ 0) (bC x5 1),.row none 1 (List.map I ([6,5]:List Int)),B zS] (.cons (show (0:Int)≤1 by decide) (.cons (eF (aQ 0) rY) (.cons (aG (aQ 0) ([]:List af) (show (0:Int)≤1 by decide) rY) (.cons (aP (some 3) 1 I I ([6,5]:List Int) (fun _=>rfl)) (.cons (gH.az aiu).c .nil))))) ?_
  cases H
  exact Good.ret (fU (.refl _) (dF.refl _) (by kernel_rfl) rfl)
 refine Ct Ol ?_
 obtain ⟨aiv,H⟩:=ax H
 obtain ⟨wE,aiw,H⟩:=aF H
 refine Rh hN [(aQ 0) (bC x5 1),(v56 0) (aa (bC x5 1) 0),.aC [.row none 1 (List.map I wE.1),B wE.2]] (.cons (show (0:Int)≤1 by decide) (.cons (eF (aQ 0) rY) (.cons (aG (aQ 0) ([]:List af) (show (0:Int)≤1 by decide) rY) (.cons (show (0:Int)≤0 by decide) (.cons (aG (v56 0) z56 (show (0:Int)≤0 by decide) aiv) (.cons (mE.az aiw).c .nil))))))<|Sw ?_
 obtain ⟨zR,aix,H⟩:=aF H
 refine Rh hN [(aQ 0) (bC x5 1),.row none 1 (List.map I ([6,5]:List Int)),B zR] (.cons (show (0:Int)≤1 by decide) (.cons (eF (aQ 0) rY) (.cons (aG (aQ 0) ([]:List af) (show (0:Int)≤1 by decide) rY) (.cons (aP (some 3) 1 I I ([6,5]:List Int) (fun _=>rfl)) (.cons (gH.az aix).c .nil))))) ?_
 cases H
 exact Good.ret (fU (.refl _) (dF.refl _) (by kernel_rfl) rfl)
def gJ.l0:Nat→List (List af)→Int→Int→List Int→List Int→ByteArray→ByteArray→Option (Bool × List Int × List Int × ByteArray × ByteArray)
 | 0,_,_,_,_,_,_,_=>none
 | k+1,x30,x31,x32,x1000,ah,ay,au=>if x32 < x31 then (if 0≤x32 then (if x32 < (x30.length:Int) then ((ic.f k (bC x30 x32)).bind fun wG=>(if au.size+wG.1.size≤9223372036854775807 then (gJ.l0 k x30 x31 (wrap64 (x32+1)) x1000 ah ay (au++wG.1)) else (none))) else (none)) else (none)) else (some (true,x1000,ah,ay,au))
def gJ.j0:Nat→List af→Bool→List Int→List Int→ByteArray→ByteArray→Option (Bool × List Int × List Int × ByteArray × ByteArray)
 | 0,_,_,_,_,_,_=>none
 | k+1,x0,x28,x1000,ah,ay,au=>if x28=true then (some (false,x1000,ah,ay,au)) else ((jF.f k x0).bind fun rZ=>(gJ.l0 k rZ (rZ.length:Int) 0 x1000 ah ay au))
def gJ.f (k:Nat) (l0:List af) (iV:List Int) (iW:List Int) (cZ:ByteArray) (fI:ByteArray):Option (Bool × List Int × List Int × ByteArray × ByteArray):=if 0 < (l0.length:Int) then (if ((aa l0 0).f0)=2 then (if ((aa l0 0).f1)=0 then (gJ.j0 k l0 ((((aa l0 0).f4).length:Int) == 0) iV iW cZ fI) else (gJ.j0 k l0 true iV iW cZ fI)) else (gJ.j0 k l0 true iV iW cZ fI)) else (none)
theorem gJ.az {k:Nat} {l0:List af} {iV:List Int} {iW:List Int} {cZ:ByteArray} {fI:ByteArray} {r:(Bool × List Int × List Int × ByteArray × ByteArray)} (H:gJ.f k l0 iV iW cZ fI=some r):kI Tryz.prog 22 [.v (.row none 5 (List.map (v56 0) l0)),.ptr 0 0] [[.row none 1 (List.map I iV),.row none 1 (List.map I iW),S cZ,S fI]] (.v (B r.1)) [[.row none 1 (List.map I r.2.1),.row none 1 (List.map I r.2.2.1),S r.2.2.2.1,S r.2.2.2.2]]:=by
 refine qQ Tryz.func22 rfl (by kernel_rfl) (by kernel_rfl) fun C hN hL=>?_
 unfold gJ.f at H
 refine Sw<|Rg hN<|Sw<|Sw<|Good.cut (fun st=>∃ n':Nat,n'≤k∧∃ (x0:List af) (x28:Bool) (x1000:List Int) (ah:List Int) (ay:ByteArray) (au:ByteArray),Wk C st ⟨[(0,.w (.row none 5 (List.map (v56 0) x0))),(1,.d (.ptr 0 0)),(28,.w (B x28))],[.cells [.v (.row none 1 (List.map I x1000)),.v (.row none 1 (List.map I ah)),.v (S ay),.v (S au)]]⟩∧gJ.j0 n' x0 x28 x1000 ah ay au=some r) ?_ ?_
 ·obtain ⟨wH,H⟩:=ax H
  rcases (ak H).symm with ⟨Eo,H⟩ | ⟨Eo,H⟩
  ·exact Rh hN [(v56 0) (aa l0 0),B true,B true] (.cons (show (0:Int)≤0 by decide) (.cons (aG (v56 0) z56 (show (0:Int)≤0 by decide) wH) (.cons (nq Eo) (.cons (rfl:true=true) .nil))))<|⟨k,by omega,l0,true,iV,iW,cZ,fI,Wo [(0,0),(1,0),(28,0)],H⟩
  rcases ak H with ⟨Om,H⟩ | ⟨Om,H⟩
  ·exact Rh hN [(v56 0) (aa l0 0),B false,(v56 0) (aa l0 0),B false,(v56 0) (aa l0 0),I (((aa l0 0).f4).length:Int)] (.cons (show (0:Int)≤0 by decide) (.cons (aG (v56 0) z56 (show (0:Int)≤0 by decide) wH) (.cons (dE Eo) (.cons (show (0:Int)≤0 by decide) (.cons (aG (v56 0) z56 (show (0:Int)≤0 by decide) wH) (.cons (dE Om) (.cons (show (0:Int)≤0 by decide) (.cons (aG (v56 0) z56 (show (0:Int)≤0 by decide) wH) (.cons (aR I ((aa l0 0).f4)) .nil)))))))))<|⟨k,by omega,l0,((((aa l0 0).f4).length:Int) == 0),iV,iW,cZ,fI,Wo [(0,0),(1,0),(28,0)],H⟩
  exact Rh hN [(v56 0) (aa l0 0),B false,(v56 0) (aa l0 0),B true] (.cons (show (0:Int)≤0 by decide) (.cons (aG (v56 0) z56 (show (0:Int)≤0 by decide) wH) (.cons (dE Eo) (.cons (show (0:Int)≤0 by decide) (.cons (aG (v56 0) z56 (show (0:Int)≤0 by decide) wH) (.cons (nq Om) .nil))))))<|⟨k,by omega,l0,true,iV,iW,cZ,fI,Wo [(0,0),(1,0),(28,0)],H⟩
 clear H
 rintro st ⟨n',hn',x0,x28,x1000,ah,ay,au,W,H⟩
 rcases n' with _ | k
 ·cases H
 refine W.good ?_
 rw [gJ.j0] at H
 rcases ak H with ⟨Oo,H⟩ | ⟨Oo,H⟩
 ·refine Ct Oo<|Sw<|Rg hN ?_
  cases H
  exact Good.ret (fU (.refl _) (dF.refl _) (by kernel_rfl) rfl)
 refine Cf (bf Oo)<|Sk<|Sw<|Sw ?_
 obtain ⟨rZ,aiy,H⟩:=aF H
 refine Rh hN [.row (some 38) 1 (List.map (aQ 0) rZ),I (rZ.length:Int)] (.cons (jF.az aiy).c (.cons (aR (aQ 0) rZ) .nil))<|Bl<|Good.dK (fun k' st=>∃ (x30:List (List af)) (x31:Int) (x32:Int) (x1000:List Int) (ah:List Int) (ay:ByteArray) (au:ByteArray),k'≤k∧Wk C st ⟨[(1,.d (.ptr 0 0)),(30,.w (.row (some 38) 1 (List.map (aQ 0) x30))),(31,.w (I x31)),(32,.w (I x32))],[.cells [.v (.row none 1 (List.map I x1000)),.v (.row none 1 (List.map I ah)),.v (S ay),.v (S au)]]⟩∧gJ.l0 k' x30 x31 x32 x1000 ah ay au=some r) k ⟨rZ,(rZ.length:Int),0,x1000,ah,ay,au,Nat.le_refl _,Wo [(1,0),(30,0),(31,0),(32,0)],H⟩ fun k=>⟨fun st h=>(by obtain ⟨_,_,_,_,_,_,_,_,_,H⟩:=h;cases H),?_⟩
 clear H
 rintro st ⟨x30,x31,x32,x1000,ah,ay,au,hk,W,H⟩
 refine W.good ?_
 rw [gJ.l0] at H
 refine Sw<|Rg hN<|Sw ?_
 rcases (ak H).symm with ⟨Oq,H⟩ | ⟨Oq,H⟩
 ·refine Cf (df Oq)<|Ex<|Sw<|Rg hN ?_
  cases H
  exact Good.ret (fU (.refl _) (dF.refl _) (by kernel_rfl) rfl)
 refine Ct (dt Oq)<|Sk<|Sw<|Bl<|Sw ?_
 obtain ⟨XP,H⟩:=ax H
 obtain ⟨XQ,H⟩:=ax H
 refine Rh hN [(aQ 0) (bC x30 x32)] (.cons XP (.cons (eF (aQ 0) XQ) (.cons (aG (aQ 0) ([]:List af) XP XQ) .nil)))<|Sw ?_
 obtain ⟨wG,aiz,H⟩:=aF H
 refine Rh hN [.aC [S wG.1,I wG.2]] (.cons (ic.az aiz).c .nil) ?_
 obtain ⟨aiA,H⟩:=ax H
 exact Rh hN [] (.cons aiA .nil)<|Rg hN<|⟨k,by omega,x30,x31,wrap64 (x32+1),x1000,ah,ay,au++wG.1,by omega,Wo [(1,0),(30,0),(31,0),(32,0)],H⟩
def dV.j1:Nat→List (List af)→Bool→List Int→List Int→ByteArray→ByteArray→Option (List Int × List Int × ByteArray × ByteArray × Int)
 | 0,_,_,_,_,_,_=>none
 | k+1,x7,x40,x3000,bW,bE,bQ=>if x40=true then (some (([]:List Int),([]:List Int),(⟨#[]⟩:ByteArray),(⟨#[]⟩:ByteArray),5)) else (if (x7.length:Int)=4 then (if 3 < (x7.length:Int) then ((gJ.f k (bC x7 3) x3000 bW bE bQ).bind fun pY=>(if pY.1=true then (if 2 < (x7.length:Int) then (if 0 < ((bC x7 2).length:Int) then (some (pY.2.1,pY.2.2.1,(aa (bC x7 2) 0).f3,pY.2.2.2.2,0)) else (none)) else (none)) else (some (([]:List Int),([]:List Int),(⟨#[]⟩:ByteArray),(⟨#[]⟩:ByteArray),5)))) else (none)) else (if 2 < (x7.length:Int) then (if 0 < ((bC x7 2).length:Int) then (some (x3000,bW,(aa (bC x7 2) 0).f3,bQ,0)) else (none)) else (none)))
def dV.j0:Nat→List (List af)→Bool→ByteArray→ByteArray→Option (List Int × List Int × ByteArray × ByteArray × Int)
 | 0,_,_,_,_=>none
 | k+1,x7,x29,bE,bQ=>if x29=true then (some (([]:List Int),([]:List Int),(⟨#[]⟩:ByteArray),(⟨#[]⟩:ByteArray),5)) else (if 0 < (x7.length:Int) then ((gH.f k (bC x7 0) ([2]:List Int)).bind fun zU=>(if zU=true then (if 0 < ((bC x7 0).length:Int) then ((jR.f k 0).bind fun zV=>(if ((aa (bC x7 0) 0).f3).toList=zV.toList then (if 1 < (x7.length:Int) then ((ib.f k (bC x7 1) ([]:List Int) ([]:List Int) bE bQ).bind fun iM=>(if iM.1=true then (if 2 < (x7.length:Int) then ((gH.f k (bC x7 2) ([4]:List Int)).bind fun wI=>(dV.j1 k x7 (!wI) iM.2.1 iM.2.2.1 iM.2.2.2.1 iM.2.2.2.2)) else (none)) else (dV.j1 k x7 (!iM.1) iM.2.1 iM.2.2.1 iM.2.2.2.1 iM.2.2.2.2))) else (none)) else (dV.j1 k x7 (((aa (bC x7 0) 0).f3).toList != zV.toList) ([]:List Int) ([]:List Int) bE bQ))) else (none)) else (dV.j1 k x7 (!zU) ([]:List Int) ([]:List Int) bE bQ))) else (none))
def dV.f (k:Nat) (a0:ByteArray):Option (List Int × List Int × ByteArray × ByteArray × Int):=(kF.f k a0).bind fun iH=>(if iH.2.1=0 then ((jF.f k iH.1).bind fun ll=>((gH.f k iH.1 ([16]:List Int)).bind fun zW=>(if zW=true then (if (ll.length:Int) < 3 then (dV.j0 k ll (decide ((ll.length:Int) < 3)) (⟨#[]⟩:ByteArray) (⟨#[]⟩:ByteArray)) else (dV.j0 k ll (decide ((ll.length:Int) > 4)) (⟨#[]⟩:ByteArray) (⟨#[]⟩:ByteArray))) else (dV.j0 k ll (!zW) (⟨#[]⟩:ByteArray) (⟨#[]⟩:ByteArray))))) else (some (([]:List Int),([]:List Int),(⟨#[]⟩:ByteArray),(⟨#[]⟩:ByteArray),iH.2.1)))
theorem dV.az {k:Nat} {a0:ByteArray} {r:(List Int × List Int × ByteArray × ByteArray × Int)} (H:dV.f k a0=some r):aW Tryz.prog 7 [S a0] (.aC [.agg [.row none 1 (List.map I r.1),.row none 1 (List.map I r.2.1),S r.2.2.1,S r.2.2.2.1],I r.2.2.2.2]):=by
 refine Cg Tryz.func7 rfl fun C hN hL=>?_
 unfold dV.f at H
 refine Sw<|Rg hN<|Sw ?_
 obtain ⟨iH,aiB,H⟩:=aF H
 refine Rh hN [.aC [.row (some 56) 5 (List.map (v56 1) iH.1),.agg [I iH.2.1,I iH.2.2]]] (.cons (kF.az aiB).c .nil)<|Sw<|Sw<|Rg hN ?_
 rcases (ak H).symm with ⟨Ot,H⟩ | ⟨Ot,H⟩
 ·refine Ct (nq Ot)<|Sw<|Good.qp (n:=2) hm hN hL (.q 0 [[]] (.i 1 (.b 2 [] [] (.e 3 (.i 4 .z)) [] [] (.e 3 (.e 2 (.i 4 .z)))))) [(2,some (.pt [.nil 3 1,.nil 3 1,S (⟨#[]⟩:ByteArray),S (⟨#[]⟩:ByteArray)])),(5,some (.pt [I iH.2.1,I iH.2.2]))] (by kernel_rfl) (.cons (bV (aA (rfl:(V.shr (.nil 3 1))=.nil 3 1) (aA (rfl:(V.shr (.nil 3 1))=.nil 3 1) (aA (rfl:(V.shr (S (⟨#[]⟩:ByteArray)))=S (⟨#[]⟩:ByteArray)) (aA (rfl:(V.shr (S (⟨#[]⟩:ByteArray)))=S (⟨#[]⟩:ByteArray)) (rfl:aZ []=[])))))) (.cons (bV (aA (rfl:(V.shr (I iH.2.1))=I iH.2.1) (aA (rfl:(V.shr (I iH.2.2))=I iH.2.2) (rfl:aZ []=[])))) .nil)) [] [] (.cons .nil .nil (.cons .nil .nil .nil)) [] [] (by kernel_rfl) (by kernel_rfl) [[],[]] [(2,0),(3,0)] [(2,.d (.ptr 0 0)),(3,.w (I iH.2.1))] [.cells [.v (.nil 3 1),.v (.nil 3 1),.v (S (⟨#[]⟩:ByteArray)),.v (S (⟨#[]⟩:ByteArray))],.cells [.v (I iH.2.1),.v (I iH.2.2)]] (by kernel_rfl) (by kernel_rfl) ?_
  cases H
  exact Good.ret (eY (u:=.aC [.agg [.nil 3 1,.nil 3 1,S (⟨#[]⟩:ByteArray),S (⟨#[]⟩:ByteArray)],I iH.2.1]) (.aC (.cons (.agg (.cons (.dP 3 1 _) (.cons (.dP 3 1 _) (.cons (.refl _) (.cons (.refl _) .nil))))) (.cons (.refl _) .nil))) (by kernel_rfl))
 refine Cf (dE Ot)<|Sk<|Sw<|Rg hN<|Sw ?_
 obtain ⟨ll,aiC,H⟩:=aF H
 refine Rh hN [.row none 5 (List.map (v56 0) iH.1),.row (some 38) 1 (List.map (aQ 0) ll)] (.cons (aP (some 56) 5 (v56 1) (v56 0) iH.1 (v56.shr _)) (.cons (jF.az aiC).c .nil))<|Sw<|Bl<|Sw<|Sw ?_
 obtain ⟨zW,aiD,H⟩:=aF H
 refine Rh hN [.row none 1 (List.map I ([16]:List Int)),B zW] (.cons (aP (some 3) 1 I I ([16]:List Int) (fun _=>rfl)) (.cons (gH.az aiD).c .nil))<|Good.cut (fun st=>∃ n':Nat,n'≤k∧∃ (x7:List (List af)) (x29:Bool) (ay:ByteArray) (au:ByteArray) (x2000:Int) (aB:Int) (bE:ByteArray) (bQ:ByteArray),Wk C st ⟨[(2,.d (.ptr 0 0)),(6,.d (.ptr 2 0)),(7,.w (.row (some 38) 1 (List.map (aQ 0) x7))),(29,.w (B x29))],[.cells [.v (.nil 3 1),.v (.nil 3 1),.v (S ay),.v (S au)],.cells [.v (I x2000),.v (I aB)],.cells [.v (.nil 3 1),.v (.nil 3 1),.v (S bE),.v (S bQ)]]⟩∧dV.j0 n' x7 x29 bE bQ=some r) ?_ ?_
 ·rcases (ak H).symm with ⟨Ou,H⟩ | ⟨Ou,H⟩
  ·exact Ct (ed (bf Ou))<|Sk<|⟨k,by omega,ll,!zW,(⟨#[]⟩:ByteArray),(⟨#[]⟩:ByteArray),iH.2.1,iH.2.2,(⟨#[]⟩:ByteArray),(⟨#[]⟩:ByteArray),Wo [(2,0),(6,0),(7,0),(29,0)],H⟩
  refine Cf (eH Ou)<|Sw<|Rh hN [I (ll.length:Int)] (.cons (aR (aQ 0) ll) .nil) ?_
  rcases ak H with ⟨Ov,H⟩ | ⟨Ov,H⟩
  ·exact Ct (dt Ov)<|Sk<|⟨k,by omega,ll,decide ((ll.length:Int) < 3),(⟨#[]⟩:ByteArray),(⟨#[]⟩:ByteArray),iH.2.1,iH.2.2,(⟨#[]⟩:ByteArray),(⟨#[]⟩:ByteArray),Wo [(2,0),(6,0),(7,0),(29,0)],H⟩
  exact Cf (df Ov)<|Rh hN [I (ll.length:Int)] (.cons (aR (aQ 0) ll) .nil)<|⟨k,by omega,ll,decide ((ll.length:Int) > 4),(⟨#[]⟩:ByteArray),(⟨#[]⟩:ByteArray),iH.2.1,iH.2.2,(⟨#[]⟩:ByteArray),(⟨#[]⟩:ByteArray),Wo [(2,0),(6,0),(7,0),(29,0)],H⟩
 clear H
 rintro st ⟨n',hn',x7,x29,ay,au,x2000,aB,bE,bQ,W,H⟩
 rcases n' with _ | k
 ·cases H
 refine W.good ?_
 rw [dV.j0] at H
 rcases ak H with ⟨Ow,H⟩ | ⟨Ow,H⟩
 ·refine Ct Ow<|Sk<|Sw<|Rg hN ?_
  cases H
  exact Good.ret (eY (u:=.aC [.agg [.nil 3 1,.nil 3 1,S (⟨#[]⟩:ByteArray),S (⟨#[]⟩:ByteArray)],I 5]) (.aC (.cons (.agg (.cons (.dP 3 1 _) (.cons (.dP 3 1 _) (.cons (.refl _) (.cons (.refl _) .nil))))) (.cons (.refl _) .nil))) (by kernel_rfl))
 refine Cf (bf Ow)<|Sw<|Sw ?_
 obtain ⟨zX,H⟩:=ax H
 obtain ⟨zU,aiE,H⟩:=aF H
 refine Rh hN [(aQ 0) (bC x7 0),.row none 1 (List.map I ([2]:List Int)),B zU] (.cons (show (0:Int)≤0 by decide) (.cons (eF (aQ 0) zX) (.cons (aG (aQ 0) ([]:List af) (show (0:Int)≤0 by decide) zX) (.cons (aP (some 3) 1 I I ([2]:List Int) (fun _=>rfl)) (.cons (gH.az aiE).c .nil)))))<|Good.cut (fun st=>∃ n':Nat,n'≤k∧∃ (x7:List (List af)) (x40:Bool) (ay:ByteArray) (au:ByteArray) (x2000:Int) (aB:Int) (x3000:List Int) (bW:List Int) (bE:ByteArray) (bQ:ByteArray),Wk C st ⟨[(2,.d (.ptr 0 0)),(6,.d (.ptr 2 0)),(7,.w (.row (some 38) 1 (List.map (aQ 0) x7))),(40,.w (B x40))],[.cells [.v (.nil 3 1),.v (.nil 3 1),.v (S ay),.v (S au)],.cells [.v (I x2000),.v (I aB)],.cells [.v (.row none 1 (List.map I x3000)),.v (.row none 1 (List.map I bW)),.v (S bE),.v (S bQ)]]⟩∧dV.j1 n' x7 x40 x3000 bW bE bQ=some r) ?_ ?_
 ·rcases (ak H).symm with ⟨Ox,H⟩ | ⟨Ox,H⟩
  ·exact Ct (ed (bf Ox))<|Sk<|⟨k,by omega,x7,!zU,ay,au,x2000,aB,([]:List Int),([]:List Int),bE,bQ,Wk.box 2 (c:=[.nil 3 1,.nil 3 1,S bE,S bQ]) (d:=[.row none 1 (List.map I ([]:List Int)),.row none 1 (List.map I ([]:List Int)),S bE,S bQ]) (by kernel_rfl) (.cons (.dP 3 1 _) (.cons (.dP 3 1 _) (.cons (.refl _) (.cons (.refl _) .nil)))) (Wo [(2,0),(6,0),(7,0),(40,0)]),H⟩
  refine Cf (eH Ox)<|Sw ?_
  obtain ⟨XR,H⟩:=ax H
  obtain ⟨zV,aiF,H⟩:=aF H
  refine Rd hm hN (.qs 6 0 (.e 6 (.q 7 [] (.q 8 [] .z)))) [(7,some (.row none 1 (List.map (aQ 0) x7)))] (.cons (aP (some 38) 1 (aQ 0) (aQ 0) x7 (aQ.shr _)) .nil) [(aQ 0) (bC x7 0),(v56 0) (aa (bC x7 0) 0),S zV] [(aQ 0) (bC x7 0),(v56 0) (aa (bC x7 0) 0)] (.cons (show (0:Int)≤0 by decide) (.cons (eF (aQ 0) zX) (.cons (aG (aQ 0) ([]:List af) (show (0:Int)≤0 by decide) zX) (.cons (show (0:Int)≤0 by decide) (.cons (aG (v56 0) z56 (show (0:Int)≤0 by decide) XR) (.cons (jR.az aiF).c .nil)))))) (.cons (show (0:Int)≤0 by decide) (.cons (aG (aQ 0) ([]:List af) (show (0:Int)≤0 by decide) zX) (.cons (show (0:Int)≤0 by decide) (.cons (aG (v56 0) z56 (show (0:Int)≤0 by decide) XR) .nil)))) [] [] ?_
  rcases (ak H).symm with ⟨Oy,H⟩ | ⟨Oy,H⟩
  ·exact Ct (nq Oy)<|Sk<|⟨k,by omega,x7,(((aa (bC x7 0) 0).f3).toList != zV.toList),ay,au,x2000,aB,([]:List Int),([]:List Int),bE,bQ,Wk.box 2 (c:=[.nil 3 1,.nil 3 1,S bE,S bQ]) (d:=[.row none 1 (List.map I ([]:List Int)),.row none 1 (List.map I ([]:List Int)),S bE,S bQ]) (by kernel_rfl) (.cons (.dP 3 1 _) (.cons (.dP 3 1 _) (.cons (.refl _) (.cons (.refl _) .nil)))) (Wo [(2,0),(6,0),(7,0),(40,0)]),H⟩
  refine Cf (dE Oy)<|Sw ?_
  obtain ⟨XT,H⟩:=ax H
  obtain ⟨iM,aiG,H⟩:=aF H
  refine Rh hN [(aQ 0) (bC x7 1),B iM.1,.aC [.agg [.row none 1 (List.map I iM.2.1),.row none 1 (List.map I iM.2.2.1),S iM.2.2.2.1,S iM.2.2.2.2]]] (.cons (show (0:Int)≤1 by decide) (.cons (eF (aQ 0) XT) (.cons (aG (aQ 0) ([]:List af) (show (0:Int)≤1 by decide) XT) (.cons (kI.n (ib.az aiG) (.cons (.refl _) (.cons (.refl _) .nil)) (.cons (.cons (.dP 3 1 _) (.cons (.dP 3 1 _) (.cons (.refl _) (.cons (.refl _) .nil)))) .nil)) .nil)))) ?_
  rcases (ak H).symm with ⟨Oz,H⟩ | ⟨Oz,H⟩
  ·exact Ct (ed (bf Oz))<|Sk<|⟨k,by omega,x7,!iM.1,ay,au,x2000,aB,iM.2.1,iM.2.2.1,iM.2.2.2.1,iM.2.2.2.2,Wo [(2,0),(6,0),(7,0),(40,0)],H⟩
  refine Cf (eH Oz) ?_
  obtain ⟨XU,H⟩:=ax H
  obtain ⟨wI,aiH,H⟩:=aF H
  exact Rh hN [(aQ 0) (bC x7 2),.row none 1 (List.map I ([4]:List Int)),B wI] (.cons (show (0:Int)≤2 by decide) (.cons (eF (aQ 0) XU) (.cons (aG (aQ 0) ([]:List af) (show (0:Int)≤2 by decide) XU) (.cons (aP (some 3) 1 I I ([4]:List Int) (fun _=>rfl)) (.cons (gH.az aiH).c .nil)))))<|⟨k,by omega,x7,!wI,ay,au,x2000,aB,iM.2.1,iM.2.2.1,iM.2.2.2.1,iM.2.2.2.2,Wo [(2,0),(6,0),(7,0),(40,0)],H⟩
 clear H
 rintro st ⟨n',hn',x7,x40,ay,au,x2000,aB,x3000,bW,bE,bQ,W,H⟩
 rcases n' with _ | k
 ·cases H
 refine W.good ?_
 rw [dV.j1] at H
 rcases ak H with ⟨OA,H⟩ | ⟨OA,H⟩
 ·refine Ct OA<|Sk<|Sw<|Rg hN ?_
  cases H
  exact Good.ret (eY (u:=.aC [.agg [.nil 3 1,.nil 3 1,S (⟨#[]⟩:ByteArray),S (⟨#[]⟩:ByteArray)],I 5]) (.aC (.cons (.agg (.cons (.dP 3 1 _) (.cons (.dP 3 1 _) (.cons (.refl _) (.cons (.refl _) .nil))))) (.cons (.refl _) .nil))) (by kernel_rfl))
 refine Cf (bf OA)<|Sw ?_
 rcases (ak H).symm with ⟨OB,H⟩ | ⟨OB,H⟩
 ·refine Rh hN [I (x7.length:Int),B false] (.cons (aR (aQ 0) x7) (.cons (bn OB) .nil))<|Good.cond false (by kernel_rfl)<|Sw ?_
  obtain ⟨XV,H⟩:=ax H
  obtain ⟨aiI,H⟩:=ax H
  refine Rh hN [(aQ 0) (bC x7 2),(v56 0) (aa (bC x7 2) 0)] (.cons (show (0:Int)≤2 by decide) (.cons (eF (aQ 0) XV) (.cons (aG (aQ 0) ([]:List af) (show (0:Int)≤2 by decide) XV) (.cons (show (0:Int)≤0 by decide) (.cons (aG (v56 0) z56 (show (0:Int)≤0 by decide) aiI) .nil)))))<|Sw<|Rg hN ?_
  cases H
  exact Rt dR
 obtain ⟨XW,H⟩:=ax H
 obtain ⟨pY,aiJ,H⟩:=aF H
 refine Rh hN [I (x7.length:Int),B true,(aQ 0) (bC x7 3),B pY.1,.aC [.agg [.row none 1 (List.map I pY.2.1),.row none 1 (List.map I pY.2.2.1),S pY.2.2.2.1,S pY.2.2.2.2]]] (.cons (aR (aQ 0) x7) (.cons (bq OB) (.cons (show (0:Int)≤3 by decide) (.cons (eF (aQ 0) XW) (.cons (aG (aQ 0) ([]:List af) (show (0:Int)≤3 by decide) XW) (.cons (gJ.az aiJ).c .nil)))))) ?_
 rcases (ak H).symm with ⟨OC,H⟩ | ⟨OC,H⟩
 ·refine Ct (ed (bf OC))<|Sk<|Sw<|Rg hN ?_
  cases H
  exact Good.ret (eY (u:=.aC [.agg [.nil 3 1,.nil 3 1,S (⟨#[]⟩:ByteArray),S (⟨#[]⟩:ByteArray)],I 5]) (.aC (.cons (.agg (.cons (.dP 3 1 _) (.cons (.dP 3 1 _) (.cons (.refl _) (.cons (.refl _) .nil))))) (.cons (.refl _) .nil))) (by kernel_rfl))
 refine Cf (eH OC)<|Sw ?_
 obtain ⟨XX,H⟩:=ax H
 obtain ⟨aiK,H⟩:=ax H
 refine Rh hN [(aQ 0) (bC x7 2),(v56 0) (aa (bC x7 2) 0)] (.cons (show (0:Int)≤2 by decide) (.cons (eF (aQ 0) XX) (.cons (aG (aQ 0) ([]:List af) (show (0:Int)≤2 by decide) XX) (.cons (show (0:Int)≤0 by decide) (.cons (aG (v56 0) z56 (show (0:Int)≤0 by decide) aiK) .nil)))))<|Sw<|Rg hN ?_
 cases H
 exact Rt dR
def qP.f (k:Nat)  : Option (Bool):=(iY.f k ([2,5]:List Int) ([]:List Int) (⟨#[107]⟩:ByteArray) (⟨#[]⟩:ByteArray)).bind fun jD=>((dV.f k jD.1).bind fun jq=>(if jD.1.toList=([48,13,2,1,0,48,5,6,1,85,5,0,4,1,107]:List UInt8) then (if jD.2=0 then (if jq.2.2.1.toList=([107]:List UInt8) then (if (jq.1.length:Int)=2 then (some (jq.2.2.2.2 == 0)) else (some false)) else (some false)) else (some false)) else (some false)))
theorem qP.az {k:Nat} {r:(Bool)} (H:qP.f k  = some r):aW Tryz.prog 4 [] (B r):=by
 refine Cg Tryz.func4 rfl fun C hN hL=>?_
 unfold qP.f at H
 refine Sw<|Rg hN<|Sw ?_
 obtain ⟨jD,aiL,H⟩:=aF H
 refine Rh hN [.row none 1 (List.map I ([2,5]:List Int)),.aC [S jD.1,I jD.2]] (.cons (aP (some 3) 1 I I ([2,5]:List Int) (fun _=>rfl)) (.cons ((iY.az aiL).n (.cons (.agg (.cons (.refl _) (.cons (.dP 3 1 _) (.cons (.refl _) (.cons (.refl _) .nil))))) .nil)) .nil))<|Sw ?_
 obtain ⟨jq,aiM,H⟩:=aF H
 refine Rh hN [.aC [.agg [.row none 1 (List.map I jq.1),.row none 1 (List.map I jq.2.1),S jq.2.2.1,S jq.2.2.2.1],I jq.2.2.2.2]] (.cons (dV.az aiM).c .nil)<|Sw ?_
 rcases (ak H).symm with ⟨wJ,H⟩ | ⟨wJ,H⟩
 ·refine Ri hN [B false,B false,B false,B false] (.cons (fA (rfl:jD.1.toList=jD.1.toList) (eU ([48,13,2,1,0,48,5,6,1,85,5,0,4,1,107]:List UInt8))) (.cons (bn wJ) (.cons (rfl:false=false) (.cons (rfl:false=false) (.cons (rfl:false=false) .nil))))) [(17,.bool (jD.1.toList == ([48,13,2,1,0,48,5,6,1,85,5,0,4,1,107]:List UInt8)))] ?_
  cases H
  exact Rt dR
 rcases (ak H).symm with ⟨zY,H⟩ | ⟨zY,H⟩
 ·refine Ri hN [B true,B false,B false,B false] (.cons (fA (rfl:jD.1.toList=jD.1.toList) (eU ([48,13,2,1,0,48,5,6,1,85,5,0,4,1,107]:List UInt8))) (.cons (bq wJ) (.cons (bn zY) (.cons (rfl:false=false) (.cons (rfl:false=false) .nil))))) [(17,.bool (jD.1.toList == ([48,13,2,1,0,48,5,6,1,85,5,0,4,1,107]:List UInt8)))] ?_
  cases H
  exact Rt dR
 rcases (ak H).symm with ⟨Ep,H⟩ | ⟨Ep,H⟩
 ·refine Ri hN [B true,B true,B false,B false] (.cons (fA (rfl:jD.1.toList=jD.1.toList) (eU ([48,13,2,1,0,48,5,6,1,85,5,0,4,1,107]:List UInt8))) (.cons (bq wJ) (.cons (bq zY) (.cons (fA (rfl:jq.2.2.1.toList=jq.2.2.1.toList) (eU ([107]:List UInt8))) (.cons (bn Ep) (.cons (rfl:false=false) .nil)))))) [(17,.bool (jD.1.toList == ([48,13,2,1,0,48,5,6,1,85,5,0,4,1,107]:List UInt8))),(25,.bool (jq.2.2.1.toList == ([107]:List UInt8)))] ?_
  cases H
  exact Rt dR
 rcases ak H with ⟨OD,H⟩ | ⟨OD,H⟩
 ·refine Ri hN [B true,B true,B true,I (jq.1.length:Int),B true] (.cons (fA (rfl:jD.1.toList=jD.1.toList) (eU ([48,13,2,1,0,48,5,6,1,85,5,0,4,1,107]:List UInt8))) (.cons (bq wJ) (.cons (bq zY) (.cons (fA (rfl:jq.2.2.1.toList=jq.2.2.1.toList) (eU ([107]:List UInt8))) (.cons (bq Ep) (.cons (aR I jq.1) (.cons (bq OD) .nil))))))) [(17,.bool (jD.1.toList == ([48,13,2,1,0,48,5,6,1,85,5,0,4,1,107]:List UInt8))),(25,.bool (jq.2.2.1.toList == ([107]:List UInt8)))] ?_
  cases H
  exact Rt dR
 refine Ri hN [B true,B true,B true,I (jq.1.length:Int),B false] (.cons (fA (rfl:jD.1.toList=jD.1.toList) (eU ([48,13,2,1,0,48,5,6,1,85,5,0,4,1,107]:List UInt8))) (.cons (bq wJ) (.cons (bq zY) (.cons (fA (rfl:jq.2.2.1.toList=jq.2.2.1.toList) (eU ([107]:List UInt8))) (.cons (bq Ep) (.cons (aR I jq.1) (.cons (bn OD) .nil))))))) [(17,.bool (jD.1.toList == ([48,13,2,1,0,48,5,6,1,85,5,0,4,1,107]:List UInt8))),(25,.bool (jq.2.2.1.toList == ([107]:List UInt8)))] ?_
 cases H
 exact Rt dR
def fT.f (a0:Int) (a1:Int):Option (Int × Int):=some (a0,a1)
theorem fT.az {a0:Int} {a1:Int} {r:(Int × Int)} (H:fT.f a0 a1=some r):aW Tryz.prog 59 [I a0,I a1] (.agg [I r.1,I r.2]):=by
 refine Cg Tryz.func59 rfl fun C hN hL=>?_
 unfold fT.f at H
 refine Sw<|Rg hN<|Sw<|Rg hN ?_
 cases H
 exact Rt dR
def tu.f (aK:Int) (cu:Int) (bA:Bool) (bg:Int):Option (Bool):=if aK≥0 then (if aK < 4 then (if cu≥0 then (if cu≤2097151 then (if bg≥0 then (some (decide (bg≤65535))) else (some false)) else (some false)) else (some false)) else (some false)) else (some false)
theorem tu.az {aK:Int} {cu:Int} {bA:Bool} {bg:Int} {r:(Bool)} (H:tu.f aK cu bA bg=some r):aW Tryz.prog 77 [.agg [I aK,I cu,B bA,I bg]] (B r):=by
 refine Cg Tryz.func77 rfl fun C hN hL=>?_
 unfold tu.f at H
 refine Sw<|Rg hN<|Sw ?_
 rcases (ak H).symm with ⟨uC,H⟩ | ⟨uC,H⟩
 ·refine Rh hN [B false,B false,B false,B false,B false] (.cons (df uC) (.cons (rfl:false=false) (.cons (rfl:false=false) (.cons (rfl:false=false) (.cons (rfl:false=false) .nil))))) ?_
  cases H
  exact Rt dR
 rcases (ak H).symm with ⟨wK,H⟩ | ⟨wK,H⟩
 ·refine Rh hN [B true,B false,B false,B false,B false] (.cons (dt uC) (.cons (df wK) (.cons (rfl:false=false) (.cons (rfl:false=false) (.cons (rfl:false=false) .nil))))) ?_
  cases H
  exact Rt dR
 rcases (ak H).symm with ⟨zZ,H⟩ | ⟨zZ,H⟩
 ·refine Rh hN [B true,B true,B false,B false,B false] (.cons (dt uC) (.cons (dt wK) (.cons (df zZ) (.cons (rfl:false=false) (.cons (rfl:false=false) .nil))))) ?_
  cases H
  exact Rt dR
 rcases (ak H).symm with ⟨Er,H⟩ | ⟨Er,H⟩
 ·refine Rh hN [B true,B true,B true,B false,B false] (.cons (dt uC) (.cons (dt wK) (.cons (dt zZ) (.cons (df Er) (.cons (rfl:false=false) .nil))))) ?_
  cases H
  exact Rt dR
 rcases ak H with ⟨OE,H⟩ | ⟨OE,H⟩
 ·refine Rh hN [B true,B true,B true,B true,B true] (.cons (dt uC) (.cons (dt wK) (.cons (dt zZ) (.cons (dt Er) (.cons (dt OE) .nil))))) ?_
  cases H
  exact Rt dR
 refine Rh hN [B true,B true,B true,B true,B false] (.cons (dt uC) (.cons (dt wK) (.cons (dt zZ) (.cons (dt Er) (.cons (df OE) .nil))))) ?_
 cases H
 exact Rt dR
def jT.l0:Nat→Int→ByteArray→Option (ByteArray)
 | 0,_,_=>none
 | k+1,x0,x3=>if x0 > 0 then (if (strOfNums ([(wrap64 (128+(Int.tmod x0 128))) % 256]:List Int)).size+x3.size≤9223372036854775807 then (jT.l0 k (wrap64 (Int.tdiv x0 128)) ((strOfNums ([(wrap64 (128+(Int.tmod x0 128))) % 256]:List Int))++x3)) else (none)) else (some x3)
def jT.f (k:Nat) (a0:Int):Option (ByteArray):=jT.l0 k (wrap64 (Int.tdiv a0 128)) (strOfNums ([(Int.tmod a0 128) % 256]:List Int))
theorem jT.az {k:Nat} {a0:Int} {r:(ByteArray)} (H:jT.f k a0=some r):aW Tryz.prog 78 [I a0] (S r):=by
 refine Cg Tryz.func78 rfl fun C hN hL=>?_
 unfold jT.f at H
 refine Sw<|Rg hN<|Sw<|Rh hN [S (strOfNums ([(Int.tmod a0 128) % 256]:List Int))] (.cons (show (128:Int)≠0 by decide) (.cons (mO ([(Int.tmod a0 128) % 256]:List Int)) .nil))<|Sw<|Rh hN [] (.cons (show (128:Int)≠0 by decide) .nil)<|Sw<|Bl<|Good.dK (fun k' st=>∃ (x0:Int) (x3:ByteArray),k'≤k∧Wk C st ⟨[(0,.w (I x0)),(3,.w (S x3))],[]⟩∧jT.l0 k' x0 x3=some r) k ⟨wrap64 (Int.tdiv a0 128),strOfNums ([(Int.tmod a0 128) % 256]:List Int),Nat.le_refl _,Wo [(0,0),(3,0)],H⟩ fun k=>⟨fun st h=>(by obtain ⟨_,_,_,_,H⟩:=h;cases H),?_⟩
 clear H
 rintro st ⟨x0,x3,hk,W,H⟩
 refine W.good ?_
 rw [jT.l0] at H
 refine Sw<|Sw<|Rg hN ?_
 rcases (ak H).symm with ⟨OG,H⟩ | ⟨OG,H⟩
 ·refine Cf (df OG)<|Ex<|Sw<|Rg hN ?_
  cases H
  exact Rt dR
 refine Ct (dt OG)<|Sk<|Bl<|Sw ?_
 obtain ⟨aiN,H⟩:=ax H
 exact Rh hN [S (strOfNums ([(wrap64 (128+(Int.tmod x0 128))) % 256]:List Int))] (.cons (show (128:Int)≠0 by decide) (.cons (mO ([(wrap64 (128+(Int.tmod x0 128))) % 256]:List Int)) (.cons aiN .nil)))<|Rh hN [] (.cons (show (128:Int)≠0 by decide) .nil)<|⟨k,by omega,wrap64 (Int.tdiv x0 128),(strOfNums ([(wrap64 (128+(Int.tmod x0 128))) % 256]:List Int))++x3,by omega,Wo [(0,0),(3,0)],H⟩
def fM.l0:Nat→Int→Int→ByteArray→Int→Option (ByteArray)
 | 0,_,_,_,_=>none
 | k+1,x0,x1,x5,x6=>if x6 < x1 then (if (strOfNums ([(Int.tmod x0 256) % 256]:List Int)).size+x5.size≤9223372036854775807 then (fM.l0 k (IntKind.u64.wrap (Int.tdiv x0 256)) x1 ((strOfNums ([(Int.tmod x0 256) % 256]:List Int))++x5) (wrap64 (x6+1))) else (none)) else (some x5)
def fM.j0:Nat→Int→Int→Bool→Option (ByteArray)
 | 0,_,_,_=>none
 | k+1,x0,x1,dI=>if dI=true then (some (⟨#[]⟩:ByteArray)) else (fM.l0 k x0 x1 (⟨#[]⟩:ByteArray) 0)
def fM.f (k:Nat) (a0:Int) (a1:Int):Option (ByteArray):=if a1 < 1 then (fM.j0 k a0 a1 true) else (fM.j0 k a0 a1 (decide (a1 > 8)))
theorem fM.az {k:Nat} {a0:Int} {a1:Int} {r:(ByteArray)} (H:fM.f k a0 a1=some r):aW Tryz.prog 79 [K .u64 a0,I a1] (S r):=by
 refine Cg Tryz.func79 rfl fun C hN hL=>?_
 unfold fM.f at H
 refine Sw<|Rg hN<|Sw<|Sw<|Good.cut (fun st=>∃ n':Nat,n'≤k∧∃ (x0:Int) (x1:Int) (dI:Bool),Wk C st ⟨[(0,.w (K .u64 x0)),(1,.w (I x1)),(12,.w (B dI))],[]⟩∧fM.j0 n' x0 x1 dI=some r) ?_ ?_
 ·rcases ak H with ⟨OH,H⟩ | ⟨OH,H⟩
  ·exact Rh hN [B true] (.cons (dt OH) .nil)<|⟨k,by omega,a0,a1,true,Wo [(0,0),(1,0),(12,0)],H⟩
  exact Rh hN [B false] (.cons (df OH) .nil)<|⟨k,by omega,a0,a1,decide (a1 > 8),Wo [(0,0),(1,0),(12,0)],H⟩
 clear H
 rintro st ⟨n',hn',x0,x1,dI,W,H⟩
 rcases n' with _ | k
 ·cases H
 refine W.good ?_
 rw [fM.j0] at H
 rcases ak H with ⟨OI,H⟩ | ⟨OI,H⟩
 ·refine Ct OI<|Sw<|Rg hN ?_
  cases H
  exact Rt dR
 refine Cf (bf OI)<|Sk<|Sw<|Rg hN<|Sw<|Sw<|Rg hN<|Bl<|Good.dK (fun k' st=>∃ (x0:Int) (x1:Int) (x5:ByteArray) (x6:Int),k'≤k∧Wk C st ⟨[(0,.w (K .u64 x0)),(1,.w (I x1)),(5,.w (S x5)),(6,.w (I x6))],[]⟩∧fM.l0 k' x0 x1 x5 x6=some r) k ⟨x0,x1,(⟨#[]⟩:ByteArray),0,Nat.le_refl _,Wo [(0,0),(1,0),(5,0),(6,0)],H⟩ fun k=>⟨fun st h=>(by obtain ⟨_,_,_,_,_,_,H⟩:=h;cases H),?_⟩
 clear H
 rintro st ⟨x0,x1,x5,x6,hk,W,H⟩
 refine W.good ?_
 rw [fM.l0] at H
 refine Sw<|Sw<|Rg hN ?_
 rcases (ak H).symm with ⟨OJ,H⟩ | ⟨OJ,H⟩
 ·refine Cf (df OJ)<|Ex<|Sw<|Rg hN ?_
  cases H
  exact Rt dR
 refine Ct (dt OJ)<|Sk<|Sw<|Bl<|Sw ?_
 obtain ⟨aiO,H⟩:=ax H
 exact Rh hN [S (strOfNums ([(Int.tmod x0 256) % 256]:List Int))] (.cons (show (256:Int)≠0 by decide) (.cons (mO ([(Int.tmod x0 256) % 256]:List Int)) (.cons aiO .nil)))<|Rh hN [] (.cons (show (256:Int)≠0 by decide) .nil)<|Rg hN<|⟨k,by omega,IntKind.u64.wrap (Int.tdiv x0 256),x1,(strOfNums ([(Int.tmod x0 256) % 256]:List Int))++x5,wrap64 (x6+1),by omega,Wo [(0,0),(1,0),(5,0),(6,0)],H⟩
def gK.j1:Nat→ByteArray→Int→Option (ByteArray × Int)
 | 0,_,_=>none
 | k+1,x5,au=>if au < 128 then (if x5.size+(strOfNums ([(au) % 256]:List Int)).size≤9223372036854775807 then (some (x5++(strOfNums ([(au) % 256]:List Int)),0)) else (none)) else (if au < 256 then (if x5.size+1≤9223372036854775807 then ((fM.f k (IntKind.u64.wrap (au)) 1).bind fun Es=>(if (x5++(⟨#[129]⟩:ByteArray)).size+Es.size≤9223372036854775807 then (some ((x5++(⟨#[129]⟩:ByteArray))++Es,0)) else (none))) else (none)) else (if x5.size+1≤9223372036854775807 then ((fM.f k (IntKind.u64.wrap (au)) 2).bind fun Et=>(if (x5++(⟨#[130]⟩:ByteArray)).size+Et.size≤9223372036854775807 then (some ((x5++(⟨#[130]⟩:ByteArray))++Et,0)) else (none))) else (none)))
def gK.j0:Nat→Int→Int→Int→Option (ByteArray × Int)
 | 0,_,_,_=>none
 | k+1,x4,ah,au=>if ah < 31 then (gK.j1 k (strOfNums ([(wrap64 (x4+ah)) % 256]:List Int)) au) else ((jT.f k ah).bind fun r9=>(if (strOfNums ([(wrap64 (x4+31)) % 256]:List Int)).size+r9.size≤9223372036854775807 then (gK.j1 k ((strOfNums ([(wrap64 (x4+31)) % 256]:List Int))++r9) au) else (none)))
def gK.f (k:Nat) (aK:Int) (cu:Int) (bA:Bool) (bg:Int):Option (ByteArray × Int):=(tu.f aK cu bA bg).bind fun OL=>(if OL=true then (if bA=true then (gK.j0 k (wrap64 ((wrap64 (64*aK))+32)) cu bg) else (gK.j0 k (wrap64 (64*aK)) cu bg)) else (some ((⟨#[]⟩:ByteArray),1)))
theorem gK.az {k:Nat} {aK:Int} {cu:Int} {bA:Bool} {bg:Int} {r:(ByteArray × Int)} (H:gK.f k aK cu bA bg=some r):aW Tryz.prog 61 [.agg [I aK,I cu,B bA,I bg]] (.aC [S r.1,I r.2]):=by
 refine Cg Tryz.func61 rfl fun C hN hL=>?_
 unfold gK.f at H
 refine Sw<|Rg hN<|Sw<|Sw ?_
 obtain ⟨OL,aiP,H⟩:=aF H
 refine Rh hN [B OL] (.cons (tu.az aiP).c .nil) ?_
 rcases (ak H).symm with ⟨OM,H⟩ | ⟨OM,H⟩
 ·refine Ct (ed (bf OM))<|Sw<|Rg hN ?_
  cases H
  exact Rt dR
 refine Cf (eH OM)<|Sk<|Sw<|Rg hN<|Sw<|Sw<|Rg hN<|Good.cut (fun st=>∃ n':Nat,n'≤k∧∃ (x4:Int) (x1000:Int) (ah:Int) (ay:Bool) (au:Int),Wk C st ⟨[(1,.d (.ptr 0 0)),(4,.w (I x4))],[.cells [.v (I x1000),.v (I ah),.v (B ay),.v (I au)]]⟩∧gK.j0 n' x4 ah au=some r) ?_ ?_
 ·rcases ak H with ⟨OO,H⟩ | ⟨OO,H⟩
  ·exact Ct OO<|Rg hN<|⟨k,by omega,wrap64 ((wrap64 (64*aK))+32),aK,cu,bA,bg,Wo [(1,0),(4,0)],H⟩
  exact Cf (bf OO)<|Sk<|⟨k,by omega,wrap64 (64*aK),aK,cu,bA,bg,Wo [(1,0),(4,0)],H⟩
 clear H
 rintro st ⟨n',hn',x4,x1000,ah,ay,au,W,H⟩
 rcases n' with _ | k
 ·cases H
 refine W.good ?_
 rw [gK.j0] at H
 refine Sw<|Rg hN<|Sw<|Sw<|Rg hN<|Good.cut (fun st=>∃ n':Nat,n'≤k∧∃ (x5:ByteArray) (x1000:Int) (ah:Int) (ay:Bool) (au:Int),Wk C st ⟨[(1,.d (.ptr 0 0)),(5,.w (S x5))],[.cells [.v (I x1000),.v (I ah),.v (B ay),.v (I au)]]⟩∧gK.j1 n' x5 au=some r) ?_ ?_
 ·rcases ak H with ⟨OP,H⟩ | ⟨OP,H⟩
  ·exact Ct (dt OP)<|Rh hN [S (strOfNums ([(wrap64 (x4+ah)) % 256]:List Int))] (.cons (mO ([(wrap64 (x4+ah)) % 256]:List Int)) .nil)<|⟨k,by omega,strOfNums ([(wrap64 (x4+ah)) % 256]:List Int),x1000,ah,ay,au,Wo [(1,0),(5,0)],H⟩
  refine Cf (df OP) ?_
  obtain ⟨r9,OQ,H⟩:=aF H
  obtain ⟨wL,H⟩:=ax H
  exact Good.qp (n:=3) hm hN hL (.q 0 [] (.q 1 [] (.q 2 [] (.q 5 [] (.q 6 [] (.b 3 [] [] (.b 4 [S (strOfNums ([(wrap64 (x4+31)) % 256]:List Int)),S r9] [] (.e 7 (.q 8 [] (.q 9 [] .z))) [S r9,S (strOfNums ([(wrap64 (x4+31)) % 256]:List Int))] [] (.e 7 (.e 4 (.q 8 [] (.q 9 [] .z))))) [S r9,S (strOfNums ([(wrap64 (x4+31)) % 256]:List Int))] [] (.e 7 (.e 3 (.e 4 (.q 8 [] (.q 9 [] .z))))))))))) [(1,some (.pt [I x1000,I ah,B ay,I au])),(4,none)] (by kernel_rfl) (.cons (bV (aA (rfl:(V.shr (I x1000))=I x1000) (aA (rfl:(V.shr (I ah))=I ah) (aA (rfl:(V.shr (B ay))=B ay) (aA (rfl:(V.shr (I au))=I au) (rfl:aZ []=[])))))) .nil) [] [] (.cons (.cons (mO ([(wrap64 (x4+31)) % 256]:List Int)) (.cons (jT.az OQ).c (.cons wL .nil))) (.cons wL .nil) (.cons (.cons (jT.az OQ).c (.cons (mO ([(wrap64 (x4+31)) % 256]:List Int)) (.cons wL .nil))) (.cons wL .nil) (.cons (.cons (jT.az OQ).c (.cons (mO ([(wrap64 (x4+31)) % 256]:List Int)) (.cons wL .nil))) (.cons wL .nil) .nil))) [] [] (by kernel_rfl) (by kernel_rfl) [[],[],[]] [(1,0),(5,0)] [(1,.d (.ptr 0 0)),(5,.w (S ((strOfNums ([(wrap64 (x4+31)) % 256]:List Int))++r9)))] [.cells [.v (I x1000),.v (I ah),.v (B ay),.v (I au)]] (by kernel_rfl) (by kernel_rfl)<|⟨k,by omega,(strOfNums ([(wrap64 (x4+31)) % 256]:List Int))++r9,x1000,ah,ay,au,Wo [(1,0),(5,0)],H⟩
 clear H
 rintro st ⟨n',hn',x5,x1000,ah,ay,au,W,H⟩
 rcases n' with _ | k
 ·cases H
 refine W.good ?_
 rw [gK.j1] at H
 refine Sw<|Sw<|Rg hN ?_
 rcases ak H with ⟨OT,H⟩ | ⟨OT,H⟩
 ·refine Ct (dt OT)<|Sw ?_
  obtain ⟨aiQ,H⟩:=ax H
  refine Rh hN [S (strOfNums ([(au) % 256]:List Int))] (.cons (mO ([(au) % 256]:List Int)) (.cons aiQ .nil)) ?_
  cases H
  exact Rt dR
 refine Cf (df OT)<|Sk<|Sw<|Sw<|Rg hN ?_
 rcases ak H with ⟨OU,H⟩ | ⟨OU,H⟩
 ·refine Ct (dt OU)<|Sw ?_
  obtain ⟨aiR,H⟩:=ax H
  obtain ⟨Es,aiS,H⟩:=aF H
  obtain ⟨aiT,H⟩:=ax H
  refine Rh hN [S Es] (.cons aiR (.cons (fM.az aiS).c (.cons aiT .nil))) ?_
  cases H
  exact Rt dR
 refine Cf (df OU)<|Sk<|Sw ?_
 obtain ⟨aiU,H⟩:=ax H
 obtain ⟨Et,aiV,H⟩:=aF H
 obtain ⟨aiW,H⟩:=ax H
 refine Rh hN [S Et] (.cons aiU (.cons (fM.az aiV).c (.cons aiW .nil))) ?_
 cases H
 exact Rt dR
mutual
def gT.l0:Nat→ByteArray→Int→Int→Int→Bool→Int→Option (Int × Int × Bool × Int × Int)
 | 0,_,_,_,_,_,_=>none
 | k+1,x0,x6,x2000,aB,aJ,aL=>if x6 < (x0.size:Int) then (gT.j1 k x0 x6 (decide (x6 < 4)) x2000 aB aJ aL) else (gT.j1 k x0 x6 false x2000 aB aJ aL)
def gT.j1:Nat→ByteArray→Int→Bool→Int→Int→Bool→Int→Option (Int × Int × Bool × Int × Int)
 | 0,_,_,_,_,_,_,_=>none
 | k+1,x0,x6,x34,x2000,aB,aJ,aL=>if x34=true then (if 0≤x6 then (if x6 < (x0.size:Int) then (if (bt x0 x6) < 128 then (some (x2000,wrap64 ((wrap64 (128*aB))+(Int.tmod (wrap64 (bt x0 x6)) 128)),aJ,aL,wrap64 (x6+1))) else (gT.l0 k x0 (wrap64 (x6+1)) x2000 (wrap64 ((wrap64 (128*aB))+(Int.tmod (wrap64 (bt x0 x6)) 128))) aJ aL)) else (none)) else (none)) else (some (0,0,false,0,0))
end
def gT.f (k:Nat) (a0:ByteArray):Option (Int × Int × Bool × Int × Int):=if a0.toList=([]:List UInt8) then (some (0,0,false,0,0)) else (if 0 < (a0.size:Int) then (if (Int.tmod (wrap64 (bt a0 0)) 32) < 31 then (some (wrap64 (Int.tdiv (wrap64 (bt a0 0)) 64),Int.tmod (wrap64 (bt a0 0)) 32,((Int.tmod (wrap64 (Int.tdiv (wrap64 (bt a0 0)) 32)) 2) == 1),0,1)) else (gT.l0 k a0 1 (wrap64 (Int.tdiv (wrap64 (bt a0 0)) 64)) 0 ((Int.tmod (wrap64 (Int.tdiv (wrap64 (bt a0 0)) 32)) 2) == 1) 0)) else (none))
theorem gT.az {k:Nat} {a0:ByteArray} {r:(Int × Int × Bool × Int × Int)} (H:gT.f k a0=some r):aW Tryz.prog 75 [S a0] (.aC [.agg [I r.1,I r.2.1,B r.2.2.1,I r.2.2.2.1],I r.2.2.2.2]):=by
 refine Cg Tryz.func75 rfl fun C hN hL=>?_
 unfold gT.f at H
 refine Sw<|Rg hN<|Sw<|Sw<|Ri hN [] (.cons (fA (rfl:a0.toList=a0.toList) (eU ([]:List UInt8))) .nil) [(8,.bool (a0.toList == ([]:List UInt8)))] ?_
 rcases ak H with ⟨OV,H⟩ | ⟨OV,H⟩
 ·refine Ct (bq OV)<|Sw<|Rg hN ?_
  cases H
  exact Rt dR
 refine Cf (bn OV)<|Sk<|Sw ?_
 obtain ⟨aiX,H⟩:=ax H
 refine Rh hN [] (.cons (show (0:Int)≤0 by decide) (.cons aiX .nil))<|Sw<|Rh hN [] (.cons (show (64:Int)≠0 by decide) (.cons (show (32:Int)≠0 by decide) (.cons (show (2:Int)≠0 by decide) (.cons (show (32:Int)≠0 by decide) .nil))))<|Sw<|Sw<|Rg hN ?_
 rcases ak H with ⟨OW,H⟩ | ⟨OW,H⟩
 ·refine Ct (dt OW)<|Sw<|Rg hN ?_
  cases H
  exact Rt dR
 refine Cf (df OW)<|Sk<|Sw<|Rg hN<|Sw<|Sw<|Rg hN<|Bl<|Good.dK (fun k' st=>∃ (x0:ByteArray) (x6:Int) (x1000:Int) (ah:Int) (ay:Bool) (au:Int) (x2000:Int) (aB:Int) (aJ:Bool) (aL:Int),k'≤k∧Wk C st ⟨[(0,.w (S x0)),(2,.d (.ptr 0 0)),(5,.d (.ptr 1 0)),(6,.w (I x6))],[.cells [.v (I x1000),.v (I ah),.v (B ay),.v (I au)],.cells [.v (I x2000),.v (I aB),.v (B aJ),.v (I aL)]]⟩∧gT.l0 k' x0 x6 x2000 aB aJ aL=some r) k ⟨a0,1,0,0,false,0,wrap64 (Int.tdiv (wrap64 (bt a0 0)) 64),0,((Int.tmod (wrap64 (Int.tdiv (wrap64 (bt a0 0)) 32)) 2) == 1),0,Nat.le_refl _,Wo [(0,0),(2,0),(5,0),(6,0)],H⟩ fun k=>⟨fun st h=>(by obtain ⟨_,_,_,_,_,_,_,_,_,_,_,_,H⟩:=h;cases H),?_⟩
 clear H
 rintro st ⟨x0,x6,x1000,ah,ay,au,x2000,aB,aJ,aL,hk,W,H⟩
 refine W.good ?_
 rw [gT.l0] at H
 refine Sw<|Sw<|Good.cut (fun st=>∃ n':Nat,n'≤k∧∃ (x0:ByteArray) (x6:Int) (x34:Bool) (x1000:Int) (ah:Int) (ay:Bool) (au:Int) (x2000:Int) (aB:Int) (aJ:Bool) (aL:Int),Wk C st ⟨[(0,.w (S x0)),(2,.d (.ptr 0 0)),(5,.d (.ptr 1 0)),(6,.w (I x6)),(34,.w (B x34))],[.cells [.v (I x1000),.v (I ah),.v (B ay),.v (I au)],.cells [.v (I x2000),.v (I aB),.v (B aJ),.v (I aL)]]⟩∧gT.j1 n' x0 x6 x34 x2000 aB aJ aL=some r) ?_ ?_
 ·rcases ak H with ⟨OX,H⟩ | ⟨OX,H⟩
  ·exact Rh hN [B true] (.cons (dt OX) .nil)<|⟨k,by omega,x0,x6,decide (x6 < 4),x1000,ah,ay,au,x2000,aB,aJ,aL,Wo [(0,0),(2,0),(5,0),(6,0),(34,0)],H⟩
  exact Rh hN [B false] (.cons (df OX) .nil)<|⟨k,by omega,x0,x6,false,x1000,ah,ay,au,x2000,aB,aJ,aL,Wo [(0,0),(2,0),(5,0),(6,0),(34,0)],H⟩
 clear H
 rintro st ⟨n',hn',x0,x6,x34,x1000,ah,ay,au,x2000,aB,aJ,aL,W,H⟩
 rcases n' with _ | k
 ·cases H
 refine W.good ?_
 rw [gT.j1] at H
 rcases (ak H).symm with ⟨OY,H⟩ | ⟨OY,H⟩
 ·refine Cf (bf OY)<|Ex<|Sw<|Rg hN ?_
  cases H
  exact Rt dR
 refine Ct OY<|Sk<|Sw<|Bl<|Sw ?_
 obtain ⟨OZ,H⟩:=ax H
 obtain ⟨O0,H⟩:=ax H
 refine Rd hm hN (.q 0 [[]] (.q 1 [[]] (.q 2 [[]] (.q 3 [[]] (.q 4 [[]] (.q 5 [[]] (.q 6 [[]] (.q 7 [[]] (.q 8 [[]] (.q 9 [[]] (.e 10 .z))))))))))) [(0,none),(5,some (.pt [I x2000,I aB,B aJ,I aL])),(6,none)] (.cons (bV (aA (rfl:(V.shr (I x2000))=I x2000) (aA (rfl:(V.shr (I aB))=I aB) (aA (rfl:(V.shr (B aJ))=B aJ) (aA (rfl:(V.shr (I aL))=I aL) (rfl:aZ []=[])))))) .nil) [] [] (.cons OZ (.cons O0 (.cons (show (128:Int)≠0 by decide) .nil))) (.cons OZ (.cons O0 (.cons (show (128:Int)≠0 by decide) .nil))) [] []<|Sw<|Rh hN [] (.cons OZ (.cons O0 .nil)) ?_
 rcases (ak H).symm with ⟨O1,H⟩ | ⟨O1,H⟩
 ·exact Cf (df O1)<|Sk<|Rg hN<|⟨k,by omega,x0,wrap64 (x6+1),x1000,ah,ay,au,x2000,wrap64 ((wrap64 (128*aB))+(Int.tmod (wrap64 (bt x0 x6)) 128)),aJ,aL,by omega,Wo [(0,0),(2,0),(5,0),(6,0)],H⟩
 refine Ct (dt O1)<|Sw<|Rg hN ?_
 cases H
 exact Rt dR
def jk.l0:Nat→ByteArray→Int→Int→Option (Int × Bool)
 | 0,_,_,_=>none
 | k+1,x0,x4,x5=>if x5 < (x0.size:Int) then (if 0≤x5 then (jk.l0 k x0 (IntKind.u64.wrap ((IntKind.u64.wrap (x4*256))+(IntKind.u64.wrap (bt x0 x5)))) (wrap64 (x5+1))) else (none)) else (some (x4,true))
def jk.j0:Nat→ByteArray→Bool→Option (Int × Bool)
 | 0,_,_=>none
 | k+1,x0,bF=>if bF=true then (some (0,false)) else (jk.l0 k x0 0 0)
def jk.f (k:Nat) (a0:ByteArray):Option (Int × Bool):=if (a0.size:Int) < 1 then (jk.j0 k a0 true) else (jk.j0 k a0 (decide ((a0.size:Int) > 8)))
theorem jk.az {k:Nat} {a0:ByteArray} {r:(Int × Bool)} (H:jk.f k a0=some r):aW Tryz.prog 76 [S a0] (.aC [K .u64 r.1,B r.2]):=by
 refine Cg Tryz.func76 rfl fun C hN hL=>?_
 unfold jk.f at H
 refine Sw<|Rg hN<|Sw<|Sw<|Good.cut (fun st=>∃ n':Nat,n'≤k∧∃ (x0:ByteArray) (bF:Bool),Wk C st ⟨[(0,.w (S x0)),(13,.w (B bF))],[]⟩∧jk.j0 n' x0 bF=some r) ?_ ?_
 ·rcases ak H with ⟨O3,H⟩ | ⟨O3,H⟩
  ·exact Rh hN [B true] (.cons (dt O3) .nil)<|⟨k,by omega,a0,true,Wo [(0,0),(13,0)],H⟩
  exact Rh hN [B false] (.cons (df O3) .nil)<|⟨k,by omega,a0,decide ((a0.size:Int) > 8),Wo [(0,0),(13,0)],H⟩
 clear H
 rintro st ⟨n',hn',x0,bF,W,H⟩
 rcases n' with _ | k
 ·cases H
 refine W.good ?_
 rw [jk.j0] at H
 rcases ak H with ⟨O4,H⟩ | ⟨O4,H⟩
 ·refine Ct O4<|Sw<|Rg hN ?_
  cases H
  exact Rt dR
 refine Cf (bf O4)<|Sk<|Sw<|Rg hN<|Sw<|Sw<|Rg hN<|Bl<|Good.dK (fun k' st=>∃ (x0:ByteArray) (x4:Int) (x5:Int),k'≤k∧Wk C st ⟨[(0,.w (S x0)),(4,.w (K .u64 x4)),(5,.w (I x5))],[]⟩∧jk.l0 k' x0 x4 x5=some r) k ⟨x0,0,0,Nat.le_refl _,Wo [(0,0),(4,0),(5,0)],H⟩ fun k=>⟨fun st h=>(by obtain ⟨_,_,_,_,_,H⟩:=h;cases H),?_⟩
 clear H
 rintro st ⟨x0,x4,x5,hk,W,H⟩
 refine W.good ?_
 rw [jk.l0] at H
 refine Sw<|Sw<|Rg hN ?_
 rcases (ak H).symm with ⟨Eu,H⟩ | ⟨Eu,H⟩
 ·refine Cf (df Eu)<|Ex<|Sw<|Rg hN ?_
  cases H
  exact Rt dR
 refine Ct (dt Eu)<|Sk<|Sw<|Bl ?_
 obtain ⟨aiY,H⟩:=ax H
 exact Rh hN [] (.cons aiY (.cons Eu .nil))<|Rg hN<|⟨k,by omega,x0,IntKind.u64.wrap ((IntKind.u64.wrap (x4*256))+(IntKind.u64.wrap (bt x0 x5))),wrap64 (x5+1),by omega,Wo [(0,0),(4,0),(5,0)],H⟩
def gL.j1:Nat→ByteArray→Int→Int→Int→Int→Bool→Option (Int × Int × Bool × Int × Int × Int)
 | 0,_,_,_,_,_,_=>none
 | k+1,x0,x6,x9,x2000,aB,aJ=>if (wrap64 ((wrap64 (x6+1))+x9)) > (x0.size:Int) then (some (0,0,false,0,0,5)) else (if 0≤x6 then (if x6 < (x0.size:Int) then (if x9 > 0 then (if 0≤(wrap64 (x6+1)) then (if (wrap64 (x6+1))≤(wrap64 ((wrap64 (x6+1))+x9)) then (if (wrap64 ((wrap64 (x6+1))+x9))≤(x0.size:Int) then ((jk.f k (x0.extract ((wrap64 (x6+1)):Int).toNat ((wrap64 ((wrap64 (x6+1))+x9)):Int).toNat)).bind fun z8=>((gK.f k x2000 aB aJ (wrap64 (z8.1))).bind fun Aa=>(if 0≤(wrap64 ((wrap64 (x6+1))+x9)) then (if Aa.1.toList=(x0.extract 0 ((wrap64 ((wrap64 (x6+1))+x9)):Int).toNat).toList then (some (x2000,aB,aJ,wrap64 (z8.1),(Aa.1.size:Int),0)) else (some (0,0,false,0,0,5))) else (none)))) else (none)) else (none)) else (none)) else ((gK.f k x2000 aB aJ (wrap64 (bt x0 x6))).bind fun Ab=>(if 0≤(wrap64 ((wrap64 (x6+1))+x9)) then (if (wrap64 ((wrap64 (x6+1))+x9))≤(x0.size:Int) then (if Ab.1.toList=(x0.extract 0 ((wrap64 ((wrap64 (x6+1))+x9)):Int).toNat).toList then (some (x2000,aB,aJ,wrap64 (bt x0 x6),(Ab.1.size:Int),0)) else (some (0,0,false,0,0,5))) else (none)) else (none)))) else (none)) else (none))
def gL.j0:Nat→ByteArray→Int→Bool→Int→Int→Bool→Option (Int × Int × Bool × Int × Int × Int)
 | 0,_,_,_,_,_,_=>none
 | k+1,x0,x6,lC,x2000,aB,aJ=>if lC=true then (some (0,0,false,0,0,5)) else (if 0≤x6 then (if x6 < (x0.size:Int) then (if (bt x0 x6) > 130 then (some (0,0,false,0,0,4)) else (if (bt x0 x6) > 128 then (gL.j1 k x0 x6 (wrap64 ((wrap64 (bt x0 x6)) - 128)) x2000 aB aJ) else (gL.j1 k x0 x6 0 x2000 aB aJ))) else (none)) else (none))
def gL.f (k:Nat) (a0:ByteArray):Option (Int × Int × Bool × Int × Int × Int):=(gT.f k a0).bind fun ek=>(if ek.2.2.2.2=0 then (some (0,0,false,0,0,5)) else ((gK.f k ek.1 ek.2.1 ek.2.2.1 ek.2.2.2.1).bind fun si=>(if 0≤(wrap64 ((si.1.size:Int) - 1)) then (if (wrap64 ((si.1.size:Int) - 1))≤(si.1.size:Int) then (if 0≤ek.2.2.2.2 then (if ek.2.2.2.2≤(a0.size:Int) then (if (si.1.extract 0 ((wrap64 ((si.1.size:Int) - 1)):Int).toNat).toList=(a0.extract 0 (ek.2.2.2.2:Int).toNat).toList then (if ek.2.2.2.2=(a0.size:Int) then (gL.j0 k a0 ek.2.2.2.2 true ek.1 ek.2.1 ek.2.2.1) else (if ek.2.2.2.2 < (a0.size:Int) then (gL.j0 k a0 ek.2.2.2.2 ((bt a0 ek.2.2.2.2) == 128) ek.1 ek.2.1 ek.2.2.1) else (none))) else (gL.j0 k a0 ek.2.2.2.2 true ek.1 ek.2.1 ek.2.2.1)) else (none)) else (none)) else (none)) else (none))))
theorem gL.az {k:Nat} {a0:ByteArray} {r:(Int × Int × Bool × Int × Int × Int)} (H:gL.f k a0=some r):aW Tryz.prog 60 [S a0] (.aC [.agg [I r.1,I r.2.1,B r.2.2.1,I r.2.2.2.1],I r.2.2.2.2.1,I r.2.2.2.2.2]):=by
 refine Cg Tryz.func60 rfl fun C hN hL=>?_
 unfold gL.f at H
 refine Sw<|Rg hN<|Sw ?_
 obtain ⟨ek,aiZ,H⟩:=aF H
 refine Rh hN [.aC [.agg [I ek.1,I ek.2.1,B ek.2.2.1,I ek.2.2.2.1],I ek.2.2.2.2]] (.cons (gT.az aiZ).c .nil)<|Sw<|Sw<|Rg hN ?_
 rcases ak H with ⟨O5,H⟩ | ⟨O5,H⟩
 ·refine Ct (bq O5)<|Sw<|Rg hN ?_
  cases H
  exact Rt dR
 refine Cf (bn O5)<|Sk<|Sw ?_
 obtain ⟨si,ai0,H⟩:=aF H
 refine Rh hN [.aC [S si.1,I si.2]] (.cons (gK.az ai0).c .nil)<|Sw<|Sw<|Good.cut (fun st=>∃ n':Nat,n'≤k∧∃ (x0:ByteArray) (x6:Int) (lC:Bool) (x1000:Int) (ah:Int) (ay:Bool) (au:Int) (x2000:Int) (aB:Int) (aJ:Bool) (aL:Int),Wk C st ⟨[(0,.w (S x0)),(2,.d (.ptr 0 0)),(5,.d (.ptr 1 0)),(6,.w (I x6)),(45,.w (B lC))],[.cells [.v (I x1000),.v (I ah),.v (B ay),.v (I au)],.cells [.v (I x2000),.v (I aB),.v (B aJ),.v (I aL)]]⟩∧gL.j0 n' x0 x6 lC x2000 aB aJ=some r) ?_ ?_
 ·obtain ⟨wM,H⟩:=ax H
  obtain ⟨wN,H⟩:=ax H
  obtain ⟨sj,H⟩:=ax H
  obtain ⟨wO,H⟩:=ax H
  rcases (ak H).symm with ⟨uD,H⟩ | ⟨uD,H⟩
  ·exact Rd hm hN (.qs 10 0 (.k 34 (.is 4 10 (.q 14 [] (.q 15 [] (.k 40 (.is 4 16 (.q 20 [] .z)))))))) [(0,none),(6,none),(7,none)] .nil [B true,B true] [] (.cons wM (.cons wN (.cons sj (.cons wO (.cons (nq uD) (.cons (rfl:true=true) .nil)))))) (.cons wM (.cons wN (.cons sj (.cons wO (.cons (nq uD) (.cons (rfl:true=true) .nil)))))) [] []<|⟨k,by omega,a0,ek.2.2.2.2,true,0,0,false,0,ek.1,ek.2.1,ek.2.2.1,ek.2.2.2.1,Wo [(0,0),(2,0),(5,0),(6,0),(45,0)],H⟩
  rcases ak H with ⟨Ac,H⟩ | ⟨Ac,H⟩
  ·exact Rd hm hN (.qs 10 0 (.k 34 (.qs 6 10 (.k 40 (.is 4 16 (.q 20 [] .z)))))) [(0,none),(6,none),(7,none)] .nil [B false,B true] [] (.cons wM (.cons wN (.cons sj (.cons wO (.cons (dE uD) (.cons (bq Ac) .nil)))))) (.cons wM (.cons wN (.cons sj (.cons wO (.cons (dE uD) (.cons (bq Ac) .nil)))))) [] []<|⟨k,by omega,a0,ek.2.2.2.2,true,0,0,false,0,ek.1,ek.2.1,ek.2.2.1,ek.2.2.2.1,Wo [(0,0),(2,0),(5,0),(6,0),(45,0)],H⟩
  obtain ⟨XY,H⟩:=ax H
  exact Rd hm hN (.qs 10 0 (.k 34 (.qs 6 10 (.k 40 (.qs 4 16 (.q 20 [] .z)))))) [(0,none),(6,none),(7,none)] .nil [B false,B false] [] (.cons wM (.cons wN (.cons sj (.cons wO (.cons (dE uD) (.cons (bn Ac) (.cons sj (.cons XY .nil)))))))) (.cons wM (.cons wN (.cons sj (.cons wO (.cons (dE uD) (.cons (bn Ac) (.cons sj (.cons XY .nil)))))))) [] []<|⟨k,by omega,a0,ek.2.2.2.2,((bt a0 ek.2.2.2.2) == 128),0,0,false,0,ek.1,ek.2.1,ek.2.2.1,ek.2.2.2.1,Wo [(0,0),(2,0),(5,0),(6,0),(45,0)],H⟩
 clear H
 rintro st ⟨n',hn',x0,x6,lC,x1000,ah,ay,au,x2000,aB,aJ,aL,W,H⟩
 rcases n' with _ | k
 ·cases H
 refine W.good ?_
 rw [gL.j0] at H
 rcases ak H with ⟨O6,H⟩ | ⟨O6,H⟩
 ·refine Ct O6<|Sw<|Rg hN ?_
  cases H
  exact Rt dR
 refine Cf (bf O6)<|Sk<|Sw<|Sw ?_
 obtain ⟨O7,H⟩:=ax H
 obtain ⟨O8,H⟩:=ax H
 refine Rh hN [] (.cons O7 (.cons O8 .nil)) ?_
 rcases ak H with ⟨O9,H⟩ | ⟨O9,H⟩
 ·refine Ct (dt O9)<|Sw<|Rg hN ?_
  cases H
  exact Rt dR
 refine Cf (df O9)<|Sk<|Sw<|Rg hN<|Sw<|Sw<|Rh hN [] (.cons O7 (.cons O8 .nil))<|Good.cut (fun st=>∃ n':Nat,n'≤k∧∃ (x0:ByteArray) (x6:Int) (x9:Int) (x1000:Int) (ah:Int) (ay:Bool) (au:Int) (x2000:Int) (aB:Int) (aJ:Bool) (aL:Int),Wk C st ⟨[(0,.w (S x0)),(2,.d (.ptr 0 0)),(5,.d (.ptr 1 0)),(6,.w (I x6)),(9,.w (I x9))],[.cells [.v (I x1000),.v (I ah),.v (B ay),.v (I au)],.cells [.v (I x2000),.v (I aB),.v (B aJ),.v (I aL)]]⟩∧gL.j1 n' x0 x6 x9 x2000 aB aJ=some r) ?_ ?_
 ·rcases ak H with ⟨Pb,H⟩ | ⟨Pb,H⟩
  ·exact Ct (dt Pb)<|Rh hN [] (.cons O7 (.cons O8 .nil))<|⟨k,by omega,x0,x6,wrap64 ((wrap64 (bt x0 x6)) - 128),x1000,ah,ay,au,x2000,aB,aJ,aL,Wo [(0,0),(2,0),(5,0),(6,0),(9,0)],H⟩
  exact Cf (df Pb)<|Sk<|⟨k,by omega,x0,x6,0,x1000,ah,ay,au,x2000,aB,aJ,aL,Wo [(0,0),(2,0),(5,0),(6,0),(9,0)],H⟩
 clear H
 rintro st ⟨n',hn',x0,x6,x9,x1000,ah,ay,au,x2000,aB,aJ,aL,W,H⟩
 rcases n' with _ | k
 ·cases H
 refine W.good ?_
 rw [gL.j1] at H
 refine Sw<|Sw<|Rg hN ?_
 rcases ak H with ⟨Pd,H⟩ | ⟨Pd,H⟩
 ·refine Ct (dt Pd)<|Sw<|Rg hN ?_
  cases H
  exact Rt dR
 refine Cf (df Pd)<|Sk<|Sw ?_
 obtain ⟨ai1,H⟩:=ax H
 obtain ⟨ai2,H⟩:=ax H
 refine Rh hN [] (.cons ai1 (.cons ai2 .nil))<|Sw<|Sw<|Rg hN ?_
 rcases (ak H).symm with ⟨Pe,H⟩ | ⟨Pe,H⟩
 ·refine Cf (df Pe)<|Sk<|Sw ?_
  obtain ⟨Ab,ai3,H⟩:=aF H
  refine Rh hN [.aC [S Ab.1,I Ab.2]] (.cons (gK.az ai3).c .nil)<|Sw<|Sw ?_
  obtain ⟨ai4,H⟩:=ax H
  obtain ⟨ai5,H⟩:=ax H
  refine Rh hN [] (.cons ai4 (.cons ai5 .nil)) ?_
  rcases (ak H).symm with ⟨Pf,H⟩ | ⟨Pf,H⟩
  ·refine Ct (nq Pf)<|Sw<|Rg hN ?_
   cases H
   exact Rt dR
  refine Cf (dE Pf)<|Sk<|Sw<|Rg hN ?_
  cases H
  exact Rt dR
 refine Ct (dt Pe)<|Sw ?_
 obtain ⟨ai6,H⟩:=ax H
 obtain ⟨ai7,H⟩:=ax H
 obtain ⟨XZ,H⟩:=ax H
 obtain ⟨z8,ai8,H⟩:=aF H
 refine Rh hN [.aC [K .u64 z8.1,B z8.2]] (.cons ai6 (.cons ai7 (.cons XZ (.cons (jk.az ai8).c .nil))))<|Rg hN<|Sw ?_
 obtain ⟨Aa,ai9,H⟩:=aF H
 refine Rh hN [.aC [S Aa.1,I Aa.2]] (.cons (gK.az ai9).c .nil)<|Sw<|Sw ?_
 obtain ⟨aja,H⟩:=ax H
 refine Rh hN [] (.cons aja (.cons XZ .nil)) ?_
 rcases (ak H).symm with ⟨Pg,H⟩ | ⟨Pg,H⟩
 ·refine Ct (nq Pg)<|Sw<|Rg hN ?_
  cases H
  exact Rt dR
 refine Cf (dE Pg)<|Sk<|Sw<|Rg hN ?_
 cases H
 exact Rt dR
def gQ.l0:Nat→List Int→Int→Option (Bool)
 | 0,_,_=>none
 | k+1,x0,x3=>if x3 < (x0.length:Int) then (if x3=1 then (if 0 < (x0.length:Int) then (if (rd x0 0) < 2 then (if 0≤x3 then (if (rd x0 x3) < 0 then (some false) else (if (rd x0 x3) > 39 then (some false) else (gQ.l0 k x0 (wrap64 (x3+1))))) else (none)) else (if 0≤x3 then (if (rd x0 x3) < 0 then (some false) else (if (rd x0 x3) > 2147483567 then (some false) else (gQ.l0 k x0 (wrap64 (x3+1))))) else (none))) else (none)) else (if 0≤x3 then (if (rd x0 x3) < 0 then (some false) else (if (rd x0 x3) > 2147483647 then (some false) else (gQ.l0 k x0 (wrap64 (x3+1))))) else (none))) else (some true)
def gQ.j0:Nat→List Int→Bool→Option (Bool)
 | 0,_,_=>none
 | k+1,x0,x24=>if x24=true then (some false) else (gQ.l0 k x0 1)
def gQ.f (k:Nat) (l0:List Int):Option (Bool):=if (l0.length:Int) < 2 then (gQ.j0 k l0 true) else (if (l0.length:Int) > 20 then (gQ.j0 k l0 true) else (if 0 < (l0.length:Int) then (if (rd l0 0) < 0 then (gQ.j0 k l0 true) else (gQ.j0 k l0 (decide ((rd l0 0) > 2)))) else (none)))
theorem gQ.az {k:Nat} {l0:List Int} {r:(Bool)} (H:gQ.f k l0=some r):aW Tryz.prog 57 [.row none 1 (List.map I l0)] (B r):=by
 refine Cg Tryz.func57 rfl fun C hN hL=>?_
 unfold gQ.f at H
 refine Sw<|Rg hN<|Sw<|Sw<|Good.cut (fun st=>∃ n':Nat,n'≤k∧∃ (x0:List Int) (x24:Bool),Wk C st ⟨[(0,.w (.row none 1 (List.map I x0))),(24,.w (B x24))],[]⟩∧gQ.j0 n' x0 x24=some r) ?_ ?_
 ·rcases ak H with ⟨Ad,H⟩ | ⟨Ad,H⟩
  ·exact Rh hN [I (l0.length:Int),B true,B true,B true] (.cons (aR I l0) (.cons (dt Ad) (.cons (rfl:true=true) (.cons (rfl:true=true) .nil))))<|⟨k,by omega,l0,true,Wo [(0,0),(24,0)],H⟩
  rcases ak H with ⟨Ew,H⟩ | ⟨Ew,H⟩
  ·exact Rh hN [I (l0.length:Int),B false,I (l0.length:Int),B true,B true] (.cons (aR I l0) (.cons (df Ad) (.cons (aR I l0) (.cons (dt Ew) (.cons (rfl:true=true) .nil)))))<|⟨k,by omega,l0,true,Wo [(0,0),(24,0)],H⟩
  obtain ⟨Ph,H⟩:=ax H
  rcases ak H with ⟨Pj,H⟩ | ⟨Pj,H⟩
  ·exact Rh hN [I (l0.length:Int),B false,I (l0.length:Int),B false,I (rd l0 0),B true] (.cons (aR I l0) (.cons (df Ad) (.cons (aR I l0) (.cons (df Ew) (.cons (show (0:Int)≤0 by decide) (.cons (aG I (0:Int) (show (0:Int)≤0 by decide) Ph) (.cons (dt Pj) .nil)))))))<|⟨k,by omega,l0,true,Wo [(0,0),(24,0)],H⟩
  exact Rh hN [I (l0.length:Int),B false,I (l0.length:Int),B false,I (rd l0 0),B false,I (rd l0 0)] (.cons (aR I l0) (.cons (df Ad) (.cons (aR I l0) (.cons (df Ew) (.cons (show (0:Int)≤0 by decide) (.cons (aG I (0:Int) (show (0:Int)≤0 by decide) Ph) (.cons (df Pj) (.cons (show (0:Int)≤0 by decide) (.cons (aG I (0:Int) (show (0:Int)≤0 by decide) Ph) .nil)))))))))<|⟨k,by omega,l0,decide ((rd l0 0) > 2),Wo [(0,0),(24,0)],H⟩
 clear H
 rintro st ⟨n',hn',x0,x24,W,H⟩
 rcases n' with _ | k
 ·cases H
 refine W.good ?_
 rw [gQ.j0] at H
 rcases ak H with ⟨Pk,H⟩ | ⟨Pk,H⟩
 ·refine Ct Pk<|Sw<|Rg hN ?_
  cases H
  exact Rt dR
 refine Cf (bf Pk)<|Sk<|Sw<|Sw<|Rg hN<|Bl<|Good.dK (fun k' st=>∃ (x0:List Int) (x3:Int),k'≤k∧Wk C st ⟨[(0,.w (.row none 1 (List.map I x0))),(3,.w (I x3))],[]⟩∧gQ.l0 k' x0 x3=some r) k ⟨x0,1,Nat.le_refl _,Wo [(0,0),(3,0)],H⟩ fun k=>⟨fun st h=>(by obtain ⟨_,_,_,_,H⟩:=h;cases H),?_⟩
 clear H
 rintro st ⟨x0,x3,hk,W,H⟩
 refine W.good ?_
 rw [gQ.l0] at H
 refine Sw<|Sw<|Rh hN [I (x0.length:Int)] (.cons (aR I x0) .nil) ?_
 rcases (ak H).symm with ⟨nZ,H⟩ | ⟨nZ,H⟩
 ·refine Cf (df nZ)<|Ex<|Sw<|Rg hN ?_
  cases H
  exact Rt dR
 refine Ct (dt nZ)<|Sk<|Sw<|Bl<|Sw<|Rg hN<|Sw<|Sw<|Rg hN ?_
 rcases (ak H).symm with ⟨Pm,H⟩ | ⟨Pm,H⟩
 ·refine Cf (bn Pm)<|Sk<|Sw ?_
  obtain ⟨wP,H⟩:=ax H
  rcases ak H with ⟨Pn,H⟩ | ⟨Pn,H⟩
  ·refine Rh hN [I (rd x0 x3),B true] (.cons wP (.cons (aG I (0:Int) wP nZ) (.cons (dt Pn) .nil)))<|Good.cond true (by kernel_rfl)<|Sw<|Rg hN ?_
   cases H
   exact Rt dR
  refine Rh hN [I (rd x0 x3),B false,I (rd x0 x3)] (.cons wP (.cons (aG I (0:Int) wP nZ) (.cons (df Pn) (.cons wP (.cons (aG I (0:Int) wP nZ) .nil))))) ?_
  rcases (ak H).symm with ⟨Po,H⟩ | ⟨Po,H⟩
  ·exact Cf (df Po)<|Sk<|Rg hN<|⟨k,by omega,x0,wrap64 (x3+1),by omega,Wo [(0,0),(3,0)],H⟩
  refine Ct (dt Po)<|Sw<|Rg hN ?_
  cases H
  exact Rt dR
 refine Ct (bq Pm)<|Sw<|Rg hN<|Sw ?_
 obtain ⟨ajb,H⟩:=ax H
 refine Rh hN [I (rd x0 0)] (.cons (show (0:Int)≤0 by decide) (.cons (aG I (0:Int) (show (0:Int)≤0 by decide) ajb) .nil)) ?_
 rcases ak H with ⟨Pp,H⟩ | ⟨Pp,H⟩
 ·refine Ct (dt Pp)<|Rg hN<|Sw ?_
  obtain ⟨wQ,H⟩:=ax H
  rcases ak H with ⟨Pq,H⟩ | ⟨Pq,H⟩
  ·refine Rh hN [I (rd x0 x3),B true] (.cons wQ (.cons (aG I (0:Int) wQ nZ) (.cons (dt Pq) .nil)))<|Good.cond true (by kernel_rfl)<|Sw<|Rg hN ?_
   cases H
   exact Rt dR
  refine Rh hN [I (rd x0 x3),B false,I (rd x0 x3)] (.cons wQ (.cons (aG I (0:Int) wQ nZ) (.cons (df Pq) (.cons wQ (.cons (aG I (0:Int) wQ nZ) .nil))))) ?_
  rcases (ak H).symm with ⟨Ps,H⟩ | ⟨Ps,H⟩
  ·exact Cf (df Ps)<|Sk<|Rg hN<|⟨k,by omega,x0,wrap64 (x3+1),by omega,Wo [(0,0),(3,0)],H⟩
  refine Ct (dt Ps)<|Sw<|Rg hN ?_
  cases H
  exact Rt dR
 refine Cf (df Pp)<|Sk<|Sw ?_
 obtain ⟨wR,H⟩:=ax H
 rcases ak H with ⟨Pv,H⟩ | ⟨Pv,H⟩
 ·refine Rh hN [I (rd x0 x3),B true] (.cons wR (.cons (aG I (0:Int) wR nZ) (.cons (dt Pv) .nil)))<|Good.cond true (by kernel_rfl)<|Sw<|Rg hN ?_
  cases H
  exact Rt dR
 refine Rh hN [I (rd x0 x3),B false,I (rd x0 x3)] (.cons wR (.cons (aG I (0:Int) wR nZ) (.cons (df Pv) (.cons wR (.cons (aG I (0:Int) wR nZ) .nil))))) ?_
 rcases (ak H).symm with ⟨Pw,H⟩ | ⟨Pw,H⟩
 ·exact Cf (df Pw)<|Sk<|Rg hN<|⟨k,by omega,x0,wrap64 (x3+1),by omega,Wo [(0,0),(3,0)],H⟩
 refine Ct (dt Pw)<|Sw<|Rg hN ?_
 cases H
 exact Rt dR
def lF.l0:Nat→Int→ByteArray→Option (ByteArray)
 | 0,_,_=>none
 | k+1,x0,x3=>if x0 > 0 then (if (strOfNums ([(wrap64 (128+(Int.tmod x0 128))) % 256]:List Int)).size+x3.size≤9223372036854775807 then (lF.l0 k (wrap64 (Int.tdiv x0 128)) ((strOfNums ([(wrap64 (128+(Int.tmod x0 128))) % 256]:List Int))++x3)) else (none)) else (some x3)
def lF.f (k:Nat) (a0:Int):Option (ByteArray):=lF.l0 k (wrap64 (Int.tdiv a0 128)) (strOfNums ([(Int.tmod a0 128) % 256]:List Int))
theorem lF.az {k:Nat} {a0:Int} {r:(ByteArray)} (H:lF.f k a0=some r):aW Tryz.prog 58 [I a0] (S r):=by
 refine Cg Tryz.func58 rfl fun C hN hL=>?_
 unfold lF.f at H
 refine Sw<|Rg hN<|Sw<|Rh hN [S (strOfNums ([(Int.tmod a0 128) % 256]:List Int))] (.cons (show (128:Int)≠0 by decide) (.cons (mO ([(Int.tmod a0 128) % 256]:List Int)) .nil))<|Sw<|Rh hN [] (.cons (show (128:Int)≠0 by decide) .nil)<|Sw<|Bl<|Good.dK (fun k' st=>∃ (x0:Int) (x3:ByteArray),k'≤k∧Wk C st ⟨[(0,.w (I x0)),(3,.w (S x3))],[]⟩∧lF.l0 k' x0 x3=some r) k ⟨wrap64 (Int.tdiv a0 128),strOfNums ([(Int.tmod a0 128) % 256]:List Int),Nat.le_refl _,Wo [(0,0),(3,0)],H⟩ fun k=>⟨fun st h=>(by obtain ⟨_,_,_,_,H⟩:=h;cases H),?_⟩
 clear H
 rintro st ⟨x0,x3,hk,W,H⟩
 refine W.good ?_
 rw [lF.l0] at H
 refine Sw<|Sw<|Rg hN ?_
 rcases (ak H).symm with ⟨Px,H⟩ | ⟨Px,H⟩
 ·refine Cf (df Px)<|Ex<|Sw<|Rg hN ?_
  cases H
  exact Rt dR
 refine Ct (dt Px)<|Sk<|Bl<|Sw ?_
 obtain ⟨ajc,H⟩:=ax H
 exact Rh hN [S (strOfNums ([(wrap64 (128+(Int.tmod x0 128))) % 256]:List Int))] (.cons (show (128:Int)≠0 by decide) (.cons (mO ([(wrap64 (128+(Int.tmod x0 128))) % 256]:List Int)) (.cons ajc .nil)))<|Rh hN [] (.cons (show (128:Int)≠0 by decide) .nil)<|⟨k,by omega,wrap64 (Int.tdiv x0 128),(strOfNums ([(wrap64 (128+(Int.tmod x0 128))) % 256]:List Int))++x3,by omega,Wo [(0,0),(3,0)],H⟩
def jU.l0:Nat→List Int→ByteArray→Int→Option (ByteArray × Bool)
 | 0,_,_,_=>none
 | k+1,x0,x4,x5=>if x5 < (x0.length:Int) then (if 0≤x5 then ((lF.f k (rd x0 x5)).bind fun Ae=>(if x4.size+Ae.size≤9223372036854775807 then (jU.l0 k x0 (x4++Ae) (wrap64 (x5+1))) else (none))) else (none)) else (some (x4,true))
def jU.f (k:Nat) (l0:List Int):Option (ByteArray × Bool):=(gQ.f k l0).bind fun Py=>(if Py=true then (if 0 < (l0.length:Int) then (if 1 < (l0.length:Int) then ((lF.f k (wrap64 ((wrap64 (40*(rd l0 0)))+(rd l0 1)))).bind fun Ey=>(jU.l0 k l0 Ey 2)) else (none)) else (none)) else (some ((⟨#[]⟩:ByteArray),false)))
theorem jU.az {k:Nat} {l0:List Int} {r:(ByteArray × Bool)} (H:jU.f k l0=some r):aW Tryz.prog 35 [.row none 1 (List.map I l0)] (.aC [S r.1,B r.2]):=by
 refine Cg Tryz.func35 rfl fun C hN hL=>?_
 unfold jU.f at H
 refine Sw<|Rg hN<|Sw<|Sw ?_
 obtain ⟨Py,ajd,H⟩:=aF H
 refine Rh hN [B Py] (.cons (gQ.az ajd).c .nil) ?_
 rcases (ak H).symm with ⟨Pz,H⟩ | ⟨Pz,H⟩
 ·refine Ct (ed (bf Pz))<|Sw<|Rg hN ?_
  cases H
  exact Rt dR
 refine Cf (eH Pz)<|Sk<|Sw ?_
 obtain ⟨X0,H⟩:=ax H
 obtain ⟨X3,H⟩:=ax H
 obtain ⟨Ey,aje,H⟩:=aF H
 refine Rd hm hN (.qs 8 0 (.e 8 (.q 9 [] .z))) [(0,none)] .nil [I (rd l0 0),I (rd l0 1),S Ey] [I (rd l0 0),I (rd l0 1)] (.cons (show (0:Int)≤0 by decide) (.cons (aG I (0:Int) (show (0:Int)≤0 by decide) X0) (.cons (show (0:Int)≤1 by decide) (.cons (aG I (0:Int) (show (0:Int)≤1 by decide) X3) (.cons (lF.az aje).c .nil))))) (.cons (show (0:Int)≤0 by decide) (.cons (aG I (0:Int) (show (0:Int)≤0 by decide) X0) (.cons (show (0:Int)≤1 by decide) (.cons (aG I (0:Int) (show (0:Int)≤1 by decide) X3) .nil)))) [] []<|Sw<|Sw<|Rg hN<|Bl<|Good.dK (fun k' st=>∃ (x0:List Int) (x4:ByteArray) (x5:Int),k'≤k∧Wk C st ⟨[(0,.w (.row none 1 (List.map I x0))),(4,.w (S x4)),(5,.w (I x5))],[]⟩∧jU.l0 k' x0 x4 x5=some r) k ⟨l0,Ey,2,Nat.le_refl _,Wo [(0,0),(4,0),(5,0)],H⟩ fun k=>⟨fun st h=>(by obtain ⟨_,_,_,_,_,H⟩:=h;cases H),?_⟩
 clear H
 rintro st ⟨x0,x4,x5,hk,W,H⟩
 refine W.good ?_
 rw [jU.l0] at H
 refine Sw<|Sw<|Rh hN [I (x0.length:Int)] (.cons (aR I x0) .nil) ?_
 rcases (ak H).symm with ⟨Ez,H⟩ | ⟨Ez,H⟩
 ·refine Cf (df Ez)<|Ex<|Sw<|Rg hN ?_
  cases H
  exact Rt dR
 refine Ct (dt Ez)<|Sk<|Sw<|Bl ?_
 obtain ⟨X4,H⟩:=ax H
 obtain ⟨Ae,ajf,H⟩:=aF H
 obtain ⟨ajg,H⟩:=ax H
 exact Rh hN [I (rd x0 x5),S Ae] (.cons X4 (.cons (aG I (0:Int) X4 Ez) (.cons (lF.az ajf).c (.cons ajg .nil))))<|Rg hN<|⟨k,by omega,x0,x4++Ae,wrap64 (x5+1),by omega,Wo [(0,0),(4,0),(5,0)],H⟩
mutual
def gu.l0:Nat→ByteArray→List Int→Int→Int→Option (List Int × Bool)
 | 0,_,_,_,_=>none
 | k+1,x0,x4,x5,x6=>if x6 < (x0.size:Int) then (gu.j1 k x0 x4 x5 x6 (decide ((x4.length:Int) < 21))) else (gu.j1 k x0 x4 x5 x6 false)
def gu.j1:Nat→ByteArray→List Int→Int→Int→Bool→Option (List Int × Bool)
 | 0,_,_,_,_,_=>none
 | k+1,x0,x4,x5,x6,bH=>if bH=true then (if 0≤x6 then (if x6 < (x0.size:Int) then (if (wrap64 ((wrap64 (128*x5))+(Int.tmod (wrap64 (bt x0 x6)) 128))) > 4294967296 then (some (([]:List Int),false)) else (if (bt x0 x6) > 127 then (gu.l0 k x0 x4 (wrap64 ((wrap64 (128*x5))+(Int.tmod (wrap64 (bt x0 x6)) 128))) (wrap64 (x6+1))) else (if (x4.length:Int)=0 then (if (wrap64 (Int.tdiv (wrap64 ((wrap64 (128*x5))+(Int.tmod (wrap64 (bt x0 x6)) 128))) 40)) > 2 then (if x4.length < 17592186044416 then ((some (x4++[2]:List Int)).bind fun X5=>(if X5.length < 17592186044416 then (gu.l0 k x0 (X5++[wrap64 ((wrap64 ((wrap64 (128*x5))+(Int.tmod (wrap64 (bt x0 x6)) 128))) - 80)]) 0 (wrap64 (x6+1))) else (none))) else (none)) else (if x4.length < 17592186044416 then ((some (x4++[wrap64 (Int.tdiv (wrap64 ((wrap64 (128*x5))+(Int.tmod (wrap64 (bt x0 x6)) 128))) 40)]:List Int)).bind fun X6=>(if X6.length < 17592186044416 then (gu.l0 k x0 (X6++[wrap64 ((wrap64 ((wrap64 (128*x5))+(Int.tmod (wrap64 (bt x0 x6)) 128))) - (wrap64 (40*(wrap64 (Int.tdiv (wrap64 ((wrap64 (128*x5))+(Int.tmod (wrap64 (bt x0 x6)) 128))) 40)))))]) 0 (wrap64 (x6+1))) else (none))) else (none))) else (if x4.length < 17592186044416 then (gu.l0 k x0 (x4++[wrap64 ((wrap64 (128*x5))+(Int.tmod (wrap64 (bt x0 x6)) 128))]) 0 (wrap64 (x6+1))) else (none))))) else (none)) else (none)) else ((jU.f k x4).bind fun Af=>(if Af.2=true then (if Af.1.toList=x0.toList then (some (x4,true)) else (some (([]:List Int),false))) else (some (([]:List Int),false))))
end
def gu.f (k:Nat) (a0:ByteArray):Option (List Int × Bool):=gu.l0 k a0 ([]:List Int) 0 0
theorem gu.az {k:Nat} {a0:ByteArray} {r:(List Int × Bool)} (H:gu.f k a0=some r):aW Tryz.prog 24 [S a0] (.aC [.row none 1 (List.map I r.1),B r.2]):=by
 refine Cg Tryz.func24 rfl fun C hN hL=>?_
 unfold gu.f at H
 refine Sw<|Rg hN<|Sw<|Rg hN<|Sw<|Rg hN<|Sw<|Sw<|Rg hN<|Bl<|Good.dK (fun k' st=>∃ (x0:ByteArray) (x4:List Int) (x5:Int) (x6:Int),k'≤k∧Wk C st ⟨[(0,.w (S x0)),(4,.w (.row (some 3) 1 (List.map I x4))),(5,.w (I x5)),(6,.w (I x6))],[]⟩∧gu.l0 k' x0 x4 x5 x6=some r) k ⟨a0,([]:List Int),0,0,Nat.le_refl _,Wo [(0,0),(4,1),(5,0),(6,0)],H⟩ fun k=>⟨fun st h=>(by obtain ⟨_,_,_,_,_,_,H⟩:=h;cases H),?_⟩
 clear H
 rintro st ⟨x0,x4,x5,x6,hk,W,H⟩
 refine W.good ?_
 rw [gu.l0] at H
 refine Sw<|Sw<|Good.cut (fun st=>∃ n':Nat,n'≤k∧∃ (x0:ByteArray) (x4:List Int) (x5:Int) (x6:Int) (bH:Bool),Wk C st ⟨[(0,.w (S x0)),(4,.w (.row (some 3) 1 (List.map I x4))),(5,.w (I x5)),(6,.w (I x6)),(18,.w (B bH))],[]⟩∧gu.j1 n' x0 x4 x5 x6 bH=some r) ?_ ?_
 ·rcases ak H with ⟨PD,H⟩ | ⟨PD,H⟩
  ·exact Rh hN [B true,I (x4.length:Int)] (.cons (dt PD) (.cons (aR I x4) .nil))<|⟨k,by omega,x0,x4,x5,x6,decide ((x4.length:Int) < 21),Wo [(0,0),(4,0),(5,0),(6,0),(18,0)],H⟩
  exact Rh hN [B false] (.cons (df PD) .nil)<|⟨k,by omega,x0,x4,x5,x6,false,Wo [(0,0),(4,0),(5,0),(6,0),(18,0)],H⟩
 clear H
 rintro st ⟨n',hn',x0,x4,x5,x6,bH,W,H⟩
 rcases n' with _ | k
 ·cases H
 refine W.good ?_
 rw [gu.j1] at H
 rcases (ak H).symm with ⟨PE,H⟩ | ⟨PE,H⟩
 ·refine Cf (bf PE)<|Ex<|Sw ?_
  obtain ⟨Af,ajh,H⟩:=aF H
  refine Rh hN [.row none 1 (List.map I x4),.aC [S Af.1,B Af.2]] (.cons (aP (some 3) 1 I I x4 (fun _=>rfl)) (.cons (jU.az ajh).c .nil))<|Sw<|Sw ?_
  rcases (ak H).symm with ⟨PG,H⟩ | ⟨PG,H⟩
  ·refine Rh hN [B true] (.cons (ed (bf PG)) .nil)<|Good.cond true (by kernel_rfl)<|Sw<|Rg hN ?_
   cases H
   exact Good.ret (eY (u:=.aC [.nil 3 1,B false]) (.aC (.cons (.dP 3 1 _) (.cons (.refl _) .nil))) (by kernel_rfl))
  refine Rh hN [B false] (.cons (eH PG) .nil) ?_
  rcases (ak H).symm with ⟨PH,H⟩ | ⟨PH,H⟩
  ·refine Ct (nq PH)<|Sw<|Rg hN ?_
   cases H
   exact Good.ret (eY (u:=.aC [.nil 3 1,B false]) (.aC (.cons (.dP 3 1 _) (.cons (.refl _) .nil))) (by kernel_rfl))
  refine Cf (dE PH)<|Sk<|Sw<|Rg hN ?_
  cases H
  exact Rt dR
 refine Ct PE<|Sk<|Sw<|Bl<|Sw ?_
 obtain ⟨X7,H⟩:=ax H
 obtain ⟨X8,H⟩:=ax H
 refine Rh hN [] (.cons X7 (.cons X8 (.cons (show (128:Int)≠0 by decide) .nil)))<|Sw<|Sw<|Rg hN ?_
 rcases ak H with ⟨PI,H⟩ | ⟨PI,H⟩
 ·refine Ct (dt PI)<|Sw<|Rg hN ?_
  cases H
  exact Good.ret (eY (u:=.aC [.nil 3 1,B false]) (.aC (.cons (.dP 3 1 _) (.cons (.refl _) .nil))) (by kernel_rfl))
 refine Cf (df PI)<|Sk<|Sw<|Sw<|Rh hN [] (.cons X7 (.cons X8 .nil)) ?_
 rcases ak H with ⟨PK,H⟩ | ⟨PK,H⟩
 ·exact Ct (dt PK)<|Ex<|Rg hN<|⟨k,by omega,x0,x4,wrap64 ((wrap64 (128*x5))+(Int.tmod (wrap64 (bt x0 x6)) 128)),wrap64 (x6+1),by omega,Wo [(0,0),(4,0),(5,0),(6,0)],H⟩
 refine Cf (df PK)<|Sk<|Sw<|Sw<|Rh hN [I (x4.length:Int)] (.cons (aR I x4) .nil) ?_
 rcases (ak H).symm with ⟨PL,H⟩ | ⟨PL,H⟩
 ·refine Cf (bn PL)<|Sk<|Sw ?_
  obtain ⟨aji,H⟩:=ax H
  exact Rh hN [.kb true,.row (some 3) 1 (List.map I (x4++[wrap64 ((wrap64 (128*x5))+(Int.tmod (wrap64 (bt x0 x6)) 128))]))] (.cons (dL I x4 [wrap64 ((wrap64 (128*x5))+(Int.tmod (wrap64 (bt x0 x6)) 128))] (.refl _)) (.cons (dZ I aji) .nil))<|Rg hN<|Rg hN<|⟨k,by omega,x0,(x4++[wrap64 ((wrap64 (128*x5))+(Int.tmod (wrap64 (bt x0 x6)) 128))]),0,wrap64 (x6+1),by omega,Wo [(0,0),(4,0),(5,0),(6,0)],H⟩
 refine Ct (bq PL)<|Sw<|Rh hN [] (.cons (show (40:Int)≠0 by decide) .nil)<|Sw<|Sw<|Rg hN ?_
 rcases ak H with ⟨PM,H⟩ | ⟨PM,H⟩
 ·refine Ct (dt PM)<|Rg hN<|Sw ?_
  obtain ⟨ajj,H⟩:=ax H
  replace H:=oH H
  refine Rh hN [.kb true,.row (some 3) 1 (List.map I (x4++[2]))] (.cons (dL I x4 [2] (.refl _)) (.cons (dZ I ajj) .nil))<|Rg hN<|Sw ?_
  obtain ⟨ajk,H⟩:=ax H
  exact Rh hN [.kb true,.row (some 3) 1 (List.map I ((x4++[2])++[wrap64 ((wrap64 ((wrap64 (128*x5))+(Int.tmod (wrap64 (bt x0 x6)) 128))) - 80)]))] (.cons (dL I (x4++[2]) [wrap64 ((wrap64 ((wrap64 (128*x5))+(Int.tmod (wrap64 (bt x0 x6)) 128))) - 80)] (.refl _)) (.cons (dZ I ajk) .nil))<|Rg hN<|Rg hN<|⟨k,by omega,x0,((x4++[2])++[wrap64 ((wrap64 ((wrap64 (128*x5))+(Int.tmod (wrap64 (bt x0 x6)) 128))) - 80)]),0,wrap64 (x6+1),by omega,Wo [(0,0),(4,0),(5,0),(6,0)],H⟩
 refine Cf (df PM)<|Sk<|Sw ?_
 obtain ⟨ajl,H⟩:=ax H
 replace H:=oH H
 refine Rh hN [.kb true,.row (some 3) 1 (List.map I (x4++[wrap64 (Int.tdiv (wrap64 ((wrap64 (128*x5))+(Int.tmod (wrap64 (bt x0 x6)) 128))) 40)]))] (.cons (dL I x4 [wrap64 (Int.tdiv (wrap64 ((wrap64 (128*x5))+(Int.tmod (wrap64 (bt x0 x6)) 128))) 40)] (.refl _)) (.cons (dZ I ajl) .nil))<|Rg hN<|Sw ?_
 obtain ⟨ajm,H⟩:=ax H
 exact Rh hN [.kb true,.row (some 3) 1 (List.map I ((x4++[wrap64 (Int.tdiv (wrap64 ((wrap64 (128*x5))+(Int.tmod (wrap64 (bt x0 x6)) 128))) 40)])++[wrap64 ((wrap64 ((wrap64 (128*x5))+(Int.tmod (wrap64 (bt x0 x6)) 128))) - (wrap64 (40*(wrap64 (Int.tdiv (wrap64 ((wrap64 (128*x5))+(Int.tmod (wrap64 (bt x0 x6)) 128))) 40)))))]))] (.cons (dL I (x4++[wrap64 (Int.tdiv (wrap64 ((wrap64 (128*x5))+(Int.tmod (wrap64 (bt x0 x6)) 128))) 40)]) [wrap64 ((wrap64 ((wrap64 (128*x5))+(Int.tmod (wrap64 (bt x0 x6)) 128))) - (wrap64 (40*(wrap64 (Int.tdiv (wrap64 ((wrap64 (128*x5))+(Int.tmod (wrap64 (bt x0 x6)) 128))) 40)))))] (.refl _)) (.cons (dZ I ajm) .nil))<|Rg hN<|Rg hN<|⟨k,by omega,x0,((x4++[wrap64 (Int.tdiv (wrap64 ((wrap64 (128*x5))+(Int.tmod (wrap64 (bt x0 x6)) 128))) 40)])++[wrap64 ((wrap64 ((wrap64 (128*x5))+(Int.tmod (wrap64 (bt x0 x6)) 128))) - (wrap64 (40*(wrap64 (Int.tdiv (wrap64 ((wrap64 (128*x5))+(Int.tmod (wrap64 (bt x0 x6)) 128))) 40)))))]),0,wrap64 (x6+1),by omega,Wo [(0,0),(4,0),(5,0),(6,0)],H⟩
def sP.f (a0:ByteArray):Option (Bool × Bool):=if a0.toList=([255]:List UInt8) then (some (true,true)) else (some (false,(a0.toList == ([0]:List UInt8))))
theorem sP.az {a0:ByteArray} {r:(Bool × Bool)} (H:sP.f a0=some r):aW Tryz.prog 89 [S a0] (.aC [B r.1,B r.2]):=by
 refine Cg Tryz.func89 rfl fun C hN hL=>?_
 unfold sP.f at H
 refine Sw<|Rg hN<|Sw<|Sw<|Ri hN [] (.cons (fA (rfl:a0.toList=a0.toList) (eU ([255]:List UInt8))) .nil) [(5,.bool (a0.toList == ([255]:List UInt8)))] ?_
 rcases ak H with ⟨PN,H⟩ | ⟨PN,H⟩
 ·refine Ct (bq PN)<|Sw<|Rg hN ?_
  cases H
  exact Rt dR
 refine Cf (bn PN)<|Sk<|Sw<|Ri hN [] (.cons (fA (rfl:a0.toList=a0.toList) (eU ([0]:List UInt8))) .nil) [(7,.bool (a0.toList == ([0]:List UInt8)))] ?_
 cases H
 exact Rt dR
def sS.f (a0:ByteArray):Option (Bool):=if a0.toList=([]:List UInt8) then (some false) else (if (a0.size:Int)=1 then (some true) else (if 0 < (a0.size:Int) then (if (bt a0 0)=0 then (if 1 < (a0.size:Int) then (if (bt a0 1) < 128 then (some false) else (if (bt a0 0)=255 then (some (decide ((bt a0 1) < 128))) else (some true))) else (none)) else (if (bt a0 0)=255 then (if 1 < (a0.size:Int) then (some (decide ((bt a0 1) < 128))) else (none)) else (some true))) else (none)))
theorem sS.az {a0:ByteArray} {r:(Bool)} (H:sS.f a0=some r):aW Tryz.prog 90 [S a0] (B r):=by
 refine Cg Tryz.func90 rfl fun C hN hL=>?_
 unfold sS.f at H
 refine Sw<|Rg hN<|Sw<|Sw<|Ri hN [] (.cons (fA (rfl:a0.toList=a0.toList) (eU ([]:List UInt8))) .nil) [(4,.bool (a0.toList == ([]:List UInt8)))] ?_
 rcases ak H with ⟨PO,H⟩ | ⟨PO,H⟩
 ·refine Ct (bq PO)<|Sw<|Rg hN ?_
  cases H
  exact Rt dR
 refine Cf (bn PO)<|Sk<|Sw<|Sw<|Rg hN ?_
 rcases ak H with ⟨PQ,H⟩ | ⟨PQ,H⟩
 ·refine Ct (bq PQ)<|Sw<|Rg hN ?_
  cases H
  exact Rt dR
 refine Cf (bn PQ)<|Sk<|Sw<|Sw ?_
 obtain ⟨wS,H⟩:=ax H
 rcases (ak H).symm with ⟨PS,H⟩ | ⟨PS,H⟩
 ·refine Rh hN [B false] (.cons (show (0:Int)≤0 by decide) (.cons wS (.cons (bn PS) .nil)))<|Good.cond false (by kernel_rfl)<|Sk<|Sw ?_
  rcases (ak H).symm with ⟨PT,H⟩ | ⟨PT,H⟩
  ·refine Rh hN [B true] (.cons (show (0:Int)≤0 by decide) (.cons wS (.cons (nq PT) .nil))) ?_
   cases H
   exact Rt dR
  obtain ⟨ajn,H⟩:=ax H
  refine Rh hN [B false] (.cons (show (0:Int)≤0 by decide) (.cons wS (.cons (dE PT) (.cons (show (0:Int)≤1 by decide) (.cons ajn .nil))))) ?_
  cases H
  exact Rt dR
 obtain ⟨X9,H⟩:=ax H
 refine Rh hN [B true] (.cons (show (0:Int)≤0 by decide) (.cons wS (.cons (bq PS) (.cons (show (0:Int)≤1 by decide) (.cons X9 .nil))))) ?_
 rcases ak H with ⟨PU,H⟩ | ⟨PU,H⟩
 ·refine Ct (dt PU)<|Sw<|Rg hN ?_
  cases H
  exact Rt dR
 refine Cf (df PU)<|Sk<|Sw ?_
 rcases ak H with ⟨PV,H⟩ | ⟨PV,H⟩
 ·refine Rh hN [B false] (.cons (show (0:Int)≤0 by decide) (.cons wS (.cons (dE PV) (.cons (show (0:Int)≤1 by decide) (.cons X9 .nil))))) ?_
  cases H
  exact Rt dR
 refine Rh hN [B true] (.cons (show (0:Int)≤0 by decide) (.cons wS (.cons (nq PV) .nil))) ?_
 cases H
 exact Rt dR
def iC.l0:Nat→ByteArray→Int→Int→Int→Option (ByteArray × Bool)
 | 0,_,_,_,_=>none
 | k+1,x0,x1,x6,x7=>if x7 < x1 then (iC.l0 k x0 x1 (wrap64 (2*x6)) (wrap64 (x7+1))) else (if x0.toList=([]:List UInt8) then ((fM.f k (IntKind.u64.wrap (x1)) 1).bind fun EA=>(if EA.size+x0.size≤9223372036854775807 then (some (EA++x0,true)) else (none))) else (if 0≤(wrap64 ((x0.size:Int) - 1)) then (if (wrap64 ((x0.size:Int) - 1)) < (x0.size:Int) then (if x6=0 then (none) else (if (Int.tmod (wrap64 (bt x0 (wrap64 ((x0.size:Int) - 1)))) x6)=0 then ((fM.f k (IntKind.u64.wrap (x1)) 1).bind fun EB=>(if EB.size+x0.size≤9223372036854775807 then (some (EB++x0,true)) else (none))) else (some ((⟨#[]⟩:ByteArray),false)))) else (none)) else (none)))
def iC.j0:Nat→ByteArray→Int→Bool→Option (ByteArray × Bool)
 | 0,_,_,_=>none
 | k+1,x0,x1,bI=>if bI=true then (some ((⟨#[]⟩:ByteArray),false)) else (iC.l0 k x0 x1 1 0)
def iC.f (k:Nat) (a0:ByteArray) (a1:Int):Option (ByteArray × Bool):=if a1 < 0 then (iC.j0 k a0 a1 true) else (if a1 > 7 then (iC.j0 k a0 a1 true) else (if a0.toList=([]:List UInt8) then (iC.j0 k a0 a1 (a1 != 0)) else (iC.j0 k a0 a1 false)))
theorem iC.az {k:Nat} {a0:ByteArray} {a1:Int} {r:(ByteArray × Bool)} (H:iC.f k a0 a1=some r):aW Tryz.prog 99 [S a0,I a1] (.aC [S r.1,B r.2]):=by
 refine Cg Tryz.func99 rfl fun C hN hL=>?_
 unfold iC.f at H
 refine Sw<|Rg hN<|Sw<|Sw<|Good.cut (fun st=>∃ n':Nat,n'≤k∧∃ (x0:ByteArray) (x1:Int) (bI:Bool),Wk C st ⟨[(0,.w (S x0)),(1,.w (I x1)),(21,.w (B bI))],[]⟩∧iC.j0 n' x0 x1 bI=some r) ?_ ?_
 ·rcases ak H with ⟨Ag,H⟩ | ⟨Ag,H⟩
  ·exact Rh hN [B true,B true] (.cons (dt Ag) (.cons (rfl:true=true) .nil))<|⟨k,by omega,a0,a1,true,Wo [(0,0),(1,0),(21,0)],H⟩
  rcases ak H with ⟨EC,H⟩ | ⟨EC,H⟩
  ·exact Rh hN [B false,B true] (.cons (df Ag) (.cons (dt EC) .nil))<|⟨k,by omega,a0,a1,true,Wo [(0,0),(1,0),(21,0)],H⟩
  rcases ak H with ⟨PW,H⟩ | ⟨PW,H⟩
  ·exact Ri hN [B false,B false,B true] (.cons (df Ag) (.cons (df EC) (.cons (fA (rfl:a0.toList=a0.toList) (eU ([]:List UInt8))) (.cons (bq PW) .nil)))) [(16,.bool (a0.toList == ([]:List UInt8)))]<|⟨k,by omega,a0,a1,(a1 != 0),Wo [(0,0),(1,0),(21,0)],H⟩
  exact Ri hN [B false,B false,B false] (.cons (df Ag) (.cons (df EC) (.cons (fA (rfl:a0.toList=a0.toList) (eU ([]:List UInt8))) (.cons (bn PW) .nil)))) [(16,.bool (a0.toList == ([]:List UInt8)))]<|⟨k,by omega,a0,a1,false,Wo [(0,0),(1,0),(21,0)],H⟩
 clear H
 rintro st ⟨n',hn',x0,x1,bI,W,H⟩
 rcases n' with _ | k
 ·cases H
 refine W.good ?_
 rw [iC.j0] at H
 rcases ak H with ⟨PX,H⟩ | ⟨PX,H⟩
 ·refine Ct PX<|Sw<|Rg hN ?_
  cases H
  exact Rt dR
 refine Cf (bf PX)<|Sk<|Sw<|Rg hN<|Sw<|Sw<|Rg hN<|Bl<|Good.dK (fun k' st=>∃ (x0:ByteArray) (x1:Int) (x6:Int) (x7:Int),k'≤k∧Wk C st ⟨[(0,.w (S x0)),(1,.w (I x1)),(6,.w (I x6)),(7,.w (I x7))],[]⟩∧iC.l0 k' x0 x1 x6 x7=some r) k ⟨x0,x1,1,0,Nat.le_refl _,Wo [(0,0),(1,0),(6,0),(7,0)],H⟩ fun k=>⟨fun st h=>(by obtain ⟨_,_,_,_,_,_,H⟩:=h;cases H),?_⟩
 clear H
 rintro st ⟨x0,x1,x6,x7,hk,W,H⟩
 refine W.good ?_
 rw [iC.l0] at H
 refine Sw<|Sw<|Rg hN ?_
 rcases ak H with ⟨PY,H⟩ | ⟨PY,H⟩
 ·exact Ct (dt PY)<|Sk<|Sw<|Bl<|Rg hN<|Rg hN<|⟨k,by omega,x0,x1,wrap64 (2*x6),wrap64 (x7+1),by omega,Wo [(0,0),(1,0),(6,0),(7,0)],H⟩
 refine Cf (df PY)<|Ex<|Sw<|Sw ?_
 rcases ak H with ⟨PZ,H⟩ | ⟨PZ,H⟩
 ·refine Ri hN [B false] (.cons (VJ (rfl:x0.toList=x0.toList) (eU ([]:List UInt8))) (.cons (dE PZ) .nil)) [(30,.bool (x0.toList != ([]:List UInt8)))]<|Good.cond false (by kernel_rfl)<|Sk<|Sw ?_
  obtain ⟨EA,ajo,H⟩:=aF H
  obtain ⟨ajp,H⟩:=ax H
  refine Rh hN [S EA] (.cons (fM.az ajo).c (.cons ajp .nil)) ?_
  cases H
  exact Rt dR
 obtain ⟨ajq,H⟩:=ax H
 obtain ⟨ajr,H⟩:=ax H
 obtain ⟨ajs,H⟩:=ifN H
 refine Ri hN [B true] (.cons (VJ (rfl:x0.toList=x0.toList) (eU ([]:List UInt8))) (.cons (nq PZ) (.cons ajq (.cons ajr (.cons ajs .nil))))) [(30,.bool (x0.toList != ([]:List UInt8)))] ?_
 rcases (ak H).symm with ⟨P5,H⟩ | ⟨P5,H⟩
 ·refine Ct (nq P5)<|Sw<|Rg hN ?_
  cases H
  exact Rt dR
 refine Cf (dE P5)<|Sk<|Sw ?_
 obtain ⟨EB,ajt,H⟩:=aF H
 obtain ⟨aju,H⟩:=ax H
 refine Rh hN [S EB] (.cons (fM.az ajt).c (.cons aju .nil)) ?_
 cases H
 exact Rt dR
def sQ.f (k:Nat) (a0:ByteArray):Option (ByteArray × Int × Bool):=if a0.toList=([]:List UInt8) then (some ((⟨#[]⟩:ByteArray),0,false)) else (if 1≤(a0.size:Int) then (if 0 < (a0.size:Int) then ((iC.f k (a0.extract 1 a0.size) (wrap64 (bt a0 0))).bind fun ED=>(if ED.2=true then (some (a0.extract 1 a0.size,wrap64 (bt a0 0),true)) else (some ((⟨#[]⟩:ByteArray),0,false)))) else (none)) else (none))
theorem sQ.az {k:Nat} {a0:ByteArray} {r:(ByteArray × Int × Bool)} (H:sQ.f k a0=some r):aW Tryz.prog 91 [S a0] (.aC [S r.1,I r.2.1,B r.2.2]):=by
 refine Cg Tryz.func91 rfl fun C hN hL=>?_
 unfold sQ.f at H
 refine Sw<|Rg hN<|Sw<|Sw<|Ri hN [] (.cons (fA (rfl:a0.toList=a0.toList) (eU ([]:List UInt8))) .nil) [(8,.bool (a0.toList == ([]:List UInt8)))] ?_
 rcases ak H with ⟨P6,H⟩ | ⟨P6,H⟩
 ·refine Ct (bq P6)<|Sw<|Rg hN ?_
  cases H
  exact Rt dR
 refine Cf (bn P6)<|Sk<|Sw ?_
 obtain ⟨EE,H⟩:=ax H
 obtain ⟨EF,H⟩:=ax H
 obtain ⟨ED,ajv,H⟩:=aF H
 refine Rd hm hN (.qs 5 0 (.e 5 (.qs 4 6 (.q 10 [] .z)))) [(0,none)] .nil [.aC [S ED.1,B ED.2]] [] (.cons (show (0:Int)≤1 by decide) (.cons EE (.cons (show (0:Int)≤0 by decide) (.cons EF (.cons (iC.az ajv).c .nil))))) (.cons (show (0:Int)≤1 by decide) (.cons EE (.cons (show (0:Int)≤0 by decide) (.cons EF .nil)))) [] []<|Sw<|Sw<|Rg hN ?_
 rcases (ak H).symm with ⟨P7,H⟩ | ⟨P7,H⟩
 ·refine Ct (ed (bf P7))<|Sw<|Rg hN ?_
  cases H
  exact Rt dR
 refine Cf (eH P7)<|Sk<|Sw<|Rd hm hN (.qs 7 0 (.q 7 [] .z)) [(0,none)] .nil [] [] (.cons (show (0:Int)≤1 by decide) (.cons EE (.cons (show (0:Int)≤0 by decide) (.cons EF .nil)))) (.cons (show (0:Int)≤1 by decide) (.cons EE (.cons (show (0:Int)≤0 by decide) (.cons EF .nil)))) [] [] ?_
 cases H
 exact Rt dR
def bJ.l0:Nat→ByteArray→Int→Int→Int→Int→Option (Int)
 | 0,_,_,_,_,_=>none
 | k+1,x0,x4,x5,x6,x7=>if x7≤x5 then (if 0≤x7 then (if x7 < (x0.size:Int) then (if (bt x0 x7) < 128 then (some 0) else (if (bt x0 x7) > 191 then (some 0) else (bJ.l0 k x0 (wrap64 ((wrap64 ((wrap64 (64*x4))+(wrap64 (bt x0 x7)))) - 128)) x5 x6 (wrap64 (x7+1))))) else (none)) else (none)) else (if x4 < x6 then (some 0) else (if x4 > 1114111 then (some 0) else (if x4 > 55295 then (if x4 < 57344 then (some 0) else (some (wrap64 (x5+1)))) else (some (wrap64 (x5+1))))))
def bJ.j6:Nat→ByteArray→Int→Int→Int→Bool→Option (Int)
 | 0,_,_,_,_,_=>none
 | k+1,x0,x4,x5,x6,A8=>if A8=true then (some 0) else (bJ.l0 k x0 x4 x5 x6 1)
def bJ.j5:Nat→ByteArray→Int→Int→Int→Option (Int)
 | 0,_,_,_,_=>none
 | k+1,x0,x4,x5,x6=>if x5=0 then (bJ.j6 k x0 x4 x5 x6 true) else (bJ.j6 k x0 x4 x5 x6 (decide ((x0.size:Int)≤x5)))
def bJ.j4:Nat→ByteArray→Int→Int→Int→Int→Bool→Option (Int)
 | 0,_,_,_,_,_,_=>none
 | k+1,x0,x3,x4,x5,x6,x34=>if x34=true then (bJ.j5 k x0 (wrap64 (x3 - 240)) 3 65536) else (bJ.j5 k x0 x4 x5 x6)
def bJ.j3:Nat→ByteArray→Int→Int→Int→Int→Option (Int)
 | 0,_,_,_,_,_=>none
 | k+1,x0,x3,x4,x5,x6=>if x3≥240 then (bJ.j4 k x0 x3 x4 x5 x6 (decide (x3 < 248))) else (bJ.j4 k x0 x3 x4 x5 x6 false)
def bJ.j2:Nat→ByteArray→Int→Int→Int→Int→Bool→Option (Int)
 | 0,_,_,_,_,_,_=>none
 | k+1,x0,x3,x4,x5,x6,kC=>if kC=true then (bJ.j3 k x0 x3 (wrap64 (x3 - 224)) 2 2048) else (bJ.j3 k x0 x3 x4 x5 x6)
def bJ.j1:Nat→ByteArray→Int→Int→Int→Int→Option (Int)
 | 0,_,_,_,_,_=>none
 | k+1,x0,x3,x4,x5,x6=>if x3≥224 then (bJ.j2 k x0 x3 x4 x5 x6 (decide (x3 < 240))) else (bJ.j2 k x0 x3 x4 x5 x6 false)
def bJ.j0:Nat→ByteArray→Int→Int→Int→Int→Bool→Option (Int)
 | 0,_,_,_,_,_,_=>none
 | k+1,x0,x3,x4,x5,x6,bH=>if bH=true then (bJ.j1 k x0 x3 (wrap64 (x3 - 192)) 1 128) else (bJ.j1 k x0 x3 x4 x5 x6)
def bJ.f (k:Nat) (a0:ByteArray):Option (Int):=if 0 < (a0.size:Int) then (if (wrap64 (bt a0 0)) < 128 then (some 1) else (if (wrap64 (bt a0 0))≥192 then (bJ.j0 k a0 (wrap64 (bt a0 0)) 0 0 0 (decide ((wrap64 (bt a0 0)) < 224))) else (bJ.j0 k a0 (wrap64 (bt a0 0)) 0 0 0 false))) else (none)
theorem bJ.az {k:Nat} {a0:ByteArray} {r:(Int)} (H:bJ.f k a0=some r):aW Tryz.prog 100 [S a0] (I r):=by
 refine Cg Tryz.func100 rfl fun C hN hL=>?_
 unfold bJ.f at H
 refine Sw<|Rg hN<|Sw ?_
 obtain ⟨ajw,H⟩:=ax H
 refine Rh hN [] (.cons (show (0:Int)≤0 by decide) (.cons ajw .nil))<|Sw<|Rg hN<|Sw<|Sw<|Rg hN ?_
 rcases ak H with ⟨P8,H⟩ | ⟨P8,H⟩
 ·refine Ct (dt P8)<|Sw<|Rg hN ?_
  cases H
  exact Rt dR
 refine Cf (df P8)<|Sk<|Sw<|Sw<|Good.cut (fun st=>∃ n':Nat,n'≤k∧∃ (x0:ByteArray) (x3:Int) (x4:Int) (x5:Int) (x6:Int) (bH:Bool),Wk C st ⟨[(0,.w (S x0)),(3,.w (I x3)),(4,.w (I x4)),(5,.w (I x5)),(6,.w (I x6)),(18,.w (B bH))],[]⟩∧bJ.j0 n' x0 x3 x4 x5 x6 bH=some r) ?_ ?_
 ·rcases ak H with ⟨P9,H⟩ | ⟨P9,H⟩
  ·exact Rh hN [B true] (.cons (dt P9) .nil)<|⟨k,by omega,a0,wrap64 (bt a0 0),0,0,0,decide ((wrap64 (bt a0 0)) < 224),Wo [(0,0),(3,0),(4,0),(5,0),(6,0),(18,0)],H⟩
  exact Rh hN [B false] (.cons (df P9) .nil)<|⟨k,by omega,a0,wrap64 (bt a0 0),0,0,0,false,Wo [(0,0),(3,0),(4,0),(5,0),(6,0),(18,0)],H⟩
 clear H
 rintro st ⟨n',hn',x0,x3,x4,x5,x6,bH,W,H⟩
 rcases n' with _ | k
 ·cases H
 refine W.good ?_
 rw [bJ.j0] at H
 refine Good.cut (fun st=>∃ n':Nat,n'≤k∧∃ (x0:ByteArray) (x3:Int) (x4:Int) (x5:Int) (x6:Int),Wk C st ⟨[(0,.w (S x0)),(3,.w (I x3)),(4,.w (I x4)),(5,.w (I x5)),(6,.w (I x6))],[]⟩∧bJ.j1 n' x0 x3 x4 x5 x6=some r) ?_ ?_
 ·rcases ak H with ⟨Qa,H⟩ | ⟨Qa,H⟩
  ·exact Ct Qa<|Rg hN<|⟨k,by omega,x0,x3,wrap64 (x3 - 192),1,128,Wo [(0,0),(3,0),(4,0),(5,0),(6,0)],H⟩
  exact Cf (bf Qa)<|Sk<|⟨k,by omega,x0,x3,x4,x5,x6,Wo [(0,0),(3,0),(4,0),(5,0),(6,0)],H⟩
 clear H
 rintro st ⟨n',hn',x0,x3,x4,x5,x6,W,H⟩
 rcases n' with _ | k
 ·cases H
 refine W.good ?_
 rw [bJ.j1] at H
 refine Sw<|Sw<|Good.cut (fun st=>∃ n':Nat,n'≤k∧∃ (x0:ByteArray) (x3:Int) (x4:Int) (x5:Int) (x6:Int) (kC:Bool),Wk C st ⟨[(0,.w (S x0)),(3,.w (I x3)),(4,.w (I x4)),(5,.w (I x5)),(6,.w (I x6)),(26,.w (B kC))],[]⟩∧bJ.j2 n' x0 x3 x4 x5 x6 kC=some r) ?_ ?_
 ·rcases ak H with ⟨Qb,H⟩ | ⟨Qb,H⟩
  ·exact Rh hN [B true] (.cons (dt Qb) .nil)<|⟨k,by omega,x0,x3,x4,x5,x6,decide (x3 < 240),Wo [(0,0),(3,0),(4,0),(5,0),(6,0),(26,0)],H⟩
  exact Rh hN [B false] (.cons (df Qb) .nil)<|⟨k,by omega,x0,x3,x4,x5,x6,false,Wo [(0,0),(3,0),(4,0),(5,0),(6,0),(26,0)],H⟩
 clear H
 rintro st ⟨n',hn',x0,x3,x4,x5,x6,kC,W,H⟩
 rcases n' with _ | k
 ·cases H
 refine W.good ?_
 rw [bJ.j2] at H
 refine Good.cut (fun st=>∃ n':Nat,n'≤k∧∃ (x0:ByteArray) (x3:Int) (x4:Int) (x5:Int) (x6:Int),Wk C st ⟨[(0,.w (S x0)),(3,.w (I x3)),(4,.w (I x4)),(5,.w (I x5)),(6,.w (I x6))],[]⟩∧bJ.j3 n' x0 x3 x4 x5 x6=some r) ?_ ?_
 ·rcases ak H with ⟨Qc,H⟩ | ⟨Qc,H⟩
  ·exact Ct Qc<|Rg hN<|⟨k,by omega,x0,x3,wrap64 (x3 - 224),2,2048,Wo [(0,0),(3,0),(4,0),(5,0),(6,0)],H⟩
  exact Cf (bf Qc)<|Sk<|⟨k,by omega,x0,x3,x4,x5,x6,Wo [(0,0),(3,0),(4,0),(5,0),(6,0)],H⟩
 clear H
 rintro st ⟨n',hn',x0,x3,x4,x5,x6,W,H⟩
 rcases n' with _ | k
 ·cases H
 refine W.good ?_
 rw [bJ.j3] at H
 refine Sw<|Sw<|Good.cut (fun st=>∃ n':Nat,n'≤k∧∃ (x0:ByteArray) (x3:Int) (x4:Int) (x5:Int) (x6:Int) (x34:Bool),Wk C st ⟨[(0,.w (S x0)),(3,.w (I x3)),(4,.w (I x4)),(5,.w (I x5)),(6,.w (I x6)),(34,.w (B x34))],[]⟩∧bJ.j4 n' x0 x3 x4 x5 x6 x34=some r) ?_ ?_
 ·rcases ak H with ⟨Qd,H⟩ | ⟨Qd,H⟩
  ·exact Rh hN [B true] (.cons (dt Qd) .nil)<|⟨k,by omega,x0,x3,x4,x5,x6,decide (x3 < 248),Wo [(0,0),(3,0),(4,0),(5,0),(6,0),(34,0)],H⟩
  exact Rh hN [B false] (.cons (df Qd) .nil)<|⟨k,by omega,x0,x3,x4,x5,x6,false,Wo [(0,0),(3,0),(4,0),(5,0),(6,0),(34,0)],H⟩
 clear H
 rintro st ⟨n',hn',x0,x3,x4,x5,x6,x34,W,H⟩
 rcases n' with _ | k
 ·cases H
 refine W.good ?_
 rw [bJ.j4] at H
 refine Good.cut (fun st=>∃ n':Nat,n'≤k∧∃ (x0:ByteArray) (x4:Int) (x5:Int) (x6:Int),Wk C st ⟨[(0,.w (S x0)),(4,.w (I x4)),(5,.w (I x5)),(6,.w (I x6))],[]⟩∧bJ.j5 n' x0 x4 x5 x6=some r) ?_ ?_
 ·rcases ak H with ⟨Qe,H⟩ | ⟨Qe,H⟩
  ·exact Ct Qe<|Rg hN<|⟨k,by omega,x0,wrap64 (x3 - 240),3,65536,Wo [(0,0),(4,0),(5,0),(6,0)],H⟩
  exact Cf (bf Qe)<|Sk<|⟨k,by omega,x0,x4,x5,x6,Wo [(0,0),(4,0),(5,0),(6,0)],H⟩
 clear H
 rintro st ⟨n',hn',x0,x4,x5,x6,W,H⟩
 rcases n' with _ | k
 ·cases H
 refine W.good ?_
 rw [bJ.j5] at H
 refine Sw<|Sw<|Good.cut (fun st=>∃ n':Nat,n'≤k∧∃ (x0:ByteArray) (x4:Int) (x5:Int) (x6:Int) (A8:Bool),Wk C st ⟨[(0,.w (S x0)),(4,.w (I x4)),(5,.w (I x5)),(6,.w (I x6)),(44,.w (B A8))],[]⟩∧bJ.j6 n' x0 x4 x5 x6 A8=some r) ?_ ?_
 ·rcases ak H with ⟨Qf,H⟩ | ⟨Qf,H⟩
  ·exact Rh hN [B true] (.cons (bq Qf) .nil)<|⟨k,by omega,x0,x4,x5,x6,true,Wo [(0,0),(4,0),(5,0),(6,0),(44,0)],H⟩
  exact Rh hN [B false] (.cons (bn Qf) .nil)<|⟨k,by omega,x0,x4,x5,x6,decide ((x0.size:Int)≤x5),Wo [(0,0),(4,0),(5,0),(6,0),(44,0)],H⟩
 clear H
 rintro st ⟨n',hn',x0,x4,x5,x6,A8,W,H⟩
 rcases n' with _ | k
 ·cases H
 refine W.good ?_
 rw [bJ.j6] at H
 rcases ak H with ⟨Qg,H⟩ | ⟨Qg,H⟩
 ·refine Ct Qg<|Sw<|Rg hN ?_
  cases H
  exact Rt dR
 refine Cf (bf Qg)<|Sk<|Sw<|Sw<|Rg hN<|Bl<|Good.dK (fun k' st=>∃ (x0:ByteArray) (x4:Int) (x5:Int) (x6:Int) (x7:Int),k'≤k∧Wk C st ⟨[(0,.w (S x0)),(4,.w (I x4)),(5,.w (I x5)),(6,.w (I x6)),(7,.w (I x7))],[]⟩∧bJ.l0 k' x0 x4 x5 x6 x7=some r) k ⟨x0,x4,x5,x6,1,Nat.le_refl _,Wo [(0,0),(4,0),(5,0),(6,0),(7,0)],H⟩ fun k=>⟨fun st h=>(by obtain ⟨_,_,_,_,_,_,_,H⟩:=h;cases H),?_⟩
 clear H
 rintro st ⟨x0,x4,x5,x6,x7,hk,W,H⟩
 refine W.good ?_
 rw [bJ.l0] at H
 refine Sw<|Sw<|Rg hN ?_
 rcases ak H with ⟨Qh,H⟩ | ⟨Qh,H⟩
 ·refine Ct (dt Qh)<|Sk<|Sw<|Bl<|Sw<|Sw ?_
  obtain ⟨EG,H⟩:=ax H
  obtain ⟨EH,H⟩:=ax H
  rcases ak H with ⟨Qi,H⟩ | ⟨Qi,H⟩
  ·refine Rh hN [B true] (.cons EG (.cons EH (.cons (dt Qi) .nil)))<|Good.cond true (by kernel_rfl)<|Sw<|Rg hN ?_
   cases H
   exact Rt dR
  refine Rh hN [B false] (.cons EG (.cons EH (.cons (df Qi) (.cons EG (.cons EH .nil))))) ?_
  rcases ak H with ⟨Qj,H⟩ | ⟨Qj,H⟩
  ·refine Ct (dt Qj)<|Sw<|Rg hN ?_
   cases H
   exact Rt dR
  exact Cf (df Qj)<|Sk<|Rh hN [] (.cons EG (.cons EH .nil))<|Rg hN<|⟨k,by omega,x0,wrap64 ((wrap64 ((wrap64 (64*x4))+(wrap64 (bt x0 x7)))) - 128),x5,x6,wrap64 (x7+1),by omega,Wo [(0,0),(4,0),(5,0),(6,0),(7,0)],H⟩
 refine Cf (df Qh)<|Ex<|Sw<|Sw ?_
 rcases ak H with ⟨Ah,H⟩ | ⟨Ah,H⟩
 ·refine Rh hN [B true,B true] (.cons (dt Ah) (.cons (rfl:true=true) .nil))<|Good.cond true (by kernel_rfl)<|Sw<|Rg hN ?_
  cases H
  exact Rt dR
 rcases ak H with ⟨EI,H⟩ | ⟨EI,H⟩
 ·refine Rh hN [B false,B true] (.cons (df Ah) (.cons (dt EI) .nil))<|Good.cond true (by kernel_rfl)<|Sw<|Rg hN ?_
  cases H
  exact Rt dR
 rcases (ak H).symm with ⟨Qk,H⟩ | ⟨Qk,H⟩
 ·refine Rh hN [B false,B false,B false] (.cons (df Ah) (.cons (df EI) (.cons (df Qk) .nil)))<|Good.cond false (by kernel_rfl)<|Sk<|Sw<|Rg hN ?_
  cases H
  exact Rt dR
 refine Rh hN [B false,B false,B true] (.cons (df Ah) (.cons (df EI) (.cons (dt Qk) .nil))) ?_
 rcases ak H with ⟨Ql,H⟩ | ⟨Ql,H⟩
 ·refine Ct (dt Ql)<|Sw<|Rg hN ?_
  cases H
  exact Rt dR
 refine Cf (df Ql)<|Sk<|Sw<|Rg hN ?_
 cases H
 exact Rt dR
def l8.l0:Nat→ByteArray→Option (Bool)
 | 0,_=>none
 | k+1,x0=>if (x0.size:Int) > 0 then ((bJ.f k x0).bind fun uE=>(if uE=0 then (some false) else (if 0≤uE then (if uE≤(x0.size:Int) then (l8.l0 k (x0.extract (uE:Int).toNat x0.size)) else (none)) else (none)))) else (some true)
def l8.f (k:Nat) (a0:ByteArray):Option (Bool):=l8.l0 k a0
theorem l8.az {k:Nat} {a0:ByteArray} {r:(Bool)} (H:l8.f k a0=some r):aW Tryz.prog 92 [S a0] (B r):=by
 refine Cg Tryz.func92 rfl fun C hN hL=>?_
 unfold l8.f at H
 refine Sw<|Rg hN<|Sw<|Bl<|Good.dK (fun k' st=>∃ (x0:ByteArray),k'≤k∧Wk C st ⟨[(0,.w (S x0))],[]⟩∧l8.l0 k' x0=some r) k ⟨a0,Nat.le_refl _,Wo [(0,0)],H⟩ fun k=>⟨fun st h=>(by obtain ⟨_,_,_,H⟩:=h;cases H),?_⟩
 clear H
 rintro st ⟨x0,hk,W,H⟩
 refine W.good ?_
 rw [l8.l0] at H
 refine Sw<|Sw<|Rg hN ?_
 rcases (ak H).symm with ⟨Qm,H⟩ | ⟨Qm,H⟩
 ·refine Cf (df Qm)<|Ex<|Sw<|Rg hN ?_
  cases H
  exact Rt dR
 refine Ct (dt Qm)<|Sk<|Bl<|Sw ?_
 obtain ⟨uE,ajx,H⟩:=aF H
 refine Rh hN [I uE] (.cons (bJ.az ajx).c .nil)<|Sw<|Sw<|Rg hN ?_
 rcases ak H with ⟨Qn,H⟩ | ⟨Qn,H⟩
 ·refine Ct (bq Qn)<|Sw<|Rg hN ?_
  cases H
  exact Rt dR
 refine Cf (bn Qn)<|Sk ?_
 obtain ⟨ajy,H⟩:=ax H
 obtain ⟨ajz,H⟩:=ax H
 exact Rh hN [] (.cons ajy (.cons ajz .nil))<|⟨k,by omega,x0.extract (uE:Int).toNat x0.size,by omega,Wo [(0,0)],H⟩
mutual
def iJ.l0:Nat→ByteArray→Int→Option (Bool)
 | 0,_,_=>none
 | k+1,x0,x3=>if x3 < (x0.size:Int) then (iJ.l1 k x0 x3 false 0) else (some true)
def iJ.l1:Nat→ByteArray→Int→Bool→Int→Option (Bool)
 | 0,_,_,_,_=>none
 | k+1,x0,x3,x4,x5=>if x5 < 74 then (if 0≤x5 then (if 0≤x3 then (if x3 < (x0.size:Int) then (if (bt (⟨#[65,66,67,68,69,70,71,72,73,74,75,76,77,78,79,80,81,82,83,84,85,86,87,88,89,90,97,98,99,100,101,102,103,104,105,106,107,108,109,110,111,112,113,114,115,116,117,118,119,120,121,122,48,49,50,51,52,53,54,55,56,57,32,39,40,41,43,44,45,46,47,58,61,63]⟩:ByteArray) x5)=(bt x0 x3) then (iJ.l1 k x0 x3 true (wrap64 (x5+1))) else (iJ.l1 k x0 x3 x4 (wrap64 (x5+1)))) else (none)) else (none)) else (none)) else (if x4=true then (iJ.l0 k x0 (wrap64 (x3+1))) else (some false))
end
def iJ.f (k:Nat) (a0:ByteArray):Option (Bool):=iJ.l0 k a0 0
theorem iJ.az {k:Nat} {a0:ByteArray} {r:(Bool)} (H:iJ.f k a0=some r):aW Tryz.prog 93 [S a0] (B r):=by
 refine Cg Tryz.func93 rfl fun C hN hL=>?_
 unfold iJ.f at H
 refine Sw<|Rg hN<|Sw<|Sw<|Rg hN<|Bl<|Good.dK (fun k' st=>∃ (x0:ByteArray) (x3:Int),k'≤k∧Wk C st ⟨[(0,.w (S x0)),(3,.w (I x3))],[]⟩∧iJ.l0 k' x0 x3=some r) k ⟨a0,0,Nat.le_refl _,Wo [(0,0),(3,0)],H⟩ fun k=>⟨fun st h=>(by obtain ⟨_,_,_,_,H⟩:=h;cases H),?_⟩
 clear H
 rintro st ⟨x0,x3,hk,W,H⟩
 refine W.good ?_
 rw [iJ.l0] at H
 refine Sw<|Sw<|Rg hN ?_
 rcases (ak H).symm with ⟨Qo,H⟩ | ⟨Qo,H⟩
 ·refine Cf (df Qo)<|Ex<|Sw<|Rg hN ?_
  cases H
  exact Rt dR
 refine Ct (dt Qo)<|Sk<|Sw<|Bl<|Sw<|Rg hN<|Sw<|Sw<|Rg hN<|Bl<|Good.dK (fun k' st=>∃ (x0:ByteArray) (x3:Int) (x4:Bool) (x5:Int),k'≤k∧Wk C st ⟨[(0,.w (S x0)),(3,.w (I x3)),(4,.w (B x4)),(5,.w (I x5))],[]⟩∧iJ.l1 k' x0 x3 x4 x5=some r) k ⟨x0,x3,false,0,Nat.le_refl _,Wo [(0,0),(3,0),(4,0),(5,0)],H⟩ fun k=>⟨fun st h=>(by obtain ⟨_,_,_,_,_,_,H⟩:=h;cases H),?_⟩
 clear H
 rintro st ⟨x0,x3,x4,x5,hk,W,H⟩
 refine W.good ?_
 rw [iJ.l1] at H
 refine Sw<|Sw<|Rg hN ?_
 rcases (ak H).symm with ⟨Ai,H⟩ | ⟨Ai,H⟩
 ·refine Cf (df Ai)<|Ex<|Sw<|Rg hN ?_
  rcases ak H with ⟨Qp,H⟩ | ⟨Qp,H⟩
  ·exact Cf (eH Qp)<|Sk<|Rg hN<|⟨k,by omega,x0,wrap64 (x3+1),by omega,Wo [(0,0),(3,0)],H⟩
  refine Ct (ed (bf Qp))<|Sw<|Rg hN ?_
  cases H
  exact Rt dR
 refine Ct (dt Ai)<|Sk<|Sw<|Bl<|Sw ?_
 obtain ⟨Ya,H⟩:=ax H
 obtain ⟨Yb,H⟩:=ax H
 obtain ⟨Yc,H⟩:=ax H
 refine Rd hm hN (.qs 5 0 (.q 5 [] .z)) [(0,none),(3,none),(5,none)] .nil [] [] (.cons Ya (.cons Ai (.cons Yb (.cons Yc .nil)))) (.cons Ya (.cons Ai (.cons Yb (.cons Yc .nil)))) [] [] ?_
 rcases ak H with ⟨Qq,H⟩ | ⟨Qq,H⟩
 ·exact Ct (bq Qq)<|Rg hN<|Rg hN<|⟨k,by omega,x0,x3,true,wrap64 (x5+1),by omega,Wo [(0,0),(3,0),(4,0),(5,0)],H⟩
 exact Cf (bn Qq)<|Sk<|Rg hN<|⟨k,by omega,x0,x3,x4,wrap64 (x5+1),by omega,Wo [(0,0),(3,0),(4,0),(5,0)],H⟩
def mF.f (k:Nat) (a0:Int) (a1:ByteArray):Option (Bool):=if a0=1 then ((sP.f a1).bind fun EJ=>(some EJ.2)) else (if a0=2 then ((sS.f a1).bind fun Qs=>(some Qs)) else (if a0=3 then ((sQ.f k a1).bind fun Aj=>(some Aj.2.2)) else (if a0=4 then (some true) else (if a0=5 then (some (a1.toList == ([]:List UInt8))) else (if a0=6 then ((gu.f k a1).bind fun EK=>(some EK.2)) else (if a0=12 then ((l8.f k a1).bind fun Qt=>(some Qt)) else (if a0=19 then ((iJ.f k a1).bind fun Qu=>(some Qu)) else (some false))))))))
theorem mF.az {k:Nat} {a0:Int} {a1:ByteArray} {r:(Bool)} (H:mF.f k a0 a1=some r):aW Tryz.prog 83 [I a0,S a1] (B r):=by
 refine Cg Tryz.func83 rfl fun C hN hL=>?_
 unfold mF.f at H
 refine Sw<|Rg hN<|Sw<|Sw<|Rg hN<|Bl<|Sw<|Rg hN ?_
 rcases ak H with ⟨Qv,H⟩ | ⟨Qv,H⟩
 ·refine Ct (bq Qv)<|Sw ?_
  obtain ⟨EJ,ajA,H⟩:=aF H
  refine Rh hN [.aC [B EJ.1,B EJ.2]] (.cons (sP.az ajA).c .nil)<|Sw<|Rg hN ?_
  cases H
  exact Rt dR
 refine Cf (bn Qv)<|Sw<|Rg hN ?_
 rcases ak H with ⟨Qw,H⟩ | ⟨Qw,H⟩
 ·refine Ct (bq Qw)<|Sw ?_
  obtain ⟨Qs,ajB,H⟩:=aF H
  refine Rh hN [B Qs] (.cons (sS.az ajB).c .nil) ?_
  cases H
  exact Rt dR
 refine Cf (bn Qw)<|Sw<|Rg hN ?_
 rcases ak H with ⟨Qx,H⟩ | ⟨Qx,H⟩
 ·refine Ct (bq Qx)<|Sw ?_
  obtain ⟨Aj,ajC,H⟩:=aF H
  refine Rh hN [.aC [S Aj.1,I Aj.2.1,B Aj.2.2]] (.cons (sQ.az ajC).c .nil)<|Sw<|Rg hN ?_
  cases H
  exact Rt dR
 refine Cf (bn Qx)<|Sw<|Rg hN ?_
 rcases ak H with ⟨Qy,H⟩ | ⟨Qy,H⟩
 ·refine Ct (bq Qy)<|Sw<|Rg hN ?_
  cases H
  exact Rt dR
 refine Cf (bn Qy)<|Sw<|Rg hN ?_
 rcases ak H with ⟨Qz,H⟩ | ⟨Qz,H⟩
 ·refine Ct (bq Qz)<|Sw<|Ri hN [] (.cons (fA (rfl:a1.toList=a1.toList) (eU ([]:List UInt8))) .nil) [(39,.bool (a1.toList == ([]:List UInt8)))] ?_
  cases H
  exact Rt dR
 refine Cf (bn Qz)<|Sw<|Rg hN ?_
 rcases ak H with ⟨QA,H⟩ | ⟨QA,H⟩
 ·refine Ct (bq QA)<|Sw ?_
  obtain ⟨EK,ajD,H⟩:=aF H
  refine Rh hN [.aC [.row none 1 (List.map I EK.1),B EK.2]] (.cons (gu.az ajD).c .nil)<|Sw<|Rg hN ?_
  cases H
  exact Rt dR
 refine Cf (bn QA)<|Sw<|Rg hN ?_
 rcases ak H with ⟨QB,H⟩ | ⟨QB,H⟩
 ·refine Ct (bq QB)<|Sw ?_
  obtain ⟨Qt,ajE,H⟩:=aF H
  refine Rh hN [B Qt] (.cons (l8.az ajE).c .nil) ?_
  cases H
  exact Rt dR
 refine Cf (bn QB)<|Sw<|Rg hN ?_
 rcases ak H with ⟨QC,H⟩ | ⟨QC,H⟩
 ·refine Ct (bq QC)<|Sw ?_
  obtain ⟨Qu,ajF,H⟩:=aF H
  refine Rh hN [B Qu] (.cons (iJ.az ajF).c .nil) ?_
  cases H
  exact Rt dR
 refine Cf (bn QC)<|Sk<|Sw<|Rg hN ?_
 cases H
 exact Rt dR
mutual
def bX.j0:Nat→Int→Int→Int→Int→Bool→ByteArray→List af→List Int→List Int→Int→Int→Bool→Option (Int × Int × Int × ByteArray × List af × List Int × List Int)
 | 0,_,_,_,_,_,_,_,_,_,_,_,_=>none
 | k+1,x1,x3,bF,bY,jh,x1000,ah,ay,au,x3000,bW,bE=>if jh=true then ((fT.f 5 x1).bind fun yx=>(some (0,yx.1,yx.2,x1000,ah,ay,au))) else (if x3000=0 then (if bE=true then (bX.j1 k x1 x3 bF bY false x1000 ah ay au x3000 bW bE) else (if 0≤bF then (if bF≤bY then (if bY≤(x1000.size:Int) then ((mF.f k bW (x1000.extract (bF:Int).toNat (bY:Int).toNat)).bind fun Cz=>(bX.j1 k x1 x3 bF bY (!Cz) x1000 ah ay au x3000 bW bE)) else (none)) else (none)) else (none))) else (bX.j1 k x1 x3 bF bY false x1000 ah ay au x3000 bW bE))
def bX.j1:Nat→Int→Int→Int→Int→Bool→ByteArray→List af→List Int→List Int→Int→Int→Bool→Option (Int × Int × Int × ByteArray × List af × List Int × List Int)
 | 0,_,_,_,_,_,_,_,_,_,_,_,_=>none
 | k+1,x1,x3,bF,bY,x100,x1000,ah,ay,au,x3000,bW,bE=>if x100=true then ((fT.f 5 x1).bind fun yz=>(some (0,yz.1,yz.2,x1000,ah,ay,au))) else (if bE=true then (bX.j2 k x1 x3 bF bY (ah.length:Int) x1000 ah ay au bE x3000 bW bE (⟨#[]⟩:ByteArray)) else (if 0≤bF then (if bF≤bY then (if bY≤(x1000.size:Int) then (bX.j2 k x1 x3 bF bY (ah.length:Int) x1000 ah ay au bE x3000 bW bE (x1000.extract (bF:Int).toNat (bY:Int).toNat)) else (none)) else (none)) else (none)))
def bX.j2:Nat→Int→Int→Int→Int→Int→ByteArray→List af→List Int→List Int→Bool→Int→Int→Bool→ByteArray→Option (Int × Int × Int × ByteArray × List af × List Int × List Int)
 | 0,_,_,_,_,_,_,_,_,_,_,_,_,_,_=>none
 | k+1,x1,x3,bF,bY,aT,x1000,ah,ay,au,bE,x4000,kV,kW,kX=>if ah.length < 2199023255552 then ((some (ah++[(⟨x4000,kV,kW,kX,([]:List Int)⟩:af)]:List af)).bind fun VO=>(if ay.length < 17592186044416 then ((some (ay++[x1]:List Int)).bind fun VP=>(if au.length < 17592186044416 then ((some (au++[bY]:List Int)).bind fun VQ=>(if bE=true then (bX.l0 k x3 bY aT bF x1000 VO VP VQ) else (some (bY,0,0,x1000,VO,VP,VQ)))) else (none))) else (none))) else (none)
def bX.l0:Nat→Int→Int→Int→Int→ByteArray→List af→List Int→List Int→Option (Int × Int × Int × ByteArray × List af × List Int × List Int)
 | 0,_,_,_,_,_,_,_,_=>none
 | k+1,x3,bY,aT,dS,x1000,ah,ay,au=>if dS < bY then (if 0≤aT then (if aT < (ah.length:Int) then (if ((aa ah aT).f4).length < 17592186044416 then ((bX.f k x1000 (ah.set (aT:Int).toNat (⟨(aa ah aT).f0,(aa ah aT).f1,(aa ah aT).f2,(aa ah aT).f3,(((aa ah aT).f4)++[(ah.length:Int)])⟩:af)) ay au dS bY (wrap64 (x3+1))).bind fun gz=>(if gz.2.1=0 then (bX.l0 k x3 bY aT gz.1 gz.2.2.2.1 gz.2.2.2.2.1 gz.2.2.2.2.2.1 gz.2.2.2.2.2.2) else (some (0,gz.2.1,gz.2.2.1,gz.2.2.2.1,gz.2.2.2.2.1,gz.2.2.2.2.2.1,gz.2.2.2.2.2.2)))) else (none)) else (none)) else (none)) else (some (bY,0,0,x1000,ah,ay,au))
def bX.f:Nat→ByteArray→List af→List Int→List Int→Int→Int→Int→Option (Int × Int × Int × ByteArray × List af × List Int × List Int)
 | 0,_,_,_,_,_,_,_=>none
 | k+1,aK,av,bu,aj,a1,a2,a3=>if 0≤a1 then (if a1≤a2 then (if a2≤(aK.size:Int) then ((gL.f k (aK.extract (a1:Int).toNat (a2:Int).toNat)).bind fun cz=>(if cz.2.2.2.2.2=0 then (if (wrap64 ((wrap64 (a1+cz.2.2.2.2.1))+cz.2.2.2.1)) > a2 then ((fT.f 5 a1).bind fun Ak=>(some (0,Ak.1,Ak.2,aK,av,bu,aj))) else (if a3 > 16 then ((fT.f 6 a1).bind fun Al=>(some (0,Al.1,Al.2,aK,av,bu,aj))) else (if (av.length:Int)≥1000 then ((fT.f 4 a1).bind fun Am=>(some (0,Am.1,Am.2,aK,av,bu,aj))) else (if cz.1=0 then (if cz.2.2.1=true then (if cz.2.1=16 then (bX.j0 k a1 a3 (wrap64 (a1+cz.2.2.2.2.1)) (wrap64 ((wrap64 (a1+cz.2.2.2.2.1))+cz.2.2.2.1)) false aK av bu aj cz.1 cz.2.1 cz.2.2.1) else (bX.j0 k a1 a3 (wrap64 (a1+cz.2.2.2.2.1)) (wrap64 ((wrap64 (a1+cz.2.2.2.2.1))+cz.2.2.2.1)) (cz.2.1 != 17) aK av bu aj cz.1 cz.2.1 cz.2.2.1)) else (bX.j0 k a1 a3 (wrap64 (a1+cz.2.2.2.2.1)) (wrap64 ((wrap64 (a1+cz.2.2.2.2.1))+cz.2.2.2.1)) false aK av bu aj cz.1 cz.2.1 cz.2.2.1)) else (bX.j0 k a1 a3 (wrap64 (a1+cz.2.2.2.2.1)) (wrap64 ((wrap64 (a1+cz.2.2.2.2.1))+cz.2.2.2.1)) false aK av bu aj cz.1 cz.2.1 cz.2.2.1))))) else ((fT.f cz.2.2.2.2.2 a1).bind fun Ao=>(some (0,Ao.1,Ao.2,aK,av,bu,aj))))) else (none)) else (none)) else (none)
end
theorem bX.cons:∀ n k (aK:ByteArray) (av:List af) (bu:List Int) (aj:List Int) (a1:Int) (a2:Int) (a3:Int) (r:(Int × Int × Int × ByteArray × List af × List Int × List Int)),k≤n→bX.f k aK av bu aj a1 a2 a3=some r→kI Tryz.prog 70 [.ptr 0 0,.v (I a1),.v (I a2),.v (I a3)] [[S aK,.row (some 56) 5 (List.map (v56 1) av),.row (some 3) 1 (List.map I bu),.row (some 3) 1 (List.map I aj)]] (.v (.aC [I r.1,.agg [I r.2.1,I r.2.2.1]])) [[S r.2.2.2.1,.row (some 56) 5 (List.map (v56 1) r.2.2.2.2.1),.row (some 3) 1 (List.map I r.2.2.2.2.2.1),.row (some 3) 1 (List.map I r.2.2.2.2.2.2)]]:=by
 intro n
 induction n with
 | zero =>
  intro k aK av bu aj a1 a2 a3 r hk H
  rcases k with _ | k
  ·cases H
  ·omega
 | succ n ih =>
  intro k aK av bu aj a1 a2 a3 r hk H
  rcases k with _ | k
  ·cases H
  rw [bX.f] at H
  refine qQ Tryz.func70 rfl (by kernel_rfl) (by kernel_rfl) fun C hN hL=>?_
  refine Good.seq ?_
  refine Good.reg hN [] .nil [] (by kernel_rfl) ?_
  refine Good.seq ?_
  obtain ⟨ajG,H⟩:=ax H
  obtain ⟨ajH,H⟩:=ax H
  obtain ⟨ajI,H⟩:=ax H
  obtain ⟨cz,ajJ,H⟩:=aF H
  refine Good.reg hN [.aC [.agg [I cz.1,I cz.2.1,B cz.2.2.1,I cz.2.2.2.1],I cz.2.2.2.2.1,I cz.2.2.2.2.2]] (.cons ajG (.cons ajH (.cons ajI (.cons (gL.az ajJ).c .nil)))) [] (by kernel_rfl) ?_
  refine Good.seq ?_
  refine Good.seq ?_
  refine Good.reg hN [] .nil [] (by kernel_rfl) ?_
  rcases (ak H).symm with ⟨QD,H⟩ | ⟨QD,H⟩
  ·refine Good.kS (bne_iff_ne.2 QD) (by kernel_rfl) ?_
   refine Good.seq ?_
   obtain ⟨Ao,ajK,H⟩:=aF H
   refine Good.reg hN [.agg [I Ao.1,I Ao.2]] (.cons (fT.az ajK).c .nil) [] (by kernel_rfl) ?_
   obtain rfl:=Option.some.inj H
   exact Good.ret (fU (.refl _) (dF.refl _) (by kernel_rfl) rfl)
  refine Good.kU (dE QD) (by kernel_rfl) ?_
  refine Good.skip ?_
  refine Good.seq ?_
  refine Good.reg hN [] .nil [] (by kernel_rfl) ?_
  refine Good.seq ?_
  refine Good.reg hN [] .nil [] (by kernel_rfl) ?_
  refine Good.seq ?_
  refine Good.seq ?_
  refine Good.reg hN [] .nil [] (by kernel_rfl) ?_
  rcases ak H with ⟨QE,H⟩ | ⟨QE,H⟩
  ·refine Good.kS (decide_eq_true QE) (by kernel_rfl) ?_
   refine Good.seq ?_
   obtain ⟨Ak,ajL,H⟩:=aF H
   refine Good.reg hN [.agg [I Ak.1,I Ak.2]] (.cons (fT.az ajL).c .nil) [] (by kernel_rfl) ?_
   obtain rfl:=Option.some.inj H
   exact Good.ret (fU (.refl _) (dF.refl _) (by kernel_rfl) rfl)
  refine Good.kU (decide_eq_false QE) (by kernel_rfl) ?_
  refine Good.skip ?_
  refine Good.seq ?_
  refine Good.seq ?_
  refine Good.reg hN [] .nil [] (by kernel_rfl) ?_
  rcases ak H with ⟨QF,H⟩ | ⟨QF,H⟩
  ·refine Good.kS (decide_eq_true QF) (by kernel_rfl) ?_
   refine Good.seq ?_
   obtain ⟨Al,ajM,H⟩:=aF H
   refine Good.reg hN [.agg [I Al.1,I Al.2]] (.cons (fT.az ajM).c .nil) [] (by kernel_rfl) ?_
   obtain rfl:=Option.some.inj H
   exact Good.ret (fU (.refl _) (dF.refl _) (by kernel_rfl) rfl)
  refine Good.kU (decide_eq_false QF) (by kernel_rfl) ?_
  refine Good.skip ?_
  refine Good.seq ?_
  refine Good.seq ?_
  refine Good.reg hN [I (av.length:Int)] (.cons (aR (v56 1) av) .nil) [] (by kernel_rfl) ?_
  rcases ak H with ⟨QG,H⟩ | ⟨QG,H⟩
  ·refine Good.kS (decide_eq_true QG) (by kernel_rfl) ?_
   refine Good.seq ?_
   obtain ⟨Am,ajN,H⟩:=aF H
   refine Good.reg hN [.agg [I Am.1,I Am.2]] (.cons (fT.az ajN).c .nil) [] (by kernel_rfl) ?_
   obtain rfl:=Option.some.inj H
   exact Good.ret (fU (.refl _) (dF.refl _) (by kernel_rfl) rfl)
  refine Good.kU (decide_eq_false QG) (by kernel_rfl) ?_
  refine Good.skip ?_
  refine Good.seq ?_
  refine Good.seq ?_
  refine Good.cut (fun st=>∃ n':Nat,n'≤k∧∃ (x1:Int) (x3:Int) (bF:Int) (bY:Int) (jh:Bool) (x1000:ByteArray) (ah:List af) (ay:List Int) (au:List Int) (x2000:Int) (aB:Int) (x3000:Int) (bW:Int) (bE:Bool) (bQ:Int),Wk C st ⟨[(0,.d (.ptr 0 0)),(1,.d (.v (I x1))),(3,.d (.v (I x3))),(9,.d (.ptr 1 0)),(10,.d (.ptr 2 0)),(13,.d (.v (I bF))),(14,.d (.v (I bY))),(77,.d (.v (B jh)))],[.cells [.v (S x1000),.v (.row (some 56) 5 (List.map (v56 1) ah)),.v (.row (some 3) 1 (List.map I ay)),.v (.row (some 3) 1 (List.map I au))],.cells [.v (I x2000),.v (I aB)],.cells [.v (I x3000),.v (I bW),.v (B bE),.v (I bQ)]]⟩∧bX.j0 n' x1 x3 bF bY jh x1000 ah ay au x3000 bW bE=some r) ?_ ?_
  ·rcases (ak H).symm with ⟨Ap,H⟩ | ⟨Ap,H⟩
   ·refine Good.reg hN [B false,B false,B false] (.cons (beq_eq_false_iff_ne.2 Ap) (.cons (rfl:false=false) (.cons (rfl:false=false) .nil))) [] (by kernel_rfl) ?_
    exact ⟨k,by omega,a1,a3,wrap64 (a1+cz.2.2.2.2.1),wrap64 ((wrap64 (a1+cz.2.2.2.2.1))+cz.2.2.2.1),false,aK,av,bu,aj,0,0,cz.1,cz.2.1,cz.2.2.1,cz.2.2.2.1,Wk.of [(0,0),(1,0),(3,0),(9,0),(10,0),(13,0),(14,0),(77,0)] (by kernel_rfl) (by kernel_rfl),H⟩
   rcases (ak H).symm with ⟨EL,H⟩ | ⟨EL,H⟩
   ·refine Good.reg hN [B true,B false,B false] (.cons (beq_iff_eq.2 Ap) (.cons (Bool.eq_false_iff.2 EL) (.cons (rfl:false=false) .nil))) [] (by kernel_rfl) ?_
    exact ⟨k,by omega,a1,a3,wrap64 (a1+cz.2.2.2.2.1),wrap64 ((wrap64 (a1+cz.2.2.2.2.1))+cz.2.2.2.1),false,aK,av,bu,aj,0,0,cz.1,cz.2.1,cz.2.2.1,cz.2.2.2.1,Wk.of [(0,0),(1,0),(3,0),(9,0),(10,0),(13,0),(14,0),(77,0)] (by kernel_rfl) (by kernel_rfl),H⟩
   rcases ak H with ⟨Jq,H⟩ | ⟨Jq,H⟩
   ·refine Good.reg hN [B true,B true,B false] (.cons (beq_iff_eq.2 Ap) (.cons EL (.cons (dE Jq) .nil))) [] (by kernel_rfl) ?_
    exact ⟨k,by omega,a1,a3,wrap64 (a1+cz.2.2.2.2.1),wrap64 ((wrap64 (a1+cz.2.2.2.2.1))+cz.2.2.2.1),false,aK,av,bu,aj,0,0,cz.1,cz.2.1,cz.2.2.1,cz.2.2.2.1,Wk.of [(0,0),(1,0),(3,0),(9,0),(10,0),(13,0),(14,0),(77,0)] (by kernel_rfl) (by kernel_rfl),H⟩
   refine Good.reg hN [B true,B true,B true] (.cons (beq_iff_eq.2 Ap) (.cons EL (.cons (bne_iff_ne.2 Jq) .nil))) [] (by kernel_rfl) ?_
   exact ⟨k,by omega,a1,a3,wrap64 (a1+cz.2.2.2.2.1),wrap64 ((wrap64 (a1+cz.2.2.2.2.1))+cz.2.2.2.1),(cz.2.1 != 17),aK,av,bu,aj,0,0,cz.1,cz.2.1,cz.2.2.1,cz.2.2.2.1,Wk.of [(0,0),(1,0),(3,0),(9,0),(10,0),(13,0),(14,0),(77,0)] (by kernel_rfl) (by kernel_rfl),H⟩
  clear H
  rintro st ⟨n',hn',x1,x3,bF,bY,jh,x1000,ah,ay,au,x2000,aB,x3000,bW,bE,bQ,W,H⟩
  rcases n' with _ | k
  ·cases H
  refine W.good ?_
  rw [bX.j0] at H
  rcases ak H with ⟨Jr,H⟩ | ⟨Jr,H⟩
  ·refine Good.kS Jr (by kernel_rfl) ?_
   refine Good.seq ?_
   obtain ⟨yx,aei,H⟩:=aF H
   refine Good.reg hN [.agg [I yx.1,I yx.2]] (.cons (fT.az aei).c .nil) [] (by kernel_rfl) ?_
   obtain rfl:=Option.some.inj H
   exact Good.ret (fU (.refl _) (dF.refl _) (by kernel_rfl) rfl)
  refine Good.kU (Bool.eq_false_iff.2 Jr) (by kernel_rfl) ?_
  refine Good.skip ?_
  refine Good.seq ?_
  refine Good.seq ?_
  refine Good.cut (fun st=>∃ n':Nat,n'≤k∧∃ (x1:Int) (x3:Int) (bF:Int) (bY:Int) (x100:Bool) (x1000:ByteArray) (ah:List af) (ay:List Int) (au:List Int) (x2000:Int) (aB:Int) (x3000:Int) (bW:Int) (bE:Bool) (bQ:Int),Wk C st ⟨[(0,.d (.ptr 0 0)),(1,.d (.v (I x1))),(3,.d (.v (I x3))),(9,.d (.ptr 1 0)),(10,.d (.ptr 2 0)),(13,.d (.v (I bF))),(14,.d (.v (I bY))),(100,.d (.v (B x100)))],[.cells [.v (S x1000),.v (.row (some 56) 5 (List.map (v56 1) ah)),.v (.row (some 3) 1 (List.map I ay)),.v (.row (some 3) 1 (List.map I au))],.cells [.v (I x2000),.v (I aB)],.cells [.v (I x3000),.v (I bW),.v (B bE),.v (I bQ)]]⟩∧bX.j1 n' x1 x3 bF bY x100 x1000 ah ay au x3000 bW bE=some r) ?_ ?_
  ·rcases (ak H).symm with ⟨uf,H⟩ | ⟨uf,H⟩
   ·refine Good.tZ hm hN (.q 0 [] (.q 1 [] (.q 2 [] (.q 3 [] (.k 83 (.i 4 (.i 5 (.i 6 (.q 7 [] (.q 8 [] (.k 88 (.i 9 (.i 10 (.i 11 (.i 12 (.i 13 (.i 14 (.i 15 (.i 16 (.i 17 (.i 18 (.i 19 (.q 20 [] .z))))))))))))))))))))))) [(0,some (.pt [S x1000,.row none 5 (List.map (v56 0) ah),.row none 1 (List.map I ay),.row none 1 (List.map I au)])),(10,some (.pt [I x3000,I bW,B bE,I bQ])),(13,none),(14,none)] (by kernel_rfl) (.cons (bV (aA (rfl:(V.shr (S x1000))=S x1000) (aA (aP (some 56) 5 (v56 1) (v56 0) ah (v56.shr _)) (aA (aP (some 3) 1 I I ay (fun _=>rfl)) (aA (aP (some 3) 1 I I au (fun _=>rfl)) (rfl:aZ []=[])))))) (.cons (bV (aA (rfl:(V.shr (I x3000))=I x3000) (aA (rfl:(V.shr (I bW))=I bW) (aA (rfl:(V.shr (B bE))=B bE) (aA (rfl:(V.shr (I bQ))=I bQ) (rfl:aZ []=[])))))) .nil)) [B false,B false] [] (.cons (beq_eq_false_iff_ne.2 uf) (.cons (rfl:false=false) .nil)) (.cons (beq_eq_false_iff_ne.2 uf) (.cons (rfl:false=false) .nil)) [] [] (by kernel_rfl) (by kernel_rfl) ?_
    exact ⟨k,by omega,x1,x3,bF,bY,false,x1000,ah,ay,au,x2000,aB,x3000,bW,bE,bQ,Wk.of [(0,0),(1,0),(3,0),(9,0),(10,0),(13,0),(14,0),(100,0)] (by kernel_rfl) (by kernel_rfl),H⟩
   rcases ak H with ⟨yA,H⟩ | ⟨yA,H⟩
   ·refine Good.tZ hm hN (.q 0 [] (.q 1 [] (.q 2 [] (.q 3 [] (.k 83 (.q 4 [] (.q 5 [] (.q 6 [] (.q 7 [] (.q 8 [] (.k 88 (.i 9 (.i 10 (.i 11 (.i 12 (.i 13 (.i 14 (.i 15 (.i 16 (.i 17 (.i 18 (.i 19 (.q 20 [] .z))))))))))))))))))))))) [(0,some (.pt [S x1000,.row none 5 (List.map (v56 0) ah),.row none 1 (List.map I ay),.row none 1 (List.map I au)])),(10,some (.pt [I x3000,I bW,B bE,I bQ])),(13,none),(14,none)] (by kernel_rfl) (.cons (bV (aA (rfl:(V.shr (S x1000))=S x1000) (aA (aP (some 56) 5 (v56 1) (v56 0) ah (v56.shr _)) (aA (aP (some 3) 1 I I ay (fun _=>rfl)) (aA (aP (some 3) 1 I I au (fun _=>rfl)) (rfl:aZ []=[])))))) (.cons (bV (aA (rfl:(V.shr (I x3000))=I x3000) (aA (rfl:(V.shr (I bW))=I bW) (aA (rfl:(V.shr (B bE))=B bE) (aA (rfl:(V.shr (I bQ))=I bQ) (rfl:aZ []=[])))))) .nil)) [B true,B false] [] (.cons (beq_iff_eq.2 uf) (.cons (eH yA) .nil)) (.cons (beq_iff_eq.2 uf) (.cons (eH yA) .nil)) [] [] (by kernel_rfl) (by kernel_rfl) ?_
    exact ⟨k,by omega,x1,x3,bF,bY,false,x1000,ah,ay,au,x2000,aB,x3000,bW,bE,bQ,Wk.of [(0,0),(1,0),(3,0),(9,0),(10,0),(13,0),(14,0),(100,0)] (by kernel_rfl) (by kernel_rfl),H⟩
   obtain ⟨VR,H⟩:=ax H
   obtain ⟨VS,H⟩:=ax H
   obtain ⟨VT,H⟩:=ax H
   obtain ⟨Cz,aej,H⟩:=aF H
   refine Good.tZ hm hN (.q 0 [] (.q 1 [] (.q 2 [] (.q 3 [] (.k 83 (.q 4 [] (.q 5 [] (.q 6 [] (.q 7 [] (.q 8 [] (.k 88 (.q 9 [] (.q 10 [] (.q 11 [] (.q 12 [] (.q 13 [] (.q 14 [] (.q 15 [] (.q 16 [] (.q 17 [] (.e 18 (.q 19 [] (.q 20 [] .z))))))))))))))))))))))) [(0,some (.pt [S x1000,.row none 5 (List.map (v56 0) ah),.row none 1 (List.map I ay),.row none 1 (List.map I au)])),(10,some (.pt [I x3000,I bW,B bE,I bQ])),(13,none),(14,none)] (by kernel_rfl) (.cons (bV (aA (rfl:(V.shr (S x1000))=S x1000) (aA (aP (some 56) 5 (v56 1) (v56 0) ah (v56.shr _)) (aA (aP (some 3) 1 I I ay (fun _=>rfl)) (aA (aP (some 3) 1 I I au (fun _=>rfl)) (rfl:aZ []=[])))))) (.cons (bV (aA (rfl:(V.shr (I x3000))=I x3000) (aA (rfl:(V.shr (I bW))=I bW) (aA (rfl:(V.shr (B bE))=B bE) (aA (rfl:(V.shr (I bQ))=I bQ) (rfl:aZ []=[])))))) .nil)) [B true,B true,B Cz] [] (.cons (beq_iff_eq.2 uf) (.cons (ed (Bool.eq_false_iff.2 yA)) (.cons VR (.cons VS (.cons VT (.cons (mF.az aej).c .nil)))))) (.cons (beq_iff_eq.2 uf) (.cons (ed (Bool.eq_false_iff.2 yA)) (.cons VR (.cons VS (.cons VT .nil))))) [] [] (by kernel_rfl) (by kernel_rfl) ?_
   exact ⟨k,by omega,x1,x3,bF,bY,!Cz,x1000,ah,ay,au,x2000,aB,x3000,bW,bE,bQ,Wk.of [(0,0),(1,0),(3,0),(9,0),(10,0),(13,0),(14,0),(100,0)] (by kernel_rfl) (by kernel_rfl),H⟩
  clear H
  rintro st ⟨n',hn',x1,x3,bF,bY,x100,x1000,ah,ay,au,x2000,aB,x3000,bW,bE,bQ,W,H⟩
  rcases n' with _ | k
  ·cases H
  refine W.good ?_
  rw [bX.j1] at H
  rcases ak H with ⟨Js,H⟩ | ⟨Js,H⟩
  ·refine Good.kS Js (by kernel_rfl) ?_
   refine Good.seq ?_
   obtain ⟨yz,aek,H⟩:=aF H
   refine Good.reg hN [.agg [I yz.1,I yz.2]] (.cons (fT.az aek).c .nil) [] (by kernel_rfl) ?_
   obtain rfl:=Option.some.inj H
   exact Good.ret (fU (.refl _) (dF.refl _) (by kernel_rfl) rfl)
  refine Good.kU (Bool.eq_false_iff.2 Js) (by kernel_rfl) ?_
  refine Good.skip ?_
  refine Good.seq ?_
  refine Good.reg hN [I (ah.length:Int)] (.cons (aR (v56 1) ah) .nil) [] (by kernel_rfl) ?_
  refine Good.seq ?_
  refine Good.reg hN [] .nil [] (by kernel_rfl) ?_
  refine Good.seq ?_
  refine Good.seq ?_
  refine Good.reg hN [] .nil [] (by kernel_rfl) ?_
  refine Good.cut (fun st=>∃ n':Nat,n'≤k∧∃ (x1:Int) (x3:Int) (bF:Int) (bY:Int) (aT:Int) (x1000:ByteArray) (ah:List af) (ay:List Int) (au:List Int) (x2000:Int) (aB:Int) (x3000:Int) (bW:Int) (bE:Bool) (bQ:Int) (x4000:Int) (kV:Int) (kW:Bool) (kX:ByteArray),Wk C st ⟨[(0,.d (.ptr 0 0)),(1,.d (.v (I x1))),(3,.d (.v (I x3))),(9,.d (.ptr 1 0)),(10,.d (.ptr 2 0)),(13,.d (.v (I bF))),(14,.d (.v (I bY))),(15,.d (.v (I aT))),(16,.d (.ptr 3 0))],[.cells [.v (S x1000),.v (.row (some 56) 5 (List.map (v56 1) ah)),.v (.row (some 3) 1 (List.map I ay)),.v (.row (some 3) 1 (List.map I au))],.cells [.v (I x2000),.v (I aB)],.cells [.v (I x3000),.v (I bW),.v (B bE),.v (I bQ)],.cells [.v (I x4000),.v (I kV),.v (B kW),.v (S kX),.v (.nil 3 1)]]⟩∧bX.j2 n' x1 x3 bF bY aT x1000 ah ay au bE x4000 kV kW kX=some r) ?_ ?_
  ·rcases ak H with ⟨Jt,H⟩ | ⟨Jt,H⟩
   ·refine Good.kU (eH Jt) (by kernel_rfl) ?_
    refine Good.skip ?_
    exact ⟨k,by omega,x1,x3,bF,bY,(ah.length:Int),x1000,ah,ay,au,x2000,aB,x3000,bW,bE,bQ,x3000,bW,bE,(⟨#[]⟩:ByteArray),Wk.of [(0,0),(1,0),(3,0),(9,0),(10,0),(13,0),(14,0),(15,0),(16,0)] (by kernel_rfl) (by kernel_rfl),H⟩
   refine Good.kS (ed (Bool.eq_false_iff.2 Jt)) (by kernel_rfl) ?_
   obtain ⟨ael,H⟩:=ax H
   obtain ⟨aem,H⟩:=ax H
   obtain ⟨aen,H⟩:=ax H
   refine Good.reg hN [] (.cons ael (.cons aem (.cons aen .nil))) [] (by kernel_rfl) ?_
   exact ⟨k,by omega,x1,x3,bF,bY,(ah.length:Int),x1000,ah,ay,au,x2000,aB,x3000,bW,bE,bQ,x3000,bW,bE,x1000.extract (bF:Int).toNat (bY:Int).toNat,Wk.of [(0,0),(1,0),(3,0),(9,0),(10,0),(13,0),(14,0),(15,0),(16,0)] (by kernel_rfl) (by kernel_rfl),H⟩
  clear H
  rintro st ⟨n',hn',x1,x3,bF,bY,aT,x1000,ah,ay,au,x2000,aB,x3000,bW,bE,bQ,x4000,kV,kW,kX,W,H⟩
  rcases n' with _ | k
  ·cases H
  refine W.good ?_
  rw [bX.j2] at H
  refine Good.seq ?_
  obtain ⟨aeo,H⟩:=ax H
  replace H:=oH H
  refine Good.tZ hm hN (.i 0 (.q 1 [[4,3,2],[]] (.q 2 [[4,3],[]] (.q 3 [[4],[]] (.q 4 [[],[]] (.q 5 [[6],[]] (.e 6 (.e 7 (.i 8 (.i 9 (.e 10 .z))))))))))) [(0,some (.pt [S x1000,.row none 5 (List.map (v56 0) ah),.row none 1 (List.map I ay),.row none 1 (List.map I au)])),(16,some (.pt [I x4000,I kV,B kW,S kX,.nil 3 1]))] (by kernel_rfl) (.cons (bV (aA (rfl:(V.shr (S x1000))=S x1000) (aA (aP (some 56) 5 (v56 1) (v56 0) ah (v56.shr _)) (aA (aP (some 3) 1 I I ay (fun _=>rfl)) (aA (aP (some 3) 1 I I au (fun _=>rfl)) (rfl:aZ []=[])))))) (.cons (bV (aA (rfl:(V.shr (I x4000))=I x4000) (aA (rfl:(V.shr (I kV))=I kV) (aA (rfl:(V.shr (B kW))=B kW) (aA (rfl:(V.shr (S kX))=S kX) (aA (rfl:(V.shr (.nil 3 1))=.nil 3 1) (rfl:aZ []=[]))))))) .nil)) [.kb true,.row (some 56) 5 (List.map (v56 1) (ah++[(⟨x4000,kV,kW,kX,([]:List Int)⟩:af)]))] [] (.cons (dL (v56 1) ah [(⟨x4000,kV,kW,kX,([]:List Int)⟩:af)] (.cons (.agg (.cons (.refl _) (.cons (.refl _) (.cons (.refl _) (.cons (.refl _) (.cons (.fP 3 1) .nil)))))) .nil)) (.cons (dZ (v56 1) aeo) .nil)) .nil [] [] (by kernel_rfl) (by kernel_rfl) ?_
  refine Good.seq ?_
  obtain ⟨aep,H⟩:=ax H
  replace H:=oH H
  refine Good.reg hN [.kb true,.row (some 3) 1 (List.map I (ay++[x1]))] (.cons (dL I ay [x1] (.refl _)) (.cons (dZ I aep) .nil)) [] (by kernel_rfl) ?_
  refine Good.seq ?_
  obtain ⟨aeq,H⟩:=ax H
  replace H:=oH H
  refine Good.reg hN [.kb true,.row (some 3) 1 (List.map I (au++[bY]))] (.cons (dL I au [bY] (.refl _)) (.cons (dZ I aeq) .nil)) [] (by kernel_rfl) ?_
  refine Good.seq ?_
  refine Good.seq ?_
  refine Good.reg hN [] .nil [] (by kernel_rfl) ?_
  rcases (ak H).symm with ⟨Ju,H⟩ | ⟨Ju,H⟩
  ·refine Good.kS (ed (Bool.eq_false_iff.2 Ju)) (by kernel_rfl) ?_
   refine Good.seq ?_
   refine Good.reg hN [] .nil [] (by kernel_rfl) ?_
   obtain rfl:=Option.some.inj H
   exact Good.ret (fU (.refl _) (dF.refl _) (by kernel_rfl) rfl)
  refine Good.kU (eH Ju) (by kernel_rfl) ?_
  refine Good.skip ?_
  refine Good.seq ?_
  refine Good.reg hN [] .nil [] (by kernel_rfl) ?_
  refine Good.seq ?_
  refine Good.block ?_
  refine Good.dK (fun k' st=>∃ (x3:Int) (bY:Int) (aT:Int) (dS:Int) (x1000:ByteArray) (ah:List af) (ay:List Int) (au:List Int) (x2000:Int) (aB:Int) (x3000:Int) (bW:Int) (bE:Bool) (bQ:Int) (x4000:Int) (kV:Int) (kW:Bool) (kX:ByteArray),k'≤k∧Wk C st ⟨[(0,.d (.ptr 0 0)),(3,.d (.v (I x3))),(9,.d (.ptr 1 0)),(14,.d (.v (I bY))),(15,.d (.v (I aT))),(17,.d (.v (I dS)))],[.cells [.v (S x1000),.v (.row (some 56) 5 (List.map (v56 1) ah)),.v (.row (some 3) 1 (List.map I ay)),.v (.row (some 3) 1 (List.map I au))],.cells [.v (I x2000),.v (I aB)],.cells [.v (I x3000),.v (I bW),.v (B bE),.v (I bQ)],.cells [.v (I x4000),.v (I kV),.v (B kW),.v (S kX),.v (.nil 3 1)]]⟩∧bX.l0 k' x3 bY aT dS x1000 ah ay au=some r) k ⟨x3,bY,aT,bF,x1000,(ah++[(⟨x4000,kV,kW,kX,([]:List Int)⟩:af)]),(ay++[x1]),(au++[bY]),x2000,aB,x3000,bW,bE,bQ,x4000,kV,kW,kX,Nat.le_refl _,Wk.of [(0,0),(3,0),(9,0),(14,0),(15,0),(17,0)] (by kernel_rfl) (by kernel_rfl),H⟩ fun k=>⟨fun st h=>(by obtain ⟨_,_,_,_,_,_,_,_,_,_,_,_,_,_,_,_,_,_,_,_,H⟩:=h;cases H),?_⟩
  clear H
  rintro st ⟨x3,bY,aT,dS,x1000,ah,ay,au,x2000,aB,x3000,bW,bE,bQ,x4000,kV,kW,kX,hk,W,H⟩
  refine W.good ?_
  rw [bX.l0] at H
  refine Good.seq ?_
  refine Good.seq ?_
  refine Good.reg hN [] .nil [] (by kernel_rfl) ?_
  rcases (ak H).symm with ⟨Jv,H⟩ | ⟨Jv,H⟩
  ·refine Good.kU (decide_eq_false Jv) (by kernel_rfl) ?_
   refine Good.exit ?_
   refine Good.seq ?_
   refine Good.reg hN [] .nil [] (by kernel_rfl) ?_
   obtain rfl:=Option.some.inj H
   exact Good.ret (fU (.refl _) (dF.refl _) (by kernel_rfl) rfl)
  refine Good.kS (decide_eq_true Jv) (by kernel_rfl) ?_
  refine Good.skip ?_
  refine Good.block ?_
  refine Good.seq ?_
  obtain ⟨jA,H⟩:=ax H
  obtain ⟨kH,H⟩:=ax H
  obtain ⟨Jw,H⟩:=ax H
  refine Good.qp (n:=3) hm hN hL (.i 0 (.i 1 (.i 2 (.i 4 (.q 5 [[12,11,10,8,7,6],[]] (.q 6 [[12,11,10,8,7],[]] (.q 7 [[12,11,10,8],[]] (.q 8 [[12,11,10],[]] (.q 9 [[12,11,10],[]] (.q 10 [[12,11],[]] (.q 11 [[12],[]] (.q 12 [[],[]] (.q 13 [[18,17,16,15,14],[]] (.q 14 [[18,17,16,15],[]] (.q 15 [[18,17,16],[]] (.q 16 [[18,17],[]] (.q 17 [[18],[]] (.b 3 [.kb true,(v56 1) (aa ah aT),.row (some 3) 1 (List.map I (((aa ah aT).f4)++[(ah.length:Int)])),dX ((v56 1) (aa ah aT)) 4 [.any],(v56 1) (⟨(aa ah aT).f0,(aa ah aT).f1,(aa ah aT).f2,(aa ah aT).f3,(((aa ah aT).f4)++[(ah.length:Int)])⟩:af),.row (some 56) 5 (List.map (v56 1) (ah.set (aT:Int).toNat (⟨(aa ah aT).f0,(aa ah aT).f1,(aa ah aT).f2,(aa ah aT).f3,(((aa ah aT).f4)++[(ah.length:Int)])⟩:af)))] [] (.e 18 (.e 19 (.e 20 (.e 21 (.e 22 .z))))) [] [] (.e 18 (.b 3 [.kb true,(v56 1) (aa ah aT),.row (some 3) 1 (List.map I (((aa ah aT).f4)++[(ah.length:Int)])),dX ((v56 1) (aa ah aT)) 4 [.any],(v56 1) (⟨(aa ah aT).f0,(aa ah aT).f1,(aa ah aT).f2,(aa ah aT).f3,(((aa ah aT).f4)++[(ah.length:Int)])⟩:af),.row (some 56) 5 (List.map (v56 1) (ah.set (aT:Int).toNat (⟨(aa ah aT).f0,(aa ah aT).f1,(aa ah aT).f2,(aa ah aT).f3,(((aa ah aT).f4)++[(ah.length:Int)])⟩:af)))] [] (.e 19 (.e 20 (.e 21 (.e 22 .z)))) [.kb true,(v56 1) (aa ah aT),.row (some 3) 1 (List.map I (((aa ah aT).f4)++[(ah.length:Int)])),dX ((v56 1) (aa ah aT)) 4 [.any],(v56 1) (⟨(aa ah aT).f0,(aa ah aT).f1,(aa ah aT).f2,(aa ah aT).f3,(((aa ah aT).f4)++[(ah.length:Int)])⟩:af),.row (some 56) 5 (List.map (v56 1) (ah.set (aT:Int).toNat (⟨(aa ah aT).f0,(aa ah aT).f1,(aa ah aT).f2,(aa ah aT).f3,(((aa ah aT).f4)++[(ah.length:Int)])⟩:af)))] [] (.e 19 (.e 3 (.e 20 (.e 21 (.e 22 .z))))))))))))))))))))))))) [(0,some (.pt [S x1000,.row none 5 (List.map (v56 0) ah),.row none 1 (List.map I ay),.row none 1 (List.map I au)])),(15,none)] (by kernel_rfl) (.cons (bV (aA (rfl:(V.shr (S x1000))=S x1000) (aA (aP (some 56) 5 (v56 1) (v56 0) ah (v56.shr _)) (aA (aP (some 3) 1 I I ay (fun _=>rfl)) (aA (aP (some 3) 1 I I au (fun _=>rfl)) (rfl:aZ []=[])))))) .nil) [(v56 1) (aa ah aT),I (ah.length:Int)] [(v56 0) (aa ah aT),I (ah.length:Int)] (.cons (.cons jA (.cons (eF (v56 1) kH) (.cons (aG (v56 1) z56 jA kH) (.cons (aR (v56 1) ah) (.cons (aG (v56 1) z56 jA kH) (.cons (dL I ((aa ah aT).f4) [(ah.length:Int)] (.refl _)) (.cons (dZ I Jw) (.cons jA (.cons (sF (v56 1) (m:=(aT:Int).toNat) (X:=dX ((v56 1) (aa ah aT)) 4 [.any]) kH) (.cons (sG (v56 1) (X:=dX ((v56 1) (aa ah aT)) 4 [.any]) jA kH) (.cons (Fit.refl ((v56 1) (⟨(aa ah aT).f0,(aa ah aT).f1,(aa ah aT).f2,(aa ah aT).f3,(((aa ah aT).f4)++[(ah.length:Int)])⟩:af))) (.cons (setH (v56 1) (l:=ah) (n:=(aT:Int).toNat) (x:=(⟨(aa ah aT).f0,(aa ah aT).f1,(aa ah aT).f2,(aa ah aT).f3,(((aa ah aT).f4)++[(ah.length:Int)])⟩:af)) (X:=dX ((v56 1) (aa ah aT)) 4 [.any])) .nil)))))))))))) (.cons jA (.cons (aG (v56 0) z56 jA kH) (.cons (aR (v56 0) ah) .nil))) (.cons (.cons jA (.cons (eF (v56 1) kH) (.cons (aG (v56 1) z56 jA kH) (.cons (aR (v56 1) ah) (.cons (aG (v56 1) z56 jA kH) (.cons (dL I ((aa ah aT).f4) [(ah.length:Int)] (.refl _)) (.cons (dZ I Jw) (.cons jA (.cons (sF (v56 1) (m:=(aT:Int).toNat) (X:=dX ((v56 1) (aa ah aT)) 4 [.any]) kH) (.cons (sG (v56 1) (X:=dX ((v56 1) (aa ah aT)) 4 [.any]) jA kH) (.cons (Fit.refl ((v56 1) (⟨(aa ah aT).f0,(aa ah aT).f1,(aa ah aT).f2,(aa ah aT).f3,(((aa ah aT).f4)++[(ah.length:Int)])⟩:af))) (.cons (setH (v56 1) (l:=ah) (n:=(aT:Int).toNat) (x:=(⟨(aa ah aT).f0,(aa ah aT).f1,(aa ah aT).f2,(aa ah aT).f3,(((aa ah aT).f4)++[(ah.length:Int)])⟩:af)) (X:=dX ((v56 1) (aa ah aT)) 4 [.any])) .nil)))))))))))) (.cons jA (.cons (aG (v56 0) z56 jA kH) (.cons (aR (v56 0) ah) .nil))) (.cons (.cons jA (.cons (eF (v56 1) kH) (.cons (aG (v56 1) z56 jA kH) (.cons (aR (v56 1) ah) (.cons (aG (v56 1) z56 jA kH) (.cons (dL I ((aa ah aT).f4) [(ah.length:Int)] (.refl _)) (.cons (dZ I Jw) (.cons jA (.cons (sF (v56 1) (m:=(aT:Int).toNat) (X:=dX ((v56 1) (aa ah aT)) 4 [.any]) kH) (.cons (sG (v56 1) (X:=dX ((v56 1) (aa ah aT)) 4 [.any]) jA kH) (.cons (Fit.refl ((v56 1) (⟨(aa ah aT).f0,(aa ah aT).f1,(aa ah aT).f2,(aa ah aT).f3,(((aa ah aT).f4)++[(ah.length:Int)])⟩:af))) (.cons (setH (v56 1) (l:=ah) (n:=(aT:Int).toNat) (x:=(⟨(aa ah aT).f0,(aa ah aT).f1,(aa ah aT).f2,(aa ah aT).f3,(((aa ah aT).f4)++[(ah.length:Int)])⟩:af)) (X:=dX ((v56 1) (aa ah aT)) 4 [.any])) .nil)))))))))))) (.cons jA (.cons (aG (v56 0) z56 jA kH) (.cons (aR (v56 0) ah) .nil))) .nil))) [] [] (by kernel_rfl) (by kernel_rfl) [[],[],[]] [(0,0),(3,0),(9,0),(14,0),(15,0),(17,0)] [(0,.d (.ptr 0 0)),(3,.d (.v (I x3))),(9,.d (.ptr 1 0)),(14,.d (.v (I bY))),(15,.d (.v (I aT))),(17,.d (.v (I dS)))] [.cells [.v (S x1000),.v (.row (some 56) 5 (List.map (v56 1) (ah.set (aT:Int).toNat (⟨(aa ah aT).f0,(aa ah aT).f1,(aa ah aT).f2,(aa ah aT).f3,(((aa ah aT).f4)++[(ah.length:Int)])⟩:af)))),.v (.row (some 3) 1 (List.map I ay)),.v (.row (some 3) 1 (List.map I au))],.cells [.v (I x2000),.v (I aB)],.cells [.v (I x3000),.v (I bW),.v (B bE),.v (I bQ)],.cells [.v (I x4000),.v (I kV),.v (B kW),.v (S kX),.v (.nil 3 1)]] (by kernel_rfl) (by kernel_rfl) ?_
  refine Good.seq ?_
  obtain ⟨gz,aer,H⟩:=aF H
  refine Good.reg hN [.aC [I gz.1,.agg [I gz.2.1,I gz.2.2.1]],.aC [.agg [S gz.2.2.2.1,.row (some 56) 5 (List.map (v56 1) gz.2.2.2.2.1),.row (some 3) 1 (List.map I gz.2.2.2.2.2.1),.row (some 3) 1 (List.map I gz.2.2.2.2.2.2)]]] (.cons (ih _ _ _ _ _ _ _ _ _ (by omega) aer).c .nil) [] (by kernel_rfl) ?_
  refine Good.seq ?_
  refine Good.seq ?_
  refine Good.reg hN [] .nil [] (by kernel_rfl) ?_
  rcases ak H with ⟨Jy,H⟩ | ⟨Jy,H⟩
  ·refine Good.kU (dE Jy) (by kernel_rfl) ?_
   refine Good.skip ?_
   refine Good.reg hN [] .nil [] (by kernel_rfl) ?_
   exact ⟨k,by omega,x3,bY,aT,gz.1,gz.2.2.2.1,gz.2.2.2.2.1,gz.2.2.2.2.2.1,gz.2.2.2.2.2.2,x2000,aB,x3000,bW,bE,bQ,x4000,kV,kW,kX,by omega,Wk.mq hL 4 [(0,0),(3,0),(9,0),(14,0),(15,0),(17,0)] (by kernel_rfl) (by kernel_rfl) (by kernel_rfl),H⟩
  refine Good.kS (bne_iff_ne.2 Jy) (by kernel_rfl) ?_
  refine Good.seq ?_
  refine Good.tZ hm hN (.q 0 [[]] (.q 1 [[]] (.e 2 .z))) [(9,some (.pt [I x2000,I aB])),(19,some (.pt [I gz.2.1,I gz.2.2.1]))] (by kernel_rfl) (.cons (bV (aA (rfl:(V.shr (I x2000))=I x2000) (aA (rfl:(V.shr (I aB))=I aB) (rfl:aZ []=[])))) (.cons (bV (aA (rfl:(V.shr (I gz.2.1))=I gz.2.1) (aA (rfl:(V.shr (I gz.2.2.1))=I gz.2.2.1) (rfl:aZ []=[])))) .nil)) [] [] .nil .nil [] [] (by kernel_rfl) (by kernel_rfl) ?_
  obtain rfl:=Option.some.inj H
  exact Good.ret (fU (.refl _) (dF.refl _) (by kernel_rfl) rfl)
theorem bX.az {k:Nat} {aK:ByteArray} {av:List af} {bu:List Int} {aj:List Int} {a1:Int} {a2:Int} {a3:Int} {r:(Int × Int × Int × ByteArray × List af × List Int × List Int)} (H:bX.f k aK av bu aj a1 a2 a3=some r):kI Tryz.prog 70 [.ptr 0 0,.v (I a1),.v (I a2),.v (I a3)] [[S aK,.row (some 56) 5 (List.map (v56 1) av),.row (some 3) 1 (List.map I bu),.row (some 3) 1 (List.map I aj)]] (.v (.aC [I r.1,.agg [I r.2.1,I r.2.2.1]])) [[S r.2.2.2.1,.row (some 56) 5 (List.map (v56 1) r.2.2.2.2.1),.row (some 3) 1 (List.map I r.2.2.2.2.2.1),.row (some 3) 1 (List.map I r.2.2.2.2.2.2)]]:=bX.cons k k aK av bu aj a1 a2 a3 r (Nat.le_refl _) H
def ou.f (k:Nat) (a0:ByteArray):Option (ByteArray × List af × List Int × List Int × Int × Int):=if a0.toList=([]:List UInt8) then ((fT.f 3 0).bind fun yB=>(some (a0,([]:List af),([]:List Int),([]:List Int),yB.1,yB.2))) else (if (a0.size:Int) > 65535 then ((fT.f 4 0).bind fun yC=>(some (a0,([]:List af),([]:List Int),([]:List Int),yC.1,yC.2))) else ((bX.f k a0 ([]:List af) ([]:List Int) ([]:List Int) 0 (a0.size:Int) 1).bind fun aY=>(if aY.2.1=0 then (if aY.1 < (a0.size:Int) then ((fT.f 5 aY.1).bind fun oI=>(some (aY.2.2.2.1,aY.2.2.2.2.1,aY.2.2.2.2.2.1,aY.2.2.2.2.2.2,oI.1,oI.2))) else (some (aY.2.2.2.1,aY.2.2.2.2.1,aY.2.2.2.2.2.1,aY.2.2.2.2.2.2,aY.2.1,aY.2.2.1))) else (some (aY.2.2.2.1,aY.2.2.2.2.1,aY.2.2.2.2.2.1,aY.2.2.2.2.2.2,aY.2.1,aY.2.2.1)))))
theorem ou.az {k:Nat} {a0:ByteArray} {r:(ByteArray × List af × List Int × List Int × Int × Int)} (H:ou.f k a0=some r):aW Tryz.prog 45 [S a0] (.aC [.pt [S r.1,.row none 5 (List.map (v56 0) r.2.1),.row none 1 (List.map I r.2.2.1),.row none 1 (List.map I r.2.2.2.1)],.agg [I r.2.2.2.2.1,I r.2.2.2.2.2]]):=by
 refine Cg Tryz.func45 rfl fun C hN hL=>?_
 unfold ou.f at H
 refine Sw<|Rg hN<|Sw<|Rg hN<|Sw<|Sw<|Ri hN [] (.cons (fA (rfl:a0.toList=a0.toList) (eU ([]:List UInt8))) .nil) [(11,.bool (a0.toList == ([]:List UInt8)))] ?_
 rcases ak H with ⟨Jz,H⟩ | ⟨Jz,H⟩
 ·refine Ct (bq Jz)<|Sw ?_
  obtain ⟨yB,aes,H⟩:=aF H
  refine Rh hN [.agg [I yB.1,I yB.2]] (.cons (fT.az aes).c .nil) ?_
  cases H
  exact Good.WT 1 (us:=[S a0,.nil 56 5,.nil 3 1,.nil 3 1]) (ds:=[S a0,.row none 5 (List.map (v56 0) ([]:List af)),.row none 1 (List.map I ([]:List Int)),.row none 1 (List.map I ([]:List Int))]) (by kernel_rfl) (.cons (.refl _) (.cons (.dP 56 5 _) (.cons (.dP 3 1 _) (.cons (.dP 3 1 _) .nil))))<|Good.qY 2 1 0 (us:=[S a0,.row none 5 (List.map (v56 0) ([]:List af)),.row none 1 (List.map I ([]:List Int)),.row none 1 (List.map I ([]:List Int))]) (us':=[S a0,.row none 5 (List.map (v56 0) ([]:List af)),.row none 1 (List.map I ([]:List Int)),.row none 1 (List.map I ([]:List Int))]) (by kernel_rfl) (by kernel_rfl) (aA (rfl:(V.shr (S a0))=S a0) (aA (aP none 5 (v56 0) (v56 0) ([]:List af) (v56.shr _)) (aA (aP none 1 I I ([]:List Int) (fun _=>rfl)) (aA (aP none 1 I I ([]:List Int) (fun _=>rfl)) (rfl:aZ []=[])))))<|Rt dR
 refine Cf (bn Jz)<|Sk<|Sw<|Sw<|Rg hN ?_
 rcases ak H with ⟨JA,H⟩ | ⟨JA,H⟩
 ·refine Ct (dt JA)<|Sw ?_
  obtain ⟨yC,aet,H⟩:=aF H
  refine Rh hN [.agg [I yC.1,I yC.2]] (.cons (fT.az aet).c .nil) ?_
  cases H
  exact Good.WT 1 (us:=[S a0,.nil 56 5,.nil 3 1,.nil 3 1]) (ds:=[S a0,.row none 5 (List.map (v56 0) ([]:List af)),.row none 1 (List.map I ([]:List Int)),.row none 1 (List.map I ([]:List Int))]) (by kernel_rfl) (.cons (.refl _) (.cons (.dP 56 5 _) (.cons (.dP 3 1 _) (.cons (.dP 3 1 _) .nil))))<|Good.qY 2 1 0 (us:=[S a0,.row none 5 (List.map (v56 0) ([]:List af)),.row none 1 (List.map I ([]:List Int)),.row none 1 (List.map I ([]:List Int))]) (us':=[S a0,.row none 5 (List.map (v56 0) ([]:List af)),.row none 1 (List.map I ([]:List Int)),.row none 1 (List.map I ([]:List Int))]) (by kernel_rfl) (by kernel_rfl) (aA (rfl:(V.shr (S a0))=S a0) (aA (aP none 5 (v56 0) (v56 0) ([]:List af) (v56.shr _)) (aA (aP none 1 I I ([]:List Int) (fun _=>rfl)) (aA (aP none 1 I I ([]:List Int) (fun _=>rfl)) (rfl:aZ []=[])))))<|Rt dR
 refine Cf (df JA)<|Sk<|Sw ?_
 obtain ⟨aY,aeu,H⟩:=aF H
 refine Rh hN [.aC [I aY.1,.agg [I aY.2.1,I aY.2.2.1]],.aC [.agg [S aY.2.2.2.1,.row (some 56) 5 (List.map (v56 1) aY.2.2.2.2.1),.row (some 3) 1 (List.map I aY.2.2.2.2.2.1),.row (some 3) 1 (List.map I aY.2.2.2.2.2.2)]]] (.cons (kI.n (bX.az aeu) (.cons (.refl _) (.cons (.refl _) (.cons (.refl _) (.cons (.refl _) .nil)))) (.cons (.cons (.refl _) (.cons (.fP 56 5) (.cons (.fP 3 1) (.cons (.fP 3 1) .nil)))) .nil)) .nil)<|Sw<|Sw ?_
 rcases (ak H).symm with ⟨JB,H⟩ | ⟨JB,H⟩
 ·refine Rh hN [B false] (.cons (bn JB) .nil)<|Good.cond false (by kernel_rfl)<|Sk<|Sw<|Rd hm hN (.q 0 [[]] (.q 1 [[]] (.q 2 [[]] (.e 3 .z)))) [(3,some (.pt [I 0,I 0])),(4,some (.pt [S aY.2.2.2.1,.row none 5 (List.map (v56 0) aY.2.2.2.2.1),.row none 1 (List.map I aY.2.2.2.2.2.1),.row none 1 (List.map I aY.2.2.2.2.2.2)])),(6,some (.pt [I aY.2.1,I aY.2.2.1]))] (.cons (bV (aA (rfl:(V.shr (I 0))=I 0) (aA (rfl:(V.shr (I 0))=I 0) (rfl:aZ []=[])))) (.cons (bV (aA (rfl:(V.shr (S aY.2.2.2.1))=S aY.2.2.2.1) (aA (aP (some 56) 5 (v56 1) (v56 0) aY.2.2.2.2.1 (v56.shr _)) (aA (aP (some 3) 1 I I aY.2.2.2.2.2.1 (fun _=>rfl)) (aA (aP (some 3) 1 I I aY.2.2.2.2.2.2 (fun _=>rfl)) (rfl:aZ []=[])))))) (.cons (bV (aA (rfl:(V.shr (I aY.2.1))=I aY.2.1) (aA (rfl:(V.shr (I aY.2.2.1))=I aY.2.2.1) (rfl:aZ []=[])))) .nil))) [] [] .nil .nil [] [] ?_
  cases H
  exact Good.qY 2 1 0 (us:=[S aY.2.2.2.1,.row (some 56) 5 (List.map (v56 1) aY.2.2.2.2.1),.row (some 3) 1 (List.map I aY.2.2.2.2.2.1),.row (some 3) 1 (List.map I aY.2.2.2.2.2.2)]) (us':=[S aY.2.2.2.1,.row none 5 (List.map (v56 0) aY.2.2.2.2.1),.row none 1 (List.map I aY.2.2.2.2.2.1),.row none 1 (List.map I aY.2.2.2.2.2.2)]) (by kernel_rfl) (by kernel_rfl) (aA (rfl:(V.shr (S aY.2.2.2.1))=S aY.2.2.2.1) (aA (aP (some 56) 5 (v56 1) (v56 0) aY.2.2.2.2.1 (v56.shr _)) (aA (aP (some 3) 1 I I aY.2.2.2.2.2.1 (fun _=>rfl)) (aA (aP (some 3) 1 I I aY.2.2.2.2.2.2 (fun _=>rfl)) (rfl:aZ []=[])))))<|Rt dR
 refine Rh hN [B true] (.cons (bq JB) .nil) ?_
 rcases (ak H).symm with ⟨JC,H⟩ | ⟨JC,H⟩
 ·refine Cf (df JC)<|Sk<|Sw<|Rd hm hN (.q 0 [[]] (.q 1 [[]] (.q 2 [[]] (.e 3 .z)))) [(3,some (.pt [I 0,I 0])),(4,some (.pt [S aY.2.2.2.1,.row none 5 (List.map (v56 0) aY.2.2.2.2.1),.row none 1 (List.map I aY.2.2.2.2.2.1),.row none 1 (List.map I aY.2.2.2.2.2.2)])),(6,some (.pt [I aY.2.1,I aY.2.2.1]))] (.cons (bV (aA (rfl:(V.shr (I 0))=I 0) (aA (rfl:(V.shr (I 0))=I 0) (rfl:aZ []=[])))) (.cons (bV (aA (rfl:(V.shr (S aY.2.2.2.1))=S aY.2.2.2.1) (aA (aP (some 56) 5 (v56 1) (v56 0) aY.2.2.2.2.1 (v56.shr _)) (aA (aP (some 3) 1 I I aY.2.2.2.2.2.1 (fun _=>rfl)) (aA (aP (some 3) 1 I I aY.2.2.2.2.2.2 (fun _=>rfl)) (rfl:aZ []=[])))))) (.cons (bV (aA (rfl:(V.shr (I aY.2.1))=I aY.2.1) (aA (rfl:(V.shr (I aY.2.2.1))=I aY.2.2.1) (rfl:aZ []=[])))) .nil))) [] [] .nil .nil [] [] ?_
  cases H
  exact Good.qY 2 1 0 (us:=[S aY.2.2.2.1,.row (some 56) 5 (List.map (v56 1) aY.2.2.2.2.1),.row (some 3) 1 (List.map I aY.2.2.2.2.2.1),.row (some 3) 1 (List.map I aY.2.2.2.2.2.2)]) (us':=[S aY.2.2.2.1,.row none 5 (List.map (v56 0) aY.2.2.2.2.1),.row none 1 (List.map I aY.2.2.2.2.2.1),.row none 1 (List.map I aY.2.2.2.2.2.2)]) (by kernel_rfl) (by kernel_rfl) (aA (rfl:(V.shr (S aY.2.2.2.1))=S aY.2.2.2.1) (aA (aP (some 56) 5 (v56 1) (v56 0) aY.2.2.2.2.1 (v56.shr _)) (aA (aP (some 3) 1 I I aY.2.2.2.2.2.1 (fun _=>rfl)) (aA (aP (some 3) 1 I I aY.2.2.2.2.2.2 (fun _=>rfl)) (rfl:aZ []=[])))))<|Rt dR
 refine Ct (dt JC) ?_
 obtain ⟨oI,aev,H⟩:=aF H
 refine Rh hN [.agg [I oI.1,I oI.2]] (.cons (fT.az aev).c .nil)<|Sw<|Rd hm hN (.q 0 [[]] (.q 1 [[]] (.q 2 [[]] (.e 3 .z)))) [(3,some (.pt [I 0,I 0])),(4,some (.pt [S aY.2.2.2.1,.row none 5 (List.map (v56 0) aY.2.2.2.2.1),.row none 1 (List.map I aY.2.2.2.2.2.1),.row none 1 (List.map I aY.2.2.2.2.2.2)])),(6,some (.pt [I oI.1,I oI.2]))] (.cons (bV (aA (rfl:(V.shr (I 0))=I 0) (aA (rfl:(V.shr (I 0))=I 0) (rfl:aZ []=[])))) (.cons (bV (aA (rfl:(V.shr (S aY.2.2.2.1))=S aY.2.2.2.1) (aA (aP (some 56) 5 (v56 1) (v56 0) aY.2.2.2.2.1 (v56.shr _)) (aA (aP (some 3) 1 I I aY.2.2.2.2.2.1 (fun _=>rfl)) (aA (aP (some 3) 1 I I aY.2.2.2.2.2.2 (fun _=>rfl)) (rfl:aZ []=[])))))) (.cons (bV (aA (rfl:(V.shr (I oI.1))=I oI.1) (aA (rfl:(V.shr (I oI.2))=I oI.2) (rfl:aZ []=[])))) .nil))) [] [] .nil .nil [] [] ?_
 cases H
 exact Good.qY 2 1 0 (us:=[S aY.2.2.2.1,.row (some 56) 5 (List.map (v56 1) aY.2.2.2.2.1),.row (some 3) 1 (List.map I aY.2.2.2.2.2.1),.row (some 3) 1 (List.map I aY.2.2.2.2.2.2)]) (us':=[S aY.2.2.2.1,.row none 5 (List.map (v56 0) aY.2.2.2.2.1),.row none 1 (List.map I aY.2.2.2.2.2.1),.row none 1 (List.map I aY.2.2.2.2.2.2)]) (by kernel_rfl) (by kernel_rfl) (aA (rfl:(V.shr (S aY.2.2.2.1))=S aY.2.2.2.1) (aA (aP (some 56) 5 (v56 1) (v56 0) aY.2.2.2.2.1 (v56.shr _)) (aA (aP (some 3) 1 I I aY.2.2.2.2.2.1 (fun _=>rfl)) (aA (aP (some 3) 1 I I aY.2.2.2.2.2.2 (fun _=>rfl)) (rfl:aZ []=[])))))<|Rt dR
def lG.f (k:Nat) (a0:ByteArray):Option (List af × Int × Int):=(ou.f k a0).bind fun iq=>(if iq.2.2.2.2.1=0 then (some (iq.2.1,iq.2.2.2.2.1,iq.2.2.2.2.2)) else (some (([]:List af),iq.2.2.2.2.1,iq.2.2.2.2.2)))
theorem lG.az {k:Nat} {a0:ByteArray} {r:(List af × Int × Int)} (H:lG.f k a0=some r):aW Tryz.prog 23 [S a0] (.aC [.row none 5 (List.map (v56 0) r.1),.agg [I r.2.1,I r.2.2]]):=by
 refine Cg Tryz.func23 rfl fun C hN hL=>?_
 unfold lG.f at H
 refine Sw<|Rg hN<|Sw ?_
 obtain ⟨iq,aew,H⟩:=aF H
 refine Rh hN [.aC [.pt [S iq.1,.row none 5 (List.map (v56 0) iq.2.1),.row none 1 (List.map I iq.2.2.1),.row none 1 (List.map I iq.2.2.2.1)],.agg [I iq.2.2.2.2.1,I iq.2.2.2.2.2]]] (.cons (ou.az aew).c .nil)<|Sw<|Sw<|Rg hN ?_
 rcases (ak H).symm with ⟨JD,H⟩ | ⟨JD,H⟩
 ·refine Ct (nq JD)<|Sw<|Rd hm hN (.q 0 [[]] (.q 1 [[]] (.e 2 .z))) [(3,some (.pt [I 0,I 0])),(5,some (.pt [I iq.2.2.2.2.1,I iq.2.2.2.2.2]))] (.cons (bV (aA (rfl:(V.shr (I 0))=I 0) (aA (rfl:(V.shr (I 0))=I 0) (rfl:aZ []=[])))) (.cons (bV (aA (rfl:(V.shr (I iq.2.2.2.2.1))=I iq.2.2.2.2.1) (aA (rfl:(V.shr (I iq.2.2.2.2.2))=I iq.2.2.2.2.2) (rfl:aZ []=[])))) .nil)) [] [] .nil .nil [] [] ?_
  cases H
  exact Good.ret (eY (u:=.aC [.nil 56 5,.agg [I iq.2.2.2.2.1,I iq.2.2.2.2.2]]) (.aC (.cons (.dP 56 5 _) (.cons (.refl _) .nil))) (by kernel_rfl))
 refine Cf (dE JD)<|Sk<|Sw<|Rd hm hN (.q 0 [[]] (.q 1 [[]] (.q 2 [[]] (.q 3 [[]] (.q 4 [[]] (.q 5 [[]] (.e 6 .z))))))) [(3,some (.pt [I 0,I 0])),(4,none),(5,some (.pt [I iq.2.2.2.2.1,I iq.2.2.2.2.2]))] (.cons (bV (aA (rfl:(V.shr (I 0))=I 0) (aA (rfl:(V.shr (I 0))=I 0) (rfl:aZ []=[])))) (.cons (bV (aA (rfl:(V.shr (I iq.2.2.2.2.1))=I iq.2.2.2.2.1) (aA (rfl:(V.shr (I iq.2.2.2.2.2))=I iq.2.2.2.2.2) (rfl:aZ []=[])))) .nil)) [] [] .nil .nil [] [] ?_
 cases H
 exact Rt dR
def mY.f (a0:Int) (a1:Int) (a2:ByteArray):Option (List af):=some ([(⟨a0,a1,false,a2,([]:List Int)⟩:af)]:List af)
theorem mY.az {a0:Int} {a1:Int} {a2:ByteArray} {r:(List af)} (H:mY.f a0 a1 a2=some r):aW Tryz.prog 36 [I a0,I a1,S a2] (.row (some 56) 5 (List.map (v56 0) r)):=by
 refine Cg Tryz.func36 rfl fun C hN hL=>?_
 unfold mY.f at H
 refine Sw<|Rg hN<|Sw<|Rj hN [] (.cons (Dv (o:=some 56) (sz:=5) (n:=[.agg [I a0,I a1,B false,S a2,.row none 1 (List.map I ([]:List Int))]]) (.cons (.agg (.cons (.refl _) (.cons (.refl _) (.cons (.refl _) (.cons (.refl _) (.cons (.dP 3 1 _) .nil)))))) .nil)) .nil) [] [(11,.row (some 56) 5 (List.map (v56 0) ([(⟨a0,a1,false,a2,([]:List Int)⟩:af)]:List af)))] ?_
 cases H
 exact Rt dR
def jr.l0:Nat→ByteArray→List ByteArray→Int→Option (List ByteArray × Int × Int)
 | 0,_,_,_=>none
 | k+1,x0,x4,x5=>if x5 < (x0.size:Int) then (if 0≤x5 then (if x5≤(x0.size:Int) then ((gL.f k (x0.extract (x5:Int).toNat x0.size)).bind fun iw=>(if iw.2.2.2.2.2=0 then (if (wrap64 ((wrap64 (x5+iw.2.2.2.2.1))+iw.2.2.2.1)) > (x0.size:Int) then ((fT.f 5 x5).bind fun ug=>(some (([]:List ByteArray),ug.1,ug.2))) else (if x5≤(wrap64 ((wrap64 (x5+iw.2.2.2.2.1))+iw.2.2.2.1)) then (if (wrap64 ((wrap64 (x5+iw.2.2.2.2.1))+iw.2.2.2.1))≤(x0.size:Int) then (if x4.length < 8796093022208 then (jr.l0 k x0 (x4++[x0.extract (x5:Int).toNat ((wrap64 ((wrap64 (x5+iw.2.2.2.2.1))+iw.2.2.2.1)):Int).toNat]) (wrap64 ((wrap64 (x5+iw.2.2.2.2.1))+iw.2.2.2.1))) else (none)) else (none)) else (none))) else ((fT.f iw.2.2.2.2.2 x5).bind fun uh=>(some (([]:List ByteArray),uh.1,uh.2))))) else (none)) else (none)) else (some (x4,0,0))
def jr.f (k:Nat) (a0:ByteArray):Option (List ByteArray × Int × Int):=if (a0.size:Int) > 65535 then ((fT.f 4 0).bind fun ui=>(some (([]:List ByteArray),ui.1,ui.2))) else (jr.l0 k a0 ([]:List ByteArray) 0)
theorem jr.az {k:Nat} {a0:ByteArray} {r:(List ByteArray × Int × Int)} (H:jr.f k a0=some r):aW Tryz.prog 37 [S a0] (.aC [.row (some 9) 1 (List.map S r.1),.agg [I r.2.1,I r.2.2]]):=by
 refine Cg Tryz.func37 rfl fun C hN hL=>?_
 unfold jr.f at H
 refine Sw<|Rg hN<|Sw<|Rg hN<|Sw<|Sw<|Rg hN ?_
 rcases ak H with ⟨JE,H⟩ | ⟨JE,H⟩
 ·refine Ct (dt JE)<|Sw ?_
  obtain ⟨ui,aex,H⟩:=aF H
  refine Rh hN [.agg [I ui.1,I ui.2]] (.cons (fT.az aex).c .nil) ?_
  cases H
  exact Good.ret (eY (u:=.aC [.nil 9 1,.agg [I ui.1,I ui.2]]) (.aC (.cons (.fP 9 1) (.cons (.refl _) .nil))) (by kernel_rfl))
 refine Cf (df JE)<|Sk<|Sw<|Sw<|Rg hN<|Bl<|Good.dK (fun k' st=>∃ (x0:ByteArray) (x4:List ByteArray) (x5:Int) (x1000:Int) (ah:Int),k'≤k∧Wk C st ⟨[(0,.w (S x0)),(3,.d (.ptr 0 0)),(4,.w (.row (some 9) 1 (List.map S x4))),(5,.w (I x5))],[.cells [.v (I x1000),.v (I ah)]]⟩∧jr.l0 k' x0 x4 x5=some r) k ⟨a0,([]:List ByteArray),0,0,0,Nat.le_refl _,Wo [(0,0),(3,0),(4,1),(5,0)],H⟩ fun k=>⟨fun st h=>(by obtain ⟨_,_,_,_,_,_,_,H⟩:=h;cases H),?_⟩
 clear H
 rintro st ⟨x0,x4,x5,x1000,ah,hk,W,H⟩
 refine W.good ?_
 rw [jr.l0] at H
 refine Sw<|Sw<|Rg hN ?_
 rcases (ak H).symm with ⟨JF,H⟩ | ⟨JF,H⟩
 ·refine Cf (df JF)<|Ex<|Sw<|Rg hN ?_
  cases H
  exact Rt dR
 refine Ct (dt JF)<|Sk<|Bl<|Sw ?_
 obtain ⟨VU,H⟩:=ax H
 obtain ⟨aey,H⟩:=ax H
 obtain ⟨iw,aez,H⟩:=aF H
 refine Rh hN [.aC [.agg [I iw.1,I iw.2.1,B iw.2.2.1,I iw.2.2.2.1],I iw.2.2.2.2.1,I iw.2.2.2.2.2]] (.cons VU (.cons aey (.cons (gL.az aez).c .nil)))<|Sw<|Sw<|Rg hN ?_
 rcases (ak H).symm with ⟨JG,H⟩ | ⟨JG,H⟩
 ·refine Ct (nq JG)<|Sw ?_
  obtain ⟨uh,aeA,H⟩:=aF H
  refine Rh hN [.agg [I uh.1,I uh.2]] (.cons (fT.az aeA).c .nil) ?_
  cases H
  exact Good.ret (eY (u:=.aC [.nil 9 1,.agg [I uh.1,I uh.2]]) (.aC (.cons (.fP 9 1) (.cons (.refl _) .nil))) (by kernel_rfl))
 refine Cf (dE JG)<|Sk<|Sw<|Sw<|Rg hN ?_
 rcases ak H with ⟨JH,H⟩ | ⟨JH,H⟩
 ·refine Ct (dt JH)<|Sw ?_
  obtain ⟨ug,aeB,H⟩:=aF H
  refine Rh hN [.agg [I ug.1,I ug.2]] (.cons (fT.az aeB).c .nil) ?_
  cases H
  exact Good.ret (eY (u:=.aC [.nil 9 1,.agg [I ug.1,I ug.2]]) (.aC (.cons (.fP 9 1) (.cons (.refl _) .nil))) (by kernel_rfl))
 refine Cf (df JH)<|Sk<|Sw ?_
 obtain ⟨aeC,H⟩:=ax H
 obtain ⟨aeD,H⟩:=ax H
 obtain ⟨aeE,H⟩:=ax H
 exact Rh hN [.kb true,.row (some 9) 1 (List.map S (x4++[x0.extract (x5:Int).toNat ((wrap64 ((wrap64 (x5+iw.2.2.2.2.1))+iw.2.2.2.1)):Int).toNat]))] (.cons VU (.cons aeC (.cons aeD (.cons (dL S x4 [x0.extract (x5:Int).toNat ((wrap64 ((wrap64 (x5+iw.2.2.2.2.1))+iw.2.2.2.1)):Int).toNat] (.refl _)) (.cons (dZ S aeE) .nil)))))<|Rg hN<|⟨k,by omega,x0,(x4++[x0.extract (x5:Int).toNat ((wrap64 ((wrap64 (x5+iw.2.2.2.2.1))+iw.2.2.2.1)):Int).toNat]),wrap64 ((wrap64 (x5+iw.2.2.2.2.1))+iw.2.2.2.1),x1000,ah,by omega,Wk.mq hL 1 [(0,0),(3,0),(4,0),(5,0)] (by kernel_rfl) (by kernel_rfl) (by kernel_rfl),H⟩
def kR.l0:Nat→List Int→Int→List Int→Int→Option (List Int)
 | 0,_,_,_,_=>none
 | k+1,x0,x1,x5,x6=>if x6 < (x0.length:Int) then (if 0≤x6 then (if x5.length < 17592186044416 then (kR.l0 k x0 x1 (x5++[wrap64 ((rd x0 x6)+x1)]) (wrap64 (x6+1))) else (none)) else (none)) else (some x5)
def kR.f (k:Nat) (l0:List Int) (a1:Int):Option (List Int):=kR.l0 k l0 a1 ([]:List Int) 0
theorem kR.az {k:Nat} {l0:List Int} {a1:Int} {r:(List Int)} (H:kR.f k l0 a1=some r):aW Tryz.prog 47 [.row none 1 (List.map I l0),I a1] (.row (some 3) 1 (List.map I r)):=by
 refine Cg Tryz.func47 rfl fun C hN hL=>?_
 unfold kR.f at H
 refine Sw<|Rg hN<|Sw<|Rg hN<|Sw<|Sw<|Rg hN<|Bl<|Good.dK (fun k' st=>∃ (x0:List Int) (x1:Int) (x5:List Int) (x6:Int),k'≤k∧Wk C st ⟨[(0,.w (.row none 1 (List.map I x0))),(1,.w (I x1)),(5,.w (.row (some 3) 1 (List.map I x5))),(6,.w (I x6))],[]⟩∧kR.l0 k' x0 x1 x5 x6=some r) k ⟨l0,a1,([]:List Int),0,Nat.le_refl _,Wo [(0,0),(1,0),(5,1),(6,0)],H⟩ fun k=>⟨fun st h=>(by obtain ⟨_,_,_,_,_,_,H⟩:=h;cases H),?_⟩
 clear H
 rintro st ⟨x0,x1,x5,x6,hk,W,H⟩
 refine W.good ?_
 rw [kR.l0] at H
 refine Sw<|Sw<|Rh hN [I (x0.length:Int)] (.cons (aR I x0) .nil) ?_
 rcases (ak H).symm with ⟨CB,H⟩ | ⟨CB,H⟩
 ·refine Cf (df CB)<|Ex<|Sw<|Rg hN ?_
  cases H
  exact Rt dR
 refine Ct (dt CB)<|Sk<|Sw<|Bl ?_
 obtain ⟨VV,H⟩:=ax H
 obtain ⟨aeF,H⟩:=ax H
 exact Rh hN [I (rd x0 x6),.kb true,.row (some 3) 1 (List.map I (x5++[wrap64 ((rd x0 x6)+x1)]))] (.cons VV (.cons (aG I (0:Int) VV CB) (.cons (dL I x5 [wrap64 ((rd x0 x6)+x1)] (.refl _)) (.cons (dZ I aeF) .nil))))<|Rg hN<|⟨k,by omega,x0,x1,(x5++[wrap64 ((rd x0 x6)+x1)]),wrap64 (x6+1),by omega,Wo [(0,0),(1,0),(5,0),(6,0)],H⟩
mutual
def fE.l0:Nat→List (List af)→List af→Int→Option (List af)
 | 0,_,_,_=>none
 | k+1,x2,x7,x8=>if x8 < (x2.length:Int) then (if 0≤x8 then (if ((bC x2 x8).length:Int) > 0 then (if 0 < (x7.length:Int) then (if ((aa x7 0).f4).length < 17592186044416 then (fE.j1 k x2 (x7.set (0:Int).toNat (⟨(aa x7 0).f0,(aa x7 0).f1,(aa x7 0).f2,(aa x7 0).f3,(((aa x7 0).f4)++[(x7.length:Int)])⟩:af)) x8 (x7.length:Int)) else (none)) else (none)) else (fE.j1 k x2 x7 x8 (x7.length:Int))) else (none)) else (some x7)
def fE.j1:Nat→List (List af)→List af→Int→Int→Option (List af)
 | 0,_,_,_,_=>none
 | k+1,x2,x7,x8,x9=>fE.l1 k x2 x7 x8 x9 0
def fE.l1:Nat→List (List af)→List af→Int→Int→Int→Option (List af)
 | 0,_,_,_,_,_=>none
 | k+1,x2,x7,x8,x9,aX=>if 0≤x8 then (if x8 < (x2.length:Int) then (if aX < ((bC x2 x8).length:Int) then (if 0≤aX then ((kR.f k ((aa (bC x2 x8) aX).f4) x9).bind fun vJ=>(if x7.length < 2199023255552 then (fE.l1 k x2 (x7++[(⟨(aa (bC x2 x8) aX).f0,(aa (bC x2 x8) aX).f1,(aa (bC x2 x8) aX).f2,(aa (bC x2 x8) aX).f3,vJ⟩:af)]) x8 x9 (wrap64 (aX+1))) else (none))) else (none)) else (fE.l0 k x2 x7 (wrap64 (x8+1)))) else (none)) else (none)
end
def fE.f (k:Nat) (a0:Int) (a1:Int) (l2:List (List af)):Option (List af):=fE.l0 k l2 ([(⟨a0,a1,true,(⟨#[]⟩:ByteArray),([]:List Int)⟩:af)]:List af) 0
theorem fE.az {k:Nat} {a0:Int} {a1:Int} {l2:List (List af)} {r:(List af)} (H:fE.f k a0 a1 l2=some r):aW Tryz.prog 38 [I a0,I a1,.row none 1 (List.map (aQ 0) l2)] (.row (some 56) 5 (List.map (v56 1) r)):=by
 refine Cg Tryz.func38 rfl fun C hN hL=>?_
 unfold fE.f at H
 refine Sw<|Rg hN<|Sw<|Rj hN [] (.cons (Dv (o:=some 56) (sz:=5) (n:=[.agg [I a0,I a1,B true,S (⟨#[]⟩:ByteArray),.row (some 3) 1 (List.map I ([]:List Int))]]) (.cons (.agg (.cons (.refl _) (.cons (.refl _) (.cons (.refl _) (.cons (.refl _) (.cons (.fP 3 1) .nil)))))) .nil)) .nil) [] [(15,.row (some 56) 5 (List.map (v56 1) ([(⟨a0,a1,true,(⟨#[]⟩:ByteArray),([]:List Int)⟩:af)]:List af)))]<|Sw<|Sw<|Rg hN<|Bl<|Good.dK (fun k' st=>∃ (x2:List (List af)) (x7:List af) (x8:Int),k'≤k∧Wk C st ⟨[(2,.w (.row none 1 (List.map (aQ 0) x2))),(7,.w (.row (some 56) 5 (List.map (v56 1) x7))),(8,.w (I x8))],[]⟩∧fE.l0 k' x2 x7 x8=some r) k ⟨l2,([(⟨a0,a1,true,(⟨#[]⟩:ByteArray),([]:List Int)⟩:af)]:List af),0,Nat.le_refl _,Wo [(2,0),(7,0),(8,0)],H⟩ fun k=>⟨fun st h=>(by obtain ⟨_,_,_,_,_,H⟩:=h;cases H),?_⟩
 clear H
 rintro st ⟨x2,x7,x8,hk,W,H⟩
 refine W.good ?_
 rw [fE.l0] at H
 refine Sw<|Sw<|Rh hN [I (x2.length:Int)] (.cons (aR (aQ 0) x2) .nil) ?_
 rcases (ak H).symm with ⟨CE,H⟩ | ⟨CE,H⟩
 ·refine Cf (df CE)<|Ex<|Sw<|Rg hN ?_
  cases H
  exact Rt dR
 refine Ct (dt CE)<|Sk<|Sw<|Bl<|Sw<|Rh hN [I (x7.length:Int)] (.cons (aR (v56 1) x7) .nil)<|Sw<|Sw ?_
 obtain ⟨VW,H⟩:=ax H
 refine Rh hN [(aQ 0) (bC x2 x8),I ((bC x2 x8).length:Int)] (.cons VW (.cons (aG (aQ 0) ([]:List af) VW CE) (.cons (aR (v56 0) (bC x2 x8)) .nil)))<|Good.cut (fun st=>∃ n':Nat,n'≤k∧∃ (x2:List (List af)) (x7:List af) (x8:Int) (x9:Int),Wk C st ⟨[(2,.w (.row none 1 (List.map (aQ 0) x2))),(7,.w (.row (some 56) 5 (List.map (v56 1) x7))),(8,.w (I x8)),(9,.w (I x9))],[]⟩∧fE.j1 n' x2 x7 x8 x9=some r) ?_ ?_
 ·rcases (ak H).symm with ⟨JI,H⟩ | ⟨JI,H⟩
  ·exact Cf (df JI)<|Sk<|⟨k,by omega,x2,x7,x8,(x7.length:Int),Wo [(2,0),(7,0),(8,0),(9,0)],H⟩
  refine Ct (dt JI) ?_
  obtain ⟨yD,H⟩:=ax H
  obtain ⟨aeG,H⟩:=ax H
  exact Rh hN [(v56 1) (aa x7 0),.kb true,(v56 1) (aa x7 0),.row (some 3) 1 (List.map I (((aa x7 0).f4)++[(x7.length:Int)])),dX ((v56 1) (aa x7 0)) 4 [.any],(v56 1) (⟨(aa x7 0).f0,(aa x7 0).f1,(aa x7 0).f2,(aa x7 0).f3,(((aa x7 0).f4)++[(x7.length:Int)])⟩:af),.row (some 56) 5 (List.map (v56 1) (x7.set (0:Int).toNat (⟨(aa x7 0).f0,(aa x7 0).f1,(aa x7 0).f2,(aa x7 0).f3,(((aa x7 0).f4)++[(x7.length:Int)])⟩:af)))] (.cons (show (0:Int)≤0 by decide) (.cons (eF (v56 1) yD) (.cons (aG (v56 1) z56 (show (0:Int)≤0 by decide) yD) (.cons (aG (v56 1) z56 (show (0:Int)≤0 by decide) yD) (.cons (dL I ((aa x7 0).f4) [(x7.length:Int)] (.refl _)) (.cons (dZ I aeG) (.cons (show (0:Int)≤0 by decide) (.cons (sF (v56 1) (m:=(0:Int).toNat) (X:=dX ((v56 1) (aa x7 0)) 4 [.any]) yD) (.cons (sG (v56 1) (X:=dX ((v56 1) (aa x7 0)) 4 [.any]) (show (0:Int)≤0 by decide) yD) (.cons (Fit.refl ((v56 1) (⟨(aa x7 0).f0,(aa x7 0).f1,(aa x7 0).f2,(aa x7 0).f3,(((aa x7 0).f4)++[(x7.length:Int)])⟩:af))) (.cons (setH (v56 1) (l:=x7) (n:=(0:Int).toNat) (x:=(⟨(aa x7 0).f0,(aa x7 0).f1,(aa x7 0).f2,(aa x7 0).f3,(((aa x7 0).f4)++[(x7.length:Int)])⟩:af)) (X:=dX ((v56 1) (aa x7 0)) 4 [.any])) .nil)))))))))))<|⟨k,by omega,x2,(x7.set (0:Int).toNat (⟨(aa x7 0).f0,(aa x7 0).f1,(aa x7 0).f2,(aa x7 0).f3,(((aa x7 0).f4)++[(x7.length:Int)])⟩:af)),x8,(x7.length:Int),Wo [(2,0),(7,0),(8,0),(9,0)],H⟩
 clear H
 rintro st ⟨n',hn',x2,x7,x8,x9,W,H⟩
 rcases n' with _ | k
 ·cases H
 refine W.good ?_
 rw [fE.j1] at H
 refine Sw<|Rg hN<|Bl<|Good.dK (fun k' st=>∃ (x2:List (List af)) (x7:List af) (x8:Int) (x9:Int) (aX:Int),k'≤k∧Wk C st ⟨[(2,.w (.row none 1 (List.map (aQ 0) x2))),(7,.w (.row (some 56) 5 (List.map (v56 1) x7))),(8,.w (I x8)),(9,.w (I x9)),(10,.w (I aX))],[]⟩∧fE.l1 k' x2 x7 x8 x9 aX=some r) k ⟨x2,x7,x8,x9,0,Nat.le_refl _,Wo [(2,0),(7,0),(8,0),(9,0),(10,0)],H⟩ fun k=>⟨fun st h=>(by obtain ⟨_,_,_,_,_,_,_,H⟩:=h;cases H),?_⟩
 clear H
 rintro st ⟨x2,x7,x8,x9,aX,hk,W,H⟩
 refine W.good ?_
 rw [fE.l1] at H
 refine Sw<|Sw ?_
 obtain ⟨CF,H⟩:=ax H
 obtain ⟨VX,H⟩:=ax H
 refine Rh hN [(aQ 0) (bC x2 x8),I ((bC x2 x8).length:Int)] (.cons CF (.cons (aG (aQ 0) ([]:List af) CF VX) (.cons (aR (v56 0) (bC x2 x8)) .nil))) ?_
 rcases (ak H).symm with ⟨CG,H⟩ | ⟨CG,H⟩
 ·exact Cf (df CG)<|Ex<|Rg hN<|⟨k,by omega,x2,x7,wrap64 (x8+1),by omega,Wo [(2,0),(7,0),(8,0)],H⟩
 refine Ct (dt CG)<|Sk<|Sw<|Bl<|Sw ?_
 obtain ⟨VY,H⟩:=ax H
 refine Rh hN [(aQ 0) (bC x2 x8),(v56 0) (aa (bC x2 x8) aX)] (.cons CF (.cons (aG (aQ 0) ([]:List af) CF VX) (.cons VY (.cons (aG (v56 0) z56 VY CG) .nil))))<|Sw ?_
 obtain ⟨vJ,aeH,H⟩:=aF H
 refine Rh hN [.row (some 3) 1 (List.map I vJ)] (.cons (kR.az aeH).c .nil) ?_
 obtain ⟨aeI,H⟩:=ax H
 exact Rh hN [.aC [],.kb true,.row (some 56) 5 (List.map (v56 1) (x7++[(⟨(aa (bC x2 x8) aX).f0,(aa (bC x2 x8) aX).f1,(aa (bC x2 x8) aX).f2,(aa (bC x2 x8) aX).f3,vJ⟩:af)]))] (.cons (dL (v56 1) x7 [(⟨(aa (bC x2 x8) aX).f0,(aa (bC x2 x8) aX).f1,(aa (bC x2 x8) aX).f2,(aa (bC x2 x8) aX).f3,vJ⟩:af)] (.refl _)) (.cons (dZ (v56 1) aeI) .nil))<|Rg hN<|⟨k,by omega,x2,(x7++[(⟨(aa (bC x2 x8) aX).f0,(aa (bC x2 x8) aX).f1,(aa (bC x2 x8) aX).f2,(aa (bC x2 x8) aX).f3,vJ⟩:af)]),x8,x9,wrap64 (aX+1),by omega,Wk.mq hL 0 [(2,0),(7,0),(8,0),(9,0),(10,0)] (by kernel_rfl) (by kernel_rfl) (by kernel_rfl),H⟩
def iR.j0:Nat→Bool→Int→Int→Bool→ByteArray→List Int→Option (Bool)
 | 0,_,_,_,_,_,_=>none
 | k+1,x20,x1000,ah,ay,au,dO=>if x20=true then (some false) else (if ay=true then (if au.toList=([]:List UInt8) then (if x1000=0 then (if ah=16 then (some true) else (some (ah == 17))) else (some true)) else (some false)) else (if (dO.length:Int)=0 then (if x1000=0 then ((mF.f k ah au).bind fun JJ=>(some JJ)) else (some true)) else (some false)))
def iR.f (k:Nat) (aK:Int) (cu:Int) (bA:Bool) (bg:ByteArray) (iE:List Int):Option (Bool):=if aK < 0 then (iR.j0 k true aK cu bA bg iE) else (if aK > 3 then (iR.j0 k true aK cu bA bg iE) else (if cu < 0 then (iR.j0 k true aK cu bA bg iE) else (iR.j0 k (decide (cu > 2097151)) aK cu bA bg iE)))
theorem iR.az {k:Nat} {aK:Int} {cu:Int} {bA:Bool} {bg:ByteArray} {iE:List Int} {r:(Bool)} (H:iR.f k aK cu bA bg iE=some r):aW Tryz.prog 71 [.agg [I aK,I cu,B bA,S bg,.row none 1 (List.map I iE)]] (B r):=by
 refine Cg Tryz.func71 rfl fun C hN hL=>?_
 unfold iR.f at H
 refine Sw<|Rg hN<|Sw<|Sw<|Good.cut (fun st=>∃ n':Nat,n'≤k∧∃ (x20:Bool) (x1000:Int) (ah:Int) (ay:Bool) (au:ByteArray) (dO:List Int),Wk C st ⟨[(1,.d (.ptr 0 0)),(20,.w (B x20))],[.cells [.v (I x1000),.v (I ah),.v (B ay),.v (S au),.v (.row none 1 (List.map I dO))]]⟩∧iR.j0 n' x20 x1000 ah ay au dO=some r) ?_ ?_
 ·rcases ak H with ⟨yE,H⟩ | ⟨yE,H⟩
  ·exact Rh hN [B true,B true,B true] (.cons (dt yE) (.cons (rfl:true=true) (.cons (rfl:true=true) .nil)))<|⟨k,by omega,true,aK,cu,bA,bg,iE,Wo [(1,0),(20,0)],H⟩
  rcases ak H with ⟨CJ,H⟩ | ⟨CJ,H⟩
  ·exact Rh hN [B false,B true,B true] (.cons (df yE) (.cons (dt CJ) (.cons (rfl:true=true) .nil)))<|⟨k,by omega,true,aK,cu,bA,bg,iE,Wo [(1,0),(20,0)],H⟩
  rcases ak H with ⟨JK,H⟩ | ⟨JK,H⟩
  ·exact Rh hN [B false,B false,B true] (.cons (df yE) (.cons (df CJ) (.cons (dt JK) .nil)))<|⟨k,by omega,true,aK,cu,bA,bg,iE,Wo [(1,0),(20,0)],H⟩
  exact Rh hN [B false,B false,B false] (.cons (df yE) (.cons (df CJ) (.cons (df JK) .nil)))<|⟨k,by omega,decide (cu > 2097151),aK,cu,bA,bg,iE,Wo [(1,0),(20,0)],H⟩
 clear H
 rintro st ⟨n',hn',x20,x1000,ah,ay,au,dO,W,H⟩
 rcases n' with _ | k
 ·cases H
 refine W.good ?_
 rw [iR.j0] at H
 rcases ak H with ⟨JL,H⟩ | ⟨JL,H⟩
 ·refine Ct JL<|Sw<|Rg hN ?_
  cases H
  exact Rt dR
 refine Cf (bf JL)<|Sk<|Sw<|Sw<|Rg hN ?_
 rcases (ak H).symm with ⟨JM,H⟩ | ⟨JM,H⟩
 ·refine Cf (bf JM)<|Sk<|Sw ?_
  rcases (ak H).symm with ⟨CK,H⟩ | ⟨CK,H⟩
  ·refine Rh hN [I (dO.length:Int),B false] (.cons (aR I dO) (.cons (bn CK) .nil)) ?_
   cases H
   exact Rt dR
  rcases (ak H).symm with ⟨JN,H⟩ | ⟨JN,H⟩
  ·refine Rh hN [I (dO.length:Int),B true,B true] (.cons (aR I dO) (.cons (bq CK) (.cons (nq JN) .nil))) ?_
   cases H
   exact Rt dR
  obtain ⟨JJ,aeJ,H⟩:=aF H
  refine Rh hN [I (dO.length:Int),B true,B false,B JJ] (.cons (aR I dO) (.cons (bq CK) (.cons (dE JN) (.cons (mF.az aeJ).c .nil)))) ?_
  cases H
  exact Rt dR
 refine Ct JM<|Sw ?_
 rcases (ak H).symm with ⟨yF,H⟩ | ⟨yF,H⟩
 ·refine Ri hN [B false] (.cons (fA (rfl:au.toList=au.toList) (eU ([]:List UInt8))) (.cons (bn yF) .nil)) [(25,.bool (au.toList == ([]:List UInt8)))] ?_
  cases H
  exact Rt dR
 rcases (ak H).symm with ⟨CL,H⟩ | ⟨CL,H⟩
 ·refine Ri hN [B true,B true,B true] (.cons (fA (rfl:au.toList=au.toList) (eU ([]:List UInt8))) (.cons (bq yF) (.cons (nq CL) (.cons (rfl:true=true) .nil)))) [(25,.bool (au.toList == ([]:List UInt8)))] ?_
  cases H
  exact Rt dR
 rcases ak H with ⟨JO,H⟩ | ⟨JO,H⟩
 ·refine Ri hN [B true,B false,B true] (.cons (fA (rfl:au.toList=au.toList) (eU ([]:List UInt8))) (.cons (bq yF) (.cons (dE CL) (.cons (bq JO) .nil)))) [(25,.bool (au.toList == ([]:List UInt8)))] ?_
  cases H
  exact Rt dR
 refine Ri hN [B true,B false,B false] (.cons (fA (rfl:au.toList=au.toList) (eU ([]:List UInt8))) (.cons (bq yF) (.cons (dE CL) (.cons (bn JO) .nil)))) [(25,.bool (au.toList == ([]:List UInt8)))] ?_
 cases H
 exact Rt dR
mutual
def eX.j0:Nat→List af→Int→Int→Bool→Option (Int)
 | 0,_,_,_,_=>none
 | k+1,x0,x1,x2,x24=>if x24=true then (some (-1)) else (eX.l0 k x0 x1 x2 (wrap64 (x1+1)) 0)
def eX.l0:Nat→List af→Int→Int→Int→Int→Option (Int)
 | 0,_,_,_,_,_=>none
 | k+1,x0,x1,x2,x7,x8=>if 0≤x1 then (if x1 < (x0.length:Int) then (if x8 < (((aa x0 x1).f4).length:Int) then (if 0≤x8 then (if (rd ((aa x0 x1).f4) x8)=x7 then ((eX.f k x0 x7 (wrap64 (x2+1))).bind fun yG=>(if yG < 0 then (some (-1)) else (eX.l0 k x0 x1 x2 yG (wrap64 (x8+1))))) else (some (-1))) else (none)) else (some x7)) else (none)) else (none)
def eX.f:Nat→List af→Int→Int→Option (Int)
 | 0,_,_,_=>none
 | k+1,l0,a1,a2=>if a1≥(l0.length:Int) then (eX.j0 k l0 a1 a2 true) else (if a2 > 16 then (eX.j0 k l0 a1 a2 true) else (if 0≤a1 then (if a1 < (l0.length:Int) then ((iR.f k ((aa l0 a1).f0) ((aa l0 a1).f1) ((aa l0 a1).f2) ((aa l0 a1).f3) ((aa l0 a1).f4)).bind fun CO=>(eX.j0 k l0 a1 a2 (!CO))) else (none)) else (none)))
end
theorem eX.cons:∀ n k (l0:List af) (a1:Int) (a2:Int) (r:(Int)),k≤n→eX.f k l0 a1 a2=some r→aW Tryz.prog 46 [.row none 5 (List.map (v56 0) l0),I a1,I a2] (I r):=by
 intro n
 induction n with
 | zero =>
  intro k l0 a1 a2 r hk H
  rcases k with _ | k
  ·cases H
  ·omega
 | succ n ih =>
  intro k l0 a1 a2 r hk H
  rcases k with _ | k
  ·cases H
  rw [eX.f] at H
  refine FI Tryz.func46 rfl (by kernel_rfl) (by kernel_rfl) fun C hN hL=>?_
  refine Good.seq ?_
  refine Good.reg hN [] .nil [] (by kernel_rfl) ?_
  refine Good.seq ?_
  refine Good.seq ?_
  refine Good.cut (fun st=>∃ n':Nat,n'≤k∧∃ (x0:List af) (x1:Int) (x2:Int) (x24:Bool),Wk C st ⟨[(0,.d (.v (.row none 5 (List.map (v56 0) x0)))),(1,.d (.v (I x1))),(2,.d (.v (I x2))),(24,.d (.v (B x24)))],[]⟩∧eX.j0 n' x0 x1 x2 x24=some r) ?_ ?_
  ·rcases ak H with ⟨CP,H⟩ | ⟨CP,H⟩
   ·refine Good.reg hN [I (l0.length:Int),B true,B true] (.cons (aR (v56 0) l0) (.cons (decide_eq_true CP) (.cons (rfl:true=true) .nil))) [] (by kernel_rfl) ?_
    exact ⟨k,by omega,l0,a1,a2,true,Wk.of [(0,0),(1,0),(2,0),(24,0)] (by kernel_rfl) (by kernel_rfl),H⟩
   rcases ak H with ⟨JP,H⟩ | ⟨JP,H⟩
   ·refine Good.reg hN [I (l0.length:Int),B false,B true] (.cons (aR (v56 0) l0) (.cons (decide_eq_false CP) (.cons (decide_eq_true JP) .nil))) [] (by kernel_rfl) ?_
    exact ⟨k,by omega,l0,a1,a2,true,Wk.of [(0,0),(1,0),(2,0),(24,0)] (by kernel_rfl) (by kernel_rfl),H⟩
   obtain ⟨VZ,H⟩:=ax H
   obtain ⟨aeK,H⟩:=ax H
   obtain ⟨CO,aeL,H⟩:=aF H
   refine Good.reg hN [I (l0.length:Int),B false,B false,(v56 0) (aa l0 a1),B CO] (.cons (aR (v56 0) l0) (.cons (decide_eq_false CP) (.cons (decide_eq_false JP) (.cons VZ (.cons (aG (v56 0) z56 VZ aeK) (.cons (iR.az aeL).c .nil)))))) [] (by kernel_rfl) ?_
   exact ⟨k,by omega,l0,a1,a2,!CO,Wk.of [(0,0),(1,0),(2,0),(24,0)] (by kernel_rfl) (by kernel_rfl),H⟩
  clear H
  rintro st ⟨n',hn',x0,x1,x2,x24,W,H⟩
  rcases n' with _ | k
  ·cases H
  refine W.good ?_
  rw [eX.j0] at H
  rcases ak H with ⟨JQ,H⟩ | ⟨JQ,H⟩
  ·refine Good.kS JQ (by kernel_rfl) ?_
   refine Good.seq ?_
   refine Good.reg hN [] .nil [] (by kernel_rfl) ?_
   obtain rfl:=Option.some.inj H
   exact Good.ret (fin.pO (by kernel_rfl))
  refine Good.kU (Bool.eq_false_iff.2 JQ) (by kernel_rfl) ?_
  refine Good.skip ?_
  refine Good.seq ?_
  refine Good.reg hN [] .nil [] (by kernel_rfl) ?_
  refine Good.seq ?_
  refine Good.seq ?_
  refine Good.reg hN [] .nil [] (by kernel_rfl) ?_
  refine Good.block ?_
  refine Good.dK (fun k' st=>∃ (x0:List af) (x1:Int) (x2:Int) (x7:Int) (x8:Int),k'≤k∧Wk C st ⟨[(0,.d (.v (.row none 5 (List.map (v56 0) x0)))),(1,.d (.v (I x1))),(2,.d (.v (I x2))),(7,.d (.v (I x7))),(8,.d (.v (I x8)))],[]⟩∧eX.l0 k' x0 x1 x2 x7 x8=some r) k ⟨x0,x1,x2,wrap64 (x1+1),0,Nat.le_refl _,Wk.of [(0,0),(1,0),(2,0),(7,0),(8,0)] (by kernel_rfl) (by kernel_rfl),H⟩ fun k=>⟨fun st h=>(by obtain ⟨_,_,_,_,_,_,_,H⟩:=h;cases H),?_⟩
  clear H
  rintro st ⟨x0,x1,x2,x7,x8,hk,W,H⟩
  refine W.good ?_
  rw [eX.l0] at H
  refine Good.seq ?_
  refine Good.seq ?_
  obtain ⟨CQ,H⟩:=ax H
  obtain ⟨V3,H⟩:=ax H
  refine Good.reg hN [(v56 0) (aa x0 x1),I (((aa x0 x1).f4).length:Int)] (.cons CQ (.cons (aG (v56 0) z56 CQ V3) (.cons (aR I ((aa x0 x1).f4)) .nil))) [] (by kernel_rfl) ?_
  rcases (ak H).symm with ⟨CR,H⟩ | ⟨CR,H⟩
  ·refine Good.kU (decide_eq_false CR) (by kernel_rfl) ?_
   refine Good.exit ?_
   refine Good.seq ?_
   refine Good.reg hN [] .nil [] (by kernel_rfl) ?_
   obtain rfl:=Option.some.inj H
   exact Good.ret (fin.pO (by kernel_rfl))
  refine Good.kS (decide_eq_true CR) (by kernel_rfl) ?_
  refine Good.skip ?_
  refine Good.seq ?_
  refine Good.block ?_
  refine Good.seq ?_
  refine Good.seq ?_
  obtain ⟨V4,H⟩:=ax H
  refine Good.reg hN [(v56 0) (aa x0 x1),I (rd ((aa x0 x1).f4) x8)] (.cons CQ (.cons (aG (v56 0) z56 CQ V3) (.cons V4 (.cons (aG I (0:Int) V4 CR) .nil)))) [] (by kernel_rfl) ?_
  rcases (ak H).symm with ⟨JR,H⟩ | ⟨JR,H⟩
  ·refine Good.kS (bne_iff_ne.2 JR) (by kernel_rfl) ?_
   refine Good.seq ?_
   refine Good.reg hN [] .nil [] (by kernel_rfl) ?_
   obtain rfl:=Option.some.inj H
   exact Good.ret (fin.pO (by kernel_rfl))
  refine Good.kU (dE JR) (by kernel_rfl) ?_
  refine Good.skip ?_
  refine Good.seq ?_
  obtain ⟨yG,aeM,H⟩:=aF H
  refine Good.reg hN [I yG] (.cons (ih _ _ _ _ _ (by omega) aeM).c .nil) [] (by kernel_rfl) ?_
  refine Good.seq ?_
  refine Good.reg hN [] .nil [] (by kernel_rfl) ?_
  rcases (ak H).symm with ⟨JS,H⟩ | ⟨JS,H⟩
  ·refine Good.kU (decide_eq_false JS) (by kernel_rfl) ?_
   refine Good.skip ?_
   refine Good.reg hN [] .nil [] (by kernel_rfl) ?_
   exact ⟨k,by omega,x0,x1,x2,yG,wrap64 (x8+1),by omega,Wk.of [(0,0),(1,0),(2,0),(7,0),(8,0)] (by kernel_rfl) (by kernel_rfl),H⟩
  refine Good.kS (decide_eq_true JS) (by kernel_rfl) ?_
  refine Good.seq ?_
  refine Good.reg hN [] .nil [] (by kernel_rfl) ?_
  obtain rfl:=Option.some.inj H
  exact Good.ret (fin.pO (by kernel_rfl))
theorem eX.az {k:Nat} {l0:List af} {a1:Int} {a2:Int} {r:(Int)} (H:eX.f k l0 a1 a2=some r):aW Tryz.prog 46 [.row none 5 (List.map (v56 0) l0),I a1,I a2] (I r):=eX.cons k k l0 a1 a2 r (Nat.le_refl _) H
def ja.f (k:Nat) (l0:List af):Option (Bool):=if (l0.length:Int) > 0 then (if (l0.length:Int)≤1000 then ((eX.f k l0 0 1).bind fun JU=>(some (JU == (l0.length:Int)))) else (some false)) else (some false)
theorem ja.az {k:Nat} {l0:List af} {r:(Bool)} (H:ja.f k l0=some r):aW Tryz.prog 39 [.row none 5 (List.map (v56 0) l0)] (B r):=by
 refine Cg Tryz.func39 rfl fun C hN hL=>?_
 unfold ja.f at H
 refine Sw<|Rg hN<|Sw ?_
 rcases (ak H).symm with ⟨CS,H⟩ | ⟨CS,H⟩
 ·refine Rh hN [I (l0.length:Int),B false,B false] (.cons (aR (v56 0) l0) (.cons (df CS) (.cons (rfl:false=false) .nil))) ?_
  cases H
  exact Rt dR
 rcases (ak H).symm with ⟨JV,H⟩ | ⟨JV,H⟩
 ·refine Rh hN [I (l0.length:Int),B true,I (l0.length:Int),B false] (.cons (aR (v56 0) l0) (.cons (dt CS) (.cons (aR (v56 0) l0) (.cons (df JV) .nil)))) ?_
  cases H
  exact Rt dR
 obtain ⟨JU,aeN,H⟩:=aF H
 refine Rh hN [I (l0.length:Int),B true,I (l0.length:Int),B true,I JU,I (l0.length:Int)] (.cons (aR (v56 0) l0) (.cons (dt CS) (.cons (aR (v56 0) l0) (.cons (dt JV) (.cons (eX.az aeN).c (.cons (aR (v56 0) l0) .nil)))))) ?_
 cases H
 exact Rt dR
def gm.l0:Nat→ByteArray→List af→List ByteArray→List (List af)→Int→ByteArray→Option (List af × Bool)
 | 0,_,_,_,_,_,_=>none
 | k+1,x4,x6,x9,mr,dI,ay=>if dI < (x9.length:Int) then (if 0≤dI then ((lG.f k (gI ByteArray.empty x9 dI)).bind fun qw=>(if qw.2.1=0 then (if mr.length < 5864062014805 then (gm.l0 k x4 x6 x9 (mr++[qw.1]) (wrap64 (dI+1)) ay) else (none)) else (some (([]:List af),false)))) else (none)) else ((mY.f 0 2 (⟨#[0]⟩:ByteArray)).bind fun nu=>((mY.f 0 6 x4).bind fun uj=>((fE.f k 0 16 ([uj,x6]:List (List af))).bind fun ny=>((mY.f 0 4 ay).bind fun nz=>(if (mr.length:Int) > 0 then ((fE.f k 2 0 mr).bind fun qx=>(if ([nu,ny,nz]:List (List af)).length < 5864062014805 then ((fE.f k 0 16 (([nu,ny,nz]:List (List af))++[qx])).bind fun vK=>((ja.f k vK).bind fun JW=>(some (vK,JW)))) else (none))) else ((fE.f k 0 16 ([nu,ny,nz]:List (List af))).bind fun vL=>((ja.f k vL).bind fun JX=>(some (vL,JX)))))))))
def gm.j0:Nat→ByteArray→List af→ByteArray→ByteArray→Option (List af × Bool)
 | 0,_,_,_,_=>none
 | k+1,x4,x6,ay,au=>(jr.f k au).bind fun qy=>(if qy.2.1=0 then (gm.l0 k x4 x6 qy.1 ([]:List (List af)) 0 ay) else (some (([]:List af),false)))
def gm.f (k:Nat) (dU:List Int) (av:List Int) (bA:ByteArray) (bg:ByteArray):Option (List af × Bool):=(jU.f k dU).bind fun rE=>(if rE.2=true then ((mY.f 0 5 (⟨#[]⟩:ByteArray)).bind fun CU=>(if (av.length:Int) > 0 then ((jU.f k av).bind fun yH=>(if yH.2=true then ((mY.f 0 6 yH.1).bind fun CV=>(gm.j0 k rE.1 CV bA bg)) else (some (([]:List af),false)))) else (gm.j0 k rE.1 CU bA bg))) else (some (([]:List af),false)))
theorem gm.az {k:Nat} {dU:List Int} {av:List Int} {bA:ByteArray} {bg:ByteArray} {r:(List af × Bool)} (H:gm.f k dU av bA bg=some r):aW Tryz.prog 16 [.agg [.row none 1 (List.map I dU),.row none 1 (List.map I av),S bA,S bg]] (.aC [.row none 5 (List.map (v56 0) r.1),B r.2]):=by
 refine Cg Tryz.func16 rfl fun C hN hL=>?_
 unfold gm.f at H
 refine Sw<|Rg hN<|Sw ?_
 obtain ⟨rE,aeO,H⟩:=aF H
 refine Rh hN [.aC [S rE.1,B rE.2]] (.cons (jU.az aeO).c .nil)<|Sw<|Sw<|Rg hN ?_
 rcases (ak H).symm with ⟨JY,H⟩ | ⟨JY,H⟩
 ·refine Ct (ed (bf JY))<|Sw<|Rg hN ?_
  cases H
  exact Good.ret (eY (u:=.aC [.nil 56 5,B false]) (.aC (.cons (.dP 56 5 _) (.cons (.refl _) .nil))) (by kernel_rfl))
 refine Cf (eH JY)<|Sk<|Sw ?_
 obtain ⟨CU,aeP,H⟩:=aF H
 refine Rh hN [.row (some 56) 5 (List.map (v56 0) CU)] (.cons (mY.az aeP).c .nil)<|Sw<|Sw<|Rh hN [I (av.length:Int)] (.cons (aR I av) .nil)<|Good.cut (fun st=>∃ n':Nat,n'≤k∧∃ (x4:ByteArray) (x6:List af) (x1000:List Int) (ah:List Int) (ay:ByteArray) (au:ByteArray),Wk C st ⟨[(1,.d (.ptr 0 0)),(4,.w (S x4)),(6,.w (.row (some 56) 5 (List.map (v56 0) x6)))],[.cells [.v (.row none 1 (List.map I x1000)),.v (.row none 1 (List.map I ah)),.v (S ay),.v (S au)]]⟩∧gm.j0 n' x4 x6 ay au=some r) ?_ ?_
 ·rcases (ak H).symm with ⟨JZ,H⟩ | ⟨JZ,H⟩
  ·exact Cf (df JZ)<|Sk<|⟨k,by omega,rE.1,CU,dU,av,bA,bg,Wo [(1,0),(4,0),(6,0)],H⟩
  refine Ct (dt JZ)<|Sw ?_
  obtain ⟨yH,aeQ,H⟩:=aF H
  refine Rh hN [.aC [S yH.1,B yH.2]] (.cons (jU.az aeQ).c .nil)<|Sw<|Sw<|Rg hN ?_
  rcases ak H with ⟨J2,H⟩ | ⟨J2,H⟩
  ·refine Cf (eH J2)<|Sk ?_
   obtain ⟨CV,aeR,H⟩:=aF H
   exact Rh hN [.row (some 56) 5 (List.map (v56 0) CV)] (.cons (mY.az aeR).c .nil)<|⟨k,by omega,rE.1,CV,dU,av,bA,bg,Wo [(1,0),(4,0),(6,0)],H⟩
  refine Ct (ed (bf J2))<|Sw<|Rg hN ?_
  cases H
  exact Good.ret (eY (u:=.aC [.nil 56 5,B false]) (.aC (.cons (.dP 56 5 _) (.cons (.refl _) .nil))) (by kernel_rfl))
 clear H
 rintro st ⟨n',hn',x4,x6,x1000,ah,ay,au,W,H⟩
 rcases n' with _ | k
 ·cases H
 refine W.good ?_
 rw [gm.j0] at H
 refine Sw ?_
 obtain ⟨qy,aeS,H⟩:=aF H
 refine Rh hN [.aC [.row (some 9) 1 (List.map S qy.1),.agg [I qy.2.1,I qy.2.2]]] (.cons (jr.az aeS).c .nil)<|Sw<|Sw<|Rg hN ?_
 rcases (ak H).symm with ⟨J3,H⟩ | ⟨J3,H⟩
 ·refine Ct (nq J3)<|Sw<|Rg hN ?_
  cases H
  exact Good.ret (eY (u:=.aC [.nil 56 5,B false]) (.aC (.cons (.dP 56 5 _) (.cons (.refl _) .nil))) (by kernel_rfl))
 refine Cf (dE J3)<|Sk<|Sw<|Rg hN<|Sw<|Sw<|Rg hN<|Bl<|Good.dK (fun k' st=>∃ (x4:ByteArray) (x6:List af) (x9:List ByteArray) (mr:List (List af)) (dI:Int) (x1000:List Int) (ah:List Int) (ay:ByteArray) (au:ByteArray) (x2000:Int) (aB:Int),k'≤k∧Wk C st ⟨[(1,.d (.ptr 0 0)),(4,.w (S x4)),(6,.w (.row (some 56) 5 (List.map (v56 0) x6))),(9,.w (.row (some 9) 1 (List.map S x9))),(11,.w (.row (some 38) 1 (List.map (aQ 0) mr))),(12,.w (I dI))],[.cells [.v (.row none 1 (List.map I x1000)),.v (.row none 1 (List.map I ah)),.v (S ay),.v (S au)],.cells [.v (I x2000),.v (I aB)]]⟩∧gm.l0 k' x4 x6 x9 mr dI ay=some r) k ⟨x4,x6,qy.1,([]:List (List af)),0,x1000,ah,ay,au,qy.2.1,qy.2.2,Nat.le_refl _,Wo [(1,0),(4,0),(6,0),(9,0),(11,1),(12,0)],H⟩ fun k=>⟨fun st h=>(by obtain ⟨_,_,_,_,_,_,_,_,_,_,_,_,_,H⟩:=h;cases H),?_⟩
 clear H
 rintro st ⟨x4,x6,x9,mr,dI,x1000,ah,ay,au,x2000,aB,hk,W,H⟩
 refine W.good ?_
 rw [gm.l0] at H
 refine Sw<|Sw<|Rh hN [I (x9.length:Int)] (.cons (aR S x9) .nil) ?_
 rcases ak H with ⟨yI,H⟩ | ⟨yI,H⟩
 ·refine Ct (dt yI)<|Sk<|Sw<|Bl<|Sw ?_
  obtain ⟨V5,H⟩:=ax H
  obtain ⟨qw,aeT,H⟩:=aF H
  refine Rh hN [S (gI ByteArray.empty x9 dI),.aC [.row none 5 (List.map (v56 0) qw.1),.agg [I qw.2.1,I qw.2.2]]] (.cons V5 (.cons (eF S yI) (.cons (aG S ByteArray.empty V5 yI) (.cons (lG.az aeT).c .nil))))<|Sw<|Sw<|Rg hN ?_
  rcases (ak H).symm with ⟨J4,H⟩ | ⟨J4,H⟩
  ·refine Ct (nq J4)<|Sw<|Rg hN ?_
   cases H
   exact Good.ret (eY (u:=.aC [.nil 56 5,B false]) (.aC (.cons (.dP 56 5 _) (.cons (.refl _) .nil))) (by kernel_rfl))
  refine Cf (dE J4)<|Sk ?_
  obtain ⟨aeU,H⟩:=ax H
  exact Rh hN [.kb true,.row (some 38) 1 (List.map (aQ 0) (mr++[qw.1]))] (.cons (dL (aQ 0) mr [qw.1] (.refl _)) (.cons (dZ (aQ 0) aeU) .nil))<|Rg hN<|⟨k,by omega,x4,x6,x9,(mr++[qw.1]),wrap64 (dI+1),x1000,ah,ay,au,x2000,aB,by omega,Wk.mq hL 2 [(1,0),(4,0),(6,0),(9,0),(11,0),(12,0)] (by kernel_rfl) (by kernel_rfl) (by kernel_rfl),H⟩
 refine Cf (df yI)<|Ex<|Sw ?_
 obtain ⟨nu,aeV,H⟩:=aF H
 obtain ⟨uj,aeW,H⟩:=aF H
 obtain ⟨ny,aeX,H⟩:=aF H
 obtain ⟨nz,aeY,H⟩:=aF H
 refine Rd hm hN (.q 1 [] (.q 3 [] (.q 6 [] (.q 7 [] (.e 0 (.e 2 (.e 4 (.e 5 (.e 8 (.e 9 (.e 10 .z))))))))))) [(1,some (.pt [.row none 1 (List.map I x1000),.row none 1 (List.map I ah),S ay,S au])),(4,none),(6,some (.row none 5 (List.map (v56 0) x6)))] (.cons (bV (aA (aP none 1 I I x1000 (fun _=>rfl)) (aA (aP none 1 I I ah (fun _=>rfl)) (aA (rfl:(V.shr (S ay))=S ay) (aA (rfl:(V.shr (S au))=S au) (rfl:aZ []=[])))))) (.cons (aP (some 56) 5 (v56 0) (v56 0) x6 (v56.shr _)) .nil)) [.row (some 56) 5 (List.map (v56 0) nu),.row (some 56) 5 (List.map (v56 0) uj),.row none 5 (List.map (v56 0) uj),.row none 5 (List.map (v56 0) x6),.row none 1 (List.map (aQ 0) ([uj,x6]:List (List af))),.row (some 56) 5 (List.map (v56 1) ny),.row (some 56) 5 (List.map (v56 0) nz),.row none 5 (List.map (v56 0) nu),.row none 5 (List.map (v56 0) ny),.row none 5 (List.map (v56 0) nz)] [] (.cons (mY.az aeV).c (.cons (mY.az aeW).c (.cons (aP (some 56) 5 (v56 0) (v56 0) uj (v56.shr _)) (.cons (aP (some 56) 5 (v56 0) (v56 0) x6 (v56.shr _)) (.cons (aP (some 38) 1 (aQ 0) (aQ 0) ([uj,x6]:List (List af)) (aQ.shr _)) (.cons (fE.az aeX).c (.cons (mY.az aeY).c (.cons (aP (some 56) 5 (v56 0) (v56 0) nu (v56.shr _)) (.cons (aP (some 56) 5 (v56 1) (v56 0) ny (v56.shr _)) (.cons (aP (some 56) 5 (v56 0) (v56 0) nz (v56.shr _)) .nil)))))))))) .nil [] []<|Sw<|Sw<|Rh hN [I (mr.length:Int)] (.cons (aR (aQ 0) mr) .nil) ?_
 rcases (ak H).symm with ⟨J5,H⟩ | ⟨J5,H⟩
 ·refine Cf (df J5)<|Sk<|Sw ?_
  obtain ⟨vL,aeZ,H⟩:=aF H
  refine Rh hN [.row none 1 (List.map (aQ 0) ([nu,ny,nz]:List (List af))),.row (some 56) 5 (List.map (v56 1) vL)] (.cons (aP (some 38) 1 (aQ 0) (aQ 0) ([nu,ny,nz]:List (List af)) (aQ.shr _)) (.cons (fE.az aeZ).c .nil))<|Sw ?_
  obtain ⟨JX,ae0,H⟩:=aF H
  refine Rh hN [.row none 5 (List.map (v56 0) vL),B JX] (.cons (aP (some 56) 5 (v56 1) (v56 0) vL (v56.shr _)) (.cons (ja.az ae0).c .nil)) ?_
  cases H
  exact Rt dR
 refine Ct (dt J5) ?_
 obtain ⟨qx,ae1,H⟩:=aF H
 obtain ⟨ae2,H⟩:=ax H
 refine Rh hN [.row none 1 (List.map (aQ 0) mr),.row (some 56) 5 (List.map (v56 1) qx),.row none 5 (List.map (v56 0) qx),.kb true,.row (some 38) 1 (List.map (aQ 0) (([nu,ny,nz]:List (List af))++[qx]))] (.cons (aP (some 38) 1 (aQ 0) (aQ 0) mr (aQ.shr _)) (.cons (fE.az ae1).c (.cons (aP (some 56) 5 (v56 1) (v56 0) qx (v56.shr _)) (.cons (dL (aQ 0) ([nu,ny,nz]:List (List af)) [qx] (.refl _)) (.cons (dZ (aQ 0) ae2) .nil)))))<|Sw ?_
 obtain ⟨vK,ae3,H⟩:=aF H
 refine Rh hN [.row none 1 (List.map (aQ 0) (([nu,ny,nz]:List (List af))++[qx])),.row (some 56) 5 (List.map (v56 1) vK)] (.cons (aP (some 38) 1 (aQ 0) (aQ 0) (([nu,ny,nz]:List (List af))++[qx]) (aQ.shr _)) (.cons (fE.az ae3).c .nil))<|Sw ?_
 obtain ⟨JW,ae4,H⟩:=aF H
 refine Rh hN [.row none 5 (List.map (v56 0) vK),B JW] (.cons (aP (some 56) 5 (v56 1) (v56 0) vK (v56.shr _)) (.cons (ja.az ae4).c .nil)) ?_
 cases H
 exact Rt dR
mutual
def jb.l0:Nat→List af→Int→ByteArray→Int→Option (ByteArray × Bool)
 | 0,_,_,_,_=>none
 | k+1,x0,x1,x6,x7=>if 0≤x1 then (if x1 < (x0.length:Int) then (if x7 < (((aa x0 x1).f4).length:Int) then (if 0≤x7 then ((jb.f k x0 (rd ((aa x0 x1).f4) x7)).bind fun rF=>(if x6.size+rF.1.size≤9223372036854775807 then (if rF.2=true then (if ((x6++rF.1).size:Int) > 65535 then (some ((⟨#[]⟩:ByteArray),false)) else (jb.l0 k x0 x1 (x6++rF.1) (wrap64 (x7+1)))) else (some ((⟨#[]⟩:ByteArray),false))) else (none))) else (none)) else ((gK.f k ((aa x0 x1).f0) ((aa x0 x1).f1) ((aa x0 x1).f2) (x6.size:Int)).bind fun rG=>(if rG.1.size+x6.size≤9223372036854775807 then (if rG.2=0 then (some (rG.1++x6,decide ((wrap64 ((rG.1.size:Int)+(x6.size:Int)))≤65535))) else (some (rG.1++x6,false))) else (none)))) else (none)) else (none)
def jb.f:Nat→List af→Int→Option (ByteArray × Bool)
 | 0,_,_=>none
 | k+1,l0,a1=>if 0≤a1 then (if a1 < (l0.length:Int) then (jb.l0 k l0 a1 ((aa l0 a1).f3) 0) else (none)) else (none)
end
theorem jb.cons:∀ n k (l0:List af) (a1:Int) (r:(ByteArray × Bool)),k≤n→jb.f k l0 a1=some r→aW Tryz.prog 40 [.row none 5 (List.map (v56 0) l0),I a1] (.aC [S r.1,B r.2]):=by
 intro n
 induction n with
 | zero =>
  intro k l0 a1 r hk H
  rcases k with _ | k
  ·cases H
  ·omega
 | succ n ih =>
  intro k l0 a1 r hk H
  rcases k with _ | k
  ·cases H
  rw [jb.f] at H
  refine FI Tryz.func40 rfl (by kernel_rfl) (by kernel_rfl) fun C hN hL=>?_
  refine Good.seq ?_
  refine Good.reg hN [] .nil [] (by kernel_rfl) ?_
  refine Good.seq ?_
  obtain ⟨V6,H⟩:=ax H
  obtain ⟨ae5,H⟩:=ax H
  refine Good.reg hN [(v56 0) (aa l0 a1)] (.cons V6 (.cons (aG (v56 0) z56 V6 ae5) .nil)) [] (by kernel_rfl) ?_
  refine Good.seq ?_
  refine Good.seq ?_
  refine Good.reg hN [] .nil [] (by kernel_rfl) ?_
  refine Good.block ?_
  refine Good.dK (fun k' st=>∃ (x0:List af) (x1:Int) (x6:ByteArray) (x7:Int),k'≤k∧Wk C st ⟨[(0,.d (.v (.row none 5 (List.map (v56 0) x0)))),(1,.d (.v (I x1))),(6,.d (.v (S x6))),(7,.d (.v (I x7)))],[]⟩∧jb.l0 k' x0 x1 x6 x7=some r) k ⟨l0,a1,(aa l0 a1).f3,0,Nat.le_refl _,Wk.of [(0,0),(1,0),(6,0),(7,0)] (by kernel_rfl) (by kernel_rfl),H⟩ fun k=>⟨fun st h=>(by obtain ⟨_,_,_,_,_,_,H⟩:=h;cases H),?_⟩
  clear H
  rintro st ⟨x0,x1,x6,x7,hk,W,H⟩
  refine W.good ?_
  rw [jb.l0] at H
  refine Good.seq ?_
  refine Good.seq ?_
  obtain ⟨lK,H⟩:=ax H
  obtain ⟨rH,H⟩:=ax H
  refine Good.reg hN [(v56 0) (aa x0 x1),I (((aa x0 x1).f4).length:Int)] (.cons lK (.cons (aG (v56 0) z56 lK rH) (.cons (aR I ((aa x0 x1).f4)) .nil))) [] (by kernel_rfl) ?_
  rcases (ak H).symm with ⟨CW,H⟩ | ⟨CW,H⟩
  ·refine Good.kU (decide_eq_false CW) (by kernel_rfl) ?_
   refine Good.exit ?_
   refine Good.seq ?_
   obtain ⟨rG,ae6,H⟩:=aF H
   refine Good.tZ hm hN (.q 0 [] (.q 1 [] (.q 2 [] (.q 3 [] (.q 4 [] (.q 5 [] (.q 6 [] (.q 7 [] (.q 8 [] (.q 9 [] (.q 10 [] (.q 11 [] (.q 12 [] (.q 13 [] (.q 14 [] (.q 15 [] (.q 16 [] (.q 17 [] (.e 18 (.q 19 [] (.q 20 [] (.q 21 [] (.q 22 [] (.q 23 [] .z)))))))))))))))))))))))) [(0,none),(1,none),(6,none)] (by kernel_rfl) .nil [(v56 0) (aa x0 x1),(v56 0) (aa x0 x1),(v56 0) (aa x0 x1),.aC [S rG.1,I rG.2]] [(v56 0) (aa x0 x1),(v56 0) (aa x0 x1),(v56 0) (aa x0 x1)] (.cons lK (.cons (aG (v56 0) z56 lK rH) (.cons lK (.cons (aG (v56 0) z56 lK rH) (.cons lK (.cons (aG (v56 0) z56 lK rH) (.cons (gK.az ae6).c .nil))))))) (.cons lK (.cons (aG (v56 0) z56 lK rH) (.cons lK (.cons (aG (v56 0) z56 lK rH) (.cons lK (.cons (aG (v56 0) z56 lK rH) .nil)))))) [] [] (by kernel_rfl) (by kernel_rfl) ?_
   refine Good.seq ?_
   obtain ⟨V7,H⟩:=ax H
   rcases ak H with ⟨J6,H⟩ | ⟨J6,H⟩
   ·refine Good.reg hN [B true] (.cons V7 (.cons (beq_iff_eq.2 J6) .nil)) [] (by kernel_rfl) ?_
    obtain rfl:=Option.some.inj H
    exact Good.ret (fin.pO (by kernel_rfl))
   refine Good.reg hN [B false] (.cons V7 (.cons (beq_eq_false_iff_ne.2 J6) .nil)) [] (by kernel_rfl) ?_
   obtain rfl:=Option.some.inj H
   exact Good.ret (fin.pO (by kernel_rfl))
  refine Good.kS (decide_eq_true CW) (by kernel_rfl) ?_
  refine Good.skip ?_
  refine Good.seq ?_
  refine Good.block ?_
  refine Good.seq ?_
  obtain ⟨V8,H⟩:=ax H
  obtain ⟨rF,ae7,H⟩:=aF H
  refine Good.reg hN [(v56 0) (aa x0 x1),I (rd ((aa x0 x1).f4) x7),.aC [S rF.1,B rF.2]] (.cons lK (.cons (aG (v56 0) z56 lK rH) (.cons V8 (.cons (aG I (0:Int) V8 CW) (.cons (ih _ _ _ _ (by omega) ae7).c .nil))))) [] (by kernel_rfl) ?_
  refine Good.seq ?_
  obtain ⟨ae8,H⟩:=ax H
  refine Good.reg hN [] (.cons ae8 .nil) [] (by kernel_rfl) ?_
  refine Good.seq ?_
  rcases (ak H).symm with ⟨J7,H⟩ | ⟨J7,H⟩
  ·refine Good.reg hN [B true] (.cons (ed (Bool.eq_false_iff.2 J7)) .nil) [] (by kernel_rfl) ?_
   refine Good.cond true (by kernel_rfl) ?_
   refine Good.seq ?_
   refine Good.reg hN [] .nil [] (by kernel_rfl) ?_
   obtain rfl:=Option.some.inj H
   exact Good.ret (fin.pO (by kernel_rfl))
  refine Good.reg hN [B false] (.cons (eH J7) .nil) [] (by kernel_rfl) ?_
  rcases (ak H).symm with ⟨J8,H⟩ | ⟨J8,H⟩
  ·refine Good.kU (decide_eq_false J8) (by kernel_rfl) ?_
   refine Good.skip ?_
   refine Good.reg hN [] .nil [] (by kernel_rfl) ?_
   exact ⟨k,by omega,x0,x1,x6++rF.1,wrap64 (x7+1),by omega,Wk.of [(0,0),(1,0),(6,0),(7,0)] (by kernel_rfl) (by kernel_rfl),H⟩
  refine Good.kS (decide_eq_true J8) (by kernel_rfl) ?_
  refine Good.seq ?_
  refine Good.reg hN [] .nil [] (by kernel_rfl) ?_
  obtain rfl:=Option.some.inj H
  exact Good.ret (fin.pO (by kernel_rfl))
theorem jb.az {k:Nat} {l0:List af} {a1:Int} {r:(ByteArray × Bool)} (H:jb.f k l0 a1=some r):aW Tryz.prog 40 [.row none 5 (List.map (v56 0) l0),I a1] (.aC [S r.1,B r.2]):=jb.cons k k l0 a1 r (Nat.le_refl _) H
def nJ.f (k:Nat) (l0:List af):Option (ByteArray × Int):=(ja.f k l0).bind fun J9=>(if J9=true then ((jb.f k l0 0).bind fun yJ=>(if yJ.2=true then (some (yJ.1,0)) else (some ((⟨#[]⟩:ByteArray),4)))) else (some ((⟨#[]⟩:ByteArray),1)))
theorem nJ.az {k:Nat} {l0:List af} {r:(ByteArray × Int)} (H:nJ.f k l0=some r):aW Tryz.prog 17 [.row none 5 (List.map (v56 0) l0)] (.aC [S r.1,I r.2]):=by
 refine Cg Tryz.func17 rfl fun C hN hL=>?_
 unfold nJ.f at H
 refine Sw<|Rg hN<|Sw<|Sw ?_
 obtain ⟨J9,ae9,H⟩:=aF H
 refine Rh hN [B J9] (.cons (ja.az ae9).c .nil) ?_
 rcases (ak H).symm with ⟨Ka,H⟩ | ⟨Ka,H⟩
 ·refine Ct (ed (bf Ka))<|Sw<|Rg hN ?_
  cases H
  exact Rt dR
 refine Cf (eH Ka)<|Sk<|Sw ?_
 obtain ⟨yJ,afa,H⟩:=aF H
 refine Rh hN [.aC [S yJ.1,B yJ.2]] (.cons (jb.az afa).c .nil)<|Sw<|Sw<|Rg hN ?_
 rcases (ak H).symm with ⟨Kb,H⟩ | ⟨Kb,H⟩
 ·refine Ct (ed (bf Kb))<|Sw<|Rg hN ?_
  cases H
  exact Rt dR
 refine Cf (eH Kb)<|Sk<|Sw<|Rg hN ?_
 cases H
 exact Rt dR
def mD.f (k:Nat) (dU:List Int) (av:List Int) (bA:ByteArray) (bg:ByteArray):Option (ByteArray × Int):=(gm.f k dU av bA bg).bind fun yK=>(if yK.2=true then ((nJ.f k yK.1).bind fun yL=>(some (yL.1,yL.2))) else (some ((⟨#[]⟩:ByteArray),1)))
theorem mD.az {k:Nat} {dU:List Int} {av:List Int} {bA:ByteArray} {bg:ByteArray} {r:(ByteArray × Int)} (H:mD.f k dU av bA bg=some r):aW Tryz.prog 6 [.agg [.row none 1 (List.map I dU),.row none 1 (List.map I av),S bA,S bg]] (.aC [S r.1,I r.2]):=by
 refine Cg Tryz.func6 rfl fun C hN hL=>?_
 unfold mD.f at H
 refine Sw<|Rg hN<|Sw ?_
 obtain ⟨yK,afb,H⟩:=aF H
 refine Rh hN [.aC [.row none 5 (List.map (v56 0) yK.1),B yK.2]] (.cons (gm.az afb).c .nil)<|Sw<|Sw<|Rg hN ?_
 rcases (ak H).symm with ⟨Kc,H⟩ | ⟨Kc,H⟩
 ·refine Ct (ed (bf Kc))<|Sw<|Rg hN ?_
  cases H
  exact Rt dR
 refine Cf (eH Kc)<|Sk<|Sw ?_
 obtain ⟨yL,afc,H⟩:=aF H
 refine Rh hN [.aC [S yL.1,I yL.2]] (.cons (nJ.az afc).c .nil) ?_
 cases H
 exact Rt dR
def jl.l0:Nat→List af→Int→List af→Int→Int→Option (List af)
 | 0,_,_,_,_,_=>none
 | k+1,x0,x1,x5,x6,x7=>if x7 < x6 then (if 0≤x7 then (if x7 < (x0.length:Int) then ((kR.f k ((aa x0 x7).f4) (wrap64 (-x1))).bind fun vM=>(if x5.length < 2199023255552 then (jl.l0 k x0 x1 (x5++[(⟨(aa x0 x7).f0,(aa x0 x7).f1,(aa x0 x7).f2,(aa x0 x7).f3,vM⟩:af)]) x6 (wrap64 (x7+1))) else (none))) else (none)) else (none)) else (some x5)
def jl.j0:Nat→List af→Int→Bool→Option (List af)
 | 0,_,_,_=>none
 | k+1,x0,x1,bI=>if bI=true then (some ([]:List af)) else ((eX.f k x0 x1 1).bind fun CX=>(jl.l0 k x0 x1 ([]:List af) CX x1))
def jl.f (k:Nat) (l0:List af) (a1:Int):Option (List af):=(ja.f k l0).bind fun yM=>(if yM=true then (if a1 < 0 then (jl.j0 k l0 a1 true) else (jl.j0 k l0 a1 (decide (a1≥(l0.length:Int))))) else (jl.j0 k l0 a1 true))
theorem jl.az {k:Nat} {l0:List af} {a1:Int} {r:(List af)} (H:jl.f k l0 a1=some r):aW Tryz.prog 25 [.row none 5 (List.map (v56 0) l0),I a1] (.row (some 56) 5 (List.map (v56 1) r)):=by
 refine Cg Tryz.func25 rfl fun C hN hL=>?_
 unfold jl.f at H
 refine Sw<|Rg hN<|Sw<|Rg hN<|Sw<|Sw<|Good.cut (fun st=>∃ n':Nat,n'≤k∧∃ (x0:List af) (x1:Int) (bI:Bool),Wk C st ⟨[(0,.w (.row none 5 (List.map (v56 0) x0))),(1,.w (I x1)),(5,.w (.nil 56 5)),(21,.w (B bI))],[]⟩∧jl.j0 n' x0 x1 bI=some r) ?_ ?_
 ·obtain ⟨yM,Ke,H⟩:=aF H
  rcases (ak H).symm with ⟨CY,H⟩ | ⟨CY,H⟩
  ·exact Rh hN [B yM,B true,B true] (.cons (ja.az Ke).c (.cons (ed (bf CY)) (.cons (rfl:true=true) .nil)))<|⟨k,by omega,l0,a1,true,Wo [(0,0),(1,0),(5,0),(21,0)],H⟩
  rcases ak H with ⟨Kg,H⟩ | ⟨Kg,H⟩
  ·exact Rh hN [B yM,B false,B true] (.cons (ja.az Ke).c (.cons (eH CY) (.cons (dt Kg) .nil)))<|⟨k,by omega,l0,a1,true,Wo [(0,0),(1,0),(5,0),(21,0)],H⟩
  exact Rh hN [B yM,B false,B false,I (l0.length:Int)] (.cons (ja.az Ke).c (.cons (eH CY) (.cons (df Kg) (.cons (aR (v56 0) l0) .nil))))<|⟨k,by omega,l0,a1,decide (a1≥(l0.length:Int)),Wo [(0,0),(1,0),(5,0),(21,0)],H⟩
 clear H
 rintro st ⟨n',hn',x0,x1,bI,W,H⟩
 rcases n' with _ | k
 ·cases H
 refine W.good ?_
 rw [jl.j0] at H
 rcases ak H with ⟨Kh,H⟩ | ⟨Kh,H⟩
 ·refine Ct Kh<|Sw<|Rg hN ?_
  cases H
  exact Good.ret (eY (u:=.nil 56 5) (.fP 56 5) (by kernel_rfl))
 refine Cf (bf Kh)<|Sk<|Sw ?_
 obtain ⟨CX,afd,H⟩:=aF H
 refine Rh hN [I CX] (.cons (eX.az afd).c .nil)<|Sw<|Sw<|Rg hN<|Bl<|Good.dK (fun k' st=>∃ (x0:List af) (x1:Int) (x5:List af) (x6:Int) (x7:Int),k'≤k∧Wk C st ⟨[(0,.w (.row none 5 (List.map (v56 0) x0))),(1,.w (I x1)),(5,.w (.row (some 56) 5 (List.map (v56 1) x5))),(6,.w (I x6)),(7,.w (I x7))],[]⟩∧jl.l0 k' x0 x1 x5 x6 x7=some r) k ⟨x0,x1,([]:List af),CX,x1,Nat.le_refl _,Wo [(0,0),(1,0),(5,1),(6,0),(7,0)],H⟩ fun k=>⟨fun st h=>(by obtain ⟨_,_,_,_,_,_,_,H⟩:=h;cases H),?_⟩
 clear H
 rintro st ⟨x0,x1,x5,x6,x7,hk,W,H⟩
 refine W.good ?_
 rw [jl.l0] at H
 refine Sw<|Sw<|Rg hN ?_
 rcases (ak H).symm with ⟨Ki,H⟩ | ⟨Ki,H⟩
 ·refine Cf (df Ki)<|Ex<|Sw<|Rg hN ?_
  cases H
  exact Rt dR
 refine Ct (dt Ki)<|Sk<|Sw<|Bl<|Sw ?_
 obtain ⟨V9,H⟩:=ax H
 obtain ⟨afe,H⟩:=ax H
 refine Rh hN [(v56 0) (aa x0 x7)] (.cons V9 (.cons (aG (v56 0) z56 V9 afe) .nil))<|Sw ?_
 obtain ⟨vM,aff,H⟩:=aF H
 refine Ri hN [.row (some 3) 1 (List.map I vM)] (.cons (congrArg (Value.int .i64) ((ve .i64 (0 - x1)).symm.trans (congrArg wrap64 (Int.zero_sub x1)))) (.cons (kR.az aff).c .nil)) [(39,.int .i64 (wrap64 (-x1)))] ?_
 obtain ⟨c1256,H⟩:=ax H
 exact Rh hN [.aC [],.kb true,.row (some 56) 5 (List.map (v56 1) (x5++[(⟨(aa x0 x7).f0,(aa x0 x7).f1,(aa x0 x7).f2,(aa x0 x7).f3,vM⟩:af)]))] (.cons (dL (v56 1) x5 [(⟨(aa x0 x7).f0,(aa x0 x7).f1,(aa x0 x7).f2,(aa x0 x7).f3,vM⟩:af)] (.refl _)) (.cons (dZ (v56 1) c1256) .nil))<|Rg hN<|⟨k,by omega,x0,x1,(x5++[(⟨(aa x0 x7).f0,(aa x0 x7).f1,(aa x0 x7).f2,(aa x0 x7).f3,vM⟩:af)]),x6,wrap64 (x7+1),by omega,Wk.mq hL 0 [(0,0),(1,0),(5,0),(6,0),(7,0)] (by kernel_rfl) (by kernel_rfl) (by kernel_rfl),H⟩
def eG.l0:Nat→ByteArray→List af→List Int→Int→List Int→List Int→ByteArray→ByteArray→Option (List Int × List Int × ByteArray × ByteArray × Int)
 | 0,_,_,_,_,_,_,_,_=>none
 | k+1,x0,x4,x6,x9,x3000,bW,bE,bQ=>if 3 < (x6.length:Int) then (if 0≤(rd x6 3) then (if (rd x6 3) < (x4.length:Int) then (if x9 < (((aa x4 (rd x6 3)).f4).length:Int) then (if 0≤x9 then ((jl.f k x4 (rd ((aa x4 (rd x6 3)).f4) x9)).bind fun yN=>((nJ.f k yN).bind fun vN=>(if bQ.size+vN.1.size≤9223372036854775807 then (eG.l0 k x0 x4 x6 (wrap64 (x9+1)) x3000 bW bE (bQ++vN.1)) else (none)))) else (none)) else ((mD.f k x3000 bW bE bQ).bind fun yO=>(if yO.2=0 then (if yO.1.toList=x0.toList then (some (x3000,bW,bE,bQ,0)) else (some (([]:List Int),([]:List Int),(⟨#[]⟩:ByteArray),(⟨#[]⟩:ByteArray),5))) else (some (([]:List Int),([]:List Int),(⟨#[]⟩:ByteArray),(⟨#[]⟩:ByteArray),5))))) else (none)) else (none)) else (none)
def eG.j0:Nat→ByteArray→List af→List Int→Bool→Option (List Int × List Int × ByteArray × ByteArray × Int)
 | 0,_,_,_,_=>none
 | k+1,x0,x4,x6,A9=>if A9=true then (some (([]:List Int),([]:List Int),(⟨#[]⟩:ByteArray),(⟨#[]⟩:ByteArray),5)) else (if 1 < (x6.length:Int) then (if 0≤(rd x6 1) then (if (rd x6 1) < (x4.length:Int) then (if 2 < (x6.length:Int) then (if 0≤(rd x6 2) then (if (rd x6 2) < (x4.length:Int) then (if 0 < (((aa x4 (rd x6 1)).f4).length:Int) then (if 0≤(rd ((aa x4 (rd x6 1)).f4) 0) then (if (rd ((aa x4 (rd x6 1)).f4) 0) < (x4.length:Int) then ((gu.f k ((aa x4 (rd ((aa x4 (rd x6 1)).f4) 0)).f3)).bind fun uk=>(if 1 < (((aa x4 (rd x6 1)).f4).length:Int) then (if 0≤(rd ((aa x4 (rd x6 1)).f4) 1) then (if (rd ((aa x4 (rd x6 1)).f4) 1) < (x4.length:Int) then ((gu.f k ((aa x4 (rd ((aa x4 (rd x6 1)).f4) 1)).f3)).bind fun um=>(if (x6.length:Int)=4 then (eG.l0 k x0 x4 x6 0 uk.1 um.1 ((aa x4 (rd x6 2)).f3) (⟨#[]⟩:ByteArray)) else ((mD.f k uk.1 um.1 ((aa x4 (rd x6 2)).f3) (⟨#[]⟩:ByteArray)).bind fun yP=>(if yP.2=0 then (if yP.1.toList=x0.toList then (some (uk.1,um.1,(aa x4 (rd x6 2)).f3,(⟨#[]⟩:ByteArray),0)) else (some (([]:List Int),([]:List Int),(⟨#[]⟩:ByteArray),(⟨#[]⟩:ByteArray),5))) else (some (([]:List Int),([]:List Int),(⟨#[]⟩:ByteArray),(⟨#[]⟩:ByteArray),5)))))) else (none)) else (none)) else (none))) else (none)) else (none)) else (none)) else (none)) else (none)) else (none)) else (none)) else (none)) else (none))
def eG.f (k:Nat) (a0:ByteArray):Option (List Int × List Int × ByteArray × ByteArray × Int):=(lG.f k a0).bind fun bL=>(if bL.2.1=0 then (if 0 < (bL.1.length:Int) then (if (((aa bL.1 0).f4).length:Int)=3 then (if 1 < (((aa bL.1 0).f4).length:Int) then (if 0≤(rd ((aa bL.1 0).f4) 1) then (if (rd ((aa bL.1 0).f4) 1) < (bL.1.length:Int) then (eG.j0 k a0 bL.1 ((aa bL.1 0).f4) ((((aa bL.1 (rd ((aa bL.1 0).f4) 1)).f4).length:Int) != 2)) else (none)) else (none)) else (none)) else (if (((aa bL.1 0).f4).length:Int)=4 then (if 1 < (((aa bL.1 0).f4).length:Int) then (if 0≤(rd ((aa bL.1 0).f4) 1) then (if (rd ((aa bL.1 0).f4) 1) < (bL.1.length:Int) then (eG.j0 k a0 bL.1 ((aa bL.1 0).f4) ((((aa bL.1 (rd ((aa bL.1 0).f4) 1)).f4).length:Int) != 2)) else (none)) else (none)) else (none)) else (eG.j0 k a0 bL.1 ((aa bL.1 0).f4) true))) else (none)) else (some (([]:List Int),([]:List Int),(⟨#[]⟩:ByteArray),(⟨#[]⟩:ByteArray),bL.2.1)))
theorem eG.az {k:Nat} {a0:ByteArray} {r:(List Int × List Int × ByteArray × ByteArray × Int)} (H:eG.f k a0=some r):aW Tryz.prog 8 [S a0] (.aC [.agg [.row none 1 (List.map I r.1),.row none 1 (List.map I r.2.1),S r.2.2.1,S r.2.2.2.1],I r.2.2.2.2]):=by
 refine Cg Tryz.func8 rfl fun C hN hL=>?_
 unfold eG.f at H
 refine Sw<|Rg hN<|Sw ?_
 obtain ⟨bL,afg,H⟩:=aF H
 refine Rh hN [.aC [.row none 5 (List.map (v56 0) bL.1),.agg [I bL.2.1,I bL.2.2]]] (.cons (lG.az afg).c .nil)<|Sw<|Sw<|Rg hN ?_
 rcases (ak H).symm with ⟨Kj,H⟩ | ⟨Kj,H⟩
 ·refine Ct (nq Kj)<|Sw<|Good.qp (n:=2) hm hN hL (.q 0 [[]] (.i 1 (.b 2 [] [] (.e 3 (.i 4 .z)) [] [] (.e 3 (.e 2 (.i 4 .z)))))) [(2,some (.pt [.nil 3 1,.nil 3 1,S (⟨#[]⟩:ByteArray),S (⟨#[]⟩:ByteArray)])),(5,some (.pt [I bL.2.1,I bL.2.2]))] (by kernel_rfl) (.cons (bV (aA (rfl:(V.shr (.nil 3 1))=.nil 3 1) (aA (rfl:(V.shr (.nil 3 1))=.nil 3 1) (aA (rfl:(V.shr (S (⟨#[]⟩:ByteArray)))=S (⟨#[]⟩:ByteArray)) (aA (rfl:(V.shr (S (⟨#[]⟩:ByteArray)))=S (⟨#[]⟩:ByteArray)) (rfl:aZ []=[])))))) (.cons (bV (aA (rfl:(V.shr (I bL.2.1))=I bL.2.1) (aA (rfl:(V.shr (I bL.2.2))=I bL.2.2) (rfl:aZ []=[])))) .nil)) [] [] (.cons .nil .nil (.cons .nil .nil .nil)) [] [] (by kernel_rfl) (by kernel_rfl) [[],[]] [(2,0),(3,0)] [(2,.d (.ptr 0 0)),(3,.w (I bL.2.1))] [.cells [.v (.nil 3 1),.v (.nil 3 1),.v (S (⟨#[]⟩:ByteArray)),.v (S (⟨#[]⟩:ByteArray))],.cells [.v (I bL.2.1),.v (I bL.2.2)]] (by kernel_rfl) (by kernel_rfl) ?_
  cases H
  exact Good.ret (eY (u:=.aC [.agg [.nil 3 1,.nil 3 1,S (⟨#[]⟩:ByteArray),S (⟨#[]⟩:ByteArray)],I bL.2.1]) (.aC (.cons (.agg (.cons (.dP 3 1 _) (.cons (.dP 3 1 _) (.cons (.refl _) (.cons (.refl _) .nil))))) (.cons (.refl _) .nil))) (by kernel_rfl))
 refine Cf (dE Kj)<|Sk<|Sw ?_
 obtain ⟨afh,H⟩:=ax H
 refine Rh hN [(v56 0) (aa bL.1 0)] (.cons (show (0:Int)≤0 by decide) (.cons (aG (v56 0) z56 (show (0:Int)≤0 by decide) afh) .nil))<|Sw<|Sw<|Good.cut (fun st=>∃ n':Nat,n'≤k∧∃ (x0:ByteArray) (x4:List af) (x6:List Int) (A9:Bool) (ay:ByteArray) (au:ByteArray) (x2000:Int) (aB:Int),Wk C st ⟨[(0,.w (S x0)),(2,.d (.ptr 0 0)),(4,.w (.row none 5 (List.map (v56 0) x4))),(6,.w (.row none 1 (List.map I x6))),(47,.w (B A9))],[.cells [.v (.nil 3 1),.v (.nil 3 1),.v (S ay),.v (S au)],.cells [.v (I x2000),.v (I aB)]]⟩∧eG.j0 n' x0 x4 x6 A9=some r) ?_ ?_
 ·rcases ak H with ⟨CZ,H⟩ | ⟨CZ,H⟩
  ·obtain ⟨afi,H⟩:=ax H
   obtain ⟨Wd,H⟩:=ax H
   obtain ⟨afj,H⟩:=ax H
   exact Rh hN [I (((aa bL.1 0).f4).length:Int),B false,B false,I (rd ((aa bL.1 0).f4) 1),(v56 0) (aa bL.1 (rd ((aa bL.1 0).f4) 1)),I (((aa bL.1 (rd ((aa bL.1 0).f4) 1)).f4).length:Int)] (.cons (aR I ((aa bL.1 0).f4)) (.cons (dE CZ) (.cons (rfl:false=false) (.cons (show (0:Int)≤1 by decide) (.cons (aG I (0:Int) (show (0:Int)≤1 by decide) afi) (.cons Wd (.cons (aG (v56 0) z56 Wd afj) (.cons (aR I ((aa bL.1 (rd ((aa bL.1 0).f4) 1)).f4)) .nil))))))))<|⟨k,by omega,a0,bL.1,(aa bL.1 0).f4,((((aa bL.1 (rd ((aa bL.1 0).f4) 1)).f4).length:Int) != 2),(⟨#[]⟩:ByteArray),(⟨#[]⟩:ByteArray),bL.2.1,bL.2.2,Wo [(0,0),(2,0),(4,0),(6,0),(47,0)],H⟩
  rcases (ak H).symm with ⟨Kk,H⟩ | ⟨Kk,H⟩
  ·exact Rh hN [I (((aa bL.1 0).f4).length:Int),B true,I (((aa bL.1 0).f4).length:Int),B true] (.cons (aR I ((aa bL.1 0).f4)) (.cons (nq CZ) (.cons (aR I ((aa bL.1 0).f4)) (.cons (nq Kk) .nil))))<|⟨k,by omega,a0,bL.1,(aa bL.1 0).f4,true,(⟨#[]⟩:ByteArray),(⟨#[]⟩:ByteArray),bL.2.1,bL.2.2,Wo [(0,0),(2,0),(4,0),(6,0),(47,0)],H⟩
  obtain ⟨afk,H⟩:=ax H
  obtain ⟨We,H⟩:=ax H
  obtain ⟨afl,H⟩:=ax H
  exact Rh hN [I (((aa bL.1 0).f4).length:Int),B true,I (((aa bL.1 0).f4).length:Int),B false,I (rd ((aa bL.1 0).f4) 1),(v56 0) (aa bL.1 (rd ((aa bL.1 0).f4) 1)),I (((aa bL.1 (rd ((aa bL.1 0).f4) 1)).f4).length:Int)] (.cons (aR I ((aa bL.1 0).f4)) (.cons (nq CZ) (.cons (aR I ((aa bL.1 0).f4)) (.cons (dE Kk) (.cons (show (0:Int)≤1 by decide) (.cons (aG I (0:Int) (show (0:Int)≤1 by decide) afk) (.cons We (.cons (aG (v56 0) z56 We afl) (.cons (aR I ((aa bL.1 (rd ((aa bL.1 0).f4) 1)).f4)) .nil)))))))))<|⟨k,by omega,a0,bL.1,(aa bL.1 0).f4,((((aa bL.1 (rd ((aa bL.1 0).f4) 1)).f4).length:Int) != 2),(⟨#[]⟩:ByteArray),(⟨#[]⟩:ByteArray),bL.2.1,bL.2.2,Wo [(0,0),(2,0),(4,0),(6,0),(47,0)],H⟩
 clear H
 rintro st ⟨n',hn',x0,x4,x6,A9,ay,au,x2000,aB,W,H⟩
 rcases n' with _ | k
 ·cases H
 refine W.good ?_
 rw [eG.j0] at H
 rcases ak H with ⟨Kl,H⟩ | ⟨Kl,H⟩
 ·refine Ct Kl<|Sw<|Rg hN ?_
  cases H
  exact Good.ret (eY (u:=.aC [.agg [.nil 3 1,.nil 3 1,S (⟨#[]⟩:ByteArray),S (⟨#[]⟩:ByteArray)],I 5]) (.aC (.cons (.agg (.cons (.dP 3 1 _) (.cons (.dP 3 1 _) (.cons (.refl _) (.cons (.refl _) .nil))))) (.cons (.refl _) .nil))) (by kernel_rfl))
 refine Cf (bf Kl)<|Sk<|Sw ?_
 obtain ⟨afm,H⟩:=ax H
 obtain ⟨Wh,H⟩:=ax H
 obtain ⟨afn,H⟩:=ax H
 refine Rh hN [I (rd x6 1),(v56 0) (aa x4 (rd x6 1))] (.cons (show (0:Int)≤1 by decide) (.cons (aG I (0:Int) (show (0:Int)≤1 by decide) afm) (.cons Wh (.cons (aG (v56 0) z56 Wh afn) .nil))))<|Sw ?_
 obtain ⟨afo,H⟩:=ax H
 obtain ⟨Wi,H⟩:=ax H
 obtain ⟨afp,H⟩:=ax H
 refine Rh hN [I (rd x6 2),(v56 0) (aa x4 (rd x6 2))] (.cons (show (0:Int)≤2 by decide) (.cons (aG I (0:Int) (show (0:Int)≤2 by decide) afo) (.cons Wi (.cons (aG (v56 0) z56 Wi afp) .nil))))<|Sw ?_
 obtain ⟨afq,H⟩:=ax H
 obtain ⟨Wj,H⟩:=ax H
 obtain ⟨afr,H⟩:=ax H
 obtain ⟨uk,afs,H⟩:=aF H
 refine Rh hN [I (rd ((aa x4 (rd x6 1)).f4) 0),(v56 0) (aa x4 (rd ((aa x4 (rd x6 1)).f4) 0)),.aC [.row none 1 (List.map I uk.1),B uk.2]] (.cons (show (0:Int)≤0 by decide) (.cons (aG I (0:Int) (show (0:Int)≤0 by decide) afq) (.cons Wj (.cons (aG (v56 0) z56 Wj afr) (.cons (gu.az afs).c .nil)))))<|Sw ?_
 obtain ⟨aft,H⟩:=ax H
 obtain ⟨Wl,H⟩:=ax H
 obtain ⟨afu,H⟩:=ax H
 obtain ⟨um,afv,H⟩:=aF H
 refine Rh hN [I (rd ((aa x4 (rd x6 1)).f4) 1),(v56 0) (aa x4 (rd ((aa x4 (rd x6 1)).f4) 1)),.aC [.row none 1 (List.map I um.1),B um.2]] (.cons (show (0:Int)≤1 by decide) (.cons (aG I (0:Int) (show (0:Int)≤1 by decide) aft) (.cons Wl (.cons (aG (v56 0) z56 Wl afu) (.cons (gu.az afv).c .nil)))))<|Sw<|Sw<|Rh hN [I (x6.length:Int)] (.cons (aR I x6) .nil) ?_
 rcases (ak H).symm with ⟨Km,H⟩ | ⟨Km,H⟩
 ·refine Cf (bn Km)<|Sk<|Sw ?_
  obtain ⟨yP,afw,H⟩:=aF H
  refine Rh hN [.aC [S yP.1,I yP.2]] (.cons (mD.az afw).c .nil)<|Sw<|Sw ?_
  rcases (ak H).symm with ⟨Kn,H⟩ | ⟨Kn,H⟩
  ·refine Rh hN [B true] (.cons (nq Kn) .nil)<|Good.cond true (by kernel_rfl)<|Sw<|Rg hN ?_
   cases H
   exact Good.ret (eY (u:=.aC [.agg [.nil 3 1,.nil 3 1,S (⟨#[]⟩:ByteArray),S (⟨#[]⟩:ByteArray)],I 5]) (.aC (.cons (.agg (.cons (.dP 3 1 _) (.cons (.dP 3 1 _) (.cons (.refl _) (.cons (.refl _) .nil))))) (.cons (.refl _) .nil))) (by kernel_rfl))
  refine Rh hN [B false] (.cons (dE Kn) .nil) ?_
  rcases (ak H).symm with ⟨Ko,H⟩ | ⟨Ko,H⟩
  ·refine Ct (nq Ko)<|Sw<|Rg hN ?_
   cases H
   exact Good.ret (eY (u:=.aC [.agg [.nil 3 1,.nil 3 1,S (⟨#[]⟩:ByteArray),S (⟨#[]⟩:ByteArray)],I 5]) (.aC (.cons (.agg (.cons (.dP 3 1 _) (.cons (.dP 3 1 _) (.cons (.refl _) (.cons (.refl _) .nil))))) (.cons (.refl _) .nil))) (by kernel_rfl))
  refine Cf (dE Ko)<|Sk<|Sw<|Rg hN ?_
  cases H
  exact Rt dR
 refine Ct (bq Km)<|Sw<|Rg hN<|Bl<|Good.dK (fun k' st=>∃ (x0:ByteArray) (x4:List af) (x6:List Int) (x9:Int) (ay:ByteArray) (au:ByteArray) (x2000:Int) (aB:Int) (x3000:List Int) (bW:List Int) (bE:ByteArray) (bQ:ByteArray),k'≤k∧Wk C st ⟨[(0,.w (S x0)),(2,.d (.ptr 0 0)),(4,.w (.row none 5 (List.map (v56 0) x4))),(6,.w (.row none 1 (List.map I x6))),(8,.d (.ptr 2 0)),(9,.w (I x9))],[.cells [.v (.nil 3 1),.v (.nil 3 1),.v (S ay),.v (S au)],.cells [.v (I x2000),.v (I aB)],.cells [.v (.row none 1 (List.map I x3000)),.v (.row none 1 (List.map I bW)),.v (S bE),.v (S bQ)]]⟩∧eG.l0 k' x0 x4 x6 x9 x3000 bW bE bQ=some r) k ⟨x0,x4,x6,0,ay,au,x2000,aB,uk.1,um.1,(aa x4 (rd x6 2)).f3,(⟨#[]⟩:ByteArray),Nat.le_refl _,Wo [(0,0),(2,0),(4,0),(6,0),(8,0),(9,0)],H⟩ fun k=>⟨fun st h=>(by obtain ⟨_,_,_,_,_,_,_,_,_,_,_,_,_,_,H⟩:=h;cases H),?_⟩
 clear H
 rintro st ⟨x0,x4,x6,x9,ay,au,x2000,aB,x3000,bW,bE,bQ,hk,W,H⟩
 refine W.good ?_
 rw [eG.l0] at H
 refine Sw<|Sw ?_
 obtain ⟨Wm,H⟩:=ax H
 obtain ⟨C8,H⟩:=ax H
 obtain ⟨Wn,H⟩:=ax H
 refine Rh hN [I (rd x6 3),(v56 0) (aa x4 (rd x6 3)),I (((aa x4 (rd x6 3)).f4).length:Int)] (.cons (show (0:Int)≤3 by decide) (.cons (aG I (0:Int) (show (0:Int)≤3 by decide) Wm) (.cons C8 (.cons (aG (v56 0) z56 C8 Wn) (.cons (aR I ((aa x4 (rd x6 3)).f4)) .nil))))) ?_
 rcases ak H with ⟨C9,H⟩ | ⟨C9,H⟩
 ·refine Ct (dt C9)<|Sk<|Sw<|Bl<|Sw ?_
  obtain ⟨Wp,H⟩:=ax H
  obtain ⟨yN,afx,H⟩:=aF H
  obtain ⟨vN,afy,H⟩:=aF H
  refine Rh hN [I (rd x6 3),(v56 0) (aa x4 (rd x6 3)),I (rd ((aa x4 (rd x6 3)).f4) x9),.row (some 56) 5 (List.map (v56 1) yN),.row none 5 (List.map (v56 0) yN),.aC [S vN.1,I vN.2]] (.cons (show (0:Int)≤3 by decide) (.cons (aG I (0:Int) (show (0:Int)≤3 by decide) Wm) (.cons C8 (.cons (aG (v56 0) z56 C8 Wn) (.cons Wp (.cons (aG I (0:Int) Wp C9) (.cons (jl.az afx).c (.cons (aP (some 56) 5 (v56 1) (v56 0) yN (v56.shr _)) (.cons (nJ.az afy).c .nil))))))))) ?_
  obtain ⟨afz,H⟩:=ax H
  exact Rh hN [] (.cons afz .nil)<|Rg hN<|⟨k,by omega,x0,x4,x6,wrap64 (x9+1),ay,au,x2000,aB,x3000,bW,bE,bQ++vN.1,by omega,Wo [(0,0),(2,0),(4,0),(6,0),(8,0),(9,0)],H⟩
 refine Cf (df C9)<|Ex<|Sw ?_
 obtain ⟨yO,afA,H⟩:=aF H
 refine Rh hN [.aC [S yO.1,I yO.2]] (.cons (mD.az afA).c .nil)<|Sw<|Sw ?_
 rcases (ak H).symm with ⟨Kq,H⟩ | ⟨Kq,H⟩
 ·refine Rh hN [B true] (.cons (nq Kq) .nil)<|Good.cond true (by kernel_rfl)<|Sw<|Rg hN ?_
  cases H
  exact Good.ret (eY (u:=.aC [.agg [.nil 3 1,.nil 3 1,S (⟨#[]⟩:ByteArray),S (⟨#[]⟩:ByteArray)],I 5]) (.aC (.cons (.agg (.cons (.dP 3 1 _) (.cons (.dP 3 1 _) (.cons (.refl _) (.cons (.refl _) .nil))))) (.cons (.refl _) .nil))) (by kernel_rfl))
 refine Rh hN [B false] (.cons (dE Kq) .nil) ?_
 rcases (ak H).symm with ⟨Kr,H⟩ | ⟨Kr,H⟩
 ·refine Ct (nq Kr)<|Sw<|Rg hN ?_
  cases H
  exact Good.ret (eY (u:=.aC [.agg [.nil 3 1,.nil 3 1,S (⟨#[]⟩:ByteArray),S (⟨#[]⟩:ByteArray)],I 5]) (.aC (.cons (.agg (.cons (.dP 3 1 _) (.cons (.dP 3 1 _) (.cons (.refl _) (.cons (.refl _) .nil))))) (.cons (.refl _) .nil))) (by kernel_rfl))
 refine Cf (dE Kr)<|Sk<|Sw<|Rg hN ?_
 cases H
 exact Rt dR
def jm.l0:Nat→List Int→List Int→Int→Option (Bool)
 | 0,_,_,_=>none
 | k+1,x0,x1,x5=>if x5 < (x0.length:Int) then (if 0≤x5 then (if x5 < (x1.length:Int) then (if (rd x0 x5)=(rd x1 x5) then (jm.l0 k x0 x1 (wrap64 (x5+1))) else (some false)) else (none)) else (none)) else (some true)
def jm.f (k:Nat) (l0:List Int) (l1:List Int):Option (Bool):=if (l0.length:Int)=(l1.length:Int) then (jm.l0 k l0 l1 0) else (some false)
theorem jm.az {k:Nat} {l0:List Int} {l1:List Int} {r:(Bool)} (H:jm.f k l0 l1=some r):aW Tryz.prog 26 [.row none 1 (List.map I l0),.row none 1 (List.map I l1)] (B r):=by
 refine Cg Tryz.func26 rfl fun C hN hL=>?_
 unfold jm.f at H
 refine Sw<|Rg hN<|Sw<|Sw<|Rh hN [I (l0.length:Int),I (l1.length:Int)] (.cons (aR I l0) (.cons (aR I l1) .nil)) ?_
 rcases (ak H).symm with ⟨Kt,H⟩ | ⟨Kt,H⟩
 ·refine Ct (nq Kt)<|Sw<|Rg hN ?_
  cases H
  exact Rt dR
 refine Cf (dE Kt)<|Sk<|Sw<|Sw<|Rg hN<|Bl<|Good.dK (fun k' st=>∃ (x0:List Int) (x1:List Int) (x5:Int),k'≤k∧Wk C st ⟨[(0,.w (.row none 1 (List.map I x0))),(1,.w (.row none 1 (List.map I x1))),(5,.w (I x5))],[]⟩∧jm.l0 k' x0 x1 x5=some r) k ⟨l0,l1,0,Nat.le_refl _,Wo [(0,0),(1,0),(5,0)],H⟩ fun k=>⟨fun st h=>(by obtain ⟨_,_,_,_,_,H⟩:=h;cases H),?_⟩
 clear H
 rintro st ⟨x0,x1,x5,hk,W,H⟩
 refine W.good ?_
 rw [jm.l0] at H
 refine Sw<|Sw<|Rh hN [I (x0.length:Int)] (.cons (aR I x0) .nil) ?_
 rcases (ak H).symm with ⟨yQ,H⟩ | ⟨yQ,H⟩
 ·refine Cf (df yQ)<|Ex<|Sw<|Rg hN ?_
  cases H
  exact Rt dR
 refine Ct (dt yQ)<|Sk<|Sw<|Bl<|Sw ?_
 obtain ⟨rJ,H⟩:=ax H
 obtain ⟨Wq,H⟩:=ax H
 refine Rd hm hN (.qs 8 0 (.q 8 [] .z)) [(0,none),(1,none),(5,none)] .nil [I (rd x0 x5),I (rd x1 x5)] [I (rd x0 x5),I (rd x1 x5)] (.cons rJ (.cons (aG I (0:Int) rJ yQ) (.cons rJ (.cons (aG I (0:Int) rJ Wq) .nil)))) (.cons rJ (.cons (aG I (0:Int) rJ yQ) (.cons rJ (.cons (aG I (0:Int) rJ Wq) .nil)))) [] [] ?_
 rcases ak H with ⟨Ku,H⟩ | ⟨Ku,H⟩
 ·exact Cf (dE Ku)<|Sk<|Rg hN<|⟨k,by omega,x0,x1,wrap64 (x5+1),by omega,Wo [(0,0),(1,0),(5,0)],H⟩
 refine Ct (nq Ku)<|Sw<|Rg hN ?_
 cases H
 exact Rt dR
def qc.f (k:Nat) (dU:List Int) (av:List Int) (bA:ByteArray) (bg:ByteArray) (iV:List Int) (iW:List Int) (cZ:ByteArray) (fI:ByteArray):Option (Bool):=(jm.f k dU iV).bind fun vO=>(if vO=true then ((jm.f k av iW).bind fun yR=>(if yR=true then (if bA.toList=cZ.toList then (some (bg.toList == fI.toList)) else (some false)) else (some false))) else (some false))
theorem qc.az {k:Nat} {dU:List Int} {av:List Int} {bA:ByteArray} {bg:ByteArray} {iV:List Int} {iW:List Int} {cZ:ByteArray} {fI:ByteArray} {r:(Bool)} (H:qc.f k dU av bA bg iV iW cZ fI=some r):aW Tryz.prog 9 [.agg [.row none 1 (List.map I dU),.row none 1 (List.map I av),S bA,S bg],.agg [.row none 1 (List.map I iV),.row none 1 (List.map I iW),S cZ,S fI]] (B r):=by
 refine Cg Tryz.func9 rfl fun C hN hL=>?_
 unfold qc.f at H
 refine Sw<|Rg hN<|Sw ?_
 obtain ⟨vO,Da,H⟩:=aF H
 rcases (ak H).symm with ⟨yS,H⟩ | ⟨yS,H⟩
 ·refine Rh hN [B vO,B false,B false,B false] (.cons (jm.az Da).c (.cons (bf yS) (.cons (rfl:false=false) (.cons (rfl:false=false) .nil)))) ?_
  cases H
  exact Rt dR
 obtain ⟨yR,Kv,H⟩:=aF H
 rcases (ak H).symm with ⟨Db,H⟩ | ⟨Db,H⟩
 ·refine Rh hN [B vO,B true,B yR,B false,B false] (.cons (jm.az Da).c (.cons yS (.cons (jm.az Kv).c (.cons (bf Db) (.cons (rfl:false=false) .nil))))) ?_
  cases H
  exact Rt dR
 rcases ak H with ⟨Kw,H⟩ | ⟨Kw,H⟩
 ·refine Rh hN [B vO,B true,B yR,B true,B true] (.cons (jm.az Da).c (.cons yS (.cons (jm.az Kv).c (.cons Db (.cons (bq Kw) .nil))))) ?_
  cases H
  exact Rt dR
 refine Rh hN [B vO,B true,B yR,B true,B false] (.cons (jm.az Da).c (.cons yS (.cons (jm.az Kv).c (.cons Db (.cons (bn Kw) .nil))))) ?_
 cases H
 exact Rt dR
def kP.j0:Nat→ByteArray→Bool→List Int→List Int→ByteArray→ByteArray→Option (Bool)
 | 0,_,_,_,_,_,_=>none
 | k+1,x1,x39,x1000,ah,ay,au=>if x39=true then ((qP.f k).bind fun Ky=>(some Ky)) else ((iY.f k x1000 ah ay au).bind fun yT=>((mD.f k x1000 ah ay au).bind fun yU=>((dV.f k x1).bind fun oJ=>((eG.f k x1).bind fun oK=>(if yT.1.toList=yU.1.toList then (if yT.2=yU.2 then ((qc.f k oJ.1 oJ.2.1 oJ.2.2.1 oJ.2.2.2.1 oK.1 oK.2.1 oK.2.2.1 oK.2.2.2.1).bind fun yV=>(if yV=true then (if oJ.2.2.2.2=oK.2.2.2.2 then ((qP.f k).bind fun Kz=>(some Kz)) else (some false)) else (some false))) else (some false)) else (some false))))))
def kP.f (k:Nat) (dU:List Int) (av:List Int) (bA:ByteArray) (bg:ByteArray) (a1:ByteArray):Option (Bool):=if (dU.length:Int) > 60 then (kP.j0 k a1 true dU av bA bg) else (if (av.length:Int) > 60 then (kP.j0 k a1 true dU av bA bg) else (if (bA.size:Int) > 500 then (kP.j0 k a1 true dU av bA bg) else (if (bg.size:Int) > 500 then (kP.j0 k a1 true dU av bA bg) else (kP.j0 k a1 (decide ((a1.size:Int) > 1000)) dU av bA bg))))
theorem kP.az {k:Nat} {dU:List Int} {av:List Int} {bA:ByteArray} {bg:ByteArray} {a1:ByteArray} {r:(Bool)} (H:kP.f k dU av bA bg a1=some r):aW Tryz.prog 3 [.agg [.row none 1 (List.map I dU),.row none 1 (List.map I av),S bA,S bg],S a1] (B r):=by
 refine Cg Tryz.func3 rfl fun C hN hL=>?_
 unfold kP.f at H
 refine Sw<|Rg hN<|Sw<|Sw<|Good.cut (fun st=>∃ n':Nat,n'≤k∧∃ (x1:ByteArray) (x39:Bool) (x1000:List Int) (ah:List Int) (ay:ByteArray) (au:ByteArray),Wk C st ⟨[(1,.w (S x1)),(2,.d (.ptr 0 0)),(39,.w (B x39))],[.cells [.v (.row none 1 (List.map I x1000)),.v (.row none 1 (List.map I ah)),.v (S ay),.v (S au)]]⟩∧kP.j0 n' x1 x39 x1000 ah ay au=some r) ?_ ?_
 ·rcases ak H with ⟨vP,H⟩ | ⟨vP,H⟩
  ·exact Rh hN [I (dU.length:Int),B true,B true,B true,B true] (.cons (aR I dU) (.cons (dt vP) (.cons (rfl:true=true) (.cons (rfl:true=true) (.cons (rfl:true=true) .nil)))))<|⟨k,by omega,a1,true,dU,av,bA,bg,Wo [(1,0),(2,0),(39,0)],H⟩
  rcases ak H with ⟨yX,H⟩ | ⟨yX,H⟩
  ·exact Rh hN [I (dU.length:Int),B false,I (av.length:Int),B true,B true,B true] (.cons (aR I dU) (.cons (df vP) (.cons (aR I av) (.cons (dt yX) (.cons (rfl:true=true) (.cons (rfl:true=true) .nil))))))<|⟨k,by omega,a1,true,dU,av,bA,bg,Wo [(1,0),(2,0),(39,0)],H⟩
  rcases ak H with ⟨Dc,H⟩ | ⟨Dc,H⟩
  ·exact Rh hN [I (dU.length:Int),B false,I (av.length:Int),B false,B true,B true] (.cons (aR I dU) (.cons (df vP) (.cons (aR I av) (.cons (df yX) (.cons (dt Dc) (.cons (rfl:true=true) .nil))))))<|⟨k,by omega,a1,true,dU,av,bA,bg,Wo [(1,0),(2,0),(39,0)],H⟩
  rcases ak H with ⟨KA,H⟩ | ⟨KA,H⟩
  ·exact Rh hN [I (dU.length:Int),B false,I (av.length:Int),B false,B false,B true] (.cons (aR I dU) (.cons (df vP) (.cons (aR I av) (.cons (df yX) (.cons (df Dc) (.cons (dt KA) .nil))))))<|⟨k,by omega,a1,true,dU,av,bA,bg,Wo [(1,0),(2,0),(39,0)],H⟩
  exact Rh hN [I (dU.length:Int),B false,I (av.length:Int),B false,B false,B false] (.cons (aR I dU) (.cons (df vP) (.cons (aR I av) (.cons (df yX) (.cons (df Dc) (.cons (df KA) .nil))))))<|⟨k,by omega,a1,decide ((a1.size:Int) > 1000),dU,av,bA,bg,Wo [(1,0),(2,0),(39,0)],H⟩
 clear H
 rintro st ⟨n',hn',x1,x39,x1000,ah,ay,au,W,H⟩
 rcases n' with _ | k
 ·cases H
 refine W.good ?_
 rw [kP.j0] at H
 rcases ak H with ⟨KC,H⟩ | ⟨KC,H⟩
 ·refine Ct KC<|Sw ?_
  obtain ⟨Ky,afB,H⟩:=aF H
  refine Rh hN [B Ky] (.cons (qP.az afB).c .nil) ?_
  cases H
  exact Rt dR
 refine Cf (bf KC)<|Sk<|Sw ?_
 obtain ⟨yT,afC,H⟩:=aF H
 refine Rh hN [.aC [S yT.1,I yT.2]] (.cons (iY.az afC).c .nil)<|Sw ?_
 obtain ⟨yU,afD,H⟩:=aF H
 refine Rh hN [.aC [S yU.1,I yU.2]] (.cons (mD.az afD).c .nil)<|Sw ?_
 obtain ⟨oJ,afE,H⟩:=aF H
 refine Rh hN [.aC [.agg [.row none 1 (List.map I oJ.1),.row none 1 (List.map I oJ.2.1),S oJ.2.2.1,S oJ.2.2.2.1],I oJ.2.2.2.2]] (.cons (dV.az afE).c .nil)<|Sw ?_
 obtain ⟨oK,afF,H⟩:=aF H
 refine Rh hN [.aC [.agg [.row none 1 (List.map I oK.1),.row none 1 (List.map I oK.2.1),S oK.2.2.1,S oK.2.2.2.1],I oK.2.2.2.2]] (.cons (eG.az afF).c .nil)<|Sw ?_
 rcases (ak H).symm with ⟨vQ,H⟩ | ⟨vQ,H⟩
 ·refine Rh hN [B false,B false,B false,B false] (.cons (bn vQ) (.cons (rfl:false=false) (.cons (rfl:false=false) (.cons (rfl:false=false) .nil)))) ?_
  cases H
  exact Rt dR
 rcases (ak H).symm with ⟨yY,H⟩ | ⟨yY,H⟩
 ·refine Rh hN [B true,B false,B false,B false] (.cons (bq vQ) (.cons (bn yY) (.cons (rfl:false=false) (.cons (rfl:false=false) .nil)))) ?_
  cases H
  exact Rt dR
 obtain ⟨yV,KD,H⟩:=aF H
 rcases (ak H).symm with ⟨De,H⟩ | ⟨De,H⟩
 ·refine Rh hN [B true,B true,B yV,B false,B false] (.cons (bq vQ) (.cons (bq yY) (.cons (qc.az KD).c (.cons (bf De) (.cons (rfl:false=false) .nil))))) ?_
  cases H
  exact Rt dR
 rcases (ak H).symm with ⟨KE,H⟩ | ⟨KE,H⟩
 ·refine Rh hN [B true,B true,B yV,B true,B false] (.cons (bq vQ) (.cons (bq yY) (.cons (qc.az KD).c (.cons De (.cons (bn KE) .nil))))) ?_
  cases H
  exact Rt dR
 obtain ⟨Kz,afG,H⟩:=aF H
 refine Rh hN [B true,B true,B yV,B true,B true,B Kz] (.cons (bq vQ) (.cons (bq yY) (.cons (qc.az KD).c (.cons De (.cons (bq KE) (.cons (qP.az afG).c .nil)))))) ?_
 cases H
 exact Rt dR
end Go.Rf.T
