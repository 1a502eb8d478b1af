import Derived.Test.YtdombjceoocnhaaGreatDoorTSec1Tells0
set_option linter.unusedSectionVars false
set_option linter.unusedSimpArgs false
set_option linter.unusedVariables false
namespace Go.Rf.T
open Go Go.Rf Go.Proofs Go.RowKit Go.Proofs.YtdombjceoocnhaaGreatDoor
theorem pg.au {aJ:ByteArray} {az:List af} {aY:List (Nat × Nat)} {ai:List Int} {fA:Int} {eD:Int} {eF:Bool} {oU:Int} {a2:ByteArray} {a3:(Nat × Nat)} {r:(List af × List (Nat × Nat) × List Int)} (H:pg.f aJ az aY ai fA eD eF oU a2 a3=some r):lY Tryz.prog 85 [.ptr 0 0,.v (.agg [I fA,I eD,B eF,I oU]),.v (S a2),.v (Cx a3)] [[S aJ,.row (some 55) 5 (List.map (v55 1) az),.row (some 67) 1 (List.map Cx aY),.row (some 3) 1 (List.map I ai)]] (.v (.aD [])) [[S aJ,.row (some 55) 5 (List.map (v55 1) r.1),.row (some 67) 1 (List.map Cx r.2.1),.row (some 3) 1 (List.map I r.2.2)]]:=by
 refine vM Tryz.func85 rfl (by kernel_rfl) (by kernel_rfl) fun C hN hL=>?_
 unfold pg.f at H
 refine Sw<|Rg hN<|Sw<|Rh hN [I (az.length:Int)] (.c1 (aT (v55 1) az))<|Sw<|Sw<|Rh hN [I (ai.length:Int)] (.c1 (aT I ai)) ?_
 rcases (aj H).symm with ⟨Ph,H⟩ | ⟨Ph,H⟩
 ·refine Cf (df Ph)<|Sk<|Sw<|Rg hN<|Sw<|Sw<|Rg hN ?_
  rcases (aj H).symm with ⟨Pj,H⟩ | ⟨Pj,H⟩
  ·refine Cf (bf Pj)<|Rg hN<|Sw ?_
   obtain ⟨akw,H⟩:=ax H
   refine Rd hm hN (.i 0 (.q 1 [[4,3,2],[]] (.q 2 [[4,3],[]] (.q 3 [[4],[]] (.q 4 [[],[]] (.q 5 [[6],[]] (.e 6 (.e 7 (.i 8 (.i 9 (.e 10 .z))))))))))) [(0,some (.pt [S aJ,.row none 5 (List.map (v55 0) az),.row none 1 (List.map Cx aY),.row none 1 (List.map I ai)])),(10,some (.pt [I fA,I eD,B eF,S a2,.nil 3 1]))] (.c2 (bJ (ay (rfl:(V.shr (S aJ))=S aJ) (ay (aS (some 55) 5 (v55 1) (v55 0) az (v55.shr _)) (ay (aS (some 67) 1 Cx Cx aY (fun _=>rfl)) (ay (aS (some 3) 1 I I ai (fun _=>rfl)) (rfl:aX []=[])))))) (bJ (ay (rfl:(V.shr (I fA))=I fA) (ay (rfl:(V.shr (I eD))=I eD) (ay (rfl:(V.shr (B eF))=B eF) (ay (rfl:(V.shr (S a2))=S a2) (ay (rfl:(V.shr (.nil 3 1))=.nil 3 1) (rfl:aX []=[])))))))) [.kb true,.row (some 55) 5 (List.map (v55 1) (az++[(⟨fA,eD,eF,a2,([]:List Int)⟩:af)]))] [] (.c2 (dY (v55 1) az [(⟨fA,eD,eF,a2,([]:List Int)⟩:af)] (.c1 (.agg (.c5 (.refl _) (.refl _) (.refl _) (.refl _) (.iA 3 1))))) (eZ (v55 1) akw)) .nil [] [] ?_
   obtain ⟨akx,H⟩:=ax H
   refine Rh hN [.kb true,.row (some 67) 1 (List.map Cx (aY++[a3]))] (.c2 (dY Cx aY [a3] (.refl _)) (eZ Cx akx)) ?_
   cases H
   exact yu (.refl _) (cz.refl _) (by kernel_rfl) rfl
  refine Ct Pj ?_
  obtain ⟨aky,H⟩:=ax H
  refine Rh hN [.kb true,.row (some 3) 1 (List.map I (ai++[(az.length:Int)]))] (.c2 (dY I ai [(az.length:Int)] (.refl _)) (eZ I aky))<|Sw ?_
  obtain ⟨akz,H⟩:=ax H
  refine Rd hm hN (.i 0 (.q 1 [[4,3,2],[]] (.q 2 [[4,3],[]] (.q 3 [[4],[]] (.q 4 [[],[]] (.q 5 [[6],[]] (.e 6 (.e 7 (.i 8 (.i 9 (.e 10 .z))))))))))) [(0,some (.pt [S aJ,.row none 5 (List.map (v55 0) az),.row none 1 (List.map Cx aY),.row none 1 (List.map I (ai++[(az.length:Int)]))])),(10,some (.pt [I fA,I eD,B eF,S (⟨#[]⟩:ByteArray),.nil 3 1]))] (.c2 (bJ (ay (rfl:(V.shr (S aJ))=S aJ) (ay (aS (some 55) 5 (v55 1) (v55 0) az (v55.shr _)) (ay (aS (some 67) 1 Cx Cx aY (fun _=>rfl)) (ay (aS (some 3) 1 I I (ai++[(az.length:Int)]) (fun _=>rfl)) (rfl:aX []=[])))))) (bJ (ay (rfl:(V.shr (I fA))=I fA) (ay (rfl:(V.shr (I eD))=I eD) (ay (rfl:(V.shr (B eF))=B eF) (ay (rfl:(V.shr (S (⟨#[]⟩:ByteArray)))=S (⟨#[]⟩:ByteArray)) (ay (rfl:(V.shr (.nil 3 1))=.nil 3 1) (rfl:aX []=[])))))))) [.kb true,.row (some 55) 5 (List.map (v55 1) (az++[(⟨fA,eD,eF,(⟨#[]⟩:ByteArray),([]:List Int)⟩:af)]))] [] (.c2 (dY (v55 1) az [(⟨fA,eD,eF,(⟨#[]⟩:ByteArray),([]:List Int)⟩:af)] (.c1 (.agg (.c5 (.refl _) (.refl _) (.refl _) (.refl _) (.iA 3 1))))) (eZ (v55 1) akz)) .nil [] [] ?_
  obtain ⟨akA,H⟩:=ax H
  refine Rh hN [.kb true,.row (some 67) 1 (List.map Cx (aY++[a3]))] (.c2 (dY Cx aY [a3] (.refl _)) (eZ Cx akA)) ?_
  cases H
  exact yu (.refl _) (cz.refl _) (by kernel_rfl) rfl
 refine Ct (dt Ph)<|Sw ?_
 obtain ⟨EX,H⟩:=ax H
 obtain ⟨Pk,H⟩:=ax H
 refine Rd hm hN (.qs 12 0 (.q 12 [] .z)) [(0,some (.pt [S aJ,.row none 5 (List.map (v55 0) az),.row none 1 (List.map Cx aY),.row none 1 (List.map I ai)]))] (.c1 (bJ (ay (rfl:(V.shr (S aJ))=S aJ) (ay (aS (some 55) 5 (v55 1) (v55 0) az (v55.shr _)) (ay (aS (some 67) 1 Cx Cx aY (fun _=>rfl)) (ay (aS (some 3) 1 I I ai (fun _=>rfl)) (rfl:aX []=[]))))))) [I (ai.length:Int),I (rd ai (wrap64 ((ai.length:Int) - 1)))] [I (ai.length:Int),I (rd ai (wrap64 ((ai.length:Int) - 1)))] (.c4 (aT I ai) EX (gz I Pk) (aF I (0:Int) EX Pk)) (.c3 (aT I ai) EX (aF I (0:Int) EX Pk)) [] [] ?_
 obtain ⟨jo,H⟩:=ax H
 obtain ⟨ku,H⟩:=ax H
 obtain ⟨Pm,H⟩:=ax H
 replace H:=oK H
 refine Rb 3 hm hN hL (.is 3 0 (.i 4 (.q 5 [[12,11,10,8,7,6],[]] (.q 6 [[12,11,10,8,7],[]] (.q 7 [[12,11,10,8],[]] (.q 8 [[12,11,10],[]] (.q 9 [[12,11,10],[]] (.q 10 [[12,11],[]] (.q 11 [[12],[]] (.q 12 [[],[]] (.q 13 [[14],[]] (.b 3 [.kb true,(v55 1) (aa az (rd ai (wrap64 ((ai.length:Int) - 1)))),.row (some 3) 1 (List.map I (((aa az (rd ai (wrap64 ((ai.length:Int) - 1)))).f4)++[(az.length:Int)])),dU ((v55 1) (aa az (rd ai (wrap64 ((ai.length:Int) - 1))))) 4 [.any],(v55 1) (⟨(aa az (rd ai (wrap64 ((ai.length:Int) - 1)))).f0,(aa az (rd ai (wrap64 ((ai.length:Int) - 1)))).f1,(aa az (rd ai (wrap64 ((ai.length:Int) - 1)))).f2,(aa az (rd ai (wrap64 ((ai.length:Int) - 1)))).f3,(((aa az (rd ai (wrap64 ((ai.length:Int) - 1)))).f4)++[(az.length:Int)])⟩:af),.row (some 55) 5 (List.map (v55 1) (az.set ((rd ai (wrap64 ((ai.length:Int) - 1))):Int).toNat (⟨(aa az (rd ai (wrap64 ((ai.length:Int) - 1)))).f0,(aa az (rd ai (wrap64 ((ai.length:Int) - 1)))).f1,(aa az (rd ai (wrap64 ((ai.length:Int) - 1)))).f2,(aa az (rd ai (wrap64 ((ai.length:Int) - 1)))).f3,(((aa az (rd ai (wrap64 ((ai.length:Int) - 1)))).f4)++[(az.length:Int)])⟩:af)))] [] (.e 14 (.e 15 (.e 16 (.e 17 (.e 18 .z))))) [] [] (.e 14 (.b 3 [.kb true,(v55 1) (aa az (rd ai (wrap64 ((ai.length:Int) - 1)))),.row (some 3) 1 (List.map I (((aa az (rd ai (wrap64 ((ai.length:Int) - 1)))).f4)++[(az.length:Int)])),dU ((v55 1) (aa az (rd ai (wrap64 ((ai.length:Int) - 1))))) 4 [.any],(v55 1) (⟨(aa az (rd ai (wrap64 ((ai.length:Int) - 1)))).f0,(aa az (rd ai (wrap64 ((ai.length:Int) - 1)))).f1,(aa az (rd ai (wrap64 ((ai.length:Int) - 1)))).f2,(aa az (rd ai (wrap64 ((ai.length:Int) - 1)))).f3,(((aa az (rd ai (wrap64 ((ai.length:Int) - 1)))).f4)++[(az.length:Int)])⟩:af),.row (some 55) 5 (List.map (v55 1) (az.set ((rd ai (wrap64 ((ai.length:Int) - 1))):Int).toNat (⟨(aa az (rd ai (wrap64 ((ai.length:Int) - 1)))).f0,(aa az (rd ai (wrap64 ((ai.length:Int) - 1)))).f1,(aa az (rd ai (wrap64 ((ai.length:Int) - 1)))).f2,(aa az (rd ai (wrap64 ((ai.length:Int) - 1)))).f3,(((aa az (rd ai (wrap64 ((ai.length:Int) - 1)))).f4)++[(az.length:Int)])⟩:af)))] [] (.e 15 (.e 16 (.e 17 (.e 18 .z)))) [.kb true,(v55 1) (aa az (rd ai (wrap64 ((ai.length:Int) - 1)))),.row (some 3) 1 (List.map I (((aa az (rd ai (wrap64 ((ai.length:Int) - 1)))).f4)++[(az.length:Int)])),dU ((v55 1) (aa az (rd ai (wrap64 ((ai.length:Int) - 1))))) 4 [.any],(v55 1) (⟨(aa az (rd ai (wrap64 ((ai.length:Int) - 1)))).f0,(aa az (rd ai (wrap64 ((ai.length:Int) - 1)))).f1,(aa az (rd ai (wrap64 ((ai.length:Int) - 1)))).f2,(aa az (rd ai (wrap64 ((ai.length:Int) - 1)))).f3,(((aa az (rd ai (wrap64 ((ai.length:Int) - 1)))).f4)++[(az.length:Int)])⟩:af),.row (some 55) 5 (List.map (v55 1) (az.set ((rd ai (wrap64 ((ai.length:Int) - 1))):Int).toNat (⟨(aa az (rd ai (wrap64 ((ai.length:Int) - 1)))).f0,(aa az (rd ai (wrap64 ((ai.length:Int) - 1)))).f1,(aa az (rd ai (wrap64 ((ai.length:Int) - 1)))).f2,(aa az (rd ai (wrap64 ((ai.length:Int) - 1)))).f3,(((aa az (rd ai (wrap64 ((ai.length:Int) - 1)))).f4)++[(az.length:Int)])⟩:af)))] [] (.e 15 (.e 3 (.e 16 (.e 17 (.e 18 .z))))))))))))))))))) [(0,some (.pt [S aJ,.row none 5 (List.map (v55 0) az),.row none 1 (List.map Cx aY),.row none 1 (List.map I ai)])),(8,none),(9,none)] (.c1 (bJ (ay (rfl:(V.shr (S aJ))=S aJ) (ay (aS (some 55) 5 (v55 1) (v55 0) az (v55.shr _)) (ay (aS (some 67) 1 Cx Cx aY (fun _=>rfl)) (ay (aS (some 3) 1 I I ai (fun _=>rfl)) (rfl:aX []=[]))))))) [(v55 1) (aa az (rd ai (wrap64 ((ai.length:Int) - 1))))] [(v55 0) (aa az (rd ai (wrap64 ((ai.length:Int) - 1))))] (.cons (.cons jo (.cons (gz (v55 1) ku) (.cons (aF (v55 1) z55 jo ku) (.c8 (aF (v55 1) z55 jo ku) (dY I ((aa az (rd ai (wrap64 ((ai.length:Int) - 1)))).f4) [(az.length:Int)] (.refl _)) (eZ I Pm) jo (sU (v55 1) (m:=((rd ai (wrap64 ((ai.length:Int) - 1))):Int).toNat) (X:=dU ((v55 1) (aa az (rd ai (wrap64 ((ai.length:Int) - 1))))) 4 [.any]) ku) (sW (v55 1) (X:=dU ((v55 1) (aa az (rd ai (wrap64 ((ai.length:Int) - 1))))) 4 [.any]) jo ku) (Fit.refl ((v55 1) (⟨(aa az (rd ai (wrap64 ((ai.length:Int) - 1)))).f0,(aa az (rd ai (wrap64 ((ai.length:Int) - 1)))).f1,(aa az (rd ai (wrap64 ((ai.length:Int) - 1)))).f2,(aa az (rd ai (wrap64 ((ai.length:Int) - 1)))).f3,(((aa az (rd ai (wrap64 ((ai.length:Int) - 1)))).f4)++[(az.length:Int)])⟩:af))) (setH (v55 1) (l:=az) (n:=((rd ai (wrap64 ((ai.length:Int) - 1))):Int).toNat) (x:=(⟨(aa az (rd ai (wrap64 ((ai.length:Int) - 1)))).f0,(aa az (rd ai (wrap64 ((ai.length:Int) - 1)))).f1,(aa az (rd ai (wrap64 ((ai.length:Int) - 1)))).f2,(aa az (rd ai (wrap64 ((ai.length:Int) - 1)))).f3,(((aa az (rd ai (wrap64 ((ai.length:Int) - 1)))).f4)++[(az.length:Int)])⟩:af)) (X:=dU ((v55 1) (aa az (rd ai (wrap64 ((ai.length:Int) - 1))))) 4 [.any])))))) (.c2 jo (aF (v55 0) z55 jo ku)) (.cons (.cons jo (.cons (gz (v55 1) ku) (.cons (aF (v55 1) z55 jo ku) (.c8 (aF (v55 1) z55 jo ku) (dY I ((aa az (rd ai (wrap64 ((ai.length:Int) - 1)))).f4) [(az.length:Int)] (.refl _)) (eZ I Pm) jo (sU (v55 1) (m:=((rd ai (wrap64 ((ai.length:Int) - 1))):Int).toNat) (X:=dU ((v55 1) (aa az (rd ai (wrap64 ((ai.length:Int) - 1))))) 4 [.any]) ku) (sW (v55 1) (X:=dU ((v55 1) (aa az (rd ai (wrap64 ((ai.length:Int) - 1))))) 4 [.any]) jo ku) (Fit.refl ((v55 1) (⟨(aa az (rd ai (wrap64 ((ai.length:Int) - 1)))).f0,(aa az (rd ai (wrap64 ((ai.length:Int) - 1)))).f1,(aa az (rd ai (wrap64 ((ai.length:Int) - 1)))).f2,(aa az (rd ai (wrap64 ((ai.length:Int) - 1)))).f3,(((aa az (rd ai (wrap64 ((ai.length:Int) - 1)))).f4)++[(az.length:Int)])⟩:af))) (setH (v55 1) (l:=az) (n:=((rd ai (wrap64 ((ai.length:Int) - 1))):Int).toNat) (x:=(⟨(aa az (rd ai (wrap64 ((ai.length:Int) - 1)))).f0,(aa az (rd ai (wrap64 ((ai.length:Int) - 1)))).f1,(aa az (rd ai (wrap64 ((ai.length:Int) - 1)))).f2,(aa az (rd ai (wrap64 ((ai.length:Int) - 1)))).f3,(((aa az (rd ai (wrap64 ((ai.length:Int) - 1)))).f4)++[(az.length:Int)])⟩:af)) (X:=dU ((v55 1) (aa az (rd ai (wrap64 ((ai.length:Int) - 1))))) 4 [.any])))))) (.c2 jo (aF (v55 0) z55 jo ku)) (.cons (.cons jo (.cons (gz (v55 1) ku) (.cons (aF (v55 1) z55 jo ku) (.c8 (aF (v55 1) z55 jo ku) (dY I ((aa az (rd ai (wrap64 ((ai.length:Int) - 1)))).f4) [(az.length:Int)] (.refl _)) (eZ I Pm) jo (sU (v55 1) (m:=((rd ai (wrap64 ((ai.length:Int) - 1))):Int).toNat) (X:=dU ((v55 1) (aa az (rd ai (wrap64 ((ai.length:Int) - 1))))) 4 [.any]) ku) (sW (v55 1) (X:=dU ((v55 1) (aa az (rd ai (wrap64 ((ai.length:Int) - 1))))) 4 [.any]) jo ku) (Fit.refl ((v55 1) (⟨(aa az (rd ai (wrap64 ((ai.length:Int) - 1)))).f0,(aa az (rd ai (wrap64 ((ai.length:Int) - 1)))).f1,(aa az (rd ai (wrap64 ((ai.length:Int) - 1)))).f2,(aa az (rd ai (wrap64 ((ai.length:Int) - 1)))).f3,(((aa az (rd ai (wrap64 ((ai.length:Int) - 1)))).f4)++[(az.length:Int)])⟩:af))) (setH (v55 1) (l:=az) (n:=((rd ai (wrap64 ((ai.length:Int) - 1))):Int).toNat) (x:=(⟨(aa az (rd ai (wrap64 ((ai.length:Int) - 1)))).f0,(aa az (rd ai (wrap64 ((ai.length:Int) - 1)))).f1,(aa az (rd ai (wrap64 ((ai.length:Int) - 1)))).f2,(aa az (rd ai (wrap64 ((ai.length:Int) - 1)))).f3,(((aa az (rd ai (wrap64 ((ai.length:Int) - 1)))).f4)++[(az.length:Int)])⟩:af)) (X:=dU ((v55 1) (aa az (rd ai (wrap64 ((ai.length:Int) - 1))))) 4 [.any])))))) (.c2 jo (aF (v55 0) z55 jo ku)) .nil))) [] [] [[],[],[]] [(0,0),(2,0),(3,0),(5,0),(8,0)] [(0,.d (.ptr 0 0)),(2,.w (S a2)),(3,.w (Cx a3)),(5,.d (.ptr 1 0)),(8,.w (I (az.length:Int)))] [.cells [.v (S aJ),.v (.row (some 55) 5 (List.map (v55 1) (az.set ((rd ai (wrap64 ((ai.length:Int) - 1))):Int).toNat (⟨(aa az (rd ai (wrap64 ((ai.length:Int) - 1)))).f0,(aa az (rd ai (wrap64 ((ai.length:Int) - 1)))).f1,(aa az (rd ai (wrap64 ((ai.length:Int) - 1)))).f2,(aa az (rd ai (wrap64 ((ai.length:Int) - 1)))).f3,(((aa az (rd ai (wrap64 ((ai.length:Int) - 1)))).f4)++[(az.length:Int)])⟩:af)))),.v (.row (some 67) 1 (List.map Cx aY)),.v (.row (some 3) 1 (List.map I ai))],.cells [.v (I fA),.v (I eD),.v (B eF),.v (I oU)]]<|Sw<|Rg hN<|Sw<|Sw<|Rg hN ?_
 rcases (aj H).symm with ⟨Pn,H⟩ | ⟨Pn,H⟩
 ·refine Cf (bf Pn)<|Rg hN<|Sw ?_
  obtain ⟨akB,H⟩:=ax H
  refine Rd hm hN (.i 0 (.q 1 [[4,3,2],[]] (.q 2 [[4,3],[]] (.q 3 [[4],[]] (.q 4 [[],[]] (.q 5 [[6],[]] (.e 6 (.e 7 (.i 8 (.i 9 (.e 10 .z))))))))))) [(0,some (.pt [S aJ,.row none 5 (List.map (v55 0) (az.set ((rd ai (wrap64 ((ai.length:Int) - 1))):Int).toNat (⟨(aa az (rd ai (wrap64 ((ai.length:Int) - 1)))).f0,(aa az (rd ai (wrap64 ((ai.length:Int) - 1)))).f1,(aa az (rd ai (wrap64 ((ai.length:Int) - 1)))).f2,(aa az (rd ai (wrap64 ((ai.length:Int) - 1)))).f3,(((aa az (rd ai (wrap64 ((ai.length:Int) - 1)))).f4)++[(az.length:Int)])⟩:af))),.row none 1 (List.map Cx aY),.row none 1 (List.map I ai)])),(10,some (.pt [I fA,I eD,B eF,S a2,.nil 3 1]))] (.c2 (bJ (ay (rfl:(V.shr (S aJ))=S aJ) (ay (aS (some 55) 5 (v55 1) (v55 0) (az.set ((rd ai (wrap64 ((ai.length:Int) - 1))):Int).toNat (⟨(aa az (rd ai (wrap64 ((ai.length:Int) - 1)))).f0,(aa az (rd ai (wrap64 ((ai.length:Int) - 1)))).f1,(aa az (rd ai (wrap64 ((ai.length:Int) - 1)))).f2,(aa az (rd ai (wrap64 ((ai.length:Int) - 1)))).f3,(((aa az (rd ai (wrap64 ((ai.length:Int) - 1)))).f4)++[(az.length:Int)])⟩:af)) (v55.shr _)) (ay (aS (some 67) 1 Cx Cx aY (fun _=>rfl)) (ay (aS (some 3) 1 I I ai (fun _=>rfl)) (rfl:aX []=[])))))) (bJ (ay (rfl:(V.shr (I fA))=I fA) (ay (rfl:(V.shr (I eD))=I eD) (ay (rfl:(V.shr (B eF))=B eF) (ay (rfl:(V.shr (S a2))=S a2) (ay (rfl:(V.shr (.nil 3 1))=.nil 3 1) (rfl:aX []=[])))))))) [.kb true,.row (some 55) 5 (List.map (v55 1) ((az.set ((rd ai (wrap64 ((ai.length:Int) - 1))):Int).toNat (⟨(aa az (rd ai (wrap64 ((ai.length:Int) - 1)))).f0,(aa az (rd ai (wrap64 ((ai.length:Int) - 1)))).f1,(aa az (rd ai (wrap64 ((ai.length:Int) - 1)))).f2,(aa az (rd ai (wrap64 ((ai.length:Int) - 1)))).f3,(((aa az (rd ai (wrap64 ((ai.length:Int) - 1)))).f4)++[(az.length:Int)])⟩:af))++[(⟨fA,eD,eF,a2,([]:List Int)⟩:af)]))] [] (.c2 (dY (v55 1) (az.set ((rd ai (wrap64 ((ai.length:Int) - 1))):Int).toNat (⟨(aa az (rd ai (wrap64 ((ai.length:Int) - 1)))).f0,(aa az (rd ai (wrap64 ((ai.length:Int) - 1)))).f1,(aa az (rd ai (wrap64 ((ai.length:Int) - 1)))).f2,(aa az (rd ai (wrap64 ((ai.length:Int) - 1)))).f3,(((aa az (rd ai (wrap64 ((ai.length:Int) - 1)))).f4)++[(az.length:Int)])⟩:af)) [(⟨fA,eD,eF,a2,([]:List Int)⟩:af)] (.c1 (.agg (.c5 (.refl _) (.refl _) (.refl _) (.refl _) (.iA 3 1))))) (eZ (v55 1) akB)) .nil [] [] ?_
  obtain ⟨akC,H⟩:=ax H
  refine Rh hN [.kb true,.row (some 67) 1 (List.map Cx (aY++[a3]))] (.c2 (dY Cx aY [a3] (.refl _)) (eZ Cx akC)) ?_
  cases H
  exact yu (.refl _) (cz.refl _) (by kernel_rfl) rfl
 refine Ct Pn ?_
 obtain ⟨akD,H⟩:=ax H
 refine Rh hN [.kb true,.row (some 3) 1 (List.map I (ai++[(az.length:Int)]))] (.c2 (dY I ai [(az.length:Int)] (.refl _)) (eZ I akD))<|Sw ?_
 obtain ⟨akE,H⟩:=ax H
 refine Rd hm hN (.i 0 (.q 1 [[4,3,2],[]] (.q 2 [[4,3],[]] (.q 3 [[4],[]] (.q 4 [[],[]] (.q 5 [[6],[]] (.e 6 (.e 7 (.i 8 (.i 9 (.e 10 .z))))))))))) [(0,some (.pt [S aJ,.row none 5 (List.map (v55 0) (az.set ((rd ai (wrap64 ((ai.length:Int) - 1))):Int).toNat (⟨(aa az (rd ai (wrap64 ((ai.length:Int) - 1)))).f0,(aa az (rd ai (wrap64 ((ai.length:Int) - 1)))).f1,(aa az (rd ai (wrap64 ((ai.length:Int) - 1)))).f2,(aa az (rd ai (wrap64 ((ai.length:Int) - 1)))).f3,(((aa az (rd ai (wrap64 ((ai.length:Int) - 1)))).f4)++[(az.length:Int)])⟩:af))),.row none 1 (List.map Cx aY),.row none 1 (List.map I (ai++[(az.length:Int)]))])),(10,some (.pt [I fA,I eD,B eF,S (⟨#[]⟩:ByteArray),.nil 3 1]))] (.c2 (bJ (ay (rfl:(V.shr (S aJ))=S aJ) (ay (aS (some 55) 5 (v55 1) (v55 0) (az.set ((rd ai (wrap64 ((ai.length:Int) - 1))):Int).toNat (⟨(aa az (rd ai (wrap64 ((ai.length:Int) - 1)))).f0,(aa az (rd ai (wrap64 ((ai.length:Int) - 1)))).f1,(aa az (rd ai (wrap64 ((ai.length:Int) - 1)))).f2,(aa az (rd ai (wrap64 ((ai.length:Int) - 1)))).f3,(((aa az (rd ai (wrap64 ((ai.length:Int) - 1)))).f4)++[(az.length:Int)])⟩:af)) (v55.shr _)) (ay (aS (some 67) 1 Cx Cx aY (fun _=>rfl)) (ay (aS (some 3) 1 I I (ai++[(az.length:Int)]) (fun _=>rfl)) (rfl:aX []=[])))))) (bJ (ay (rfl:(V.shr (I fA))=I fA) (ay (rfl:(V.shr (I eD))=I eD) (ay (rfl:(V.shr (B eF))=B eF) (ay (rfl:(V.shr (S (⟨#[]⟩:ByteArray)))=S (⟨#[]⟩:ByteArray)) (ay (rfl:(V.shr (.nil 3 1))=.nil 3 1) (rfl:aX []=[])))))))) [.kb true,.row (some 55) 5 (List.map (v55 1) ((az.set ((rd ai (wrap64 ((ai.length:Int) - 1))):Int).toNat (⟨(aa az (rd ai (wrap64 ((ai.length:Int) - 1)))).f0,(aa az (rd ai (wrap64 ((ai.length:Int) - 1)))).f1,(aa az (rd ai (wrap64 ((ai.length:Int) - 1)))).f2,(aa az (rd ai (wrap64 ((ai.length:Int) - 1)))).f3,(((aa az (rd ai (wrap64 ((ai.length:Int) - 1)))).f4)++[(az.length:Int)])⟩:af))++[(⟨fA,eD,eF,(⟨#[]⟩:ByteArray),([]:List Int)⟩:af)]))] [] (.c2 (dY (v55 1) (az.set ((rd ai (wrap64 ((ai.length:Int) - 1))):Int).toNat (⟨(aa az (rd ai (wrap64 ((ai.length:Int) - 1)))).f0,(aa az (rd ai (wrap64 ((ai.length:Int) - 1)))).f1,(aa az (rd ai (wrap64 ((ai.length:Int) - 1)))).f2,(aa az (rd ai (wrap64 ((ai.length:Int) - 1)))).f3,(((aa az (rd ai (wrap64 ((ai.length:Int) - 1)))).f4)++[(az.length:Int)])⟩:af)) [(⟨fA,eD,eF,(⟨#[]⟩:ByteArray),([]:List Int)⟩:af)] (.c1 (.agg (.c5 (.refl _) (.refl _) (.refl _) (.refl _) (.iA 3 1))))) (eZ (v55 1) akE)) .nil [] [] ?_
 obtain ⟨akF,H⟩:=ax H
 refine Rh hN [.kb true,.row (some 67) 1 (List.map Cx (aY++[a3]))] (.c2 (dY Cx aY [a3] (.refl _)) (eZ Cx akF)) ?_
 cases H
 exact yu (.refl _) (cz.refl _) (by kernel_rfl) rfl
def pM.f (a0:Int) (a1:Int):Option ((Nat × Nat)):=if (mn a0 a1) < 0 then (some (0,0)) else (if (mx a0 a1) > 65552 then (some (0,0)) else ((ql.f (floatOfInt .f64 a0,floatOfInt .f64 a1)).bind fun Po=>(some Po)))
theorem pM.au {a0:Int} {a1:Int} {r:((Nat × Nat))} (H:pM.f a0 a1=some r):aQ Tryz.prog 86 [I a0,I a1] (Cx r):=by
 refine Cg Tryz.func86 rfl fun C hN hL=>?_
 unfold pM.f at H
 refine Sw<|Rg hN<|Sw<|Sw ?_
 rcases aj H with ⟨Pp,H⟩ | ⟨Pp,H⟩
 ·refine Rh hN [B true] (.c1 (dt Pp))<|Good.cond true (by kernel_rfl)<|Sw<|Rg hN ?_
  cases H
  exact Rt dR
 refine Rh hN [B false] (.c1 (df Pp)) ?_
 rcases aj H with ⟨Pq,H⟩ | ⟨Pq,H⟩
 ·refine Ct (dt Pq)<|Sw<|Rg hN ?_
  cases H
  exact Rt dR
 refine Cf (df Pq)<|Sk<|Sw ?_
 obtain ⟨Po,akG,H⟩:=aC H
 refine Rh hN [Cx Po] (.c1 (ql.au akG).c) ?_
 cases H
 exact Rt dR
def iK.l0:Nat→Int→ByteArray→List af→List (Nat × Nat)→List Int→Option (Bool × ByteArray × List af × List (Nat × Nat) × List Int)
 | 0,_,_,_,_,_=>none
 | k+1,x1,x1000,ah,aA,av=>if (av.length:Int) > 0 then ((ou.f x1000 ah aA av).bind fun Ps=>(if Ps=x1 then (if 0≤(wrap64 ((av.length:Int) - 1)) then (if (wrap64 ((av.length:Int) - 1))≤(av.length:Int) then (iK.l0 k x1 x1000 ah aA (av.take ((wrap64 ((av.length:Int) - 1)):Int).toNat)) else (none)) else (none)) else (some (((av.length:Int) == 0),x1000,ah,aA,av)))) else (some (((av.length:Int) == 0),x1000,ah,aA,av))
def iK.f (k:Nat) (aJ:ByteArray) (az:List af) (aY:List (Nat × Nat)) (ai:List Int) (a1:Int):Option (Bool × ByteArray × List af × List (Nat × Nat) × List Int):=iK.l0 k a1 aJ az aY ai
theorem iK.au {k:Nat} {aJ:ByteArray} {az:List af} {aY:List (Nat × Nat)} {ai:List Int} {a1:Int} {r:(Bool × ByteArray × List af × List (Nat × Nat) × List Int)} (H:iK.f k aJ az aY ai a1=some r):lY Tryz.prog 87 [.ptr 0 0,.v (I a1)] [[S aJ,.row (some 55) 5 (List.map (v55 1) az),.row (some 67) 1 (List.map Cx aY),.row (some 3) 1 (List.map I ai)]] (.v (B r.1)) [[S r.2.1,.row (some 55) 5 (List.map (v55 1) r.2.2.1),.row (some 67) 1 (List.map Cx r.2.2.2.1),.row (some 3) 1 (List.map I r.2.2.2.2)]]:=by
 refine vM Tryz.func87 rfl (by kernel_rfl) (by kernel_rfl) fun C hN hL=>?_
 unfold iK.f at H
 refine Sw<|Rg hN<|Sw<|Bl<|Good.dN (fun k' st=>∃ (x1:Int) (x1000:ByteArray) (ah:List af) (aA:List (Nat × Nat)) (av:List Int),k'≤k∧Wk C st ⟨[(0,.d (.ptr 0 0)),(1,.w (I x1))],[.cells [.v (S x1000),.v (.row (some 55) 5 (List.map (v55 1) ah)),.v (.row (some 67) 1 (List.map Cx aA)),.v (.row (some 3) 1 (List.map I av))]]⟩∧iK.l0 k' x1 x1000 ah aA av=some r) k ⟨a1,aJ,az,aY,ai,Nat.le_refl _,Wo [(0,0),(1,0)],H⟩ fun k=>⟨fun st h=>(by obtain ⟨_,_,_,_,_,_,_,H⟩:=h;cases H),?_⟩
 clear H
 rintro st ⟨x1,x1000,ah,aA,av,hk,W,H⟩
 refine W.good ?_
 rw [iK.l0] at H
 refine Sw<|Sw ?_
 rcases (aj H).symm with ⟨Pv,H⟩ | ⟨Pv,H⟩
 ·refine Rh hN [I (av.length:Int),B false] (.c2 (aT I av) (df Pv))<|Good.cond false (by kernel_rfl)<|Ex<|Sw<|Rh hN [I (av.length:Int)] (.c1 (aT I av)) ?_
  cases H
  exact Good.ret (gT (.refl _) (cz.refl _) (by kernel_rfl) rfl)
 obtain ⟨Ps,akH,H⟩:=aC H
 refine Rh hN [I (av.length:Int),B true,I Ps,.aD [.agg [S x1000,.row (some 55) 5 (List.map (v55 1) ah),.row (some 67) 1 (List.map Cx aA),.row (some 3) 1 (List.map I av)]]] (.c3 (aT I av) (dt Pv) (ou.au akH).c) ?_
 rcases (aj H).symm with ⟨Pw,H⟩ | ⟨Pw,H⟩
 ·refine Cf (bn Pw)<|Ex<|Sw<|Rh hN [I (av.length:Int)] (.c1 (aT I av)) ?_
  cases H
  exact Good.ret (gT (.refl _) (cz.refl _) (by kernel_rfl) rfl)
 refine Ct (bq Pw)<|Sk<|Bl ?_
 obtain ⟨akI,H⟩:=ax H
 obtain ⟨akJ,H⟩:=ax H
 exact Rd hm hN (.q 0 [[]] (.q 1 [[]] (.q 2 [[]] (.q 3 [[]] (.q 4 [[]] (.q 5 [[]] (.q 6 [[]] (.q 7 [[]] (.q 8 [[]] (.q 9 [[]] (.q 10 [[]] (.e 11 (.q 12 [[13]] (.q 13 [[]] (.e 14 .z))))))))))))))) [(0,some (.pt [S x1000,.row none 5 (List.map (v55 0) ah),.row none 1 (List.map Cx aA),.row none 1 (List.map I av)]))] (.c1 (bJ (ay (rfl:(V.shr (S x1000))=S x1000) (ay (aS (some 55) 5 (v55 1) (v55 0) ah (v55.shr _)) (ay (aS (some 67) 1 Cx Cx aA (fun _=>rfl)) (ay (aS (some 3) 1 I I av (fun _=>rfl)) (rfl:aX []=[]))))))) [I (av.length:Int),.row (some 3) 1 (List.map I (av.take ((wrap64 ((av.length:Int) - 1)):Int).toNat))] [I (av.length:Int)] (.c4 (aT I av) akI (sV I akJ) (XO I (l:=av) (n:=((wrap64 ((av.length:Int) - 1)):Int).toNat))) (.c1 (aT I av)) [] []<|⟨k,by omega,x1,x1000,ah,aA,av.take ((wrap64 ((av.length:Int) - 1)):Int).toNat,by omega,Wo [(0,0),(1,0)],H⟩
def bH.fH:Nat→Int→Int→ByteArray→List af→List (Nat × Nat)→List Int→Option (Int × Int × ByteArray × List af × List (Nat × Nat) × List Int)
 | 0,_,_,_,_,_,_=>none
 | k+1,x5,x8,x1000,ah,aA,av=>if x8=0 then (some (0,0,x1000,ah,aA,av)) else (some (x8,x5,x1000,ah,aA,av))
mutual
def bH.ik:Nat→Int→ByteArray→List af→List (Nat × Nat)→List Int→Option (Int × Int × ByteArray × List af × List (Nat × Nat) × List Int)
 | 0,_,_,_,_,_=>none
 | k+1,x5,x1000,ah,aA,av=>(ou.f x1000 ah aA av).bind fun EY=>((jV.f x1000 x5 (wrap64 (EY - x5))).bind fun Px=>((bA.f k Px).bind fun bK=>(if bK.2.2.2.2.2=0 then (if bK.2.2.2.1 > (wrap64 ((wrap64 (EY - x5)) - bK.2.2.2.2.1)) then (bH.fH k x5 5 x1000 ah aA av) else ((jV.f x1000 (wrap64 (x5+bK.2.2.2.2.1)) bK.2.2.2.1).bind fun EZ=>((fO.f k x1000 ah aA av bK.1 bK.2.1 bK.2.2.1 bK.2.2.2.1 EZ).bind fun eQ=>(if eQ.1=0 then ((pM.f x5 (wrap64 ((wrap64 (x5+bK.2.2.2.2.1))+bK.2.2.2.1))).bind fun Py=>((pg.f eQ.2.1 eQ.2.2.1 eQ.2.2.2.1 eQ.2.2.2.2 bK.1 bK.2.1 bK.2.2.1 bK.2.2.2.1 EZ Py).bind fun lq=>(if bK.2.2.1=true then (bH.j3 k (wrap64 (x5+bK.2.2.2.2.1)) eQ.1 eQ.2.1 lq.1 lq.2.1 lq.2.2) else (bH.j3 k (wrap64 ((wrap64 (x5+bK.2.2.2.2.1))+bK.2.2.2.1)) eQ.1 eQ.2.1 lq.1 lq.2.1 lq.2.2)))) else (bH.fH k x5 eQ.1 eQ.2.1 eQ.2.2.1 eQ.2.2.2.1 eQ.2.2.2.2))))) else (bH.fH k x5 bK.2.2.2.2.2 x1000 ah aA av))))
def bH.j3:Nat→Int→Int→ByteArray→List af→List (Nat × Nat)→List Int→Option (Int × Int × ByteArray × List af × List (Nat × Nat) × List Int)
 | 0,_,_,_,_,_,_=>none
 | k+1,x5,x8,x1000,ah,aA,av=>(iK.f k x1000 ah aA av x5).bind fun gY=>(if gY.1=true then (if x5 < (gY.2.1.size:Int) then (some (5,x5,gY.2.1,gY.2.2.1,gY.2.2.2.1,gY.2.2.2.2)) else (if x8=0 then (some (0,0,gY.2.1,gY.2.2.1,gY.2.2.2.1,gY.2.2.2.2)) else (some (x8,x5,gY.2.1,gY.2.2.1,gY.2.2.2.1,gY.2.2.2.2)))) else (bH.ik k x5 gY.2.1 gY.2.2.1 gY.2.2.2.1 gY.2.2.2.2))
end
def bH.j0:Nat→Int→Int→ByteArray→List af→List (Nat × Nat)→List Int→Option (Int × Int × ByteArray × List af × List (Nat × Nat) × List Int)
 | 0,_,_,_,_,_,_=>none
 | k+1,x5,x8,x1000,ah,aA,av=>(iK.f k x1000 ah aA av x5).bind fun gZ=>(if gZ.1=true then (if x5 < (gZ.2.1.size:Int) then (some (5,x5,gZ.2.1,gZ.2.2.1,gZ.2.2.2.1,gZ.2.2.2.2)) else (if x8=0 then (some (0,0,gZ.2.1,gZ.2.2.1,gZ.2.2.2.1,gZ.2.2.2.2)) else (some (x8,x5,gZ.2.1,gZ.2.2.1,gZ.2.2.2.1,gZ.2.2.2.2)))) else (bH.ik k x5 gZ.2.1 gZ.2.2.1 gZ.2.2.2.1 gZ.2.2.2.2))
def bH.f (k:Nat) (aJ:ByteArray) (az:List af) (aY:List (Nat × Nat)) (ai:List Int):Option (Int × Int × ByteArray × List af × List (Nat × Nat) × List Int):=if aJ.toList=([]:List UInt8) then (bH.fH k 0 3 aJ az aY ai) else (if (aJ.size:Int) > 65535 then (bH.fH k 0 4 aJ az aY ai) else ((ou.f aJ az aY ai).bind fun E5=>((jV.f aJ 0 (wrap64 (E5 - 0))).bind fun Pz=>((bA.f k Pz).bind fun bL=>(if bL.2.2.2.2.2=0 then (if bL.2.2.2.1 > (wrap64 ((wrap64 (E5 - 0)) - bL.2.2.2.2.1)) then (bH.fH k 0 5 aJ az aY ai) else ((jV.f aJ (wrap64 (0+bL.2.2.2.2.1)) bL.2.2.2.1).bind fun E8=>((fO.f k aJ az aY ai bL.1 bL.2.1 bL.2.2.1 bL.2.2.2.1 E8).bind fun eU=>(if eU.1=0 then ((pM.f 0 (wrap64 ((wrap64 (0+bL.2.2.2.2.1))+bL.2.2.2.1))).bind fun PD=>((pg.f eU.2.1 eU.2.2.1 eU.2.2.2.1 eU.2.2.2.2 bL.1 bL.2.1 bL.2.2.1 bL.2.2.2.1 E8 PD).bind fun lu=>(if bL.2.2.1=true then (bH.j0 k (wrap64 (0+bL.2.2.2.2.1)) eU.1 eU.2.1 lu.1 lu.2.1 lu.2.2) else (bH.j0 k (wrap64 ((wrap64 (0+bL.2.2.2.2.1))+bL.2.2.2.1)) eU.1 eU.2.1 lu.1 lu.2.1 lu.2.2)))) else (bH.fH k 0 eU.1 eU.2.1 eU.2.2.1 eU.2.2.2.1 eU.2.2.2.2))))) else (bH.fH k 0 bL.2.2.2.2.2 aJ az aY ai))))))
theorem bH.au {k:Nat} {aJ:ByteArray} {az:List af} {aY:List (Nat × Nat)} {ai:List Int} {r:(Int × Int × ByteArray × List af × List (Nat × Nat) × List Int)} (H:bH.f k aJ az aY ai=some r):lY Tryz.prog 48 [.ptr 0 0] [[S aJ,.row (some 55) 5 (List.map (v55 1) az),.row (some 67) 1 (List.map Cx aY),.row (some 3) 1 (List.map I ai)]] (.v (.agg [I r.1,I r.2.1])) [[S r.2.2.1,.row (some 55) 5 (List.map (v55 1) r.2.2.2.1),.row (some 67) 1 (List.map Cx r.2.2.2.2.1),.row (some 3) 1 (List.map I r.2.2.2.2.2)]]:=by
 refine vM Tryz.func48 rfl (by kernel_rfl) (by kernel_rfl) fun C hN hL=>?_
 unfold bH.f at H
 refine Sw<|Rg hN<|Good.scope [(0,_,fun n st=>∃ (x5:Int) (x8:Int) (x1000:ByteArray) (ah:List af) (aA:List (Nat × Nat)) (av:List Int) (x2000:Int) (aB:Int) (x3000:Int) (dJ:Int) (dA:Bool) (eu:Int),n≤k∧Wk C st ⟨[(2,.d (.ptr 1 0)),(5,.w (I x5)),(8,.w (I x8))],[.cells [.v (S x1000),.v (.row (some 55) 5 (List.map (v55 1) ah)),.v (.row (some 67) 1 (List.map Cx aA)),.v (.row (some 3) 1 (List.map I av))],.cells [.v (I x2000),.v (I aB)],.cells [.v (I x3000),.v (I dJ),.v (B dA),.v (I eu)]]⟩∧bH.fH n x5 x8 x1000 ah aA av=some r),(1,_,fun n st=>∃ (x5:Int) (x1000:ByteArray) (ah:List af) (aA:List (Nat × Nat)) (av:List Int) (x2000:Int) (aB:Int) (x3000:Int) (dJ:Int) (dA:Bool) (eu:Int),n≤k∧Wk C st ⟨[(0,.d (.ptr 0 0)),(2,.d (.ptr 1 0)),(3,.d (.ptr 2 0)),(5,.w (I x5))],[.cells [.v (S x1000),.v (.row (some 55) 5 (List.map (v55 1) ah)),.v (.row (some 67) 1 (List.map Cx aA)),.v (.row (some 3) 1 (List.map I av))],.cells [.v (I x2000),.v (I aB)],.cells [.v (I x3000),.v (I dJ),.v (B dA),.v (I eu)]]⟩∧bH.ik n x5 x1000 ah aA av=some r)] (.c2 rfl rfl) ?_ (.c2 ?_ ?_)
 ·refine Sw<|Rg hN<|Sw<|Rg hN<|Sw<|Rg hN<|Sw<|Rg hN<|Sw<|Sw<|Ri hN [] (.c1 (eP (rfl:aJ.toList=aJ.toList) (dV ([]:List UInt8)))) [(13,.bool (aJ.toList == ([]:List UInt8)))] ?_
  rcases aj H with ⟨PE,H⟩ | ⟨PE,H⟩
  ·exact Ct (bq PE)<|Sw<|Rg hN<|Good.goto<|⟨k,(by first | trivial | omega),0,3,aJ,az,aY,ai,0,0,0,0,false,0,by omega,Wo [(2,0),(5,0),(8,0)],H⟩
  refine Cf (bn PE)<|Sk<|Sw<|Sw<|Rg hN ?_
  rcases aj H with ⟨PG,H⟩ | ⟨PG,H⟩
  ·exact Ct (dt PG)<|Sw<|Rg hN<|Good.goto<|⟨k,(by first | trivial | omega),0,4,aJ,az,aY,ai,0,0,0,0,false,0,by omega,Wo [(2,0),(5,0),(8,0)],H⟩
  refine Cf (df PG)<|Sk<|Sw<|Good.label<|Sw ?_
  obtain ⟨E5,akK,H⟩:=aC H
  refine Rh hN [I E5,.aD [.agg [S aJ,.row (some 55) 5 (List.map (v55 1) az),.row (some 67) 1 (List.map Cx aY),.row (some 3) 1 (List.map I ai)]]] (.c1 (ou.au akK).c)<|Sw ?_
  obtain ⟨Pz,akL,H⟩:=aC H
  obtain ⟨bL,akM,H⟩:=aC H
  refine Rh hN [S Pz,.aD [.agg [I bL.1,I bL.2.1,B bL.2.2.1,I bL.2.2.2.1],I bL.2.2.2.2.1,I bL.2.2.2.2.2]] (.c2 (jV.au akL).c (bA.au akM).c)<|Sw<|Sw<|Rg hN ?_
  rcases (aj H).symm with ⟨PH,H⟩ | ⟨PH,H⟩
  ·exact Ct (nq PH)<|Good.goto<|⟨k,(by first | trivial | omega),0,bL.2.2.2.2.2,aJ,az,aY,ai,0,0,bL.1,bL.2.1,bL.2.2.1,bL.2.2.2.1,by omega,Wo [(2,0),(5,0),(8,0)],H⟩
  refine Cf (bM PH)<|Sk<|Sw<|Sw<|Rg hN ?_
  rcases aj H with ⟨PI,H⟩ | ⟨PI,H⟩
  ·exact Ct (dt PI)<|Sw<|Rg hN<|Good.goto<|⟨k,(by first | trivial | omega),0,5,aJ,az,aY,ai,0,0,bL.1,bL.2.1,bL.2.2.1,bL.2.2.2.1,by omega,Wo [(2,0),(5,0),(8,0)],H⟩
  refine Cf (df PI)<|Sk<|Sw ?_
  obtain ⟨E8,akN,H⟩:=aC H
  refine Rd hm hN (.qs 9 0 (.e 9 (.q 10 [] .z))) [(0,some (.pt [S aJ,.row none 5 (List.map (v55 0) az),.row none 1 (List.map Cx aY),.row none 1 (List.map I ai)])),(3,some (.pt [I bL.1,I bL.2.1,B bL.2.2.1,I bL.2.2.2.1])),(4,none),(5,none)] (.c2 (bJ (ay (rfl:(V.shr (S aJ))=S aJ) (ay (aS (some 55) 5 (v55 1) (v55 0) az (v55.shr _)) (ay (aS (some 67) 1 Cx Cx aY (fun _=>rfl)) (ay (aS (some 3) 1 I I ai (fun _=>rfl)) (rfl:aX []=[])))))) (bJ (ay (rfl:(V.shr (I bL.1))=I bL.1) (ay (rfl:(V.shr (I bL.2.1))=I bL.2.1) (ay (rfl:(V.shr (B bL.2.2.1))=B bL.2.2.1) (ay (rfl:(V.shr (I bL.2.2.2.1))=I bL.2.2.2.1) (rfl:aX []=[]))))))) [S E8] [] (.c1 (jV.au akN).c) .nil [] []<|Sw<|Sw ?_
  obtain ⟨eU,akO,H⟩:=aC H
  refine Rh hN [I eU.1,.aD [.agg [S eU.2.1,.row (some 55) 5 (List.map (v55 1) eU.2.2.1),.row (some 67) 1 (List.map Cx eU.2.2.2.1),.row (some 3) 1 (List.map I eU.2.2.2.2)]]] (.c1 (fO.au akO).c)<|Sw<|Rg hN ?_
  rcases (aj H).symm with ⟨PK,H⟩ | ⟨PK,H⟩
  ·exact Ct (nq PK)<|Good.goto<|⟨k,(by first | trivial | omega),0,eU.1,eU.2.1,eU.2.2.1,eU.2.2.2.1,eU.2.2.2.2,0,0,bL.1,bL.2.1,bL.2.2.1,bL.2.2.2.1,by omega,Wo [(2,0),(5,0),(8,0)],H⟩
  refine Cf (bM PK)<|Sk<|Sw ?_
  obtain ⟨PD,akP,H⟩:=aC H
  obtain ⟨lu,akQ,H⟩:=aC H
  refine Rd hm hN (.q 0 [[]] (.q 1 [[]] (.q 2 [[]] (.q 3 [[10]] (.q 4 [[10,9,6]] (.q 5 [[10,9,6]] (.q 6 [[10,9]] (.q 7 [[10,9,8]] (.q 8 [[10,9]] (.q 9 [[10]] (.e 10 (.e 11 .z)))))))))))) [(0,some (.pt [S eU.2.1,.row none 5 (List.map (v55 0) eU.2.2.1),.row none 1 (List.map Cx eU.2.2.2.1),.row none 1 (List.map I eU.2.2.2.2)])),(3,some (.pt [I bL.1,I bL.2.1,B bL.2.2.1,I bL.2.2.2.1])),(4,none),(5,none),(7,none)] (.c2 (bJ (ay (rfl:(V.shr (S eU.2.1))=S eU.2.1) (ay (aS (some 55) 5 (v55 1) (v55 0) eU.2.2.1 (v55.shr _)) (ay (aS (some 67) 1 Cx Cx eU.2.2.2.1 (fun _=>rfl)) (ay (aS (some 3) 1 I I eU.2.2.2.2 (fun _=>rfl)) (rfl:aX []=[])))))) (bJ (ay (rfl:(V.shr (I bL.1))=I bL.1) (ay (rfl:(V.shr (I bL.2.1))=I bL.2.1) (ay (rfl:(V.shr (B bL.2.2.1))=B bL.2.2.1) (ay (rfl:(V.shr (I bL.2.2.2.1))=I bL.2.2.2.1) (rfl:aX []=[]))))))) [Cx PD,.aD [],.aD [.agg [S eU.2.1,.row (some 55) 5 (List.map (v55 1) lu.1),.row (some 67) 1 (List.map Cx lu.2.1),.row (some 3) 1 (List.map I lu.2.2)]]] [] (.c2 (pM.au akP).c (pg.au akQ).c) .nil [] []<|Sw<|Rg hN<|Sw<|Sw<|Rg hN<|Good.cut (fun st=>∃ n':Nat,n'≤k∧∃ (x5:Int) (x8:Int) (x1000:ByteArray) (ah:List af) (aA:List (Nat × Nat)) (av:List Int) (x2000:Int) (aB:Int) (x3000:Int) (dJ:Int) (dA:Bool) (eu:Int),Wk C st ⟨[(0,.d (.ptr 0 0)),(2,.d (.ptr 1 0)),(3,.d (.ptr 2 0)),(5,.w (I x5)),(8,.w (I x8))],[.cells [.v (S x1000),.v (.row (some 55) 5 (List.map (v55 1) ah)),.v (.row (some 67) 1 (List.map Cx aA)),.v (.row (some 3) 1 (List.map I av))],.cells [.v (I x2000),.v (I aB)],.cells [.v (I x3000),.v (I dJ),.v (B dA),.v (I eu)]]⟩∧bH.j0 n' x5 x8 x1000 ah aA av=some r) ?_ ?_
  ·rcases aj H with ⟨PL,H⟩ | ⟨PL,H⟩
   ·exact Cf (fw PL)<|Sk<|⟨k,by omega,wrap64 (0+bL.2.2.2.2.1),eU.1,eU.2.1,lu.1,lu.2.1,lu.2.2,0,0,bL.1,bL.2.1,bL.2.2.1,bL.2.2.2.1,Wo [(0,0),(2,0),(3,0),(5,0),(8,0)],H⟩
   exact Ct (eB (bf PL))<|Rg hN<|⟨k,by omega,wrap64 ((wrap64 (0+bL.2.2.2.2.1))+bL.2.2.2.1),eU.1,eU.2.1,lu.1,lu.2.1,lu.2.2,0,0,bL.1,bL.2.1,bL.2.2.1,bL.2.2.2.1,Wo [(0,0),(2,0),(3,0),(5,0),(8,0)],H⟩
  clear H
  rintro st ⟨n',hn',x5,x8,x1000,ah,aA,av,x2000,aB,x3000,dJ,dA,eu,W,H⟩
  rcases n' with _ | k
  ·cases H
  refine W.good ?_
  rw [bH.j0] at H
  refine Sw<|Sw ?_
  obtain ⟨gZ,akR,H⟩:=aC H
  refine Rh hN [B gZ.1,.aD [.agg [S gZ.2.1,.row (some 55) 5 (List.map (v55 1) gZ.2.2.1),.row (some 67) 1 (List.map Cx gZ.2.2.2.1),.row (some 3) 1 (List.map I gZ.2.2.2.2)]]] (.c1 (iK.au akR).c) ?_
  rcases (aj H).symm with ⟨PM,H⟩ | ⟨PM,H⟩
  ·exact Ct (eB (bf PM))<|Good.goto<|⟨k,(by first | trivial | omega),x5,gZ.2.1,gZ.2.2.1,gZ.2.2.2.1,gZ.2.2.2.2,x2000,aB,x3000,dJ,dA,eu,by omega,Wo [(0,0),(2,0),(3,0),(5,0)],H⟩
  refine Cf (fw PM)<|Sk<|Sw<|Sw<|Rg hN ?_
  rcases aj H with ⟨PN,H⟩ | ⟨PN,H⟩
  ·refine Ct (dt PN)<|Rg hN<|Sw<|Good.label<|Sw<|Sw<|Rg hN<|Cf (bn (show ¬ ((5:Int)=0) by decide))<|Sk<|Sw<|Rg hN ?_
   cases H
   exact Good.ret (gT (.refl _) (cz.refl _) (by kernel_rfl) rfl)
  refine Cf (df PN)<|Sk<|Sw<|Good.label<|Sw<|Sw<|Rg hN ?_
  rcases aj H with ⟨PO,H⟩ | ⟨PO,H⟩
  ·refine Ct (bq PO)<|Sw<|Rg hN ?_
   cases H
   exact Good.ret (gT (.refl _) (cz.refl _) (by kernel_rfl) rfl)
  refine Cf (bn PO)<|Sk<|Sw<|Rg hN ?_
  cases H
  exact Good.ret (gT (.refl _) (cz.refl _) (by kernel_rfl) rfl)
 ·clear H
  rintro n st ⟨x5,x8,x1000,ah,aA,av,x2000,aB,x3000,dJ,dA,eu,hn,W,H⟩
  rcases n with _ | k
  ·cases H
  refine W.good ?_
  rw [bH.fH] at H
  refine Sw<|Sk<|Sw<|Sw<|Rg hN ?_
  rcases aj H with ⟨PQ,H⟩ | ⟨PQ,H⟩
  ·refine Ct (bq PQ)<|Sw<|Rg hN ?_
   cases H
   exact Good.ret (gT (.refl _) (cz.refl _) (by kernel_rfl) rfl)
  refine Cf (bn PQ)<|Sk<|Sw<|Rg hN ?_
  cases H
  exact Good.ret (gT (.refl _) (cz.refl _) (by kernel_rfl) rfl)
 ·clear H
  rintro n st ⟨x5,x1000,ah,aA,av,x2000,aB,x3000,dJ,dA,eu,hn,W,H⟩
  rcases n with _ | k
  ·cases H
  refine W.good ?_
  rw [bH.ik] at H
  refine Sw<|Sk<|Sw ?_
  obtain ⟨EY,akS,H⟩:=aC H
  refine Rh hN [I EY,.aD [.agg [S x1000,.row (some 55) 5 (List.map (v55 1) ah),.row (some 67) 1 (List.map Cx aA),.row (some 3) 1 (List.map I av)]]] (.c1 (ou.au akS).c)<|Sw ?_
  obtain ⟨Px,akT,H⟩:=aC H
  obtain ⟨bK,akU,H⟩:=aC H
  refine Rh hN [S Px,.aD [.agg [I bK.1,I bK.2.1,B bK.2.2.1,I bK.2.2.2.1],I bK.2.2.2.2.1,I bK.2.2.2.2.2]] (.c2 (jV.au akT).c (bA.au akU).c)<|Sw<|Sw<|Rg hN ?_
  rcases (aj H).symm with ⟨PS,H⟩ | ⟨PS,H⟩
  ·exact Ct (nq PS)<|Good.goto<|⟨k,(by first | trivial | omega),x5,bK.2.2.2.2.2,x1000,ah,aA,av,x2000,aB,bK.1,bK.2.1,bK.2.2.1,bK.2.2.2.1,by omega,Wo [(2,0),(5,0),(8,0)],H⟩
  refine Cf (bM PS)<|Sk<|Sw<|Sw<|Rg hN ?_
  rcases aj H with ⟨PT,H⟩ | ⟨PT,H⟩
  ·exact Ct (dt PT)<|Sw<|Rg hN<|Good.goto<|⟨k,(by first | trivial | omega),x5,5,x1000,ah,aA,av,x2000,aB,bK.1,bK.2.1,bK.2.2.1,bK.2.2.2.1,by omega,Wo [(2,0),(5,0),(8,0)],H⟩
  refine Cf (df PT)<|Sk<|Sw ?_
  obtain ⟨EZ,akV,H⟩:=aC H
  refine Rd hm hN (.qs 9 0 (.e 9 (.q 10 [] .z))) [(0,some (.pt [S x1000,.row none 5 (List.map (v55 0) ah),.row none 1 (List.map Cx aA),.row none 1 (List.map I av)])),(3,some (.pt [I bK.1,I bK.2.1,B bK.2.2.1,I bK.2.2.2.1])),(4,none),(5,none)] (.c2 (bJ (ay (rfl:(V.shr (S x1000))=S x1000) (ay (aS (some 55) 5 (v55 1) (v55 0) ah (v55.shr _)) (ay (aS (some 67) 1 Cx Cx aA (fun _=>rfl)) (ay (aS (some 3) 1 I I av (fun _=>rfl)) (rfl:aX []=[])))))) (bJ (ay (rfl:(V.shr (I bK.1))=I bK.1) (ay (rfl:(V.shr (I bK.2.1))=I bK.2.1) (ay (rfl:(V.shr (B bK.2.2.1))=B bK.2.2.1) (ay (rfl:(V.shr (I bK.2.2.2.1))=I bK.2.2.2.1) (rfl:aX []=[]))))))) [S EZ] [] (.c1 (jV.au akV).c) .nil [] []<|Sw<|Sw ?_
  obtain ⟨eQ,akW,H⟩:=aC H
  refine Rh hN [I eQ.1,.aD [.agg [S eQ.2.1,.row (some 55) 5 (List.map (v55 1) eQ.2.2.1),.row (some 67) 1 (List.map Cx eQ.2.2.2.1),.row (some 3) 1 (List.map I eQ.2.2.2.2)]]] (.c1 (fO.au akW).c)<|Sw<|Rg hN ?_
  rcases (aj H).symm with ⟨PU,H⟩ | ⟨PU,H⟩
  ·exact Ct (nq PU)<|Good.goto<|⟨k,(by first | trivial | omega),x5,eQ.1,eQ.2.1,eQ.2.2.1,eQ.2.2.2.1,eQ.2.2.2.2,x2000,aB,bK.1,bK.2.1,bK.2.2.1,bK.2.2.2.1,by omega,Wo [(2,0),(5,0),(8,0)],H⟩
  refine Cf (bM PU)<|Sk<|Sw ?_
  obtain ⟨Py,akX,H⟩:=aC H
  obtain ⟨lq,akY,H⟩:=aC H
  refine Rd hm hN (.q 0 [[]] (.q 1 [[]] (.q 2 [[]] (.q 3 [[10]] (.q 4 [[10,9,6]] (.q 5 [[10,9,6]] (.q 6 [[10,9]] (.q 7 [[10,9,8]] (.q 8 [[10,9]] (.q 9 [[10]] (.e 10 (.e 11 .z)))))))))))) [(0,some (.pt [S eQ.2.1,.row none 5 (List.map (v55 0) eQ.2.2.1),.row none 1 (List.map Cx eQ.2.2.2.1),.row none 1 (List.map I eQ.2.2.2.2)])),(3,some (.pt [I bK.1,I bK.2.1,B bK.2.2.1,I bK.2.2.2.1])),(4,none),(5,none),(7,none)] (.c2 (bJ (ay (rfl:(V.shr (S eQ.2.1))=S eQ.2.1) (ay (aS (some 55) 5 (v55 1) (v55 0) eQ.2.2.1 (v55.shr _)) (ay (aS (some 67) 1 Cx Cx eQ.2.2.2.1 (fun _=>rfl)) (ay (aS (some 3) 1 I I eQ.2.2.2.2 (fun _=>rfl)) (rfl:aX []=[])))))) (bJ (ay (rfl:(V.shr (I bK.1))=I bK.1) (ay (rfl:(V.shr (I bK.2.1))=I bK.2.1) (ay (rfl:(V.shr (B bK.2.2.1))=B bK.2.2.1) (ay (rfl:(V.shr (I bK.2.2.2.1))=I bK.2.2.2.1) (rfl:aX []=[]))))))) [Cx Py,.aD [],.aD [.agg [S eQ.2.1,.row (some 55) 5 (List.map (v55 1) lq.1),.row (some 67) 1 (List.map Cx lq.2.1),.row (some 3) 1 (List.map I lq.2.2)]]] [] (.c2 (pM.au akX).c (pg.au akY).c) .nil [] []<|Sw<|Rg hN<|Sw<|Sw<|Rg hN<|Good.cut (fun st=>∃ n':Nat,n'≤k∧∃ (x5:Int) (x8:Int) (x1000:ByteArray) (ah:List af) (aA:List (Nat × Nat)) (av:List Int) (x2000:Int) (aB:Int) (x3000:Int) (dJ:Int) (dA:Bool) (eu:Int),Wk C st ⟨[(0,.d (.ptr 0 0)),(2,.d (.ptr 1 0)),(3,.d (.ptr 2 0)),(5,.w (I x5)),(8,.w (I x8))],[.cells [.v (S x1000),.v (.row (some 55) 5 (List.map (v55 1) ah)),.v (.row (some 67) 1 (List.map Cx aA)),.v (.row (some 3) 1 (List.map I av))],.cells [.v (I x2000),.v (I aB)],.cells [.v (I x3000),.v (I dJ),.v (B dA),.v (I eu)]]⟩∧bH.j3 n' x5 x8 x1000 ah aA av=some r) ?_ ?_
  ·rcases aj H with ⟨PV,H⟩ | ⟨PV,H⟩
   ·exact Cf (fw PV)<|Sk<|⟨k,by omega,wrap64 (x5+bK.2.2.2.2.1),eQ.1,eQ.2.1,lq.1,lq.2.1,lq.2.2,x2000,aB,bK.1,bK.2.1,bK.2.2.1,bK.2.2.2.1,Wo [(0,0),(2,0),(3,0),(5,0),(8,0)],H⟩
   exact Ct (eB (bf PV))<|Rg hN<|⟨k,by omega,wrap64 ((wrap64 (x5+bK.2.2.2.2.1))+bK.2.2.2.1),eQ.1,eQ.2.1,lq.1,lq.2.1,lq.2.2,x2000,aB,bK.1,bK.2.1,bK.2.2.1,bK.2.2.2.1,Wo [(0,0),(2,0),(3,0),(5,0),(8,0)],H⟩
  clear H
  rintro st ⟨n',hn',x5,x8,x1000,ah,aA,av,x2000,aB,x3000,dJ,dA,eu,W,H⟩
  rcases n' with _ | k
  ·cases H
  refine W.good ?_
  rw [bH.j3] at H
  refine Sw<|Sw ?_
  obtain ⟨gY,akZ,H⟩:=aC H
  refine Rh hN [B gY.1,.aD [.agg [S gY.2.1,.row (some 55) 5 (List.map (v55 1) gY.2.2.1),.row (some 67) 1 (List.map Cx gY.2.2.2.1),.row (some 3) 1 (List.map I gY.2.2.2.2)]]] (.c1 (iK.au akZ).c) ?_
  rcases (aj H).symm with ⟨PW,H⟩ | ⟨PW,H⟩
  ·exact Ct (eB (bf PW))<|Good.goto<|⟨k,(by first | trivial | omega),x5,gY.2.1,gY.2.2.1,gY.2.2.2.1,gY.2.2.2.2,x2000,aB,x3000,dJ,dA,eu,by omega,Wo [(0,0),(2,0),(3,0),(5,0)],H⟩
  refine Cf (fw PW)<|Sk<|Sw<|Sw<|Rg hN ?_
  rcases aj H with ⟨PX,H⟩ | ⟨PX,H⟩
  ·refine Ct (dt PX)<|Rg hN<|Sw<|Good.label<|Sw<|Sw<|Rg hN<|Cf (bn (show ¬ ((5:Int)=0) by decide))<|Sk<|Sw<|Rg hN ?_
   cases H
   exact Good.ret (gT (.refl _) (cz.refl _) (by kernel_rfl) rfl)
  refine Cf (df PX)<|Sk<|Sw<|Good.label<|Sw<|Sw<|Rg hN ?_
  rcases aj H with ⟨PY,H⟩ | ⟨PY,H⟩
  ·refine Ct (bq PY)<|Sw<|Rg hN ?_
   cases H
   exact Good.ret (gT (.refl _) (cz.refl _) (by kernel_rfl) rfl)
  refine Cf (bn PY)<|Sk<|Sw<|Rg hN ?_
  cases H
  exact Good.ret (gT (.refl _) (cz.refl _) (by kernel_rfl) rfl)
def mg.f (k:Nat) (a0:ByteArray):Option (List af × Int × Int):=(bH.f k a0 ([]:List af) ([]:List (Nat × Nat)) ([]:List Int)).bind fun jQ=>(if jQ.1=0 then (some (jQ.2.2.2.1,0,0)) else (some (([]:List af),jQ.1,jQ.2.1)))
theorem mg.au {k:Nat} {a0:ByteArray} {r:(List af × Int × Int)} (H:mg.f k a0=some r):aQ Tryz.prog 23 [S a0] (.aD [.row (some 55) 5 (List.map (v55 1) r.1),.agg [I r.2.1,I r.2.2]]):=by
 refine Cg Tryz.func23 rfl fun C hN hL=>?_
 unfold mg.f at H
 refine Sw<|Rg hN<|Sw<|Rg hN<|Sw<|Sw ?_
 obtain ⟨jQ,ak0,H⟩:=aC H
 refine Rh hN [.agg [I jQ.1,I jQ.2.1],.aD [.agg [S jQ.2.2.1,.row (some 55) 5 (List.map (v55 1) jQ.2.2.2.1),.row (some 67) 1 (List.map Cx jQ.2.2.2.2.1),.row (some 3) 1 (List.map I jQ.2.2.2.2.2)]]] (.c1 (lY.n (bH.au ak0) (.c1 (.refl _)) (.c1 (.c4 (.refl _) (.iA 55 5) (.iA 67 1) (.iA 3 1)))))<|Sw<|Rg hN ?_
 rcases (aj H).symm with ⟨PZ,H⟩ | ⟨PZ,H⟩
 ·refine Ct (nq PZ)<|Sw<|Rd hm hN (.q 0 [[]] (.q 1 [[]] (.e 2 .z))) [(3,some (.pt [I 0,I 0])),(5,some (.pt [I jQ.1,I jQ.2.1]))] (.c2 (bJ (ay (rfl:(V.shr (I 0))=I 0) (ay (rfl:(V.shr (I 0))=I 0) (rfl:aX []=[])))) (bJ (ay (rfl:(V.shr (I jQ.1))=I jQ.1) (ay (rfl:(V.shr (I jQ.2.1))=I jQ.2.1) (rfl:aX []=[]))))) [] [] .nil .nil [] [] ?_
  cases H
  exact Good.ret (jY (u:=.aD [.nil 55 5,.agg [I jQ.1,I jQ.2.1]]) (.aD (.c2 (.iA 55 5) (.refl _))) (by kernel_rfl))
 refine Cf (bM PZ)<|Sk<|Sw<|Rg hN ?_
 cases H
 exact Rt dR
def mi.l0:Nat→List af→Int→Option (Int)
 | 0,_,_=>none
 | k+1,x0,x1=>if 0≤x1 then (if x1 < (x0.length:Int) then (if (((aa x0 x1).f4).length:Int) > 0 then (if 0≤(wrap64 ((((aa x0 x1).f4).length:Int) - 1)) then (if (wrap64 ((((aa x0 x1).f4).length:Int) - 1)) < (((aa x0 x1).f4).length:Int) then (mi.l0 k x0 (rd ((aa x0 x1).f4) (wrap64 ((((aa x0 x1).f4).length:Int) - 1)))) else (none)) else (none)) else (some (wrap64 (x1+1)))) else (none)) else (none)
def mi.f (k:Nat) (l0:List af) (a1:Int):Option (Int):=mi.l0 k l0 a1
theorem mi.au {k:Nat} {l0:List af} {a1:Int} {r:(Int)} (H:mi.f k l0 a1=some r):aQ Tryz.prog 123 [.row none 5 (List.map (v55 0) l0),I a1] (I r):=by
 refine Cg Tryz.func123 rfl fun C hN hL=>?_
 unfold mi.f at H
 refine Sw<|Rg hN<|Sw<|Bl<|Good.dN (fun k' st=>∃ (x0:List af) (x1:Int),k'≤k∧Wk C st ⟨[(0,.w (.row none 5 (List.map (v55 0) x0))),(1,.w (I x1))],[]⟩∧mi.l0 k' x0 x1=some r) k ⟨l0,a1,Nat.le_refl _,Wo [(0,0),(1,0)],H⟩ fun k=>⟨fun st h=>(by obtain ⟨_,_,_,_,H⟩:=h;cases H),?_⟩
 clear H
 rintro st ⟨x0,x1,hk,W,H⟩
 refine W.good ?_
 rw [mi.l0] at H
 refine Sw<|Sw ?_
 obtain ⟨p8,H⟩:=ax H
 obtain ⟨AL,H⟩:=ax H
 refine Rh hN [(v55 0) (aa x0 x1),I (((aa x0 x1).f4).length:Int)] (.c3 p8 (aF (v55 0) z55 p8 AL) (aT I ((aa x0 x1).f4))) ?_
 rcases (aj H).symm with ⟨P5,H⟩ | ⟨P5,H⟩
 ·refine Cf (df P5)<|Ex<|Sw<|Rg hN ?_
  cases H
  exact Rt dR
 refine Ct (dt P5)<|Sk<|Bl ?_
 obtain ⟨E9,H⟩:=ax H
 obtain ⟨Zc,H⟩:=ax H
 exact Rd hm hN (.qs 14 0 (.q 14 [] .z)) [(0,none),(1,none)] .nil [(v55 0) (aa x0 x1),(v55 0) (aa x0 x1),I (((aa x0 x1).f4).length:Int),I (rd ((aa x0 x1).f4) (wrap64 ((((aa x0 x1).f4).length:Int) - 1)))] [(v55 0) (aa x0 x1),(v55 0) (aa x0 x1),I (((aa x0 x1).f4).length:Int),I (rd ((aa x0 x1).f4) (wrap64 ((((aa x0 x1).f4).length:Int) - 1)))] (.c7 p8 (aF (v55 0) z55 p8 AL) p8 (aF (v55 0) z55 p8 AL) (aT I ((aa x0 x1).f4)) E9 (aF I (0:Int) E9 Zc)) (.c7 p8 (aF (v55 0) z55 p8 AL) p8 (aF (v55 0) z55 p8 AL) (aT I ((aa x0 x1).f4)) E9 (aF I (0:Int) E9 Zc)) [] []<|⟨k,by omega,x0,rd ((aa x0 x1).f4) (wrap64 ((((aa x0 x1).f4).length:Int) - 1)),by omega,Wo [(0,0),(1,0)],H⟩
def jc.l0:Nat→Int→List af→List af→Int→Int→Option (List af)
 | 0,_,_,_,_,_=>none
 | k+1,x1,x5,jS,x27,x28=>if x28 < x27 then (if 0≤x28 then (if x28 < (jS.length:Int) then ((kD.f k ((aa jS x28).f0) ((aa jS x28).f1) ((aa jS x28).f2) ((aa jS x28).f3) ((aa jS x28).f4) (wrap64 (-x1))).bind fun iD=>(if x5.length < 2199023255552 then (jc.l0 k x1 (x5++[(⟨iD.1,iD.2.1,iD.2.2.1,iD.2.2.2.1,iD.2.2.2.2⟩:af)]) jS x27 (wrap64 (x28+1))) else (none))) else (none)) else (none)) else (some x5)
def jc.j0:Nat→List af→Int→Bool→Option (List af)
 | 0,_,_,_=>none
 | k+1,x0,x1,x20=>if x20=true then (some ([]:List af)) else ((mi.f k x0 x1).bind fun nZ=>(if 0≤x1 then (if x1≤nZ then (if nZ≤(x0.length:Int) then (jc.l0 k x1 ([]:List af) ((x0.take (nZ:Int).toNat).drop (x1:Int).toNat) (((x0.take (nZ:Int).toNat).drop (x1:Int).toNat).length:Int) 0) else (none)) else (none)) else (none)))
def jc.f (k:Nat) (l0:List af) (a1:Int):Option (List af):=if a1 < 0 then (jc.j0 k l0 a1 true) else (if a1≥(l0.length:Int) then (jc.j0 k l0 a1 true) else ((mf.f k l0).bind fun Fa=>(jc.j0 k l0 a1 (!Fa))))
theorem jc.au {k:Nat} {l0:List af} {a1:Int} {r:(List af)} (H:jc.f k l0 a1=some r):aQ Tryz.prog 88 [.row none 5 (List.map (v55 0) l0),I a1] (.row (some 55) 5 (List.map (v55 1) r)):=by
 refine Cg Tryz.func88 rfl fun C hN hL=>?_
 unfold jc.f at H
 refine Sw<|Rg hN<|Sw<|Sw<|Good.cut (fun st=>∃ n':Nat,n'≤k∧∃ (x0:List af) (x1:Int) (x20:Bool),Wk C st ⟨[(0,.w (.row none 5 (List.map (v55 0) x0))),(1,.w (I x1)),(20,.w (B x20))],[]⟩∧jc.j0 n' x0 x1 x20=some r) ?_ ?_
 ·rcases aj H with ⟨Fb,H⟩ | ⟨Fb,H⟩
  ·exact Rh hN [B true,B true] (.c2 (dt Fb) (rfl:true=true))<|⟨k,by omega,l0,a1,true,Wo [(0,0),(1,0),(20,0)],H⟩
  rcases aj H with ⟨P6,H⟩ | ⟨P6,H⟩
  ·exact Rh hN [B false,I (l0.length:Int),B true] (.c3 (df Fb) (aT (v55 0) l0) (dt P6))<|⟨k,by omega,l0,a1,true,Wo [(0,0),(1,0),(20,0)],H⟩
  obtain ⟨Fa,ak1,H⟩:=aC H
  exact Rh hN [B false,I (l0.length:Int),B false,B Fa] (.c4 (df Fb) (aT (v55 0) l0) (df P6) (mf.au ak1).c)<|⟨k,by omega,l0,a1,!Fa,Wo [(0,0),(1,0),(20,0)],H⟩
 clear H
 rintro st ⟨n',hn',x0,x1,x20,W,H⟩
 rcases n' with _ | k
 ·cases H
 refine W.good ?_
 rw [jc.j0] at H
 rcases aj H with ⟨P7,H⟩ | ⟨P7,H⟩
 ·refine Ct P7<|Sw<|Rg hN ?_
  cases H
  exact Good.ret (jY (u:=.nil 55 5) (.iA 55 5) (by kernel_rfl))
 refine Cf (bf P7)<|Sk<|Sw<|Rg hN<|Sw<|Sw ?_
 obtain ⟨nZ,ak2,H⟩:=aC H
 obtain ⟨ak3,H⟩:=ax H
 obtain ⟨ak4,H⟩:=ax H
 obtain ⟨ak5,H⟩:=ax H
 refine Rh hN [I nZ,.row none 5 (List.map (v55 0) ((x0.take (nZ:Int).toNat).drop (x1:Int).toNat)),I (((x0.take (nZ:Int).toNat).drop (x1:Int).toNat).length:Int)] (.c6 (mi.au ak2).c ak3 ak4 (sV (v55 0) ak5) (aiW (v55 0) (l:=x0) (n:=(x1:Int).toNat) (m:=(nZ:Int).toNat)) (aT (v55 0) ((x0.take (nZ:Int).toNat).drop (x1:Int).toNat)))<|Bl<|Good.dN (fun k' st=>∃ (x1:Int) (x5:List af) (jS:List af) (x27:Int) (x28:Int),k'≤k∧Wk C st ⟨[(1,.w (I x1)),(5,.w (.row (some 55) 5 (List.map (v55 1) x5))),(26,.w (.row none 5 (List.map (v55 0) jS))),(27,.w (I x27)),(28,.w (I x28))],[]⟩∧jc.l0 k' x1 x5 jS x27 x28=some r) k ⟨x1,([]:List af),(x0.take (nZ:Int).toNat).drop (x1:Int).toNat,(((x0.take (nZ:Int).toNat).drop (x1:Int).toNat).length:Int),0,Nat.le_refl _,Wo [(1,0),(5,1),(26,0),(27,0),(28,0)],H⟩ fun k=>⟨fun st h=>(by obtain ⟨_,_,_,_,_,_,_,H⟩:=h;cases H),?_⟩
 clear H
 rintro st ⟨x1,x5,jS,x27,x28,hk,W,H⟩
 refine W.good ?_
 rw [jc.l0] at H
 refine Sw<|Rg hN<|Sw ?_
 rcases (aj H).symm with ⟨P8,H⟩ | ⟨P8,H⟩
 ·refine Cf (df P8)<|Ex<|Sw<|Rg hN ?_
  cases H
  exact Rt dR
 refine Ct (dt P8)<|Sk<|Sw<|Bl<|Sw ?_
 obtain ⟨Zd,H⟩:=ax H
 obtain ⟨ak6,H⟩:=ax H
 refine Rh hN [(v55 0) (aa jS x28)] (.c2 Zd (aF (v55 0) z55 Zd ak6)) ?_
 obtain ⟨iD,ak7,H⟩:=aC H
 obtain ⟨ak8,H⟩:=ax H
 exact Ri hN [.agg [I iD.1,I iD.2.1,B iD.2.2.1,S iD.2.2.2.1,.row (some 3) 1 (List.map I iD.2.2.2.2)],.aD [],.kb true,.row (some 55) 5 (List.map (v55 1) (x5++[(⟨iD.1,iD.2.1,iD.2.2.1,iD.2.2.2.1,iD.2.2.2.2⟩:af)]))] (.c4 (congrArg (Value.int .i64) ((yn .i64 (0 - x1)).symm.trans (congrArg wrap64 (Int.zero_sub x1)))) (kD.au ak7).c (dY (v55 1) x5 [(⟨iD.1,iD.2.1,iD.2.2.1,iD.2.2.2.1,iD.2.2.2.2⟩:af)] (.refl _)) (eZ (v55 1) ak8)) [(35,.int .i64 (wrap64 (-x1)))]<|Rg hN<|⟨k,by omega,x1,(x5++[(⟨iD.1,iD.2.1,iD.2.2.1,iD.2.2.2.1,iD.2.2.2.2⟩:af)]),jS,x27,wrap64 (x28+1),by omega,Wk.oV hL 0 [(1,0),(5,0),(26,0),(27,0),(28,0)] (by kernel_rfl) (by kernel_rfl) (by kernel_rfl),H⟩
def kW.l0:Nat→List af→List (List af)→List Int→Int→Int→Option (List (List af))
 | 0,_,_,_,_,_=>none
 | k+1,x0,x3,dO,bB,bD=>if bD < bB then (if 0≤bD then (if bD < (dO.length:Int) then ((jc.f k x0 (rd dO bD)).bind fun sH=>(if x3.length < 5864062014805 then (kW.l0 k x0 (x3++[sH]) dO bB (wrap64 (bD+1))) else (none))) else (none)) else (none)) else (some x3)
def kW.f (k:Nat) (l0:List af):Option (List (List af)):=(mf.f k l0).bind fun P9=>(if P9=true then (if 0 < (l0.length:Int) then (kW.l0 k l0 ([]:List (List af)) ((aa l0 0).f4) (((aa l0 0).f4).length:Int) 0) else (none)) else (some ([]:List (List af))))
theorem kW.au {k:Nat} {l0:List af} {r:(List (List af))} (H:kW.f k l0=some r):aQ Tryz.prog 49 [.row none 5 (List.map (v55 0) l0)] (.row (some 33) 1 (List.map (dw 0) r)):=by
 refine Cg Tryz.func49 rfl fun C hN hL=>?_
 unfold kW.f at H
 refine Sw<|Rg hN<|Sw<|Sw ?_
 obtain ⟨P9,ak9,H⟩:=aC H
 refine Rh hN [B P9] (.c1 (mf.au ak9).c) ?_
 rcases (aj H).symm with ⟨Qa,H⟩ | ⟨Qa,H⟩
 ·refine Ct (eB (bf Qa))<|Sw<|Rg hN ?_
  cases H
  exact Good.ret (jY (u:=.nil 33 1) (.iA 33 1) (by kernel_rfl))
 refine Cf (fw Qa)<|Sk<|Sw<|Rg hN<|Sw<|Sw ?_
 obtain ⟨ala,H⟩:=ax H
 refine Rh hN [(v55 0) (aa l0 0),I (((aa l0 0).f4).length:Int)] (.c3 (show (0:Int)≤0 by decide) (aF (v55 0) z55 (show (0:Int)≤0 by decide) ala) (aT I ((aa l0 0).f4)))<|Bl<|Good.dN (fun k' st=>∃ (x0:List af) (x3:List (List af)) (dO:List Int) (bB:Int) (bD:Int),k'≤k∧Wk C st ⟨[(0,.w (.row none 5 (List.map (v55 0) x0))),(3,.w (.row (some 33) 1 (List.map (dw 0) x3))),(12,.w (.row none 1 (List.map I dO))),(13,.w (I bB)),(14,.w (I bD))],[]⟩∧kW.l0 k' x0 x3 dO bB bD=some r) k ⟨l0,([]:List (List af)),(aa l0 0).f4,(((aa l0 0).f4).length:Int),0,Nat.le_refl _,Wo [(0,0),(3,1),(12,0),(13,0),(14,0)],H⟩ fun k=>⟨fun st h=>(by obtain ⟨_,_,_,_,_,_,_,H⟩:=h;cases H),?_⟩
 clear H
 rintro st ⟨x0,x3,dO,bB,bD,hk,W,H⟩
 refine W.good ?_
 rw [kW.l0] at H
 refine Sw<|Rg hN<|Sw ?_
 rcases (aj H).symm with ⟨Qb,H⟩ | ⟨Qb,H⟩
 ·refine Cf (df Qb)<|Ex<|Sw<|Rg hN ?_
  cases H
  exact Rt dR
 refine Ct (dt Qb)<|Sk<|Sw<|Bl<|Sw ?_
 obtain ⟨Ze,H⟩:=ax H
 obtain ⟨alb,H⟩:=ax H
 refine Rh hN [I (rd dO bD)] (.c2 Ze (aF I (0:Int) Ze alb)) ?_
 obtain ⟨sH,alc,H⟩:=aC H
 obtain ⟨ald,H⟩:=ax H
 exact Rh hN [.row (some 55) 5 (List.map (v55 1) sH),.row none 5 (List.map (v55 0) sH),.kb true,.row (some 33) 1 (List.map (dw 0) (x3++[sH]))] (.c4 (jc.au alc).c (aS (some 55) 5 (v55 1) (v55 0) sH (v55.shr _)) (dY (dw 0) x3 [sH] (.refl _)) (eZ (dw 0) ald))<|Rg hN<|⟨k,by omega,x0,(x3++[sH]),dO,bB,wrap64 (bD+1),by omega,Wo [(0,0),(3,0),(12,0),(13,0),(14,0)],H⟩
def jH.f (l0:List af) (a1:Int) (a2:Int) (a3:Int):Option (Bool):=if (l0.length:Int) > 0 then (if 0 < (l0.length:Int) then (if ((aa l0 0).f0)=a1 then (if ((aa l0 0).f1)=a2 then (some ((((aa l0 0).f4).length:Int) == a3)) else (some false)) else (some false)) else (none)) else (some false)
theorem jH.au {l0:List af} {a1:Int} {a2:Int} {a3:Int} {r:(Bool)} (H:jH.f l0 a1 a2 a3=some r):aQ Tryz.prog 50 [.row none 5 (List.map (v55 0) l0),I a1,I a2,I a3] (B r):=by
 refine Cg Tryz.func50 rfl fun C hN hL=>?_
 unfold jH.f at H
 refine Sw<|Rg hN<|Sw ?_
 rcases (aj H).symm with ⟨AO,H⟩ | ⟨AO,H⟩
 ·refine Rh hN [I (l0.length:Int),B false,B false,B false] (.c4 (aT (v55 0) l0) (df AO) (rfl:false=false) (rfl:false=false)) ?_
  cases H
  exact Rt dR
 obtain ⟨xw,H⟩:=ax H
 rcases (aj H).symm with ⟨Fe,H⟩ | ⟨Fe,H⟩
 ·refine Rh hN [I (l0.length:Int),B true,(v55 0) (aa l0 0),B false,B false] (.c6 (aT (v55 0) l0) (dt AO) (show (0:Int)≤0 by decide) (aF (v55 0) z55 (show (0:Int)≤0 by decide) xw) (bn Fe) (rfl:false=false)) ?_
  cases H
  exact Rt dR
 rcases aj H with ⟨Qc,H⟩ | ⟨Qc,H⟩
 ·refine Rh hN [I (l0.length:Int),B true,(v55 0) (aa l0 0),B true,(v55 0) (aa l0 0),B true,(v55 0) (aa l0 0),I (((aa l0 0).f4).length:Int)] (.cons (aT (v55 0) l0) (.cons (dt AO) (.cons (show (0:Int)≤0 by decide) (.c8 (aF (v55 0) z55 (show (0:Int)≤0 by decide) xw) (bq Fe) (show (0:Int)≤0 by decide) (aF (v55 0) z55 (show (0:Int)≤0 by decide) xw) (bq Qc) (show (0:Int)≤0 by decide) (aF (v55 0) z55 (show (0:Int)≤0 by decide) xw) (aT I ((aa l0 0).f4)))))) ?_
  cases H
  exact Rt dR
 refine Rh hN [I (l0.length:Int),B true,(v55 0) (aa l0 0),B true,(v55 0) (aa l0 0),B false] (.c8 (aT (v55 0) l0) (dt AO) (show (0:Int)≤0 by decide) (aF (v55 0) z55 (show (0:Int)≤0 by decide) xw) (bq Fe) (show (0:Int)≤0 by decide) (aF (v55 0) z55 (show (0:Int)≤0 by decide) xw) (bn Qc)) ?_
 cases H
 exact Rt dR
def iT.l0:Nat→ByteArray→Int→Int→Option (Int × Bool)
 | 0,_,_,_=>none
 | k+1,x0,x4,x5=>if x5 < (x0.size:Int) then (if 0≤x5 then (iT.l0 k x0 (Go.bits .or .i64 (wrap64 (x4*256)) (wrap64 (bt x0 x5))) (wrap64 (x5+1))) else (none)) else (some (x4,true))
def iT.j0:Nat→ByteArray→Bool→Option (Int × Bool)
 | 0,_,_=>none
 | k+1,x0,bB=>if bB=true then (some (0,false)) else (if 0 < (x0.size:Int) then (iT.l0 k x0 (wrap64 (IntKind.i8.wrap (bt x0 0))) 1) else (none))
def iT.f (k:Nat) (a0:ByteArray):Option (Int × Bool):=if (a0.size:Int) > 8 then (iT.j0 k a0 true) else ((oD.f a0).bind fun Ff=>(iT.j0 k a0 (!Ff)))
theorem iT.au {k:Nat} {a0:ByteArray} {r:(Int × Bool)} (H:iT.f k a0=some r):aQ Tryz.prog 51 [S a0] (.aD [I r.1,B r.2]):=by
 refine Cg Tryz.func51 rfl fun C hN hL=>?_
 unfold iT.f at H
 refine Sw<|Rg hN<|Sw<|Sw<|Good.cut (fun st=>∃ n':Nat,n'≤k∧∃ (x0:ByteArray) (bB:Bool),Wk C st ⟨[(0,.w (S x0)),(13,.w (B bB))],[]⟩∧iT.j0 n' x0 bB=some r) ?_ ?_
 ·rcases aj H with ⟨Qd,H⟩ | ⟨Qd,H⟩
  ·exact Rh hN [B true] (.c1 (dt Qd))<|⟨k,by omega,a0,true,Wo [(0,0),(13,0)],H⟩
  obtain ⟨Ff,ale,H⟩:=aC H
  exact Rh hN [B false,B Ff] (.c2 (df Qd) (oD.au ale).c)<|⟨k,by omega,a0,!Ff,Wo [(0,0),(13,0)],H⟩
 clear H
 rintro st ⟨n',hn',x0,bB,W,H⟩
 rcases n' with _ | k
 ·cases H
 refine W.good ?_
 rw [iT.j0] at H
 rcases aj H with ⟨Qe,H⟩ | ⟨Qe,H⟩
 ·refine Ct Qe<|Sw<|Rg hN ?_
  cases H
  exact Rt dR
 refine Cf (bf Qe)<|Sk<|Sw ?_
 obtain ⟨alf,H⟩:=ax H
 refine Rh hN [] (.c2 (show (0:Int)≤0 by decide) alf)<|Sw<|Sw<|Rg hN<|Bl<|Good.dN (fun k' st=>∃ (x0:ByteArray) (x4:Int) (x5:Int),k'≤k∧Wk C st ⟨[(0,.w (S x0)),(4,.w (I x4)),(5,.w (I x5))],[]⟩∧iT.l0 k' x0 x4 x5=some r) k ⟨x0,wrap64 (IntKind.i8.wrap (bt x0 0)),1,Nat.le_refl _,Wo [(0,0),(4,0),(5,0)],H⟩ fun k=>⟨fun st h=>(by obtain ⟨_,_,_,_,_,H⟩:=h;cases H),?_⟩
 clear H
 rintro st ⟨x0,x4,x5,hk,W,H⟩
 refine W.good ?_
 rw [iT.l0] at H
 refine Sw<|Sw<|Rg hN ?_
 rcases (aj H).symm with ⟨Fg,H⟩ | ⟨Fg,H⟩
 ·refine Cf (df Fg)<|Ex<|Sw<|Rg hN ?_
  cases H
  exact Rt dR
 refine Ct (dt Fg)<|Sk<|Sw<|Bl ?_
 obtain ⟨alg,H⟩:=ax H
 exact Rh hN [] (.c3 (show (0:Int)≤8 by decide) alg Fg)<|Rg hN<|⟨k,by omega,x0,Go.bits .or .i64 (wrap64 (x4*256)) (wrap64 (bt x0 x5)),wrap64 (x5+1),by omega,Wo [(0,0),(4,0),(5,0)],H⟩
def pG.f (k:Nat) (l0:List af):Option (List af × List af × List af × Bool):=(kW.f k l0).bind fun bY=>((jH.f l0 0 16 3).bind fun Qf=>(if Qf=true then (if 0 < (bY.length:Int) then (if 1 < (bY.length:Int) then (if 2 < (bY.length:Int) then (if 0 < ((bz bY 0).length:Int) then ((iT.f k ((aa (bz bY 0) 0).f3)).bind fun Fh=>((jH.f (bz bY 0) 0 2 0).bind fun xx=>(if xx=true then (if Fh.1=1 then ((jH.f (bz bY 1) 0 4 0).bind fun Fj=>(if Fj=true then ((jH.f (bz bY 2) 2 0 1).bind fun Qg=>(if Qg=true then (if 1≤((bz bY 2).length:Int) then ((jH.f ((bz bY 2).drop 1) 0 6 0).bind fun Qh=>(some (bz bY 0,bz bY 1,bz bY 2,Qh))) else (none)) else (some (bz bY 0,bz bY 1,bz bY 2,false)))) else (some (bz bY 0,bz bY 1,bz bY 2,false)))) else (some (bz bY 0,bz bY 1,bz bY 2,false))) else (some (bz bY 0,bz bY 1,bz bY 2,false))))) else (none)) else (none)) else (none)) else (none)) else (some (([]:List af),([]:List af),([]:List af),false))))
theorem pG.au {k:Nat} {l0:List af} {r:(List af × List af × List af × Bool)} (H:pG.f k l0=some r):aQ Tryz.prog 24 [.row none 5 (List.map (v55 0) l0)] (.aD [.agg [.row none 5 (List.map (v55 0) r.1),.row none 5 (List.map (v55 0) r.2.1),.row none 5 (List.map (v55 0) r.2.2.1)],B r.2.2.2]):=by
 refine Cg Tryz.func24 rfl fun C hN hL=>?_
 unfold pG.f at H
 refine Sw<|Rg hN<|Sw ?_
 obtain ⟨bY,alh,H⟩:=aC H
 refine Rh hN [.row (some 33) 1 (List.map (dw 0) bY)] (.c1 (kW.au alh).c)<|Sw<|Sw ?_
 obtain ⟨Qf,ali,H⟩:=aC H
 refine Rh hN [B Qf] (.c1 (jH.au ali).c) ?_
 rcases (aj H).symm with ⟨Qi,H⟩ | ⟨Qi,H⟩
 ·refine Ct (eB (bf Qi))<|Sw<|Rg hN ?_
  cases H
  exact Good.ret (jY (u:=.aD [.agg [.nil 55 5,.nil 55 5,.nil 55 5],B false]) (.aD (.c2 (.agg (.c3 (.jf 55 5 _) (.jf 55 5 _) (.jf 55 5 _))) (.refl _))) (by kernel_rfl))
 refine Cf (fw Qi)<|Sk<|Sw ?_
 obtain ⟨Qj,H⟩:=ax H
 obtain ⟨Qk,H⟩:=ax H
 obtain ⟨Ql,H⟩:=ax H
 refine Rd hm hN (.q 0 [[]] (.q 1 [[]] (.q 2 [[]] (.q 3 [[]] (.q 4 [[]] (.q 5 [[]] (.q 6 [[]] (.q 7 [[]] (.q 8 [[]] (.q 9 [[]] (.e 10 (.e 11 .z)))))))))))) [(4,some (.row none 1 (List.map (dw 0) bY)))] (.c1 (aS (some 33) 1 (dw 0) (dw 0) bY (dw.shr _))) [(dw 0) (bz bY 0),(dw 0) (bz bY 1),(dw 0) (bz bY 2)] [(dw 0) (bz bY 0),(dw 0) (bz bY 1),(dw 0) (bz bY 2)] (.cons (show (0:Int)≤0 by decide) (.c8 (gz (dw 0) Qj) (aF (dw 0) ([]:List af) (show (0:Int)≤0 by decide) Qj) (show (0:Int)≤1 by decide) (gz (dw 0) Qk) (aF (dw 0) ([]:List af) (show (0:Int)≤1 by decide) Qk) (show (0:Int)≤2 by decide) (gz (dw 0) Ql) (aF (dw 0) ([]:List af) (show (0:Int)≤2 by decide) Ql))) (.c6 (show (0:Int)≤0 by decide) (aF (dw 0) ([]:List af) (show (0:Int)≤0 by decide) Qj) (show (0:Int)≤1 by decide) (aF (dw 0) ([]:List af) (show (0:Int)≤1 by decide) Qk) (show (0:Int)≤2 by decide) (aF (dw 0) ([]:List af) (show (0:Int)≤2 by decide) Ql)) [] []<|Sw ?_
 obtain ⟨alj,H⟩:=ax H
 obtain ⟨Fh,alk,H⟩:=aC H
 refine Rh hN [(v55 0) (aa (bz bY 0) 0),.aD [I Fh.1,B Fh.2]] (.c3 (show (0:Int)≤0 by decide) (aF (v55 0) z55 (show (0:Int)≤0 by decide) alj) (iT.au alk).c)<|Sw ?_
 obtain ⟨xx,Fp,H⟩:=aC H
 rcases (aj H).symm with ⟨AP,H⟩ | ⟨AP,H⟩
 ·refine Rh hN [B xx,B false,B false,B false] (.c4 (jH.au Fp).c (bf AP) (rfl:false=false) (rfl:false=false))<|Sw<|Rd hm hN (.q 0 [[]] (.q 1 [[6,2]] (.q 2 [[6]] (.k 53 (.is 5 3 (.e 8 (.i 9 .z))))))) [(2,some (.pt [.nil 55 5,.nil 55 5,.nil 55 5])),(5,some (.pt [.row none 5 (List.map (v55 0) (bz bY 0)),.row none 5 (List.map (v55 0) (bz bY 1)),.row none 5 (List.map (v55 0) (bz bY 2))])),(8,none)] (.c2 (bJ (ay (rfl:(V.shr (.nil 55 5))=.nil 55 5) (ay (rfl:(V.shr (.nil 55 5))=.nil 55 5) (ay (rfl:(V.shr (.nil 55 5))=.nil 55 5) (rfl:aX []=[]))))) (bJ (ay (aS none 5 (v55 0) (v55 0) (bz bY 0) (v55.shr _)) (ay (aS none 5 (v55 0) (v55 0) (bz bY 1) (v55.shr _)) (ay (aS none 5 (v55 0) (v55 0) (bz bY 2) (v55.shr _)) (rfl:aX []=[])))))) [B false] [] (.c1 (rfl:false=false)) (.c1 (rfl:false=false)) [] [] ?_
  cases H
  exact Rt dR
 rcases (aj H).symm with ⟨Fq,H⟩ | ⟨Fq,H⟩
 ·refine Rh hN [B xx,B true,B false,B false] (.c4 (jH.au Fp).c AP (bn Fq) (rfl:false=false))<|Sw<|Rd hm hN (.q 0 [[]] (.q 1 [[6,2]] (.q 2 [[6]] (.k 53 (.is 5 3 (.e 8 (.i 9 .z))))))) [(2,some (.pt [.nil 55 5,.nil 55 5,.nil 55 5])),(5,some (.pt [.row none 5 (List.map (v55 0) (bz bY 0)),.row none 5 (List.map (v55 0) (bz bY 1)),.row none 5 (List.map (v55 0) (bz bY 2))])),(8,none)] (.c2 (bJ (ay (rfl:(V.shr (.nil 55 5))=.nil 55 5) (ay (rfl:(V.shr (.nil 55 5))=.nil 55 5) (ay (rfl:(V.shr (.nil 55 5))=.nil 55 5) (rfl:aX []=[]))))) (bJ (ay (aS none 5 (v55 0) (v55 0) (bz bY 0) (v55.shr _)) (ay (aS none 5 (v55 0) (v55 0) (bz bY 1) (v55.shr _)) (ay (aS none 5 (v55 0) (v55 0) (bz bY 2) (v55.shr _)) (rfl:aX []=[])))))) [B false] [] (.c1 (rfl:false=false)) (.c1 (rfl:false=false)) [] [] ?_
  cases H
  exact Rt dR
 obtain ⟨Fj,Zf,H⟩:=aC H
 rcases (aj H).symm with ⟨Qm,H⟩ | ⟨Qm,H⟩
 ·refine Rh hN [B xx,B true,B true,B Fj,B false] (.c5 (jH.au Fp).c AP (bq Fq) (jH.au Zf).c (bf Qm))<|Sw<|Rd hm hN (.q 0 [[]] (.q 1 [[6,2]] (.q 2 [[6]] (.k 53 (.is 5 3 (.e 8 (.i 9 .z))))))) [(2,some (.pt [.nil 55 5,.nil 55 5,.nil 55 5])),(5,some (.pt [.row none 5 (List.map (v55 0) (bz bY 0)),.row none 5 (List.map (v55 0) (bz bY 1)),.row none 5 (List.map (v55 0) (bz bY 2))])),(8,none)] (.c2 (bJ (ay (rfl:(V.shr (.nil 55 5))=.nil 55 5) (ay (rfl:(V.shr (.nil 55 5))=.nil 55 5) (ay (rfl:(V.shr (.nil 55 5))=.nil 55 5) (rfl:aX []=[]))))) (bJ (ay (aS none 5 (v55 0) (v55 0) (bz bY 0) (v55.shr _)) (ay (aS none 5 (v55 0) (v55 0) (bz bY 1) (v55.shr _)) (ay (aS none 5 (v55 0) (v55 0) (bz bY 2) (v55.shr _)) (rfl:aX []=[])))))) [B false] [] (.c1 (rfl:false=false)) (.c1 (rfl:false=false)) [] [] ?_
  cases H
  exact Rt dR
 obtain ⟨Qg,alm,H⟩:=aC H
 refine Rh hN [B xx,B true,B true,B Fj,B true,B Qg] (.c6 (jH.au Fp).c AP (bq Fq) (jH.au Zf).c Qm (jH.au alm).c)<|Sw ?_
 rcases (aj H).symm with ⟨AQ,H⟩ | ⟨AQ,H⟩
 ·refine Rd hm hN (.q 0 [[]] (.q 1 [[6,2]] (.q 2 [[6]] (.k 53 (.is 5 3 (.e 8 (.i 9 .z))))))) [(2,some (.pt [.nil 55 5,.nil 55 5,.nil 55 5])),(5,some (.pt [.row none 5 (List.map (v55 0) (bz bY 0)),.row none 5 (List.map (v55 0) (bz bY 1)),.row none 5 (List.map (v55 0) (bz bY 2))])),(8,none)] (.c2 (bJ (ay (rfl:(V.shr (.nil 55 5))=.nil 55 5) (ay (rfl:(V.shr (.nil 55 5))=.nil 55 5) (ay (rfl:(V.shr (.nil 55 5))=.nil 55 5) (rfl:aX []=[]))))) (bJ (ay (aS none 5 (v55 0) (v55 0) (bz bY 0) (v55.shr _)) (ay (aS none 5 (v55 0) (v55 0) (bz bY 1) (v55.shr _)) (ay (aS none 5 (v55 0) (v55 0) (bz bY 2) (v55.shr _)) (rfl:aX []=[])))))) [B false] [] (.c1 (bf AQ)) (.c1 (bf AQ)) [] [] ?_
  cases H
  exact Rt dR
 obtain ⟨aln,H⟩:=ax H
 obtain ⟨Qh,alo,H⟩:=aC H
 refine Rd hm hN (.q 0 [[]] (.q 1 [[6,2]] (.q 2 [[6]] (.k 53 (.q 3 [[6,5,4]] (.q 4 [[6,5]] (.e 5 (.e 6 (.i 7 (.e 8 (.i 9 .z))))))))))) [(2,some (.pt [.nil 55 5,.nil 55 5,.nil 55 5])),(5,some (.pt [.row none 5 (List.map (v55 0) (bz bY 0)),.row none 5 (List.map (v55 0) (bz bY 1)),.row none 5 (List.map (v55 0) (bz bY 2))])),(8,none)] (.c2 (bJ (ay (rfl:(V.shr (.nil 55 5))=.nil 55 5) (ay (rfl:(V.shr (.nil 55 5))=.nil 55 5) (ay (rfl:(V.shr (.nil 55 5))=.nil 55 5) (rfl:aX []=[]))))) (bJ (ay (aS none 5 (v55 0) (v55 0) (bz bY 0) (v55.shr _)) (ay (aS none 5 (v55 0) (v55 0) (bz bY 1) (v55.shr _)) (ay (aS none 5 (v55 0) (v55 0) (bz bY 2) (v55.shr _)) (rfl:aX []=[])))))) [B true,.row none 5 (List.map (v55 0) ((bz bY 2).drop 1)),B Qh] [] (.c5 AQ (show (0:Int)≤1 by decide) (sV (v55 0) aln) (yG (v55 0) (l:=bz bY 2) (n:=1)) (jH.au alo).c) (.c1 AQ) [] [] ?_
 cases H
 exact Rt dR
def strings_Join.f (l0:List ByteArray) (a1:ByteArray):Option ByteArray:=if l0.length≤140737488355328 then (if (Lib.join (l0.map (·.data.toList)) a1.data.toList).length≤140737488355328 then some ⟨(Lib.join (l0.map (·.data.toList)) a1.data.toList).toArray⟩ else none) else none
theorem strings_Join.au {l0:List ByteArray} {a1 r:ByteArray} (H:strings_Join.f l0 a1=some r):aQ Tryz.prog 91 [.row none 1 (List.map S l0),S a1] (S r):=by
 refine ⟨IM Tryz.func91 rfl (by kernel_rfl),fun p w vs hp ht hr=>?_⟩
 unfold strings_Join.f at H
 obtain ⟨h1,H⟩:=ax H
 obtain ⟨h2,H⟩:=ax H
 cases H
 obtain ⟨v,vs1,rfl,r1,hr⟩:=hr.cons_inv
 obtain ⟨v2,vs2,rfl,r2,hr⟩:=hr.cons_inv
 obtain rfl:=r2.jX
 obtain rfl:vs2=[]:=List.eq_nil_of_length_eq_zero (by simpa using hr.length)
 obtain ⟨ao,cap,rfl,h0,hc⟩:=aP.abO (enc:=Value.string) r1
 have fin:Calls Tryz.prog 91 #[.slice ao l0.length cap,.string a1] w fun e w'=>e=.returned (.string ⟨(Lib.join (l0.map (·.data.toList)) a1.data.toList).toArray⟩)∧Below w.heap.size w w':=by
  cases l0 with
  | nil =>
   refine (Tryz.strings_Join_none ao cap a1 w).mono ?_
   rintro e w' ⟨rfl,rfl⟩
   exact ⟨by simp [Lib.join],Below.refl _ _⟩
  | cons x l0 =>
   obtain ⟨b,o,rfl,hb,_⟩:=hc 0 x rfl
   exact Tryz.strings_Join b o cap (x :: l0) a1 w (fun j y hj=>by obtain ⟨b',o',e',_,h⟩:=hc j y hj;cases e';exact h) (hp b hb) h1 h0 h2
 refine fin.mono ?_
 rintro e w' ⟨rfl,hb⟩
 exact ⟨_,[],fun _=>False,rfl,Gz hb,fun _ h=>h.elim,List.nodup_nil,fun _ h=>(by cases h),.lit _⟩
def lS.l0:Nat→List ByteArray→List Int→Int→Int→Option (ByteArray)
 | 0,_,_,_,_=>none
 | k+1,x3,dO,bB,bD=>if bD < bB then (if 0≤bD then (if bD < (dO.length:Int) then ((oG.f (rd dO bD)).bind fun sI=>(if bD < (x3.length:Int) then (lS.l0 k (x3.set (bD:Int).toNat sI) dO bB (wrap64 (bD+1))) else (none))) else (none)) else (none)) else ((strings_Join.f x3 (⟨#[46]⟩:ByteArray)).bind fun Qn=>(some Qn))
def lS.f (k:Nat) (l0:List Int):Option (ByteArray):=(fP.f k l0).bind fun Qo=>(if Qo=true then (if 0≤(l0.length:Int) then (if ((l0.length:Int):Int).toNat≤17592186044416 then (lS.l0 k (List.replicate ((l0.length:Int):Int).toNat (⟨#[]⟩:ByteArray)) l0 (l0.length:Int) 0) else (none)) else (none)) else (some (⟨#[]⟩:ByteArray)))
theorem lS.au {k:Nat} {l0:List Int} {r:(ByteArray)} (H:lS.f k l0=some r):aQ Tryz.prog 54 [.row none 1 (List.map I l0)] (S r):=by
 refine Cg Tryz.func54 rfl fun C hN hL=>?_
 unfold lS.f at H
 refine Sw<|Rg hN<|Sw<|Sw ?_
 obtain ⟨Qo,alp,H⟩:=aC H
 refine Rh hN [B Qo] (.c1 (fP.au alp).c) ?_
 rcases (aj H).symm with ⟨Qp,H⟩ | ⟨Qp,H⟩
 ·refine Ct (eB (bf Qp))<|Sw<|Rg hN ?_
  cases H
  exact Rt dR
 refine Cf (fw Qp)<|Sk<|Sw ?_
 obtain ⟨alq,H⟩:=ax H
 obtain ⟨alr,H⟩:=ax H
 refine Rh hN [I (l0.length:Int),.row (some 9) 1 (List.map S (List.replicate ((l0.length:Int):Int).toNat (⟨#[]⟩:ByteArray)))] (.c5 (aT I l0) alq (Int.le_refl (l0.length:Int)) (Kg alr) (Dc S (((l0.length:Int):Int).toNat) (⟨#[]⟩:ByteArray)))<|Sw<|Sw<|Rh hN [I (l0.length:Int)] (.c1 (aT I l0))<|Bl<|Good.dN (fun k' st=>∃ (x3:List ByteArray) (dO:List Int) (bB:Int) (bD:Int),k'≤k∧Wk C st ⟨[(3,.w (.row (some 9) 1 (List.map S x3))),(12,.w (.row none 1 (List.map I dO))),(13,.w (I bB)),(14,.w (I bD))],[]⟩∧lS.l0 k' x3 dO bB bD=some r) k ⟨List.replicate ((l0.length:Int):Int).toNat (⟨#[]⟩:ByteArray),l0,(l0.length:Int),0,Nat.le_refl _,Wo [(3,0),(12,0),(13,0),(14,0)],H⟩ fun k=>⟨fun st h=>(by obtain ⟨_,_,_,_,_,_,H⟩:=h;cases H),?_⟩
 clear H
 rintro st ⟨x3,dO,bB,bD,hk,W,H⟩
 refine W.good ?_
 rw [lS.l0] at H
 refine Sw<|Rg hN<|Sw ?_
 rcases (aj H).symm with ⟨Qq,H⟩ | ⟨Qq,H⟩
 ·refine Cf (df Qq)<|Ex<|Sw ?_
  obtain ⟨Qn,als,H⟩:=aC H
  refine Rh hN [.row none 1 (List.map S x3),S Qn] (.c2 (aS (some 9) 1 S S x3 (fun _=>rfl)) (strings_Join.au als).c) ?_
  cases H
  exact Rt dR
 refine Ct (dt Qq)<|Sk<|Sw<|Bl<|Sw ?_
 obtain ⟨Fs,H⟩:=ax H
 obtain ⟨alu,H⟩:=ax H
 refine Rh hN [I (rd dO bD)] (.c2 Fs (aF I (0:Int) Fs alu)) ?_
 obtain ⟨sI,alv,H⟩:=aC H
 obtain ⟨Zg,H⟩:=ax H
 exact Rh hN [S sI,S (iH ByteArray.empty x3 bD),S sI,.row (some 9) 1 (List.map S (x3.set (bD:Int).toNat sI))] (.c6 (oG.au alv).c Fs (gz S Zg) (aF S ByteArray.empty Fs Zg) (Fit.refl (S sI)) (wX S (l:=x3) (n:=(bD:Int).toNat) (x:=sI)))<|Rg hN<|⟨k,by omega,(x3.set (bD:Int).toNat sI),dO,bB,wrap64 (bD+1),by omega,Wo [(3,0),(12,0),(13,0),(14,0)],H⟩
def ma.l0:Nat→(ByteArray→ByteArray→ByteArray→Int→Option (Bool))→List fE→Int→Int→Option (Int)
 | 0,_,_,_,_=>none
 | k+1,g1,x0,x7,x8=>if x8 < x7 then (if 0≤x8 then (if x8 < (x0.length:Int) then ((g1 ((ji x0 x8).f0) ((ji x0 x8).f1) ((ji x0 x8).f2) ((ji x0 x8).f3)).bind fun Qs=>(if Qs=true then (some x8) else (ma.l0 k g1 x0 x7 (wrap64 (x8+1))))) else (none)) else (none)) else (some (-1))
def ma.f (k:Nat) (l0:List fE) (g1:ByteArray→ByteArray→ByteArray→Int→Option (Bool)):Option (Int):=ma.l0 k g1 l0 (l0.length:Int) 0
theorem ma.au {k:Nat} {l0:List fE} {g1:ByteArray→ByteArray→ByteArray→Int→Option (Bool)} {f1:FuncId} {c1:List V} (hg1:∀ (yV:ByteArray) (yX:ByteArray) (yY:ByteArray) (yZ:Int) r,g1 yV yX yY yZ=some r→aQ Tryz.prog f1 ([.agg [S yV,S yX,S yY,I yZ]]++c1) (B r)) {r:(Int)} (H:ma.f k l0 g1=some r):aQ Tryz.prog 93 [.row none 4 (List.map v85 l0),.gq f1 c1] (I r):=by
 refine Cg Tryz.func93 rfl fun C hN hL=>?_
 unfold ma.f at H
 refine Sw<|Rg hN<|Sw<|Sw<|Rh hN [I (l0.length:Int)] (.c1 (aT v85 l0))<|Bl<|Good.dN (fun k' st=>∃ (x0:List fE) (x7:Int) (x8:Int),k'≤k∧Wk C st ⟨[(0,.w (.row none 4 (List.map v85 x0))),(1,.w (.gq f1 c1)),(7,.w (I x7)),(8,.w (I x8))],[]⟩∧ma.l0 k' g1 x0 x7 x8=some r) k ⟨l0,(l0.length:Int),0,Nat.le_refl _,Wo [(0,0),(1,0),(7,0),(8,0)],H⟩ fun k=>⟨fun st h=>(by obtain ⟨_,_,_,_,_,H⟩:=h;cases H),?_⟩
 clear H
 rintro st ⟨x0,x7,x8,hk,W,H⟩
 refine W.good ?_
 rw [ma.l0] at H
 refine Sw<|Rg hN<|Sw ?_
 rcases (aj H).symm with ⟨Qt,H⟩ | ⟨Qt,H⟩
 ·refine Cf (df Qt)<|Ex<|Sw<|Rg hN ?_
  cases H
  exact Rt dR
 refine Ct (dt Qt)<|Sk<|Sw<|Bl<|Sw<|Rg hN<|Sw ?_
 obtain ⟨Zh,H⟩:=ax H
 obtain ⟨alx,H⟩:=ax H
 obtain ⟨Qs,aly,H⟩:=aC H
 refine Rh hN [v85 (ji x0 x8),B Qs] (.c3 Zh (aF v85 z85 Zh alx) (hg1 _ _ _ _ _ aly).c) ?_
 rcases (aj H).symm with ⟨Qu,H⟩ | ⟨Qu,H⟩
 ·exact Cf (bf Qu)<|Sk<|Rg hN<|⟨k,by omega,x0,x7,wrap64 (x8+1),by omega,Wo [(0,0),(1,0),(7,0),(8,0)],H⟩
 refine Ct Qu<|Sw<|Rg hN ?_
 cases H
 exact Rt dR
def tL.f (k:Nat) (g0:ByteArray→ByteArray→ByteArray→Int→Option (Bool)):Option (Int × Bool):=(pz.f).bind fun aN=>((ma.f k ([(⟨aN.1,aN.2.1,aN.2.2.1,aN.2.2.2.1⟩:fE),(⟨aN.2.2.2.2.1,aN.2.2.2.2.2.1,aN.2.2.2.2.2.2.1,aN.2.2.2.2.2.2.2.1⟩:fE),(⟨aN.2.2.2.2.2.2.2.2.1,aN.2.2.2.2.2.2.2.2.2.1,aN.2.2.2.2.2.2.2.2.2.2.1,aN.2.2.2.2.2.2.2.2.2.2.2.1⟩:fE),(⟨aN.2.2.2.2.2.2.2.2.2.2.2.2.1,aN.2.2.2.2.2.2.2.2.2.2.2.2.2.1,aN.2.2.2.2.2.2.2.2.2.2.2.2.2.2.1,aN.2.2.2.2.2.2.2.2.2.2.2.2.2.2.2⟩:fE)]:List fE) g0).bind fun Fu=>(some (wrap64 (Fu+1),decide (Fu≥0))))
theorem tL.au {k:Nat} {g0:ByteArray→ByteArray→ByteArray→Int→Option (Bool)} {f0:FuncId} {c0:List V} (hg0:∀ (yV:ByteArray) (yX:ByteArray) (yY:ByteArray) (yZ:Int) r,g0 yV yX yY yZ=some r→aQ Tryz.prog f0 ([.agg [S yV,S yX,S yY,I yZ]]++c0) (B r)) {r:(Int × Bool)} (H:tL.f k g0=some r):aQ Tryz.prog 55 [.gq f0 c0] (.aD [I r.1,B r.2]):=by
 refine Cg Tryz.func55 rfl fun C hN hL=>?_
 unfold tL.f at H
 refine Sw<|Rg hN<|Sw ?_
 obtain ⟨aN,alz,H⟩:=aC H
 refine Rh hN [.agg [S aN.1,S aN.2.1,S aN.2.2.1,I aN.2.2.2.1,S aN.2.2.2.2.1,S aN.2.2.2.2.2.1,S aN.2.2.2.2.2.2.1,I aN.2.2.2.2.2.2.2.1,S aN.2.2.2.2.2.2.2.2.1,S aN.2.2.2.2.2.2.2.2.2.1,S aN.2.2.2.2.2.2.2.2.2.2.1,I aN.2.2.2.2.2.2.2.2.2.2.2.1,S aN.2.2.2.2.2.2.2.2.2.2.2.2.1,S aN.2.2.2.2.2.2.2.2.2.2.2.2.2.1,S aN.2.2.2.2.2.2.2.2.2.2.2.2.2.2.1,I aN.2.2.2.2.2.2.2.2.2.2.2.2.2.2.2]] (.c1 (pz.au alz).c)<|Sw<|Good.pK 4 0 0 (us:=[S aN.1,S aN.2.1,S aN.2.2.1,I aN.2.2.2.1,S aN.2.2.2.2.1,S aN.2.2.2.2.2.1,S aN.2.2.2.2.2.2.1,I aN.2.2.2.2.2.2.2.1,S aN.2.2.2.2.2.2.2.2.1,S aN.2.2.2.2.2.2.2.2.2.1,S aN.2.2.2.2.2.2.2.2.2.2.1,I aN.2.2.2.2.2.2.2.2.2.2.2.1,S aN.2.2.2.2.2.2.2.2.2.2.2.2.1,S aN.2.2.2.2.2.2.2.2.2.2.2.2.2.1,S aN.2.2.2.2.2.2.2.2.2.2.2.2.2.2.1,I aN.2.2.2.2.2.2.2.2.2.2.2.2.2.2.2]) (us':=[S aN.1,S aN.2.1,S aN.2.2.1,I aN.2.2.2.1,S aN.2.2.2.2.1,S aN.2.2.2.2.2.1,S aN.2.2.2.2.2.2.1,I aN.2.2.2.2.2.2.2.1,S aN.2.2.2.2.2.2.2.2.1,S aN.2.2.2.2.2.2.2.2.2.1,S aN.2.2.2.2.2.2.2.2.2.2.1,I aN.2.2.2.2.2.2.2.2.2.2.2.1,S aN.2.2.2.2.2.2.2.2.2.2.2.2.1,S aN.2.2.2.2.2.2.2.2.2.2.2.2.2.1,S aN.2.2.2.2.2.2.2.2.2.2.2.2.2.2.1,I aN.2.2.2.2.2.2.2.2.2.2.2.2.2.2.2]) (by kernel_rfl) (by kernel_rfl) (ay (rfl:(V.shr (S aN.1))=S aN.1) (ay (rfl:(V.shr (S aN.2.1))=S aN.2.1) (ay (rfl:(V.shr (S aN.2.2.1))=S aN.2.2.1) (ay (rfl:(V.shr (I aN.2.2.2.1))=I aN.2.2.2.1) (ay (rfl:(V.shr (S aN.2.2.2.2.1))=S aN.2.2.2.2.1) (ay (rfl:(V.shr (S aN.2.2.2.2.2.1))=S aN.2.2.2.2.2.1) (ay (rfl:(V.shr (S aN.2.2.2.2.2.2.1))=S aN.2.2.2.2.2.2.1) (ay (rfl:(V.shr (I aN.2.2.2.2.2.2.2.1))=I aN.2.2.2.2.2.2.2.1) (ay (rfl:(V.shr (S aN.2.2.2.2.2.2.2.2.1))=S aN.2.2.2.2.2.2.2.2.1) (ay (rfl:(V.shr (S aN.2.2.2.2.2.2.2.2.2.1))=S aN.2.2.2.2.2.2.2.2.2.1) (ay (rfl:(V.shr (S aN.2.2.2.2.2.2.2.2.2.2.1))=S aN.2.2.2.2.2.2.2.2.2.2.1) (ay (rfl:(V.shr (I aN.2.2.2.2.2.2.2.2.2.2.2.1))=I aN.2.2.2.2.2.2.2.2.2.2.2.1) (ay (rfl:(V.shr (S aN.2.2.2.2.2.2.2.2.2.2.2.2.1))=S aN.2.2.2.2.2.2.2.2.2.2.2.2.1) (ay (rfl:(V.shr (S aN.2.2.2.2.2.2.2.2.2.2.2.2.2.1))=S aN.2.2.2.2.2.2.2.2.2.2.2.2.2.1) (ay (rfl:(V.shr (S aN.2.2.2.2.2.2.2.2.2.2.2.2.2.2.1))=S aN.2.2.2.2.2.2.2.2.2.2.2.2.2.2.1) (ay (rfl:(V.shr (I aN.2.2.2.2.2.2.2.2.2.2.2.2.2.2.2))=I aN.2.2.2.2.2.2.2.2.2.2.2.2.2.2.2) (rfl:aX []=[]))))))))))))))))) ?_
 obtain ⟨Fu,alA,H⟩:=aC H
 refine Rh hN [.row none 4 (List.map v85 ([(⟨aN.1,aN.2.1,aN.2.2.1,aN.2.2.2.1⟩:fE),(⟨aN.2.2.2.2.1,aN.2.2.2.2.2.1,aN.2.2.2.2.2.2.1,aN.2.2.2.2.2.2.2.1⟩:fE),(⟨aN.2.2.2.2.2.2.2.2.1,aN.2.2.2.2.2.2.2.2.2.1,aN.2.2.2.2.2.2.2.2.2.2.1,aN.2.2.2.2.2.2.2.2.2.2.2.1⟩:fE),(⟨aN.2.2.2.2.2.2.2.2.2.2.2.2.1,aN.2.2.2.2.2.2.2.2.2.2.2.2.2.1,aN.2.2.2.2.2.2.2.2.2.2.2.2.2.2.1,aN.2.2.2.2.2.2.2.2.2.2.2.2.2.2.2⟩:fE)]:List fE)),I Fu] (.c3 (rfl:List.flatMap V.cells (List.map v85 ([(⟨aN.1,aN.2.1,aN.2.2.1,aN.2.2.2.1⟩:fE),(⟨aN.2.2.2.2.1,aN.2.2.2.2.2.1,aN.2.2.2.2.2.2.1,aN.2.2.2.2.2.2.2.1⟩:fE),(⟨aN.2.2.2.2.2.2.2.2.1,aN.2.2.2.2.2.2.2.2.2.1,aN.2.2.2.2.2.2.2.2.2.2.1,aN.2.2.2.2.2.2.2.2.2.2.2.1⟩:fE),(⟨aN.2.2.2.2.2.2.2.2.2.2.2.2.1,aN.2.2.2.2.2.2.2.2.2.2.2.2.2.1,aN.2.2.2.2.2.2.2.2.2.2.2.2.2.2.1,aN.2.2.2.2.2.2.2.2.2.2.2.2.2.2.2⟩:fE)]:List fE))=[S aN.1,S aN.2.1,S aN.2.2.1,I aN.2.2.2.1,S aN.2.2.2.2.1,S aN.2.2.2.2.2.1,S aN.2.2.2.2.2.2.1,I aN.2.2.2.2.2.2.2.1,S aN.2.2.2.2.2.2.2.2.1,S aN.2.2.2.2.2.2.2.2.2.1,S aN.2.2.2.2.2.2.2.2.2.2.1,I aN.2.2.2.2.2.2.2.2.2.2.2.1,S aN.2.2.2.2.2.2.2.2.2.2.2.2.1,S aN.2.2.2.2.2.2.2.2.2.2.2.2.2.1,S aN.2.2.2.2.2.2.2.2.2.2.2.2.2.2.1,I aN.2.2.2.2.2.2.2.2.2.2.2.2.2.2.2]) (rfl:List.all (List.map v85 ([(⟨aN.1,aN.2.1,aN.2.2.1,aN.2.2.2.1⟩:fE),(⟨aN.2.2.2.2.1,aN.2.2.2.2.2.1,aN.2.2.2.2.2.2.1,aN.2.2.2.2.2.2.2.1⟩:fE),(⟨aN.2.2.2.2.2.2.2.2.1,aN.2.2.2.2.2.2.2.2.2.1,aN.2.2.2.2.2.2.2.2.2.2.1,aN.2.2.2.2.2.2.2.2.2.2.2.1⟩:fE),(⟨aN.2.2.2.2.2.2.2.2.2.2.2.2.1,aN.2.2.2.2.2.2.2.2.2.2.2.2.2.1,aN.2.2.2.2.2.2.2.2.2.2.2.2.2.2.1,aN.2.2.2.2.2.2.2.2.2.2.2.2.2.2.2⟩:fE)]:List fE)) (fun y=>Nat.beq y.cells.length 4)=true) (ma.au (f1:=f0) (c1:=c0) hg0 alA).c)<|Sw<|Rg hN ?_
 cases H
 exact Rt dR
def xX.f (aJ:ByteArray) (bN:ByteArray) (dB:ByteArray) (cB:Int) (a1:ByteArray):Option (Bool):=some (bN.toList == a1.toList)
theorem xX.au {aJ:ByteArray} {bN:ByteArray} {dB:ByteArray} {cB:Int} {a1:ByteArray} {r:(Bool)} (H:xX.f aJ bN dB cB a1=some r):aQ Tryz.prog 56 [.agg [S aJ,S bN,S dB,I cB],.pt [S a1]] (B r):=by
 refine Cg Tryz.func56 rfl fun C hN hL=>?_
 unfold xX.f at H
 refine Sw<|Rg hN<|Sw<|Rg hN ?_
 cases H
 exact Rt dR
def ui.f (k:Nat) (l0:List Int):Option (Int × Bool):=(lS.f k l0).bind fun sJ=>((tL.f k (fun z0 z1 z2 z3=>xX.f z0 z1 z2 z3 sJ)).bind fun AR=>(some (AR.1,AR.2)))
theorem ui.au {k:Nat} {l0:List Int} {r:(Int × Bool)} (H:ui.f k l0=some r):aQ Tryz.prog 26 [.row none 1 (List.map I l0)] (.aD [I r.1,B r.2]):=by
 refine Cg Tryz.func26 rfl fun C hN hL=>?_
 unfold ui.f at H
 refine Sw<|Rg hN<|Sw ?_
 obtain ⟨sJ,alB,H⟩:=aC H
 refine Rh hN [S sJ] (.c1 (lS.au alB).c)<|Sw<|Good.pK 4 0 0 (us:=[S sJ]) (us':=[S sJ]) (by kernel_rfl) (by kernel_rfl) (ay (rfl:(V.shr (S sJ))=S sJ) (rfl:aX []=[])) ?_
 obtain ⟨AR,alC,H⟩:=aC H
 refine Rh hN [.aD [I AR.1,B AR.2]] (.c1 (tL.au (f0:=56) (c0:=[.pt [S sJ]]) (fun _ _ _ _ _ h=>xX.au h) alC).c) ?_
 cases H
 exact Rt dR
def nC.f (k:Nat) (a0:ByteArray):Option (Int × ByteArray × Int):=(mg.f k a0).bind fun l6=>(if l6.2.1=0 then ((pG.f k l6.1).bind fun jg=>(if jg.2.2.2=true then (if 1 < (jg.2.2.1.length:Int) then ((qg.f k ((aa jg.2.2.1 1).f3)).bind fun xy=>((ui.f k xy.1).bind fun AU=>(if 0 < (jg.2.1.length:Int) then ((qw.f k AU.1 ((aa jg.2.1 0).f3)).bind fun Fv=>(if Fv=0 then (some (AU.1,(aa jg.2.1 0).f3,0)) else (some (0,(⟨#[]⟩:ByteArray),Fv)))) else (none)))) else (none)) else (some (0,(⟨#[]⟩:ByteArray),5)))) else (some (0,(⟨#[]⟩:ByteArray),l6.2.1)))
theorem nC.au {k:Nat} {a0:ByteArray} {r:(Int × ByteArray × Int)} (H:nC.f k a0=some r):aQ Tryz.prog 8 [S a0] (.aD [I r.1,S r.2.1,I r.2.2]):=by
 refine Cg Tryz.func8 rfl fun C hN hL=>?_
 unfold nC.f at H
 refine Sw<|Rg hN<|Sw ?_
 obtain ⟨l6,alD,H⟩:=aC H
 refine Rh hN [.aD [.row (some 55) 5 (List.map (v55 1) l6.1),.agg [I l6.2.1,I l6.2.2]]] (.c1 (mg.au alD).c)<|Sw<|Sw<|Rg hN ?_
 rcases (aj H).symm with ⟨Qv,H⟩ | ⟨Qv,H⟩
 ·refine Ct (nq Qv)<|Sw<|Rd hm hN (.qs 4 0 (.q 4 [] .z)) [(6,some (.pt [I l6.2.1,I l6.2.2]))] (.c1 (bJ (ay (rfl:(V.shr (I l6.2.1))=I l6.2.1) (ay (rfl:(V.shr (I l6.2.2))=I l6.2.2) (rfl:aX []=[]))))) [] [] .nil .nil [] [] ?_
  cases H
  exact Rt dR
 refine Cf (bM Qv)<|Sk<|Sw ?_
 obtain ⟨jg,alE,H⟩:=aC H
 refine Rh hN [.row none 5 (List.map (v55 0) l6.1),.aD [.agg [.row none 5 (List.map (v55 0) jg.1),.row none 5 (List.map (v55 0) jg.2.1),.row none 5 (List.map (v55 0) jg.2.2.1)],B jg.2.2.2]] (.c2 (aS (some 55) 5 (v55 1) (v55 0) l6.1 (v55.shr _)) (pG.au alE).c)<|Sw<|Sw<|Rg hN ?_
 rcases (aj H).symm with ⟨Qw,H⟩ | ⟨Qw,H⟩
 ·refine Ct (eB (bf Qw))<|Sw<|Rg hN ?_
  cases H
  exact Rt dR
 refine Cf (fw Qw)<|Sk<|Sw ?_
 obtain ⟨alF,H⟩:=ax H
 obtain ⟨xy,alG,H⟩:=aC H
 refine Rh hN [(v55 0) (aa jg.2.2.1 1),.aD [.row none 1 (List.map I xy.1),B xy.2]] (.c3 (show (0:Int)≤1 by decide) (aF (v55 0) z55 (show (0:Int)≤1 by decide) alF) (qg.au alG).c)<|Sw ?_
 obtain ⟨AU,alH,H⟩:=aC H
 refine Rh hN [.aD [I AU.1,B AU.2]] (.c1 (ui.au alH).c)<|Sw ?_
 obtain ⟨alI,H⟩:=ax H
 refine Rh hN [(v55 0) (aa jg.2.1 0)] (.c2 (show (0:Int)≤0 by decide) (aF (v55 0) z55 (show (0:Int)≤0 by decide) alI))<|Sw<|Sw ?_
 obtain ⟨Fv,alJ,H⟩:=aC H
 refine Rh hN [I Fv] (.c1 (qw.au alJ).c)<|Sw<|Rg hN ?_
 rcases (aj H).symm with ⟨Qx,H⟩ | ⟨Qx,H⟩
 ·refine Ct (nq Qx)<|Sw<|Rg hN ?_
  cases H
  exact Rt dR
 refine Cf (bM Qx)<|Sk<|Sw<|Rg hN ?_
 cases H
 exact Rt dR
def yh.f (k:Nat) (l0:List af):Option (Int):=(jb.f k l0).bind fun Fw=>(some (Fw.1.size:Int))
theorem yh.au {k:Nat} {l0:List af} {r:(Int)} (H:yh.f k l0=some r):aQ Tryz.prog 31 [.row none 5 (List.map (v55 0) l0)] (I r):=by
 refine Cg Tryz.func31 rfl fun C hN hL=>?_
 unfold yh.f at H
 refine Sw<|Rg hN<|Sw ?_
 obtain ⟨Fw,alK,H⟩:=aC H
 refine Rh hN [.aD [S Fw.1,I Fw.2]] (.c1 (jb.au alK).c)<|Sw<|Rg hN ?_
 cases H
 exact Rt dR
def strings_Repeat.f (a0:ByteArray) (a1:Int):Option ByteArray:=if 0≤a1∧a1≤9223372036854775807∧a0.size*a1.toNat≤140737488355328 then some ⟨(Lib.repeatL a0.data.toList a1.toNat).toArray⟩ else none
theorem strings_Repeat.au {a0:ByteArray} {a1:Int} {r:ByteArray} (H:strings_Repeat.f a0 a1=some r):aQ Tryz.prog 32 [S a0,I a1] (S r):=by
 unfold strings_Repeat.f at H
 obtain ⟨⟨h1,h2,h3⟩,H⟩:=ax H
 cases H
 obtain ⟨c,rfl⟩:∃ c:Nat,a1=c:=⟨a1.toNat,by omega⟩
 exact uf Tryz.func32 rfl (by kernel_rfl) rfl fun p w ht=>Tryz.strings_Repeat a0 c w (by omega) h3
def pI.f (k:Nat) (a0:Int):Option (Int):=(qf.f a0).bind fun Fx=>(if Fx=0 then (some 0) else ((strings_Repeat.f (⟨#[1]⟩:ByteArray) Fx).bind fun Qy=>((qj.f k a0 Qy).bind fun uY=>((qc.f k uY.1 uY.2.1 uY.2.2).bind fun AV=>((yh.f k AV).bind fun Qz=>(some Qz))))))
theorem pI.au {k:Nat} {a0:Int} {r:(Int)} (H:pI.f k a0=some r):aQ Tryz.prog 10 [I a0] (I r):=by
 refine Cg Tryz.func10 rfl fun C hN hL=>?_
 unfold pI.f at H
 refine Sw<|Rg hN<|Sw ?_
 obtain ⟨Fx,alL,H⟩:=aC H
 refine Rh hN [I Fx] (.c1 (qf.au alL).c)<|Sw<|Sw<|Rg hN ?_
 rcases aj H with ⟨QA,H⟩ | ⟨QA,H⟩
 ·refine Ct (bq QA)<|Sw<|Rg hN ?_
  cases H
  exact Rt dR
 refine Cf (bn QA)<|Sk<|Sw ?_
 obtain ⟨Qy,alM,H⟩:=aC H
 obtain ⟨uY,alN,H⟩:=aC H
 obtain ⟨AV,alO,H⟩:=aC H
 obtain ⟨Qz,alP,H⟩:=aC H
 refine Rh hN [S Qy,.agg [.row none 5 (List.map (v55 0) uY.1),.row none 5 (List.map (v55 0) uY.2.1),.row none 5 (List.map (v55 0) uY.2.2)],.row (some 55) 5 (List.map (v55 1) AV),.row none 5 (List.map (v55 0) AV),I Qz] (.c5 (strings_Repeat.au alM).c (qj.au alN).c (qc.au alO).c (aS (some 55) 5 (v55 1) (v55 0) AV (v55.shr _)) (yh.au alP).c) ?_
 cases H
 exact Rt dR
def qR.f (k:Nat)  : Option (Bool):=(pE.f k 2 (⟨#[0,0,0,0,0,0,0,0,0,0,0,0,0,0,0,0,0,0,0,0,0,0,0,0,0,0,0,0,0,0,0,5]⟩:ByteArray)).bind fun gK=>((nC.f k gK.1).bind fun lv=>(if (gK.1.size:Int)=51 then (if 7≤(gK.1.size:Int) then (if (gK.1.extract 0 7).toList=([48,49,2,1,1,4,32]:List UInt8) then (if gK.2=0 then (if lv.1=2 then (if lv.2.1.toList=([0,0,0,0,0,0,0,0,0,0,0,0,0,0,0,0,0,0,0,0,0,0,0,0,0,0,0,0,0,0,0,5]:List UInt8) then (if lv.2.2=0 then ((pI.f k 2).bind fun QB=>(some (QB == 51))) else (some false)) else (some false)) else (some false)) else (some false)) else (some false)) else (none)) else (some false)))
theorem qR.au {k:Nat} {r:(Bool)} (H:qR.f k  = some r):aQ Tryz.prog 5 [] (B r):=by
 refine Cg Tryz.func5 rfl fun C hN hL=>?_
 unfold qR.f at H
 refine Sw<|Rg hN<|Sw ?_
 obtain ⟨gK,alQ,H⟩:=aC H
 refine Rh hN [.aD [S gK.1,I gK.2]] (.c1 (pE.au alQ).c)<|Sw ?_
 obtain ⟨lv,alR,H⟩:=aC H
 refine Rh hN [.aD [I lv.1,S lv.2.1,I lv.2.2]] (.c1 (nC.au alR).c)<|Sw ?_
 rcases (aj H).symm with ⟨sK,H⟩ | ⟨sK,H⟩
 ·refine Rh hN [B false,B false,B false,B false,B false,B false] (.c6 (bn sK) (rfl:false=false) (rfl:false=false) (rfl:false=false) (rfl:false=false) (rfl:false=false)) ?_
  cases H
  exact Rt dR
 obtain ⟨xz,H⟩:=ax H
 rcases (aj H).symm with ⟨uZ,H⟩ | ⟨uZ,H⟩
 ·refine Ri hN [B true,B false,B false,B false,B false,B false] (.cons (bq sK) (.c8 (show (0:Int)≤7 by decide) xz (eP (rfl:(gK.1.extract 0 7).toList=(gK.1.extract 0 7).toList) (dV ([48,49,2,1,1,4,32]:List UInt8))) (bn uZ) (rfl:false=false) (rfl:false=false) (rfl:false=false) (rfl:false=false))) [(22,.bool ((gK.1.extract 0 7).toList == ([48,49,2,1,1,4,32]:List UInt8)))] ?_
  cases H
  exact Rt dR
 rcases (aj H).symm with ⟨xA,H⟩ | ⟨xA,H⟩
 ·refine Ri hN [B true,B true,B false,B false,B false,B false] (.cons (bq sK) (.c8 (show (0:Int)≤7 by decide) xz (eP (rfl:(gK.1.extract 0 7).toList=(gK.1.extract 0 7).toList) (dV ([48,49,2,1,1,4,32]:List UInt8))) (bq uZ) (bn xA) (rfl:false=false) (rfl:false=false) (rfl:false=false))) [(22,.bool ((gK.1.extract 0 7).toList == ([48,49,2,1,1,4,32]:List UInt8)))] ?_
  cases H
  exact Rt dR
 rcases (aj H).symm with ⟨AX,H⟩ | ⟨AX,H⟩
 ·refine Ri hN [B true,B true,B true,B false,B false,B false] (.cons (bq sK) (.c8 (show (0:Int)≤7 by decide) xz (eP (rfl:(gK.1.extract 0 7).toList=(gK.1.extract 0 7).toList) (dV ([48,49,2,1,1,4,32]:List UInt8))) (bq uZ) (bq xA) (bn AX) (rfl:false=false) (rfl:false=false))) [(22,.bool ((gK.1.extract 0 7).toList == ([48,49,2,1,1,4,32]:List UInt8)))] ?_
  cases H
  exact Rt dR
 rcases (aj H).symm with ⟨Fy,H⟩ | ⟨Fy,H⟩
 ·refine Ri hN [B true,B true,B true,B true,B false,B false] (.cons (bq sK) (.cons (show (0:Int)≤7 by decide) (.c8 xz (eP (rfl:(gK.1.extract 0 7).toList=(gK.1.extract 0 7).toList) (dV ([48,49,2,1,1,4,32]:List UInt8))) (bq uZ) (bq xA) (bq AX) (eP (rfl:lv.2.1.toList=lv.2.1.toList) (dV ([0,0,0,0,0,0,0,0,0,0,0,0,0,0,0,0,0,0,0,0,0,0,0,0,0,0,0,0,0,0,0,5]:List UInt8))) (bn Fy) (rfl:false=false)))) [(22,.bool ((gK.1.extract 0 7).toList == ([48,49,2,1,1,4,32]:List UInt8))),(34,.bool (lv.2.1.toList == ([0,0,0,0,0,0,0,0,0,0,0,0,0,0,0,0,0,0,0,0,0,0,0,0,0,0,0,0,0,0,0,5]:List UInt8)))] ?_
  cases H
  exact Rt dR
 rcases (aj H).symm with ⟨QC,H⟩ | ⟨QC,H⟩
 ·refine Ri hN [B true,B true,B true,B true,B true,B false] (.cons (bq sK) (.cons (show (0:Int)≤7 by decide) (.c8 xz (eP (rfl:(gK.1.extract 0 7).toList=(gK.1.extract 0 7).toList) (dV ([48,49,2,1,1,4,32]:List UInt8))) (bq uZ) (bq xA) (bq AX) (eP (rfl:lv.2.1.toList=lv.2.1.toList) (dV ([0,0,0,0,0,0,0,0,0,0,0,0,0,0,0,0,0,0,0,0,0,0,0,0,0,0,0,0,0,0,0,5]:List UInt8))) (bq Fy) (bn QC)))) [(22,.bool ((gK.1.extract 0 7).toList == ([48,49,2,1,1,4,32]:List UInt8))),(34,.bool (lv.2.1.toList == ([0,0,0,0,0,0,0,0,0,0,0,0,0,0,0,0,0,0,0,0,0,0,0,0,0,0,0,0,0,0,0,5]:List UInt8)))] ?_
  cases H
  exact Rt dR
 obtain ⟨QB,alS,H⟩:=aC H
 refine Ri hN [B true,B true,B true,B true,B true,B true,I QB] (.cons (bq sK) (.cons (show (0:Int)≤7 by decide) (.cons xz (.c8 (eP (rfl:(gK.1.extract 0 7).toList=(gK.1.extract 0 7).toList) (dV ([48,49,2,1,1,4,32]:List UInt8))) (bq uZ) (bq xA) (bq AX) (eP (rfl:lv.2.1.toList=lv.2.1.toList) (dV ([0,0,0,0,0,0,0,0,0,0,0,0,0,0,0,0,0,0,0,0,0,0,0,0,0,0,0,0,0,0,0,5]:List UInt8))) (bq Fy) (bq QC) (pI.au alS).c)))) [(22,.bool ((gK.1.extract 0 7).toList == ([48,49,2,1,1,4,32]:List UInt8))),(34,.bool (lv.2.1.toList == ([0,0,0,0,0,0,0,0,0,0,0,0,0,0,0,0,0,0,0,0,0,0,0,0,0,0,0,0,0,0,0,5]:List UInt8)))] ?_
 cases H
 exact Rt dR
def lK.f (a0:Int):Option (Int):=if a0=1 then (some 28) else (if a0=2 then (some 32) else (if a0=3 then (some 48) else (if a0=4 then (some 66) else (some 0))))
theorem lK.au {a0:Int} {r:(Int)} (H:lK.f a0=some r):aQ Tryz.prog 16 [I a0] (I r):=by
 refine Cg Tryz.func16 rfl fun C hN hL=>?_
 unfold lK.f at H
 refine Sw<|Rg hN<|Sw<|Sw<|Rg hN<|Bl<|Sw<|Rg hN ?_
 rcases aj H with ⟨QD,H⟩ | ⟨QD,H⟩
 ·refine Ct (bq QD)<|Sw<|Rg hN ?_
  cases H
  exact Rt dR
 refine Cf (bn QD)<|Sw<|Rg hN ?_
 rcases aj H with ⟨QE,H⟩ | ⟨QE,H⟩
 ·refine Ct (bq QE)<|Sw<|Rg hN ?_
  cases H
  exact Rt dR
 refine Cf (bn QE)<|Sw<|Rg hN ?_
 rcases aj H with ⟨QF,H⟩ | ⟨QF,H⟩
 ·refine Ct (bq QF)<|Sw<|Rg hN ?_
  cases H
  exact Rt dR
 refine Cf (bn QF)<|Sw<|Rg hN ?_
 rcases aj H with ⟨QG,H⟩ | ⟨QG,H⟩
 ·refine Ct (bq QG)<|Sw<|Rg hN ?_
  cases H
  exact Rt dR
 refine Cf (bn QG)<|Sk<|Sw<|Rg hN ?_
 cases H
 exact Rt dR
def nH.l0:Nat→Int→Int→Option (Int)
 | 0,_,_=>none
 | k+1,x0,x3=>if x3 < 16 then (if 0≤x3 then (if (bt (⟨#[48,49,50,51,52,53,54,55,56,57,65,66,67,68,69,70]⟩:ByteArray) x3)=x0 then (some x3) else (nH.l0 k x0 (wrap64 (x3+1)))) else (none)) else (some (-1))
def nH.f (k:Nat) (a0:Int):Option (Int):=nH.l0 k a0 0
theorem nH.au {k:Nat} {a0:Int} {r:(Int)} (H:nH.f k a0=some r):aQ Tryz.prog 115 [K .u8 a0] (I r):=by
 refine Cg Tryz.func115 rfl fun C hN hL=>?_
 unfold nH.f at H
 refine Sw<|Rg hN<|Sw<|Sw<|Rg hN<|Bl<|Good.dN (fun k' st=>∃ (x0:Int) (x3:Int),k'≤k∧Wk C st ⟨[(0,.w (K .u8 x0)),(3,.w (I x3))],[]⟩∧nH.l0 k' x0 x3=some r) k ⟨a0,0,Nat.le_refl _,Wo [(0,0),(3,0)],H⟩ fun k=>⟨fun st h=>(by obtain ⟨_,_,_,_,H⟩:=h;cases H),?_⟩
 clear H
 rintro st ⟨x0,x3,hk,W,H⟩
 refine W.good ?_
 rw [nH.l0] at H
 refine Sw<|Sw<|Rg hN ?_
 rcases (aj H).symm with ⟨FB,H⟩ | ⟨FB,H⟩
 ·refine Cf (df FB)<|Ex<|Sw<|Rg hN ?_
  cases H
  exact Rt dR
 refine Ct (dt FB)<|Sk<|Sw<|Bl<|Sw ?_
 obtain ⟨alT,H⟩:=ax H
 refine Rh hN [] (.c2 alT FB) ?_
 rcases (aj H).symm with ⟨QH,H⟩ | ⟨QH,H⟩
 ·exact Cf (bn QH)<|Sk<|Rg hN<|⟨k,by omega,x0,wrap64 (x3+1),by omega,Wo [(0,0),(3,0)],H⟩
 refine Ct (bq QH)<|Sw<|Rg hN ?_
 cases H
 exact Rt dR
def jW.l0:Nat→ByteArray→ByteArray→Int→Option (ByteArray × Bool)
 | 0,_,_,_=>none
 | k+1,x0,x4,x5=>if x5 < (x0.size:Int) then (if 0≤x5 then (if 0≤(wrap64 (x5+1)) then (if (wrap64 (x5+1)) < (x0.size:Int) then ((nH.f k (bt x0 x5)).bind fun sM=>((nH.f k (bt x0 (wrap64 (x5+1)))).bind fun sN=>(if sM < 0 then (some ((⟨#[]⟩:ByteArray),false)) else (if sN < 0 then (some ((⟨#[]⟩:ByteArray),false)) else (if x4.size+(strOfNums ([(wrap64 ((wrap64 (16*sM))+sN)) % 256]:List Int)).size≤9223372036854775807 then (jW.l0 k x0 (x4++(strOfNums ([(wrap64 ((wrap64 (16*sM))+sN)) % 256]:List Int))) (wrap64 (x5+2))) else (none)))))) else (none)) else (none)) else (none)) else (some (x4,true))
def jW.f (k:Nat) (a0:ByteArray):Option (ByteArray × Bool):=if (Int.tmod (a0.size:Int) 2)=0 then (jW.l0 k a0 (⟨#[]⟩:ByteArray) 0) else (some ((⟨#[]⟩:ByteArray),false))
theorem jW.au {k:Nat} {a0:ByteArray} {r:(ByteArray × Bool)} (H:jW.f k a0=some r):aQ Tryz.prog 78 [S a0] (.aD [S r.1,B r.2]):=by
 refine Cg Tryz.func78 rfl fun C hN hL=>?_
 unfold jW.f at H
 refine Sw<|Rg hN<|Sw<|Rg hN<|Sw<|Sw<|Rh hN [] (.c1 (show (2:Int)≠0 by decide)) ?_
 rcases (aj H).symm with ⟨QI,H⟩ | ⟨QI,H⟩
 ·refine Ct (nq QI)<|Sw<|Rg hN ?_
  cases H
  exact Rt dR
 refine Cf (bM QI)<|Sk<|Sw<|Sw<|Rg hN<|Bl<|Good.dN (fun k' st=>∃ (x0:ByteArray) (x4:ByteArray) (x5:Int),k'≤k∧Wk C st ⟨[(0,.w (S x0)),(4,.w (S x4)),(5,.w (I x5))],[]⟩∧jW.l0 k' x0 x4 x5=some r) k ⟨a0,(⟨#[]⟩:ByteArray),0,Nat.le_refl _,Wo [(0,0),(4,0),(5,0)],H⟩ fun k=>⟨fun st h=>(by obtain ⟨_,_,_,_,_,H⟩:=h;cases H),?_⟩
 clear H
 rintro st ⟨x0,x4,x5,hk,W,H⟩
 refine W.good ?_
 rw [jW.l0] at H
 refine Sw<|Sw<|Rg hN ?_
 rcases (aj H).symm with ⟨AY,H⟩ | ⟨AY,H⟩
 ·refine Cf (df AY)<|Ex<|Sw<|Rg hN ?_
  cases H
  exact Rt dR
 refine Ct (dt AY)<|Sk<|Sw<|Bl<|Sw ?_
 obtain ⟨Zi,H⟩:=ax H
 obtain ⟨Zj,H⟩:=ax H
 obtain ⟨Zk,H⟩:=ax H
 obtain ⟨sM,alU,H⟩:=aC H
 obtain ⟨sN,alV,H⟩:=aC H
 refine Rd hm hN (.qs 3 0 (.qs 4 4 (.e 3 (.e 8 (.q 9 [] (.q 10 [] .z)))))) [(0,none),(5,none)] .nil [I sM,I sN] [] (.c6 Zi AY Zj Zk (nH.au alU).c (nH.au alV).c) (.c4 Zi AY Zj Zk) [] []<|Sw<|Sw ?_
 rcases aj H with ⟨QJ,H⟩ | ⟨QJ,H⟩
 ·refine Rh hN [B true] (.c1 (dt QJ))<|Good.cond true (by kernel_rfl)<|Sw<|Rg hN ?_
  cases H
  exact Rt dR
 refine Rh hN [B false] (.c1 (df QJ)) ?_
 rcases aj H with ⟨QK,H⟩ | ⟨QK,H⟩
 ·refine Ct (dt QK)<|Sw<|Rg hN ?_
  cases H
  exact Rt dR
 refine Cf (df QK)<|Sk ?_
 obtain ⟨alW,H⟩:=ax H
 exact Rh hN [S (strOfNums ([(wrap64 ((wrap64 (16*sM))+sN)) % 256]:List Int))] (.c2 (lg ([(wrap64 ((wrap64 (16*sM))+sN)) % 256]:List Int)) alW)<|Rg hN<|⟨k,by omega,x0,x4++(strOfNums ([(wrap64 ((wrap64 (16*sM))+sN)) % 256]:List Int)),wrap64 (x5+2),by omega,Wo [(0,0),(4,0),(5,0)],H⟩
def tT.f (k:Nat) (a0:Int):Option (ByteArray):=if a0=1 then ((jW.f k Z6).bind fun FC=>(some FC.1)) else (if a0=2 then ((jW.f k Z7).bind fun FD=>(some FD.1)) else (if a0=3 then ((jW.f k Z8).bind fun FE=>(some FE.1)) else (if a0=4 then ((jW.f k Z9).bind fun FH=>(some FH.1)) else ((jW.f k (⟨#[]⟩:ByteArray)).bind fun FI=>(some FI.1)))))
theorem tT.au {k:Nat} {a0:Int} {r:(ByteArray)} (H:tT.f k a0=some r):aQ Tryz.prog 42 [I a0] (S r):=by
 refine Cg Tryz.func42 rfl fun C hN hL=>?_
 unfold tT.f at H
 refine Sw<|Rg hN<|Sw<|Rg hN<|Sw<|Sw<|Rg hN<|Bl<|Sw<|Rg hN ?_
 rcases aj H with ⟨QL,H⟩ | ⟨QL,H⟩
 ·refine Ct (bq QL)<|Rg hN<|Sw ?_
  obtain ⟨FC,alX,H⟩:=aC H
  refine Rh hN [.aD [S FC.1,B FC.2]] (.c1 (jW.au alX).c)<|Sw<|Rg hN ?_
  cases H
  exact Rt dR
 refine Cf (bn QL)<|Sw<|Rg hN ?_
 rcases aj H with ⟨QM,H⟩ | ⟨QM,H⟩
 ·refine Ct (bq QM)<|Rg hN<|Sw ?_
  obtain ⟨FD,alY,H⟩:=aC H
  refine Rh hN [.aD [S FD.1,B FD.2]] (.c1 (jW.au alY).c)<|Sw<|Rg hN ?_
  cases H
  exact Rt dR
 refine Cf (bn QM)<|Sw<|Rg hN ?_
 rcases aj H with ⟨QN,H⟩ | ⟨QN,H⟩
 ·refine Ct (bq QN)<|Rg hN<|Sw ?_
  obtain ⟨FE,alZ,H⟩:=aC H
  refine Rh hN [.aD [S FE.1,B FE.2]] (.c1 (jW.au alZ).c)<|Sw<|Rg hN ?_
  cases H
  exact Rt dR
 refine Cf (bn QN)<|Sw<|Rg hN ?_
 rcases aj H with ⟨QO,H⟩ | ⟨QO,H⟩
 ·refine Ct (bq QO)<|Rg hN<|Sw ?_
  obtain ⟨FH,al0,H⟩:=aC H
  refine Rh hN [.aD [S FH.1,B FH.2]] (.c1 (jW.au al0).c)<|Sw<|Rg hN ?_
  cases H
  exact Rt dR
 refine Cf (bn QO)<|Sk<|Sw ?_
 obtain ⟨FI,al1,H⟩:=aC H
 refine Rh hN [.aD [S FI.1,B FI.2]] (.c1 (jW.au al1).c)<|Sw<|Rg hN ?_
 cases H
 exact Rt dR
def gL.l0:Nat→Int→ByteArray→Bool→Int→Option (Bool)
 | 0,_,_,_,_=>none
 | k+1,x0,x1,x5,x6=>if x6 < (x1.size:Int) then (if 0≤x6 then (if (bt x1 x6)=0 then (gL.l0 k x0 x1 x5 (wrap64 (x6+1))) else (gL.l0 k x0 x1 true (wrap64 (x6+1)))) else (none)) else (if x5=true then ((tT.f k x0).bind fun QP=>(some (Op.bytesLess x1.toList QP.toList))) else (some false))
def gL.j0:Nat→Int→ByteArray→Bool→Option (Bool)
 | 0,_,_,_=>none
 | k+1,x0,x1,jA=>if jA=true then (some false) else (gL.l0 k x0 x1 false 0)
def gL.f (k:Nat) (a0:Int) (a1:ByteArray):Option (Bool):=(lK.f a0).bind fun u6=>(if u6=0 then (gL.j0 k a0 a1 true) else (gL.j0 k a0 a1 ((a1.size:Int) != u6)))
theorem gL.au {k:Nat} {a0:Int} {a1:ByteArray} {r:(Bool)} (H:gL.f k a0 a1=some r):aQ Tryz.prog 17 [I a0,S a1] (B r):=by
 refine Cg Tryz.func17 rfl fun C hN hL=>?_
 unfold gL.f at H
 refine Sw<|Rg hN<|Sw<|Sw<|Good.cut (fun st=>∃ n':Nat,n'≤k∧∃ (x0:Int) (x1:ByteArray) (jA:Bool),Wk C st ⟨[(0,.w (I x0)),(1,.w (S x1)),(16,.w (B jA))],[]⟩∧gL.j0 n' x0 x1 jA=some r) ?_ ?_
 ·obtain ⟨u6,QQ,H⟩:=aC H
  rcases aj H with ⟨QR,H⟩ | ⟨QR,H⟩
  ·exact Rh hN [I u6,B true] (.c2 (lK.au QQ).c (bq QR))<|⟨k,by omega,a0,a1,true,Wo [(0,0),(1,0),(16,0)],H⟩
  exact Rh hN [I u6,B false,I u6] (.c3 (lK.au QQ).c (bn QR) (lK.au QQ).c)<|⟨k,by omega,a0,a1,((a1.size:Int) != u6),Wo [(0,0),(1,0),(16,0)],H⟩
 clear H
 rintro st ⟨n',hn',x0,x1,jA,W,H⟩
 rcases n' with _ | k
 ·cases H
 refine W.good ?_
 rw [gL.j0] at H
 rcases aj H with ⟨QS,H⟩ | ⟨QS,H⟩
 ·refine Ct QS<|Sw<|Rg hN ?_
  cases H
  exact Rt dR
 refine Cf (bf QS)<|Sk<|Sw<|Rg hN<|Sw<|Sw<|Rg hN<|Bl<|Good.dN (fun k' st=>∃ (x0:Int) (x1:ByteArray) (x5:Bool) (x6:Int),k'≤k∧Wk C st ⟨[(0,.w (I x0)),(1,.w (S x1)),(5,.w (B x5)),(6,.w (I x6))],[]⟩∧gL.l0 k' x0 x1 x5 x6=some r) k ⟨x0,x1,false,0,Nat.le_refl _,Wo [(0,0),(1,0),(5,0),(6,0)],H⟩ fun k=>⟨fun st h=>(by obtain ⟨_,_,_,_,_,_,H⟩:=h;cases H),?_⟩
 clear H
 rintro st ⟨x0,x1,x5,x6,hk,W,H⟩
 refine W.good ?_
 rw [gL.l0] at H
 refine Sw<|Sw<|Rg hN ?_
 rcases (aj H).symm with ⟨FJ,H⟩ | ⟨FJ,H⟩
 ·refine Cf (df FJ)<|Ex<|Sw ?_
  rcases (aj H).symm with ⟨QT,H⟩ | ⟨QT,H⟩
  ·refine Rh hN [B false] (.c1 (bf QT)) ?_
   cases H
   exact Rt dR
  obtain ⟨QP,al2,H⟩:=aC H
  refine Rh hN [B true,S QP] (.c2 QT (tT.au al2).c) ?_
  cases H
  exact Rt dR
 refine Ct (dt FJ)<|Sk<|Sw<|Bl<|Sw ?_
 obtain ⟨al3,H⟩:=ax H
 refine Rh hN [] (.c2 al3 FJ) ?_
 rcases aj H with ⟨QU,H⟩ | ⟨QU,H⟩
 ·exact Cf (bM QU)<|Sk<|Rg hN<|⟨k,by omega,x0,x1,x5,wrap64 (x6+1),by omega,Wo [(0,0),(1,0),(5,0),(6,0)],H⟩
 exact Ct (nq QU)<|Rg hN<|Rg hN<|⟨k,by omega,x0,x1,true,wrap64 (x6+1),by omega,Wo [(0,0),(1,0),(5,0),(6,0)],H⟩
def gQ.l0:Nat→List Int→Int→Option (Bool)
 | 0,_,_=>none
 | k+1,x0,x3=>if x3 < (x0.length:Int) then (if x3=1 then (if 0 < (x0.length:Int) then (if (rd x0 0) < 2 then (if 0≤x3 then (if (rd x0 x3) < 0 then (some false) else (if (rd x0 x3) > 39 then (some false) else (gQ.l0 k x0 (wrap64 (x3+1))))) else (none)) else (if 0≤x3 then (if (rd x0 x3) < 0 then (some false) else (if (rd x0 x3) > 2147483567 then (some false) else (gQ.l0 k x0 (wrap64 (x3+1))))) else (none))) else (none)) else (if 0≤x3 then (if (rd x0 x3) < 0 then (some false) else (if (rd x0 x3) > 2147483647 then (some false) else (gQ.l0 k x0 (wrap64 (x3+1))))) else (none))) else (some true)
def gQ.j0:Nat→List Int→Bool→Option (Bool)
 | 0,_,_=>none
 | k+1,x0,x24=>if x24=true then (some false) else (gQ.l0 k x0 1)
def gQ.f (k:Nat) (l0:List Int):Option (Bool):=if (l0.length:Int) < 2 then (gQ.j0 k l0 true) else (if (l0.length:Int) > 20 then (gQ.j0 k l0 true) else (if 0 < (l0.length:Int) then (if (rd l0 0) < 0 then (gQ.j0 k l0 true) else (gQ.j0 k l0 (decide ((rd l0 0) > 2)))) else (none)))
theorem gQ.au {k:Nat} {l0:List Int} {r:(Bool)} (H:gQ.f k l0=some r):aQ Tryz.prog 43 [.row none 1 (List.map I l0)] (B r):=by
 refine Cg Tryz.func43 rfl fun C hN hL=>?_
 unfold gQ.f at H
 refine Sw<|Rg hN<|Sw<|Sw<|Good.cut (fun st=>∃ n':Nat,n'≤k∧∃ (x0:List Int) (x24:Bool),Wk C st ⟨[(0,.w (.row none 1 (List.map I x0))),(24,.w (B x24))],[]⟩∧gQ.j0 n' x0 x24=some r) ?_ ?_
 ·rcases aj H with ⟨AZ,H⟩ | ⟨AZ,H⟩
  ·exact Rh hN [I (l0.length:Int),B true,B true,B true] (.c4 (aT I l0) (dt AZ) (rfl:true=true) (rfl:true=true))<|⟨k,by omega,l0,true,Wo [(0,0),(24,0)],H⟩
  rcases aj H with ⟨FK,H⟩ | ⟨FK,H⟩
  ·exact Rh hN [I (l0.length:Int),B false,I (l0.length:Int),B true,B true] (.c5 (aT I l0) (df AZ) (aT I l0) (dt FK) (rfl:true=true))<|⟨k,by omega,l0,true,Wo [(0,0),(24,0)],H⟩
  obtain ⟨QV,H⟩:=ax H
  rcases aj H with ⟨QW,H⟩ | ⟨QW,H⟩
  ·exact Rh hN [I (l0.length:Int),B false,I (l0.length:Int),B false,I (rd l0 0),B true] (.c7 (aT I l0) (df AZ) (aT I l0) (df FK) (show (0:Int)≤0 by decide) (aF I (0:Int) (show (0:Int)≤0 by decide) QV) (dt QW))<|⟨k,by omega,l0,true,Wo [(0,0),(24,0)],H⟩
  exact Rh hN [I (l0.length:Int),B false,I (l0.length:Int),B false,I (rd l0 0),B false,I (rd l0 0)] (.cons (aT I l0) (.c8 (df AZ) (aT I l0) (df FK) (show (0:Int)≤0 by decide) (aF I (0:Int) (show (0:Int)≤0 by decide) QV) (df QW) (show (0:Int)≤0 by decide) (aF I (0:Int) (show (0:Int)≤0 by decide) QV)))<|⟨k,by omega,l0,decide ((rd l0 0) > 2),Wo [(0,0),(24,0)],H⟩
 clear H
 rintro st ⟨n',hn',x0,x24,W,H⟩
 rcases n' with _ | k
 ·cases H
 refine W.good ?_
 rw [gQ.j0] at H
 rcases aj H with ⟨QX,H⟩ | ⟨QX,H⟩
 ·refine Ct QX<|Sw<|Rg hN ?_
  cases H
  exact Rt dR
 refine Cf (bf QX)<|Sk<|Sw<|Sw<|Rg hN<|Bl<|Good.dN (fun k' st=>∃ (x0:List Int) (x3:Int),k'≤k∧Wk C st ⟨[(0,.w (.row none 1 (List.map I x0))),(3,.w (I x3))],[]⟩∧gQ.l0 k' x0 x3=some r) k ⟨x0,1,Nat.le_refl _,Wo [(0,0),(3,0)],H⟩ fun k=>⟨fun st h=>(by obtain ⟨_,_,_,_,H⟩:=h;cases H),?_⟩
 clear H
 rintro st ⟨x0,x3,hk,W,H⟩
 refine W.good ?_
 rw [gQ.l0] at H
 refine Sw<|Sw<|Rh hN [I (x0.length:Int)] (.c1 (aT I x0)) ?_
 rcases (aj H).symm with ⟨og,H⟩ | ⟨og,H⟩
 ·refine Cf (df og)<|Ex<|Sw<|Rg hN ?_
  cases H
  exact Rt dR
 refine Ct (dt og)<|Sk<|Sw<|Bl<|Sw<|Rg hN<|Sw<|Sw<|Rg hN ?_
 rcases (aj H).symm with ⟨QY,H⟩ | ⟨QY,H⟩
 ·refine Cf (bn QY)<|Sk<|Sw ?_
  obtain ⟨xB,H⟩:=ax H
  rcases aj H with ⟨QZ,H⟩ | ⟨QZ,H⟩
  ·refine Rh hN [I (rd x0 x3),B true] (.c3 xB (aF I (0:Int) xB og) (dt QZ))<|Good.cond true (by kernel_rfl)<|Sw<|Rg hN ?_
   cases H
   exact Rt dR
  refine Rh hN [I (rd x0 x3),B false,I (rd x0 x3)] (.c5 xB (aF I (0:Int) xB og) (df QZ) xB (aF I (0:Int) xB og)) ?_
  rcases (aj H).symm with ⟨Q0,H⟩ | ⟨Q0,H⟩
  ·exact Cf (df Q0)<|Sk<|Rg hN<|⟨k,by omega,x0,wrap64 (x3+1),by omega,Wo [(0,0),(3,0)],H⟩
  refine Ct (dt Q0)<|Sw<|Rg hN ?_
  cases H
  exact Rt dR
 refine Ct (bq QY)<|Sw<|Rg hN<|Sw ?_
 obtain ⟨al4,H⟩:=ax H
 refine Rh hN [I (rd x0 0)] (.c2 (show (0:Int)≤0 by decide) (aF I (0:Int) (show (0:Int)≤0 by decide) al4)) ?_
 rcases aj H with ⟨Q3,H⟩ | ⟨Q3,H⟩
 ·refine Ct (dt Q3)<|Rg hN<|Sw ?_
  obtain ⟨xC,H⟩:=ax H
  rcases aj H with ⟨Q4,H⟩ | ⟨Q4,H⟩
  ·refine Rh hN [I (rd x0 x3),B true] (.c3 xC (aF I (0:Int) xC og) (dt Q4))<|Good.cond true (by kernel_rfl)<|Sw<|Rg hN ?_
   cases H
   exact Rt dR
  refine Rh hN [I (rd x0 x3),B false,I (rd x0 x3)] (.c5 xC (aF I (0:Int) xC og) (df Q4) xC (aF I (0:Int) xC og)) ?_
  rcases (aj H).symm with ⟨Q5,H⟩ | ⟨Q5,H⟩
  ·exact Cf (df Q5)<|Sk<|Rg hN<|⟨k,by omega,x0,wrap64 (x3+1),by omega,Wo [(0,0),(3,0)],H⟩
  refine Ct (dt Q5)<|Sw<|Rg hN ?_
  cases H
  exact Rt dR
 refine Cf (df Q3)<|Sk<|Sw ?_
 obtain ⟨xD,H⟩:=ax H
 rcases aj H with ⟨Q6,H⟩ | ⟨Q6,H⟩
 ·refine Rh hN [I (rd x0 x3),B true] (.c3 xD (aF I (0:Int) xD og) (dt Q6))<|Good.cond true (by kernel_rfl)<|Sw<|Rg hN ?_
  cases H
  exact Rt dR
 refine Rh hN [I (rd x0 x3),B false,I (rd x0 x3)] (.c5 xD (aF I (0:Int) xD og) (df Q6) xD (aF I (0:Int) xD og)) ?_
 rcases (aj H).symm with ⟨Q7,H⟩ | ⟨Q7,H⟩
 ·exact Cf (df Q7)<|Sk<|Rg hN<|⟨k,by omega,x0,wrap64 (x3+1),by omega,Wo [(0,0),(3,0)],H⟩
 refine Ct (dt Q7)<|Sw<|Rg hN ?_
 cases H
 exact Rt dR
def kV.l0:Nat→Int→ByteArray→Option (ByteArray)
 | 0,_,_=>none
 | k+1,x0,x3=>if x0 > 0 then (if (strOfNums ([(wrap64 (128+(Int.tmod x0 128))) % 256]:List Int)).size+x3.size≤9223372036854775807 then (kV.l0 k (wrap64 (Int.tdiv x0 128)) ((strOfNums ([(wrap64 (128+(Int.tmod x0 128))) % 256]:List Int))++x3)) else (none)) else (some x3)
def kV.f (k:Nat) (a0:Int):Option (ByteArray):=kV.l0 k (wrap64 (Int.tdiv a0 128)) (strOfNums ([(Int.tmod a0 128) % 256]:List Int))
theorem kV.au {k:Nat} {a0:Int} {r:(ByteArray)} (H:kV.f k a0=some r):aQ Tryz.prog 44 [I a0] (S r):=by
 refine Cg Tryz.func44 rfl fun C hN hL=>?_
 unfold kV.f at H
 refine Sw<|Rg hN<|Sw<|Rh hN [S (strOfNums ([(Int.tmod a0 128) % 256]:List Int))] (.c2 (show (128:Int)≠0 by decide) (lg ([(Int.tmod a0 128) % 256]:List Int)))<|Sw<|Rh hN [] (.c1 (show (128:Int)≠0 by decide))<|Sw<|Bl<|Good.dN (fun k' st=>∃ (x0:Int) (x3:ByteArray),k'≤k∧Wk C st ⟨[(0,.w (I x0)),(3,.w (S x3))],[]⟩∧kV.l0 k' x0 x3=some r) k ⟨wrap64 (Int.tdiv a0 128),strOfNums ([(Int.tmod a0 128) % 256]:List Int),Nat.le_refl _,Wo [(0,0),(3,0)],H⟩ fun k=>⟨fun st h=>(by obtain ⟨_,_,_,_,H⟩:=h;cases H),?_⟩
 clear H
 rintro st ⟨x0,x3,hk,W,H⟩
 refine W.good ?_
 rw [kV.l0] at H
 refine Sw<|Sw<|Rg hN ?_
 rcases (aj H).symm with ⟨Q8,H⟩ | ⟨Q8,H⟩
 ·refine Cf (df Q8)<|Ex<|Sw<|Rg hN ?_
  cases H
  exact Rt dR
 refine Ct (dt Q8)<|Sk<|Bl<|Sw ?_
 obtain ⟨al5,H⟩:=ax H
 exact Rh hN [S (strOfNums ([(wrap64 (128+(Int.tmod x0 128))) % 256]:List Int))] (.c3 (show (128:Int)≠0 by decide) (lg ([(wrap64 (128+(Int.tmod x0 128))) % 256]:List Int)) al5)<|Rh hN [] (.c1 (show (128:Int)≠0 by decide))<|⟨k,by omega,wrap64 (Int.tdiv x0 128),(strOfNums ([(wrap64 (128+(Int.tmod x0 128))) % 256]:List Int))++x3,by omega,Wo [(0,0),(3,0)],H⟩
def kC.l0:Nat→List Int→ByteArray→Int→Option (ByteArray × Bool)
 | 0,_,_,_=>none
 | k+1,x0,x4,x5=>if x5 < (x0.length:Int) then (if 0≤x5 then ((kV.f k (rd x0 x5)).bind fun A7=>(if x4.size+A7.size≤9223372036854775807 then (kC.l0 k x0 (x4++A7) (wrap64 (x5+1))) else (none))) else (none)) else (some (x4,true))
def kC.f (k:Nat) (l0:List Int):Option (ByteArray × Bool):=(gQ.f k l0).bind fun Q9=>(if Q9=true then (if 0 < (l0.length:Int) then (if 1 < (l0.length:Int) then ((kV.f k (wrap64 ((wrap64 (40*(rd l0 0)))+(rd l0 1)))).bind fun FL=>(kC.l0 k l0 FL 2)) else (none)) else (none)) else (some ((⟨#[]⟩:ByteArray),false)))
theorem kC.au {k:Nat} {l0:List Int} {r:(ByteArray × Bool)} (H:kC.f k l0=some r):aQ Tryz.prog 18 [.row none 1 (List.map I l0)] (.aD [S r.1,B r.2]):=by
 refine Cg Tryz.func18 rfl fun C hN hL=>?_
 unfold kC.f at H
 refine Sw<|Rg hN<|Sw<|Sw ?_
 obtain ⟨Q9,al6,H⟩:=aC H
 refine Rh hN [B Q9] (.c1 (gQ.au al6).c) ?_
 rcases (aj H).symm with ⟨Ra,H⟩ | ⟨Ra,H⟩
 ·refine Ct (eB (bf Ra))<|Sw<|Rg hN ?_
  cases H
  exact Rt dR
 refine Cf (fw Ra)<|Sk<|Sw ?_
 obtain ⟨Zl,H⟩:=ax H
 obtain ⟨Zm,H⟩:=ax H
 obtain ⟨FL,al7,H⟩:=aC H
 refine Rd hm hN (.qs 8 0 (.e 8 (.q 9 [] .z))) [(0,none)] .nil [I (rd l0 0),I (rd l0 1),S FL] [I (rd l0 0),I (rd l0 1)] (.c5 (show (0:Int)≤0 by decide) (aF I (0:Int) (show (0:Int)≤0 by decide) Zl) (show (0:Int)≤1 by decide) (aF I (0:Int) (show (0:Int)≤1 by decide) Zm) (kV.au al7).c) (.c4 (show (0:Int)≤0 by decide) (aF I (0:Int) (show (0:Int)≤0 by decide) Zl) (show (0:Int)≤1 by decide) (aF I (0:Int) (show (0:Int)≤1 by decide) Zm)) [] []<|Sw<|Sw<|Rg hN<|Bl<|Good.dN (fun k' st=>∃ (x0:List Int) (x4:ByteArray) (x5:Int),k'≤k∧Wk C st ⟨[(0,.w (.row none 1 (List.map I x0))),(4,.w (S x4)),(5,.w (I x5))],[]⟩∧kC.l0 k' x0 x4 x5=some r) k ⟨l0,FL,2,Nat.le_refl _,Wo [(0,0),(4,0),(5,0)],H⟩ fun k=>⟨fun st h=>(by obtain ⟨_,_,_,_,_,H⟩:=h;cases H),?_⟩
 clear H
 rintro st ⟨x0,x4,x5,hk,W,H⟩
 refine W.good ?_
 rw [kC.l0] at H
 refine Sw<|Sw<|Rh hN [I (x0.length:Int)] (.c1 (aT I x0)) ?_
 rcases (aj H).symm with ⟨FM,H⟩ | ⟨FM,H⟩
 ·refine Cf (df FM)<|Ex<|Sw<|Rg hN ?_
  cases H
  exact Rt dR
 refine Ct (dt FM)<|Sk<|Sw<|Bl ?_
 obtain ⟨Zn,H⟩:=ax H
 obtain ⟨A7,al8,H⟩:=aC H
 obtain ⟨al9,H⟩:=ax H
 exact Rh hN [I (rd x0 x5),S A7] (.c4 Zn (aF I (0:Int) Zn FM) (kV.au al8).c al9)<|Rg hN<|⟨k,by omega,x0,x4++A7,wrap64 (x5+1),by omega,Wo [(0,0),(4,0),(5,0)],H⟩
def mR.f (a0:Int):Option (List Int):=if a0=1 then (some ([1,3,132,0,33]:List Int)) else (if a0=2 then (some ([1,2,840,10045,3,1,7]:List Int)) else (if a0=3 then (some ([1,3,132,0,34]:List Int)) else (if a0=4 then (some ([1,3,132,0,35]:List Int)) else (some ([]:List Int)))))
theorem mR.au {a0:Int} {r:(List Int)} (H:mR.f a0=some r):aQ Tryz.prog 19 [I a0] (.row (some 3) 1 (List.map I r)):=by
 refine Cg Tryz.func19 rfl fun C hN hL=>?_
 unfold mR.f at H
 refine Sw<|Rg hN<|Sw<|Sw<|Rg hN<|Bl<|Sw<|Rg hN ?_
 rcases aj H with ⟨Rc,H⟩ | ⟨Rc,H⟩
 ·refine Ct (bq Rc)<|Sw<|Rg hN ?_
  cases H
  exact Rt dR
 refine Cf (bn Rc)<|Sw<|Rg hN ?_
 rcases aj H with ⟨Re,H⟩ | ⟨Re,H⟩
 ·refine Ct (bq Re)<|Sw<|Rg hN ?_
  cases H
  exact Rt dR
 refine Cf (bn Re)<|Sw<|Rg hN ?_
 rcases aj H with ⟨Rk,H⟩ | ⟨Rk,H⟩
 ·refine Ct (bq Rk)<|Sw<|Rg hN ?_
  cases H
  exact Rt dR
 refine Cf (bn Rk)<|Sw<|Rg hN ?_
 rcases aj H with ⟨Rl,H⟩ | ⟨Rl,H⟩
 ·refine Ct (bq Rl)<|Sw<|Rg hN ?_
  cases H
  exact Rt dR
 refine Cf (bn Rl)<|Sk<|Sw<|Rg hN ?_
 cases H
 exact Good.ret (jY (u:=.nil 3 1) (.iA 3 1) (by kernel_rfl))
def lL.l0:Nat→List Int→Int→List Int→Int→Option (List Int)
 | 0,_,_,_,_=>none
 | k+1,x0,x1,x5,x6=>if x6 < (x0.length:Int) then (if 0≤x6 then (if x5.length < 17592186044416 then (lL.l0 k x0 x1 (x5++[wrap64 ((rd x0 x6)+x1)]) (wrap64 (x6+1))) else (none)) else (none)) else (some x5)
def lL.f (k:Nat) (l0:List Int) (a1:Int):Option (List Int):=lL.l0 k l0 a1 ([]:List Int) 0
theorem lL.au {k:Nat} {l0:List Int} {a1:Int} {r:(List Int)} (H:lL.f k l0 a1=some r):aQ Tryz.prog 45 [.row none 1 (List.map I l0),I a1] (.row (some 3) 1 (List.map I r)):=by
 refine Cg Tryz.func45 rfl fun C hN hL=>?_
 unfold lL.f at H
 refine Sw<|Rg hN<|Sw<|Rg hN<|Sw<|Sw<|Rg hN<|Bl<|Good.dN (fun k' st=>∃ (x0:List Int) (x1:Int) (x5:List Int) (x6:Int),k'≤k∧Wk C st ⟨[(0,.w (.row none 1 (List.map I x0))),(1,.w (I x1)),(5,.w (.row (some 3) 1 (List.map I x5))),(6,.w (I x6))],[]⟩∧lL.l0 k' x0 x1 x5 x6=some r) k ⟨l0,a1,([]:List Int),0,Nat.le_refl _,Wo [(0,0),(1,0),(5,1),(6,0)],H⟩ fun k=>⟨fun st h=>(by obtain ⟨_,_,_,_,_,_,H⟩:=h;cases H),?_⟩
 clear H
 rintro st ⟨x0,x1,x5,x6,hk,W,H⟩
 refine W.good ?_
 rw [lL.l0] at H
 refine Sw<|Sw<|Rh hN [I (x0.length:Int)] (.c1 (aT I x0)) ?_
 rcases (aj H).symm with ⟨FN,H⟩ | ⟨FN,H⟩
 ·refine Cf (df FN)<|Ex<|Sw<|Rg hN ?_
  cases H
  exact Rt dR
 refine Ct (dt FN)<|Sk<|Sw<|Bl ?_
 obtain ⟨Zo,H⟩:=ax H
 obtain ⟨ama,H⟩:=ax H
 exact Rh hN [I (rd x0 x6),.kb true,.row (some 3) 1 (List.map I (x5++[wrap64 ((rd x0 x6)+x1)]))] (.c4 Zo (aF I (0:Int) Zo FN) (dY I x5 [wrap64 ((rd x0 x6)+x1)] (.refl _)) (eZ I ama))<|Rg hN<|⟨k,by omega,x0,x1,(x5++[wrap64 ((rd x0 x6)+x1)]),wrap64 (x6+1),by omega,Wo [(0,0),(1,0),(5,0),(6,0)],H⟩
mutual
def fT.l0:Nat→List (List af)→List af→Int→Option (List af)
 | 0,_,_,_=>none
 | k+1,x2,x7,x8=>if x8 < (x2.length:Int) then (if 0≤x8 then (if ((bz x2 x8).length:Int) > 0 then (if 0 < (x7.length:Int) then (if ((aa x7 0).f4).length < 17592186044416 then (fT.j1 k x2 (x7.set (0:Int).toNat (⟨(aa x7 0).f0,(aa x7 0).f1,(aa x7 0).f2,(aa x7 0).f3,(((aa x7 0).f4)++[(x7.length:Int)])⟩:af)) x8 (x7.length:Int)) else (none)) else (none)) else (fT.j1 k x2 x7 x8 (x7.length:Int))) else (none)) else (some x7)
def fT.j1:Nat→List (List af)→List af→Int→Int→Option (List af)
 | 0,_,_,_,_=>none
 | k+1,x2,x7,x8,x9=>fT.l1 k x2 x7 x8 x9 0
def fT.l1:Nat→List (List af)→List af→Int→Int→Int→Option (List af)
 | 0,_,_,_,_,_=>none
 | k+1,x2,x7,x8,x9,bg=>if 0≤x8 then (if x8 < (x2.length:Int) then (if bg < ((bz x2 x8).length:Int) then (if 0≤bg then ((lL.f k ((aa (bz x2 x8) bg).f4) x9).bind fun xE=>(if x7.length < 2199023255552 then (fT.l1 k x2 (x7++[(⟨(aa (bz x2 x8) bg).f0,(aa (bz x2 x8) bg).f1,(aa (bz x2 x8) bg).f2,(aa (bz x2 x8) bg).f3,xE⟩:af)]) x8 x9 (wrap64 (bg+1))) else (none))) else (none)) else (fT.l0 k x2 x7 (wrap64 (x8+1)))) else (none)) else (none)
end
def fT.f (k:Nat) (a0:Int) (a1:Int) (l2:List (List af)):Option (List af):=fT.l0 k l2 ([(⟨a0,a1,true,(⟨#[]⟩:ByteArray),([]:List Int)⟩:af)]:List af) 0
theorem fT.au {k:Nat} {a0:Int} {a1:Int} {l2:List (List af)} {r:(List af)} (H:fT.f k a0 a1 l2=some r):aQ Tryz.prog 20 [I a0,I a1,.row none 1 (List.map (dw 0) l2)] (.row (some 55) 5 (List.map (v55 1) r)):=by
 refine Cg Tryz.func20 rfl fun C hN hL=>?_
 unfold fT.f at H
 refine Sw<|Rg hN<|Sw<|Rj hN [] (.c1 (Eb (o:=some 55) (sz:=5) (n:=[.agg [I a0,I a1,B true,S (⟨#[]⟩:ByteArray),.row (some 3) 1 (List.map I ([]:List Int))]]) (.c1 (.agg (.c5 (.refl _) (.refl _) (.refl _) (.refl _) (.iA 3 1)))))) [] [(15,.row (some 55) 5 (List.map (v55 1) ([(⟨a0,a1,true,(⟨#[]⟩:ByteArray),([]:List Int)⟩:af)]:List af)))]<|Sw<|Sw<|Rg hN<|Bl<|Good.dN (fun k' st=>∃ (x2:List (List af)) (x7:List af) (x8:Int),k'≤k∧Wk C st ⟨[(2,.w (.row none 1 (List.map (dw 0) x2))),(7,.w (.row (some 55) 5 (List.map (v55 1) x7))),(8,.w (I x8))],[]⟩∧fT.l0 k' x2 x7 x8=some r) k ⟨l2,([(⟨a0,a1,true,(⟨#[]⟩:ByteArray),([]:List Int)⟩:af)]:List af),0,Nat.le_refl _,Wo [(2,0),(7,0),(8,0)],H⟩ fun k=>⟨fun st h=>(by obtain ⟨_,_,_,_,_,H⟩:=h;cases H),?_⟩
 clear H
 rintro st ⟨x2,x7,x8,hk,W,H⟩
 refine W.good ?_
 rw [fT.l0] at H
 refine Sw<|Sw<|Rh hN [I (x2.length:Int)] (.c1 (aT (dw 0) x2)) ?_
 rcases (aj H).symm with ⟨FO,H⟩ | ⟨FO,H⟩
 ·refine Cf (df FO)<|Ex<|Sw<|Rg hN ?_
  cases H
  exact Rt dR
 refine Ct (dt FO)<|Sk<|Sw<|Bl<|Sw<|Rh hN [I (x7.length:Int)] (.c1 (aT (v55 1) x7))<|Sw<|Sw ?_
 obtain ⟨Zp,H⟩:=ax H
 refine Rh hN [(dw 0) (bz x2 x8),I ((bz x2 x8).length:Int)] (.c3 Zp (aF (dw 0) ([]:List af) Zp FO) (aT (v55 0) (bz x2 x8)))<|Good.cut (fun st=>∃ n':Nat,n'≤k∧∃ (x2:List (List af)) (x7:List af) (x8:Int) (x9:Int),Wk C st ⟨[(2,.w (.row none 1 (List.map (dw 0) x2))),(7,.w (.row (some 55) 5 (List.map (v55 1) x7))),(8,.w (I x8)),(9,.w (I x9))],[]⟩∧fT.j1 n' x2 x7 x8 x9=some r) ?_ ?_
 ·rcases (aj H).symm with ⟨Rm,H⟩ | ⟨Rm,H⟩
  ·exact Cf (df Rm)<|Sk<|⟨k,by omega,x2,x7,x8,(x7.length:Int),Wo [(2,0),(7,0),(8,0),(9,0)],H⟩
  refine Ct (dt Rm) ?_
  obtain ⟨A8,H⟩:=ax H
  obtain ⟨amb,H⟩:=ax H
  exact Rh hN [(v55 1) (aa x7 0),.kb true,(v55 1) (aa x7 0),.row (some 3) 1 (List.map I (((aa x7 0).f4)++[(x7.length:Int)])),dU ((v55 1) (aa x7 0)) 4 [.any],(v55 1) (⟨(aa x7 0).f0,(aa x7 0).f1,(aa x7 0).f2,(aa x7 0).f3,(((aa x7 0).f4)++[(x7.length:Int)])⟩:af),.row (some 55) 5 (List.map (v55 1) (x7.set (0:Int).toNat (⟨(aa x7 0).f0,(aa x7 0).f1,(aa x7 0).f2,(aa x7 0).f3,(((aa x7 0).f4)++[(x7.length:Int)])⟩:af)))] (.cons (show (0:Int)≤0 by decide) (.cons (gz (v55 1) A8) (.cons (aF (v55 1) z55 (show (0:Int)≤0 by decide) A8) (.c8 (aF (v55 1) z55 (show (0:Int)≤0 by decide) A8) (dY I ((aa x7 0).f4) [(x7.length:Int)] (.refl _)) (eZ I amb) (show (0:Int)≤0 by decide) (sU (v55 1) (m:=(0:Int).toNat) (X:=dU ((v55 1) (aa x7 0)) 4 [.any]) A8) (sW (v55 1) (X:=dU ((v55 1) (aa x7 0)) 4 [.any]) (show (0:Int)≤0 by decide) A8) (Fit.refl ((v55 1) (⟨(aa x7 0).f0,(aa x7 0).f1,(aa x7 0).f2,(aa x7 0).f3,(((aa x7 0).f4)++[(x7.length:Int)])⟩:af))) (setH (v55 1) (l:=x7) (n:=(0:Int).toNat) (x:=(⟨(aa x7 0).f0,(aa x7 0).f1,(aa x7 0).f2,(aa x7 0).f3,(((aa x7 0).f4)++[(x7.length:Int)])⟩:af)) (X:=dU ((v55 1) (aa x7 0)) 4 [.any]))))))<|⟨k,by omega,x2,(x7.set (0:Int).toNat (⟨(aa x7 0).f0,(aa x7 0).f1,(aa x7 0).f2,(aa x7 0).f3,(((aa x7 0).f4)++[(x7.length:Int)])⟩:af)),x8,(x7.length:Int),Wo [(2,0),(7,0),(8,0),(9,0)],H⟩
 clear H
 rintro st ⟨n',hn',x2,x7,x8,x9,W,H⟩
 rcases n' with _ | k
 ·cases H
 refine W.good ?_
 rw [fT.j1] at H
 refine Sw<|Rg hN<|Bl<|Good.dN (fun k' st=>∃ (x2:List (List af)) (x7:List af) (x8:Int) (x9:Int) (bg:Int),k'≤k∧Wk C st ⟨[(2,.w (.row none 1 (List.map (dw 0) x2))),(7,.w (.row (some 55) 5 (List.map (v55 1) x7))),(8,.w (I x8)),(9,.w (I x9)),(10,.w (I bg))],[]⟩∧fT.l1 k' x2 x7 x8 x9 bg=some r) k ⟨x2,x7,x8,x9,0,Nat.le_refl _,Wo [(2,0),(7,0),(8,0),(9,0),(10,0)],H⟩ fun k=>⟨fun st h=>(by obtain ⟨_,_,_,_,_,_,_,H⟩:=h;cases H),?_⟩
 clear H
 rintro st ⟨x2,x7,x8,x9,bg,hk,W,H⟩
 refine W.good ?_
 rw [fT.l1] at H
 refine Sw<|Sw ?_
 obtain ⟨FP,H⟩:=ax H
 obtain ⟨Zq,H⟩:=ax H
 refine Rh hN [(dw 0) (bz x2 x8),I ((bz x2 x8).length:Int)] (.c3 FP (aF (dw 0) ([]:List af) FP Zq) (aT (v55 0) (bz x2 x8))) ?_
 rcases (aj H).symm with ⟨FQ,H⟩ | ⟨FQ,H⟩
 ·exact Cf (df FQ)<|Ex<|Rg hN<|⟨k,by omega,x2,x7,wrap64 (x8+1),by omega,Wo [(2,0),(7,0),(8,0)],H⟩
 refine Ct (dt FQ)<|Sk<|Sw<|Bl<|Sw ?_
 obtain ⟨Zr,H⟩:=ax H
 refine Rh hN [(dw 0) (bz x2 x8),(v55 0) (aa (bz x2 x8) bg)] (.c4 FP (aF (dw 0) ([]:List af) FP Zq) Zr (aF (v55 0) z55 Zr FQ))<|Sw ?_
 obtain ⟨xE,amc,H⟩:=aC H
 refine Rh hN [.row (some 3) 1 (List.map I xE)] (.c1 (lL.au amc).c) ?_
 obtain ⟨amd,H⟩:=ax H
 exact Rh hN [.aD [],.kb true,.row (some 55) 5 (List.map (v55 1) (x7++[(⟨(aa (bz x2 x8) bg).f0,(aa (bz x2 x8) bg).f1,(aa (bz x2 x8) bg).f2,(aa (bz x2 x8) bg).f3,xE⟩:af)]))] (.c2 (dY (v55 1) x7 [(⟨(aa (bz x2 x8) bg).f0,(aa (bz x2 x8) bg).f1,(aa (bz x2 x8) bg).f2,(aa (bz x2 x8) bg).f3,xE⟩:af)] (.refl _)) (eZ (v55 1) amd))<|Rg hN<|⟨k,by omega,x2,(x7++[(⟨(aa (bz x2 x8) bg).f0,(aa (bz x2 x8) bg).f1,(aa (bz x2 x8) bg).f2,(aa (bz x2 x8) bg).f3,xE⟩:af)]),x8,x9,wrap64 (bg+1),by omega,Wk.oV hL 0 [(2,0),(7,0),(8,0),(9,0),(10,0)] (by kernel_rfl) (by kernel_rfl) (by kernel_rfl),H⟩
def qm.f (a0:Int) (a1:Int) (a2:ByteArray):Option (List af):=some ([(⟨a0,a1,false,a2,([]:List Int)⟩:af)]:List af)
theorem qm.au {a0:Int} {a1:Int} {a2:ByteArray} {r:(List af)} (H:qm.f a0 a1 a2=some r):aQ Tryz.prog 21 [I a0,I a1,S a2] (.row (some 55) 5 (List.map (v55 0) r)):=by
 refine Cg Tryz.func21 rfl fun C hN hL=>?_
 unfold qm.f at H
 refine Sw<|Rg hN<|Sw<|Rj hN [] (.c1 (Eb (o:=some 55) (sz:=5) (n:=[.agg [I a0,I a1,B false,S a2,.row none 1 (List.map I ([]:List Int))]]) (.c1 (.agg (.c5 (.refl _) (.refl _) (.refl _) (.refl _) (.jf 3 1 _)))))) [] [(11,.row (some 55) 5 (List.map (v55 0) ([(⟨a0,a1,false,a2,([]:List Int)⟩:af)]:List af)))] ?_
 cases H
 exact Rt dR
mutual
def gI.l0:Nat→ByteArray→List Int→Int→Int→Option (List Int × Bool)
 | 0,_,_,_,_=>none
 | k+1,x0,x4,x5,x6=>if x6 < (x0.size:Int) then (gI.j1 k x0 x4 x5 x6 (decide ((x4.length:Int) < 21))) else (gI.j1 k x0 x4 x5 x6 false)
def gI.j1:Nat→ByteArray→List Int→Int→Int→Bool→Option (List Int × Bool)
 | 0,_,_,_,_,_=>none
 | k+1,x0,x4,x5,x6,bF=>if bF=true then (if 0≤x6 then (if x6 < (x0.size:Int) then (if (wrap64 ((wrap64 (128*x5))+(Int.tmod (wrap64 (bt x0 x6)) 128))) > 4294967296 then (some (([]:List Int),false)) else (if (bt x0 x6) > 127 then (gI.l0 k x0 x4 (wrap64 ((wrap64 (128*x5))+(Int.tmod (wrap64 (bt x0 x6)) 128))) (wrap64 (x6+1))) else (if (x4.length:Int)=0 then (if (wrap64 (Int.tdiv (wrap64 ((wrap64 (128*x5))+(Int.tmod (wrap64 (bt x0 x6)) 128))) 40)) > 2 then (if x4.length < 17592186044416 then ((some (x4++[2]:List Int)).bind fun Zt=>(if Zt.length < 17592186044416 then (gI.l0 k x0 (Zt++[wrap64 ((wrap64 ((wrap64 (128*x5))+(Int.tmod (wrap64 (bt x0 x6)) 128))) - 80)]) 0 (wrap64 (x6+1))) else (none))) else (none)) else (if x4.length < 17592186044416 then ((some (x4++[wrap64 (Int.tdiv (wrap64 ((wrap64 (128*x5))+(Int.tmod (wrap64 (bt x0 x6)) 128))) 40)]:List Int)).bind fun Zu=>(if Zu.length < 17592186044416 then (gI.l0 k x0 (Zu++[wrap64 ((wrap64 ((wrap64 (128*x5))+(Int.tmod (wrap64 (bt x0 x6)) 128))) - (wrap64 (40*(wrap64 (Int.tdiv (wrap64 ((wrap64 (128*x5))+(Int.tmod (wrap64 (bt x0 x6)) 128))) 40)))))]) 0 (wrap64 (x6+1))) else (none))) else (none))) else (if x4.length < 17592186044416 then (gI.l0 k x0 (x4++[wrap64 ((wrap64 (128*x5))+(Int.tmod (wrap64 (bt x0 x6)) 128))]) 0 (wrap64 (x6+1))) else (none))))) else (none)) else (none)) else ((kC.f k x4).bind fun A9=>(if A9.2=true then (if A9.1.toList=x0.toList then (some (x4,true)) else (some (([]:List Int),false))) else (some (([]:List Int),false))))
end
def gI.f (k:Nat) (a0:ByteArray):Option (List Int × Bool):=gI.l0 k a0 ([]:List Int) 0 0
theorem gI.au {k:Nat} {a0:ByteArray} {r:(List Int × Bool)} (H:gI.f k a0=some r):aQ Tryz.prog 28 [S a0] (.aD [.row none 1 (List.map I r.1),B r.2]):=by
 refine Cg Tryz.func28 rfl fun C hN hL=>?_
 unfold gI.f at H
 refine Sw<|Rg hN<|Sw<|Rg hN<|Sw<|Rg hN<|Sw<|Sw<|Rg hN<|Bl<|Good.dN (fun k' st=>∃ (x0:ByteArray) (x4:List Int) (x5:Int) (x6:Int),k'≤k∧Wk C st ⟨[(0,.w (S x0)),(4,.w (.row (some 3) 1 (List.map I x4))),(5,.w (I x5)),(6,.w (I x6))],[]⟩∧gI.l0 k' x0 x4 x5 x6=some r) k ⟨a0,([]:List Int),0,0,Nat.le_refl _,Wo [(0,0),(4,1),(5,0),(6,0)],H⟩ fun k=>⟨fun st h=>(by obtain ⟨_,_,_,_,_,_,H⟩:=h;cases H),?_⟩
 clear H
 rintro st ⟨x0,x4,x5,x6,hk,W,H⟩
 refine W.good ?_
 rw [gI.l0] at H
 refine Sw<|Sw<|Good.cut (fun st=>∃ n':Nat,n'≤k∧∃ (x0:ByteArray) (x4:List Int) (x5:Int) (x6:Int) (bF:Bool),Wk C st ⟨[(0,.w (S x0)),(4,.w (.row (some 3) 1 (List.map I x4))),(5,.w (I x5)),(6,.w (I x6)),(18,.w (B bF))],[]⟩∧gI.j1 n' x0 x4 x5 x6 bF=some r) ?_ ?_
 ·rcases aj H with ⟨Rn,H⟩ | ⟨Rn,H⟩
  ·exact Rh hN [B true,I (x4.length:Int)] (.c2 (dt Rn) (aT I x4))<|⟨k,by omega,x0,x4,x5,x6,decide ((x4.length:Int) < 21),Wo [(0,0),(4,0),(5,0),(6,0),(18,0)],H⟩
  exact Rh hN [B false] (.c1 (df Rn))<|⟨k,by omega,x0,x4,x5,x6,false,Wo [(0,0),(4,0),(5,0),(6,0),(18,0)],H⟩
 clear H
 rintro st ⟨n',hn',x0,x4,x5,x6,bF,W,H⟩
 rcases n' with _ | k
 ·cases H
 refine W.good ?_
 rw [gI.j1] at H
 rcases (aj H).symm with ⟨Ro,H⟩ | ⟨Ro,H⟩
 ·refine Cf (bf Ro)<|Ex<|Sw ?_
  obtain ⟨A9,ame,H⟩:=aC H
  refine Rh hN [.row none 1 (List.map I x4),.aD [S A9.1,B A9.2]] (.c2 (aS (some 3) 1 I I x4 (fun _=>rfl)) (kC.au ame).c)<|Sw<|Sw ?_
  rcases (aj H).symm with ⟨Rp,H⟩ | ⟨Rp,H⟩
  ·refine Rh hN [B true] (.c1 (eB (bf Rp)))<|Good.cond true (by kernel_rfl)<|Sw<|Rg hN ?_
   cases H
   exact Good.ret (jY (u:=.aD [.nil 3 1,B false]) (.aD (.c2 (.jf 3 1 _) (.refl _))) (by kernel_rfl))
  refine Rh hN [B false] (.c1 (fw Rp)) ?_
  rcases (aj H).symm with ⟨Rq,H⟩ | ⟨Rq,H⟩
  ·refine Ct (nq Rq)<|Sw<|Rg hN ?_
   cases H
   exact Good.ret (jY (u:=.aD [.nil 3 1,B false]) (.aD (.c2 (.jf 3 1 _) (.refl _))) (by kernel_rfl))
  refine Cf (bM Rq)<|Sk<|Sw<|Rg hN ?_
  cases H
  exact Rt dR
 refine Ct Ro<|Sk<|Sw<|Bl<|Sw ?_
 obtain ⟨Zv,H⟩:=ax H
 obtain ⟨Zw,H⟩:=ax H
 refine Rh hN [] (.c3 Zv Zw (show (128:Int)≠0 by decide))<|Sw<|Sw<|Rg hN ?_
 rcases aj H with ⟨Rs,H⟩ | ⟨Rs,H⟩
 ·refine Ct (dt Rs)<|Sw<|Rg hN ?_
  cases H
  exact Good.ret (jY (u:=.aD [.nil 3 1,B false]) (.aD (.c2 (.jf 3 1 _) (.refl _))) (by kernel_rfl))
 refine Cf (df Rs)<|Sk<|Sw<|Sw<|Rh hN [] (.c2 Zv Zw) ?_
 rcases aj H with ⟨Ru,H⟩ | ⟨Ru,H⟩
 ·exact Ct (dt Ru)<|Ex<|Rg hN<|⟨k,by omega,x0,x4,wrap64 ((wrap64 (128*x5))+(Int.tmod (wrap64 (bt x0 x6)) 128)),wrap64 (x6+1),by omega,Wo [(0,0),(4,0),(5,0),(6,0)],H⟩
 refine Cf (df Ru)<|Sk<|Sw<|Sw<|Rh hN [I (x4.length:Int)] (.c1 (aT I x4)) ?_
 rcases (aj H).symm with ⟨Rv,H⟩ | ⟨Rv,H⟩
 ·refine Cf (bn Rv)<|Sk<|Sw ?_
  obtain ⟨amf,H⟩:=ax H
  exact Rh hN [.kb true,.row (some 3) 1 (List.map I (x4++[wrap64 ((wrap64 (128*x5))+(Int.tmod (wrap64 (bt x0 x6)) 128))]))] (.c2 (dY I x4 [wrap64 ((wrap64 (128*x5))+(Int.tmod (wrap64 (bt x0 x6)) 128))] (.refl _)) (eZ I amf))<|Rg hN<|Rg hN<|⟨k,by omega,x0,(x4++[wrap64 ((wrap64 (128*x5))+(Int.tmod (wrap64 (bt x0 x6)) 128))]),0,wrap64 (x6+1),by omega,Wo [(0,0),(4,0),(5,0),(6,0)],H⟩
 refine Ct (bq Rv)<|Sw<|Rh hN [] (.c1 (show (40:Int)≠0 by decide))<|Sw<|Sw<|Rg hN ?_
 rcases aj H with ⟨Rw,H⟩ | ⟨Rw,H⟩
 ·refine Ct (dt Rw)<|Rg hN<|Sw ?_
  obtain ⟨amg,H⟩:=ax H
  replace H:=oK H
  refine Rh hN [.kb true,.row (some 3) 1 (List.map I (x4++[2]))] (.c2 (dY I x4 [2] (.refl _)) (eZ I amg))<|Rg hN<|Sw ?_
  obtain ⟨amh,H⟩:=ax H
  exact Rh hN [.kb true,.row (some 3) 1 (List.map I ((x4++[2])++[wrap64 ((wrap64 ((wrap64 (128*x5))+(Int.tmod (wrap64 (bt x0 x6)) 128))) - 80)]))] (.c2 (dY I (x4++[2]) [wrap64 ((wrap64 ((wrap64 (128*x5))+(Int.tmod (wrap64 (bt x0 x6)) 128))) - 80)] (.refl _)) (eZ I amh))<|Rg hN<|Rg hN<|⟨k,by omega,x0,((x4++[2])++[wrap64 ((wrap64 ((wrap64 (128*x5))+(Int.tmod (wrap64 (bt x0 x6)) 128))) - 80)]),0,wrap64 (x6+1),by omega,Wo [(0,0),(4,0),(5,0),(6,0)],H⟩
 refine Cf (df Rw)<|Sk<|Sw ?_
 obtain ⟨ami,H⟩:=ax H
 replace H:=oK H
 refine Rh hN [.kb true,.row (some 3) 1 (List.map I (x4++[wrap64 (Int.tdiv (wrap64 ((wrap64 (128*x5))+(Int.tmod (wrap64 (bt x0 x6)) 128))) 40)]))] (.c2 (dY I x4 [wrap64 (Int.tdiv (wrap64 ((wrap64 (128*x5))+(Int.tmod (wrap64 (bt x0 x6)) 128))) 40)] (.refl _)) (eZ I ami))<|Rg hN<|Sw ?_
 obtain ⟨amj,H⟩:=ax H
 exact Rh hN [.kb true,.row (some 3) 1 (List.map I ((x4++[wrap64 (Int.tdiv (wrap64 ((wrap64 (128*x5))+(Int.tmod (wrap64 (bt x0 x6)) 128))) 40)])++[wrap64 ((wrap64 ((wrap64 (128*x5))+(Int.tmod (wrap64 (bt x0 x6)) 128))) - (wrap64 (40*(wrap64 (Int.tdiv (wrap64 ((wrap64 (128*x5))+(Int.tmod (wrap64 (bt x0 x6)) 128))) 40)))))]))] (.c2 (dY I (x4++[wrap64 (Int.tdiv (wrap64 ((wrap64 (128*x5))+(Int.tmod (wrap64 (bt x0 x6)) 128))) 40)]) [wrap64 ((wrap64 ((wrap64 (128*x5))+(Int.tmod (wrap64 (bt x0 x6)) 128))) - (wrap64 (40*(wrap64 (Int.tdiv (wrap64 ((wrap64 (128*x5))+(Int.tmod (wrap64 (bt x0 x6)) 128))) 40)))))] (.refl _)) (eZ I amj))<|Rg hN<|Rg hN<|⟨k,by omega,x0,((x4++[wrap64 (Int.tdiv (wrap64 ((wrap64 (128*x5))+(Int.tmod (wrap64 (bt x0 x6)) 128))) 40)])++[wrap64 ((wrap64 ((wrap64 (128*x5))+(Int.tmod (wrap64 (bt x0 x6)) 128))) - (wrap64 (40*(wrap64 (Int.tdiv (wrap64 ((wrap64 (128*x5))+(Int.tmod (wrap64 (bt x0 x6)) 128))) 40)))))]),0,wrap64 (x6+1),by omega,Wo [(0,0),(4,0),(5,0),(6,0)],H⟩
def tN.f (a0:ByteArray):Option (Bool × Bool):=if a0.toList=([255]:List UInt8) then (some (true,true)) else (some (false,(a0.toList == ([0]:List UInt8))))
theorem tN.au {a0:ByteArray} {r:(Bool × Bool)} (H:tN.f a0=some r):aQ Tryz.prog 145 [S a0] (.aD [B r.1,B r.2]):=by
 refine Cg Tryz.func145 rfl fun C hN hL=>?_
 unfold tN.f at H
 refine Sw<|Rg hN<|Sw<|Sw<|Ri hN [] (.c1 (eP (rfl:a0.toList=a0.toList) (dV ([255]:List UInt8)))) [(5,.bool (a0.toList == ([255]:List UInt8)))] ?_
 rcases aj H with ⟨Rx,H⟩ | ⟨Rx,H⟩
 ·refine Ct (bq Rx)<|Sw<|Rg hN ?_
  cases H
  exact Rt dR
 refine Cf (bn Rx)<|Sk<|Sw<|Ri hN [] (.c1 (eP (rfl:a0.toList=a0.toList) (dV ([0]:List UInt8)))) [(7,.bool (a0.toList == ([0]:List UInt8)))] ?_
 cases H
 exact Rt dR
def tV.f (a0:ByteArray):Option (Bool):=if a0.toList=([]:List UInt8) then (some false) else (if (a0.size:Int)=1 then (some true) else (if 0 < (a0.size:Int) then (if (bt a0 0)=0 then (if 1 < (a0.size:Int) then (if (bt a0 1) < 128 then (some false) else (if (bt a0 0)=255 then (some (decide ((bt a0 1) < 128))) else (some true))) else (none)) else (if (bt a0 0)=255 then (if 1 < (a0.size:Int) then (some (decide ((bt a0 1) < 128))) else (none)) else (some true))) else (none)))
theorem tV.au {a0:ByteArray} {r:(Bool)} (H:tV.f a0=some r):aQ Tryz.prog 146 [S a0] (B r):=by
 refine Cg Tryz.func146 rfl fun C hN hL=>?_
 unfold tV.f at H
 refine Sw<|Rg hN<|Sw<|Sw<|Ri hN [] (.c1 (eP (rfl:a0.toList=a0.toList) (dV ([]:List UInt8)))) [(4,.bool (a0.toList == ([]:List UInt8)))] ?_
 rcases aj H with ⟨Ry,H⟩ | ⟨Ry,H⟩
 ·refine Ct (bq Ry)<|Sw<|Rg hN ?_
  cases H
  exact Rt dR
 refine Cf (bn Ry)<|Sk<|Sw<|Sw<|Rg hN ?_
 rcases aj H with ⟨Rz,H⟩ | ⟨Rz,H⟩
 ·refine Ct (bq Rz)<|Sw<|Rg hN ?_
  cases H
  exact Rt dR
 refine Cf (bn Rz)<|Sk<|Sw<|Sw ?_
 obtain ⟨xG,H⟩:=ax H
 rcases (aj H).symm with ⟨RA,H⟩ | ⟨RA,H⟩
 ·refine Rh hN [B false] (.c3 (show (0:Int)≤0 by decide) xG (bn RA))<|Good.cond false (by kernel_rfl)<|Sk<|Sw ?_
  rcases (aj H).symm with ⟨RB,H⟩ | ⟨RB,H⟩
  ·refine Rh hN [B true] (.c3 (show (0:Int)≤0 by decide) xG (nq RB)) ?_
   cases H
   exact Rt dR
  obtain ⟨amk,H⟩:=ax H
  refine Rh hN [B false] (.c5 (show (0:Int)≤0 by decide) xG (bM RB) (show (0:Int)≤1 by decide) amk) ?_
  cases H
  exact Rt dR
 obtain ⟨Zx,H⟩:=ax H
 refine Rh hN [B true] (.c5 (show (0:Int)≤0 by decide) xG (bq RA) (show (0:Int)≤1 by decide) Zx) ?_
 rcases aj H with ⟨RD,H⟩ | ⟨RD,H⟩
 ·refine Ct (dt RD)<|Sw<|Rg hN ?_
  cases H
  exact Rt dR
 refine Cf (df RD)<|Sk<|Sw ?_
 rcases aj H with ⟨RF,H⟩ | ⟨RF,H⟩
 ·refine Rh hN [B false] (.c5 (show (0:Int)≤0 by decide) xG (bM RF) (show (0:Int)≤1 by decide) Zx) ?_
  cases H
  exact Rt dR
 refine Rh hN [B true] (.c3 (show (0:Int)≤0 by decide) xG (nq RF)) ?_
 cases H
 exact Rt dR
def fF.l0:Nat→Int→Int→ByteArray→Int→Option (ByteArray)
 | 0,_,_,_,_=>none
 | k+1,x0,x1,x5,x6=>if x6 < x1 then (if (strOfNums ([(Int.tmod x0 256) % 256]:List Int)).size+x5.size≤9223372036854775807 then (fF.l0 k (IntKind.u64.wrap (Int.tdiv x0 256)) x1 ((strOfNums ([(Int.tmod x0 256) % 256]:List Int))++x5) (wrap64 (x6+1))) else (none)) else (some x5)
def fF.j0:Nat→Int→Int→Bool→Option (ByteArray)
 | 0,_,_,_=>none
 | k+1,x0,x1,dO=>if dO=true then (some (⟨#[]⟩:ByteArray)) else (fF.l0 k x0 x1 (⟨#[]⟩:ByteArray) 0)
def fF.f (k:Nat) (a0:Int) (a1:Int):Option (ByteArray):=if a1 < 1 then (fF.j0 k a0 a1 true) else (fF.j0 k a0 a1 (decide (a1 > 8)))
theorem fF.au {k:Nat} {a0:Int} {a1:Int} {r:(ByteArray)} (H:fF.f k a0 a1=some r):aQ Tryz.prog 119 [K .u64 a0,I a1] (S r):=by
 refine Cg Tryz.func119 rfl fun C hN hL=>?_
 unfold fF.f at H
 refine Sw<|Rg hN<|Sw<|Sw<|Good.cut (fun st=>∃ n':Nat,n'≤k∧∃ (x0:Int) (x1:Int) (dO:Bool),Wk C st ⟨[(0,.w (K .u64 x0)),(1,.w (I x1)),(12,.w (B dO))],[]⟩∧fF.j0 n' x0 x1 dO=some r) ?_ ?_
 ·rcases aj H with ⟨RG,H⟩ | ⟨RG,H⟩
  ·exact Rh hN [B true] (.c1 (dt RG))<|⟨k,by omega,a0,a1,true,Wo [(0,0),(1,0),(12,0)],H⟩
  exact Rh hN [B false] (.c1 (df RG))<|⟨k,by omega,a0,a1,decide (a1 > 8),Wo [(0,0),(1,0),(12,0)],H⟩
 clear H
 rintro st ⟨n',hn',x0,x1,dO,W,H⟩
 rcases n' with _ | k
 ·cases H
 refine W.good ?_
 rw [fF.j0] at H
 rcases aj H with ⟨RH,H⟩ | ⟨RH,H⟩
 ·refine Ct RH<|Sw<|Rg hN ?_
  cases H
  exact Rt dR
 refine Cf (bf RH)<|Sk<|Sw<|Rg hN<|Sw<|Sw<|Rg hN<|Bl<|Good.dN (fun k' st=>∃ (x0:Int) (x1:Int) (x5:ByteArray) (x6:Int),k'≤k∧Wk C st ⟨[(0,.w (K .u64 x0)),(1,.w (I x1)),(5,.w (S x5)),(6,.w (I x6))],[]⟩∧fF.l0 k' x0 x1 x5 x6=some r) k ⟨x0,x1,(⟨#[]⟩:ByteArray),0,Nat.le_refl _,Wo [(0,0),(1,0),(5,0),(6,0)],H⟩ fun k=>⟨fun st h=>(by obtain ⟨_,_,_,_,_,_,H⟩:=h;cases H),?_⟩
 clear H
 rintro st ⟨x0,x1,x5,x6,hk,W,H⟩
 refine W.good ?_
 rw [fF.l0] at H
 refine Sw<|Sw<|Rg hN ?_
 rcases (aj H).symm with ⟨RI,H⟩ | ⟨RI,H⟩
 ·refine Cf (df RI)<|Ex<|Sw<|Rg hN ?_
  cases H
  exact Rt dR
 refine Ct (dt RI)<|Sk<|Sw<|Bl<|Sw ?_
 obtain ⟨aml,H⟩:=ax H
 exact Rh hN [S (strOfNums ([(Int.tmod x0 256) % 256]:List Int))] (.c3 (show (256:Int)≠0 by decide) (lg ([(Int.tmod x0 256) % 256]:List Int)) aml)<|Rh hN [] (.c1 (show (256:Int)≠0 by decide))<|Rg hN<|⟨k,by omega,IntKind.u64.wrap (Int.tdiv x0 256),x1,(strOfNums ([(Int.tmod x0 256) % 256]:List Int))++x5,wrap64 (x6+1),by omega,Wo [(0,0),(1,0),(5,0),(6,0)],H⟩
def iw.l0:Nat→ByteArray→Int→Int→Int→Option (ByteArray × Bool)
 | 0,_,_,_,_=>none
 | k+1,x0,x1,x6,x7=>if x7 < x1 then (iw.l0 k x0 x1 (wrap64 (2*x6)) (wrap64 (x7+1))) else (if x0.toList=([]:List UInt8) then ((fF.f k (IntKind.u64.wrap (x1)) 1).bind fun FR=>(if FR.size+x0.size≤9223372036854775807 then (some (FR++x0,true)) else (none))) else (if 0≤(wrap64 ((x0.size:Int) - 1)) then (if (wrap64 ((x0.size:Int) - 1)) < (x0.size:Int) then (if x6=0 then (none) else (if (Int.tmod (wrap64 (bt x0 (wrap64 ((x0.size:Int) - 1)))) x6)=0 then ((fF.f k (IntKind.u64.wrap (x1)) 1).bind fun FT=>(if FT.size+x0.size≤9223372036854775807 then (some (FT++x0,true)) else (none))) else (some ((⟨#[]⟩:ByteArray),false)))) else (none)) else (none)))
def iw.j0:Nat→ByteArray→Int→Bool→Option (ByteArray × Bool)
 | 0,_,_,_=>none
 | k+1,x0,x1,cZ=>if cZ=true then (some ((⟨#[]⟩:ByteArray),false)) else (iw.l0 k x0 x1 1 0)
def iw.f (k:Nat) (a0:ByteArray) (a1:Int):Option (ByteArray × Bool):=if a1 < 0 then (iw.j0 k a0 a1 true) else (if a1 > 7 then (iw.j0 k a0 a1 true) else (if a0.toList=([]:List UInt8) then (iw.j0 k a0 a1 (a1 != 0)) else (iw.j0 k a0 a1 false)))
theorem iw.au {k:Nat} {a0:ByteArray} {a1:Int} {r:(ByteArray × Bool)} (H:iw.f k a0 a1=some r):aQ Tryz.prog 163 [S a0,I a1] (.aD [S r.1,B r.2]):=by
 refine Cg Tryz.func163 rfl fun C hN hL=>?_
 unfold iw.f at H
 refine Sw<|Rg hN<|Sw<|Sw<|Good.cut (fun st=>∃ n':Nat,n'≤k∧∃ (x0:ByteArray) (x1:Int) (cZ:Bool),Wk C st ⟨[(0,.w (S x0)),(1,.w (I x1)),(21,.w (B cZ))],[]⟩∧iw.j0 n' x0 x1 cZ=some r) ?_ ?_
 ·rcases aj H with ⟨Ba,H⟩ | ⟨Ba,H⟩
  ·exact Rh hN [B true,B true] (.c2 (dt Ba) (rfl:true=true))<|⟨k,by omega,a0,a1,true,Wo [(0,0),(1,0),(21,0)],H⟩
  rcases aj H with ⟨FU,H⟩ | ⟨FU,H⟩
  ·exact Rh hN [B false,B true] (.c2 (df Ba) (dt FU))<|⟨k,by omega,a0,a1,true,Wo [(0,0),(1,0),(21,0)],H⟩
  rcases aj H with ⟨RJ,H⟩ | ⟨RJ,H⟩
  ·exact Ri hN [B false,B false,B true] (.c4 (df Ba) (df FU) (eP (rfl:a0.toList=a0.toList) (dV ([]:List UInt8))) (bq RJ)) [(16,.bool (a0.toList == ([]:List UInt8)))]<|⟨k,by omega,a0,a1,(a1 != 0),Wo [(0,0),(1,0),(21,0)],H⟩
  exact Ri hN [B false,B false,B false] (.c4 (df Ba) (df FU) (eP (rfl:a0.toList=a0.toList) (dV ([]:List UInt8))) (bn RJ)) [(16,.bool (a0.toList == ([]:List UInt8)))]<|⟨k,by omega,a0,a1,false,Wo [(0,0),(1,0),(21,0)],H⟩
 clear H
 rintro st ⟨n',hn',x0,x1,cZ,W,H⟩
 rcases n' with _ | k
 ·cases H
 refine W.good ?_
 rw [iw.j0] at H
 rcases aj H with ⟨RL,H⟩ | ⟨RL,H⟩
 ·refine Ct RL<|Sw<|Rg hN ?_
  cases H
  exact Rt dR
 refine Cf (bf RL)<|Sk<|Sw<|Rg hN<|Sw<|Sw<|Rg hN<|Bl<|Good.dN (fun k' st=>∃ (x0:ByteArray) (x1:Int) (x6:Int) (x7:Int),k'≤k∧Wk C st ⟨[(0,.w (S x0)),(1,.w (I x1)),(6,.w (I x6)),(7,.w (I x7))],[]⟩∧iw.l0 k' x0 x1 x6 x7=some r) k ⟨x0,x1,1,0,Nat.le_refl _,Wo [(0,0),(1,0),(6,0),(7,0)],H⟩ fun k=>⟨fun st h=>(by obtain ⟨_,_,_,_,_,_,H⟩:=h;cases H),?_⟩
 clear H
 rintro st ⟨x0,x1,x6,x7,hk,W,H⟩
 refine W.good ?_
 rw [iw.l0] at H
 refine Sw<|Sw<|Rg hN ?_
 rcases aj H with ⟨RN,H⟩ | ⟨RN,H⟩
 ·exact Ct (dt RN)<|Sk<|Sw<|Bl<|Rg hN<|Rg hN<|⟨k,by omega,x0,x1,wrap64 (2*x6),wrap64 (x7+1),by omega,Wo [(0,0),(1,0),(6,0),(7,0)],H⟩
 refine Cf (df RN)<|Ex<|Sw<|Sw ?_
 rcases aj H with ⟨RO,H⟩ | ⟨RO,H⟩
 ·refine Ri hN [B false] (.c2 (uD (rfl:x0.toList=x0.toList) (dV ([]:List UInt8))) (bM RO)) [(30,.bool (x0.toList != ([]:List UInt8)))]<|Good.cond false (by kernel_rfl)<|Sk<|Sw ?_
  obtain ⟨FR,amm,H⟩:=aC H
  obtain ⟨amn,H⟩:=ax H
  refine Rh hN [S FR] (.c2 (fF.au amm).c amn) ?_
  cases H
  exact Rt dR
 obtain ⟨amo,H⟩:=ax H
 obtain ⟨amq,H⟩:=ax H
 obtain ⟨amr,H⟩:=ifN H
 refine Ri hN [B true] (.c5 (uD (rfl:x0.toList=x0.toList) (dV ([]:List UInt8))) (nq RO) amo amq amr) [(30,.bool (x0.toList != ([]:List UInt8)))] ?_
 rcases (aj H).symm with ⟨RP,H⟩ | ⟨RP,H⟩
 ·refine Ct (nq RP)<|Sw<|Rg hN ?_
  cases H
  exact Rt dR
 refine Cf (bM RP)<|Sk<|Sw ?_
 obtain ⟨FT,ams,H⟩:=aC H
 obtain ⟨amt,H⟩:=ax H
 refine Rh hN [S FT] (.c2 (fF.au ams).c amt) ?_
 cases H
 exact Rt dR
def tO.f (k:Nat) (a0:ByteArray):Option (ByteArray × Int × Bool):=if a0.toList=([]:List UInt8) then (some ((⟨#[]⟩:ByteArray),0,false)) else (if 1≤(a0.size:Int) then (if 0 < (a0.size:Int) then ((iw.f k (a0.extract 1 a0.size) (wrap64 (bt a0 0))).bind fun FV=>(if FV.2=true then (some (a0.extract 1 a0.size,wrap64 (bt a0 0),true)) else (some ((⟨#[]⟩:ByteArray),0,false)))) else (none)) else (none))
theorem tO.au {k:Nat} {a0:ByteArray} {r:(ByteArray × Int × Bool)} (H:tO.f k a0=some r):aQ Tryz.prog 147 [S a0] (.aD [S r.1,I r.2.1,B r.2.2]):=by
 refine Cg Tryz.func147 rfl fun C hN hL=>?_
 unfold tO.f at H
 refine Sw<|Rg hN<|Sw<|Sw<|Ri hN [] (.c1 (eP (rfl:a0.toList=a0.toList) (dV ([]:List UInt8)))) [(8,.bool (a0.toList == ([]:List UInt8)))] ?_
 rcases aj H with ⟨RQ,H⟩ | ⟨RQ,H⟩
 ·refine Ct (bq RQ)<|Sw<|Rg hN ?_
  cases H
  exact Rt dR
 refine Cf (bn RQ)<|Sk<|Sw ?_
 obtain ⟨FX,H⟩:=ax H
 obtain ⟨FY,H⟩:=ax H
 obtain ⟨FV,amu,H⟩:=aC H
 refine Rd hm hN (.qs 5 0 (.e 5 (.qs 4 6 (.q 10 [] .z)))) [(0,none)] .nil [.aD [S FV.1,B FV.2]] [] (.c5 (show (0:Int)≤1 by decide) FX (show (0:Int)≤0 by decide) FY (iw.au amu).c) (.c4 (show (0:Int)≤1 by decide) FX (show (0:Int)≤0 by decide) FY) [] []<|Sw<|Sw<|Rg hN ?_
 rcases (aj H).symm with ⟨RS,H⟩ | ⟨RS,H⟩
 ·refine Ct (eB (bf RS))<|Sw<|Rg hN ?_
  cases H
  exact Rt dR
 refine Cf (fw RS)<|Sk<|Sw<|Rd hm hN (.qs 7 0 (.q 7 [] .z)) [(0,none)] .nil [] [] (.c4 (show (0:Int)≤1 by decide) FX (show (0:Int)≤0 by decide) FY) (.c4 (show (0:Int)≤1 by decide) FX (show (0:Int)≤0 by decide) FY) [] [] ?_
 cases H
 exact Rt dR
def bG.l0:Nat→ByteArray→Int→Int→Int→Int→Option (Int)
 | 0,_,_,_,_,_=>none
 | k+1,x0,x4,x5,x6,x7=>if x7≤x5 then (if 0≤x7 then (if x7 < (x0.size:Int) then (if (bt x0 x7) < 128 then (some 0) else (if (bt x0 x7) > 191 then (some 0) else (bG.l0 k x0 (wrap64 ((wrap64 ((wrap64 (64*x4))+(wrap64 (bt x0 x7)))) - 128)) x5 x6 (wrap64 (x7+1))))) else (none)) else (none)) else (if x4 < x6 then (some 0) else (if x4 > 1114111 then (some 0) else (if x4 > 55295 then (if x4 < 57344 then (some 0) else (some (wrap64 (x5+1)))) else (some (wrap64 (x5+1))))))
def bG.j6:Nat→ByteArray→Int→Int→Int→Bool→Option (Int)
 | 0,_,_,_,_,_=>none
 | k+1,x0,x4,x5,x6,BD=>if BD=true then (some 0) else (bG.l0 k x0 x4 x5 x6 1)
def bG.j5:Nat→ByteArray→Int→Int→Int→Option (Int)
 | 0,_,_,_,_=>none
 | k+1,x0,x4,x5,x6=>if x5=0 then (bG.j6 k x0 x4 x5 x6 true) else (bG.j6 k x0 x4 x5 x6 (decide ((x0.size:Int)≤x5)))
def bG.j4:Nat→ByteArray→Int→Int→Int→Int→Bool→Option (Int)
 | 0,_,_,_,_,_,_=>none
 | k+1,x0,x3,x4,x5,x6,x34=>if x34=true then (bG.j5 k x0 (wrap64 (x3 - 240)) 3 65536) else (bG.j5 k x0 x4 x5 x6)
def bG.j3:Nat→ByteArray→Int→Int→Int→Int→Option (Int)
 | 0,_,_,_,_,_=>none
 | k+1,x0,x3,x4,x5,x6=>if x3≥240 then (bG.j4 k x0 x3 x4 x5 x6 (decide (x3 < 248))) else (bG.j4 k x0 x3 x4 x5 x6 false)
def bG.j2:Nat→ByteArray→Int→Int→Int→Int→Bool→Option (Int)
 | 0,_,_,_,_,_,_=>none
 | k+1,x0,x3,x4,x5,x6,jS=>if jS=true then (bG.j3 k x0 x3 (wrap64 (x3 - 224)) 2 2048) else (bG.j3 k x0 x3 x4 x5 x6)
def bG.j1:Nat→ByteArray→Int→Int→Int→Int→Option (Int)
 | 0,_,_,_,_,_=>none
 | k+1,x0,x3,x4,x5,x6=>if x3≥224 then (bG.j2 k x0 x3 x4 x5 x6 (decide (x3 < 240))) else (bG.j2 k x0 x3 x4 x5 x6 false)
def bG.j0:Nat→ByteArray→Int→Int→Int→Int→Bool→Option (Int)
 | 0,_,_,_,_,_,_=>none
 | k+1,x0,x3,x4,x5,x6,bF=>if bF=true then (bG.j1 k x0 x3 (wrap64 (x3 - 192)) 1 128) else (bG.j1 k x0 x3 x4 x5 x6)
def bG.f (k:Nat) (a0:ByteArray):Option (Int):=if 0 < (a0.size:Int) then (if (wrap64 (bt a0 0)) < 128 then (some 1) else (if (wrap64 (bt a0 0))≥192 then (bG.j0 k a0 (wrap64 (bt a0 0)) 0 0 0 (decide ((wrap64 (bt a0 0)) < 224))) else (bG.j0 k a0 (wrap64 (bt a0 0)) 0 0 0 false))) else (none)
theorem bG.au {k:Nat} {a0:ByteArray} {r:(Int)} (H:bG.f k a0=some r):aQ Tryz.prog 164 [S a0] (I r):=by
 refine Cg Tryz.func164 rfl fun C hN hL=>?_
 unfold bG.f at H
 refine Sw<|Rg hN<|Sw ?_
 obtain ⟨amv,H⟩:=ax H
 refine Rh hN [] (.c2 (show (0:Int)≤0 by decide) amv)<|Sw<|Rg hN<|Sw<|Sw<|Rg hN ?_
 rcases aj H with ⟨RU,H⟩ | ⟨RU,H⟩
 ·refine Ct (dt RU)<|Sw<|Rg hN ?_
  cases H
  exact Rt dR
 refine Cf (df RU)<|Sk<|Sw<|Sw<|Good.cut (fun st=>∃ n':Nat,n'≤k∧∃ (x0:ByteArray) (x3:Int) (x4:Int) (x5:Int) (x6:Int) (bF:Bool),Wk C st ⟨[(0,.w (S x0)),(3,.w (I x3)),(4,.w (I x4)),(5,.w (I x5)),(6,.w (I x6)),(18,.w (B bF))],[]⟩∧bG.j0 n' x0 x3 x4 x5 x6 bF=some r) ?_ ?_
 ·rcases aj H with ⟨RV,H⟩ | ⟨RV,H⟩
  ·exact Rh hN [B true] (.c1 (dt RV))<|⟨k,by omega,a0,wrap64 (bt a0 0),0,0,0,decide ((wrap64 (bt a0 0)) < 224),Wo [(0,0),(3,0),(4,0),(5,0),(6,0),(18,0)],H⟩
  exact Rh hN [B false] (.c1 (df RV))<|⟨k,by omega,a0,wrap64 (bt a0 0),0,0,0,false,Wo [(0,0),(3,0),(4,0),(5,0),(6,0),(18,0)],H⟩
 clear H
 rintro st ⟨n',hn',x0,x3,x4,x5,x6,bF,W,H⟩
 rcases n' with _ | k
 ·cases H
 refine W.good ?_
 rw [bG.j0] at H
 refine Good.cut (fun st=>∃ n':Nat,n'≤k∧∃ (x0:ByteArray) (x3:Int) (x4:Int) (x5:Int) (x6:Int),Wk C st ⟨[(0,.w (S x0)),(3,.w (I x3)),(4,.w (I x4)),(5,.w (I x5)),(6,.w (I x6))],[]⟩∧bG.j1 n' x0 x3 x4 x5 x6=some r) ?_ ?_
 ·rcases aj H with ⟨RX,H⟩ | ⟨RX,H⟩
  ·exact Ct RX<|Rg hN<|⟨k,by omega,x0,x3,wrap64 (x3 - 192),1,128,Wo [(0,0),(3,0),(4,0),(5,0),(6,0)],H⟩
  exact Cf (bf RX)<|Sk<|⟨k,by omega,x0,x3,x4,x5,x6,Wo [(0,0),(3,0),(4,0),(5,0),(6,0)],H⟩
 clear H
 rintro st ⟨n',hn',x0,x3,x4,x5,x6,W,H⟩
 rcases n' with _ | k
 ·cases H
 refine W.good ?_
 rw [bG.j1] at H
 refine Sw<|Sw<|Good.cut (fun st=>∃ n':Nat,n'≤k∧∃ (x0:ByteArray) (x3:Int) (x4:Int) (x5:Int) (x6:Int) (jS:Bool),Wk C st ⟨[(0,.w (S x0)),(3,.w (I x3)),(4,.w (I x4)),(5,.w (I x5)),(6,.w (I x6)),(26,.w (B jS))],[]⟩∧bG.j2 n' x0 x3 x4 x5 x6 jS=some r) ?_ ?_
 ·rcases aj H with ⟨RY,H⟩ | ⟨RY,H⟩
  ·exact Rh hN [B true] (.c1 (dt RY))<|⟨k,by omega,x0,x3,x4,x5,x6,decide (x3 < 240),Wo [(0,0),(3,0),(4,0),(5,0),(6,0),(26,0)],H⟩
  exact Rh hN [B false] (.c1 (df RY))<|⟨k,by omega,x0,x3,x4,x5,x6,false,Wo [(0,0),(3,0),(4,0),(5,0),(6,0),(26,0)],H⟩
 clear H
 rintro st ⟨n',hn',x0,x3,x4,x5,x6,jS,W,H⟩
 rcases n' with _ | k
 ·cases H
 refine W.good ?_
 rw [bG.j2] at H
 refine Good.cut (fun st=>∃ n':Nat,n'≤k∧∃ (x0:ByteArray) (x3:Int) (x4:Int) (x5:Int) (x6:Int),Wk C st ⟨[(0,.w (S x0)),(3,.w (I x3)),(4,.w (I x4)),(5,.w (I x5)),(6,.w (I x6))],[]⟩∧bG.j3 n' x0 x3 x4 x5 x6=some r) ?_ ?_
 ·rcases aj H with ⟨RZ,H⟩ | ⟨RZ,H⟩
  ·exact Ct RZ<|Rg hN<|⟨k,by omega,x0,x3,wrap64 (x3 - 224),2,2048,Wo [(0,0),(3,0),(4,0),(5,0),(6,0)],H⟩
  exact Cf (bf RZ)<|Sk<|⟨k,by omega,x0,x3,x4,x5,x6,Wo [(0,0),(3,0),(4,0),(5,0),(6,0)],H⟩
 clear H
 rintro st ⟨n',hn',x0,x3,x4,x5,x6,W,H⟩
 rcases n' with _ | k
 ·cases H
 refine W.good ?_
 rw [bG.j3] at H
 refine Sw<|Sw<|Good.cut (fun st=>∃ n':Nat,n'≤k∧∃ (x0:ByteArray) (x3:Int) (x4:Int) (x5:Int) (x6:Int) (x34:Bool),Wk C st ⟨[(0,.w (S x0)),(3,.w (I x3)),(4,.w (I x4)),(5,.w (I x5)),(6,.w (I x6)),(34,.w (B x34))],[]⟩∧bG.j4 n' x0 x3 x4 x5 x6 x34=some r) ?_ ?_
 ·rcases aj H with ⟨R3,H⟩ | ⟨R3,H⟩
  ·exact Rh hN [B true] (.c1 (dt R3))<|⟨k,by omega,x0,x3,x4,x5,x6,decide (x3 < 248),Wo [(0,0),(3,0),(4,0),(5,0),(6,0),(34,0)],H⟩
  exact Rh hN [B false] (.c1 (df R3))<|⟨k,by omega,x0,x3,x4,x5,x6,false,Wo [(0,0),(3,0),(4,0),(5,0),(6,0),(34,0)],H⟩
 clear H
 rintro st ⟨n',hn',x0,x3,x4,x5,x6,x34,W,H⟩
 rcases n' with _ | k
 ·cases H
 refine W.good ?_
 rw [bG.j4] at H
 refine Good.cut (fun st=>∃ n':Nat,n'≤k∧∃ (x0:ByteArray) (x4:Int) (x5:Int) (x6:Int),Wk C st ⟨[(0,.w (S x0)),(4,.w (I x4)),(5,.w (I x5)),(6,.w (I x6))],[]⟩∧bG.j5 n' x0 x4 x5 x6=some r) ?_ ?_
 ·rcases aj H with ⟨R4,H⟩ | ⟨R4,H⟩
  ·exact Ct R4<|Rg hN<|⟨k,by omega,x0,wrap64 (x3 - 240),3,65536,Wo [(0,0),(4,0),(5,0),(6,0)],H⟩
  exact Cf (bf R4)<|Sk<|⟨k,by omega,x0,x4,x5,x6,Wo [(0,0),(4,0),(5,0),(6,0)],H⟩
 clear H
 rintro st ⟨n',hn',x0,x4,x5,x6,W,H⟩
 rcases n' with _ | k
 ·cases H
 refine W.good ?_
 rw [bG.j5] at H
 refine Sw<|Sw<|Good.cut (fun st=>∃ n':Nat,n'≤k∧∃ (x0:ByteArray) (x4:Int) (x5:Int) (x6:Int) (BD:Bool),Wk C st ⟨[(0,.w (S x0)),(4,.w (I x4)),(5,.w (I x5)),(6,.w (I x6)),(44,.w (B BD))],[]⟩∧bG.j6 n' x0 x4 x5 x6 BD=some r) ?_ ?_
 ·rcases aj H with ⟨R5,H⟩ | ⟨R5,H⟩
  ·exact Rh hN [B true] (.c1 (bq R5))<|⟨k,by omega,x0,x4,x5,x6,true,Wo [(0,0),(4,0),(5,0),(6,0),(44,0)],H⟩
  exact Rh hN [B false] (.c1 (bn R5))<|⟨k,by omega,x0,x4,x5,x6,decide ((x0.size:Int)≤x5),Wo [(0,0),(4,0),(5,0),(6,0),(44,0)],H⟩
 clear H
 rintro st ⟨n',hn',x0,x4,x5,x6,BD,W,H⟩
 rcases n' with _ | k
 ·cases H
 refine W.good ?_
 rw [bG.j6] at H
 rcases aj H with ⟨R6,H⟩ | ⟨R6,H⟩
 ·refine Ct R6<|Sw<|Rg hN ?_
  cases H
  exact Rt dR
 refine Cf (bf R6)<|Sk<|Sw<|Sw<|Rg hN<|Bl<|Good.dN (fun k' st=>∃ (x0:ByteArray) (x4:Int) (x5:Int) (x6:Int) (x7:Int),k'≤k∧Wk C st ⟨[(0,.w (S x0)),(4,.w (I x4)),(5,.w (I x5)),(6,.w (I x6)),(7,.w (I x7))],[]⟩∧bG.l0 k' x0 x4 x5 x6 x7=some r) k ⟨x0,x4,x5,x6,1,Nat.le_refl _,Wo [(0,0),(4,0),(5,0),(6,0),(7,0)],H⟩ fun k=>⟨fun st h=>(by obtain ⟨_,_,_,_,_,_,_,H⟩:=h;cases H),?_⟩
 clear H
 rintro st ⟨x0,x4,x5,x6,x7,hk,W,H⟩
 refine W.good ?_
 rw [bG.l0] at H
 refine Sw<|Sw<|Rg hN ?_
 rcases aj H with ⟨R7,H⟩ | ⟨R7,H⟩
 ·refine Ct (dt R7)<|Sk<|Sw<|Bl<|Sw<|Sw ?_
  obtain ⟨FZ,H⟩:=ax H
  obtain ⟨F3,H⟩:=ax H
  rcases aj H with ⟨R8,H⟩ | ⟨R8,H⟩
  ·refine Rh hN [B true] (.c3 FZ F3 (dt R8))<|Good.cond true (by kernel_rfl)<|Sw<|Rg hN ?_
   cases H
   exact Rt dR
  refine Rh hN [B false] (.c5 FZ F3 (df R8) FZ F3) ?_
  rcases aj H with ⟨R9,H⟩ | ⟨R9,H⟩
  ·refine Ct (dt R9)<|Sw<|Rg hN ?_
   cases H
   exact Rt dR
  exact Cf (df R9)<|Sk<|Rh hN [] (.c2 FZ F3)<|Rg hN<|⟨k,by omega,x0,wrap64 ((wrap64 ((wrap64 (64*x4))+(wrap64 (bt x0 x7)))) - 128),x5,x6,wrap64 (x7+1),by omega,Wo [(0,0),(4,0),(5,0),(6,0),(7,0)],H⟩
 refine Cf (df R7)<|Ex<|Sw<|Sw ?_
 rcases aj H with ⟨Bb,H⟩ | ⟨Bb,H⟩
 ·refine Rh hN [B true,B true] (.c2 (dt Bb) (rfl:true=true))<|Good.cond true (by kernel_rfl)<|Sw<|Rg hN ?_
  cases H
  exact Rt dR
 rcases aj H with ⟨F4,H⟩ | ⟨F4,H⟩
 ·refine Rh hN [B false,B true] (.c2 (df Bb) (dt F4))<|Good.cond true (by kernel_rfl)<|Sw<|Rg hN ?_
  cases H
  exact Rt dR
 rcases (aj H).symm with ⟨Sa,H⟩ | ⟨Sa,H⟩
 ·refine Rh hN [B false,B false,B false] (.c3 (df Bb) (df F4) (df Sa))<|Good.cond false (by kernel_rfl)<|Sk<|Sw<|Rg hN ?_
  cases H
  exact Rt dR
 refine Rh hN [B false,B false,B true] (.c3 (df Bb) (df F4) (dt Sa)) ?_
 rcases aj H with ⟨Sb,H⟩ | ⟨Sb,H⟩
 ·refine Ct (dt Sb)<|Sw<|Rg hN ?_
  cases H
  exact Rt dR
 refine Cf (df Sb)<|Sk<|Sw<|Rg hN ?_
 cases H
 exact Rt dR
def lT.l0:Nat→ByteArray→Option (Bool)
 | 0,_=>none
 | k+1,x0=>if (x0.size:Int) > 0 then ((bG.f k x0).bind fun u7=>(if u7=0 then (some false) else (if 0≤u7 then (if u7≤(x0.size:Int) then (lT.l0 k (x0.extract (u7:Int).toNat x0.size)) else (none)) else (none)))) else (some true)
def lT.f (k:Nat) (a0:ByteArray):Option (Bool):=lT.l0 k a0
theorem lT.au {k:Nat} {a0:ByteArray} {r:(Bool)} (H:lT.f k a0=some r):aQ Tryz.prog 148 [S a0] (B r):=by
 refine Cg Tryz.func148 rfl fun C hN hL=>?_
 unfold lT.f at H
 refine Sw<|Rg hN<|Sw<|Bl<|Good.dN (fun k' st=>∃ (x0:ByteArray),k'≤k∧Wk C st ⟨[(0,.w (S x0))],[]⟩∧lT.l0 k' x0=some r) k ⟨a0,Nat.le_refl _,Wo [(0,0)],H⟩ fun k=>⟨fun st h=>(by obtain ⟨_,_,_,H⟩:=h;cases H),?_⟩
 clear H
 rintro st ⟨x0,hk,W,H⟩
 refine W.good ?_
 rw [lT.l0] at H
 refine Sw<|Sw<|Rg hN ?_
 rcases (aj H).symm with ⟨Sc,H⟩ | ⟨Sc,H⟩
 ·refine Cf (df Sc)<|Ex<|Sw<|Rg hN ?_
  cases H
  exact Rt dR
 refine Ct (dt Sc)<|Sk<|Bl<|Sw ?_
 obtain ⟨u7,amw,H⟩:=aC H
 refine Rh hN [I u7] (.c1 (bG.au amw).c)<|Sw<|Sw<|Rg hN ?_
 rcases aj H with ⟨Sd,H⟩ | ⟨Sd,H⟩
 ·refine Ct (bq Sd)<|Sw<|Rg hN ?_
  cases H
  exact Rt dR
 refine Cf (bn Sd)<|Sk ?_
 obtain ⟨amx,H⟩:=ax H
 obtain ⟨amy,H⟩:=ax H
 exact Rh hN [] (.c2 amx amy)<|⟨k,by omega,x0.extract (u7:Int).toNat x0.size,by omega,Wo [(0,0)],H⟩
mutual
def iF.l0:Nat→ByteArray→Int→Option (Bool)
 | 0,_,_=>none
 | k+1,x0,x3=>if x3 < (x0.size:Int) then (iF.l1 k x0 x3 false 0) else (some true)
def iF.l1:Nat→ByteArray→Int→Bool→Int→Option (Bool)
 | 0,_,_,_,_=>none
 | k+1,x0,x3,x4,x5=>if x5 < 74 then (if 0≤x5 then (if 0≤x3 then (if x3 < (x0.size:Int) then (if (bt (⟨#[65,66,67,68,69,70,71,72,73,74,75,76,77,78,79,80,81,82,83,84,85,86,87,88,89,90,97,98,99,100,101,102,103,104,105,106,107,108,109,110,111,112,113,114,115,116,117,118,119,120,121,122,48,49,50,51,52,53,54,55,56,57,32,39,40,41,43,44,45,46,47,58,61,63]⟩:ByteArray) x5)=(bt x0 x3) then (iF.l1 k x0 x3 true (wrap64 (x5+1))) else (iF.l1 k x0 x3 x4 (wrap64 (x5+1)))) else (none)) else (none)) else (none)) else (if x4=true then (iF.l0 k x0 (wrap64 (x3+1))) else (some false))
end
def iF.f (k:Nat) (a0:ByteArray):Option (Bool):=iF.l0 k a0 0
theorem iF.au {k:Nat} {a0:ByteArray} {r:(Bool)} (H:iF.f k a0=some r):aQ Tryz.prog 149 [S a0] (B r):=by
 refine Cg Tryz.func149 rfl fun C hN hL=>?_
 unfold iF.f at H
 refine Sw<|Rg hN<|Sw<|Sw<|Rg hN<|Bl<|Good.dN (fun k' st=>∃ (x0:ByteArray) (x3:Int),k'≤k∧Wk C st ⟨[(0,.w (S x0)),(3,.w (I x3))],[]⟩∧iF.l0 k' x0 x3=some r) k ⟨a0,0,Nat.le_refl _,Wo [(0,0),(3,0)],H⟩ fun k=>⟨fun st h=>(by obtain ⟨_,_,_,_,H⟩:=h;cases H),?_⟩
 clear H
 rintro st ⟨x0,x3,hk,W,H⟩
 refine W.good ?_
 rw [iF.l0] at H
 refine Sw<|Sw<|Rg hN ?_
 rcases (aj H).symm with ⟨Sg,H⟩ | ⟨Sg,H⟩
 ·refine Cf (df Sg)<|Ex<|Sw<|Rg hN ?_
  cases H
  exact Rt dR
 refine Ct (dt Sg)<|Sk<|Sw<|Bl<|Sw<|Rg hN<|Sw<|Sw<|Rg hN<|Bl<|Good.dN (fun k' st=>∃ (x0:ByteArray) (x3:Int) (x4:Bool) (x5:Int),k'≤k∧Wk C st ⟨[(0,.w (S x0)),(3,.w (I x3)),(4,.w (B x4)),(5,.w (I x5))],[]⟩∧iF.l1 k' x0 x3 x4 x5=some r) k ⟨x0,x3,false,0,Nat.le_refl _,Wo [(0,0),(3,0),(4,0),(5,0)],H⟩ fun k=>⟨fun st h=>(by obtain ⟨_,_,_,_,_,_,H⟩:=h;cases H),?_⟩
 clear H
 rintro st ⟨x0,x3,x4,x5,hk,W,H⟩
 refine W.good ?_
 rw [iF.l1] at H
 refine Sw<|Sw<|Rg hN ?_
 rcases (aj H).symm with ⟨Bc,H⟩ | ⟨Bc,H⟩
 ·refine Cf (df Bc)<|Ex<|Sw<|Rg hN ?_
  rcases aj H with ⟨Si,H⟩ | ⟨Si,H⟩
  ·exact Cf (fw Si)<|Sk<|Rg hN<|⟨k,by omega,x0,wrap64 (x3+1),by omega,Wo [(0,0),(3,0)],H⟩
  refine Ct (eB (bf Si))<|Sw<|Rg hN ?_
  cases H
  exact Rt dR
 refine Ct (dt Bc)<|Sk<|Sw<|Bl<|Sw ?_
 obtain ⟨Zy,H⟩:=ax H
 obtain ⟨Zz,H⟩:=ax H
 obtain ⟨ZA,H⟩:=ax H
 refine Rd hm hN (.qs 5 0 (.q 5 [] .z)) [(0,none),(3,none),(5,none)] .nil [] [] (.c4 Zy Bc Zz ZA) (.c4 Zy Bc Zz ZA) [] [] ?_
 rcases aj H with ⟨Sj,H⟩ | ⟨Sj,H⟩
 ·exact Ct (bq Sj)<|Rg hN<|Rg hN<|⟨k,by omega,x0,x3,true,wrap64 (x5+1),by omega,Wo [(0,0),(3,0),(4,0),(5,0)],H⟩
 exact Cf (bn Sj)<|Sk<|Rg hN<|⟨k,by omega,x0,x3,x4,wrap64 (x5+1),by omega,Wo [(0,0),(3,0),(4,0),(5,0)],H⟩
def mh.f (k:Nat) (a0:Int) (a1:ByteArray):Option (Bool):=if a0=1 then ((tN.f a1).bind fun F5=>(some F5.2)) else (if a0=2 then ((tV.f a1).bind fun Sl=>(some Sl)) else (if a0=3 then ((tO.f k a1).bind fun Bd=>(some Bd.2.2)) else (if a0=4 then (some true) else (if a0=5 then (some (a1.toList == ([]:List UInt8))) else (if a0=6 then ((gI.f k a1).bind fun F6=>(some F6.2)) else (if a0=12 then ((lT.f k a1).bind fun Sm=>(some Sm)) else (if a0=19 then ((iF.f k a1).bind fun Sn=>(some Sn)) else (some false))))))))
theorem mh.au {k:Nat} {a0:Int} {a1:ByteArray} {r:(Bool)} (H:mh.f k a0 a1=some r):aQ Tryz.prog 126 [I a0,S a1] (B r):=by
 refine Cg Tryz.func126 rfl fun C hN hL=>?_
 unfold mh.f at H
 refine Sw<|Rg hN<|Sw<|Sw<|Rg hN<|Bl<|Sw<|Rg hN ?_
 rcases aj H with ⟨Sr,H⟩ | ⟨Sr,H⟩
 ·refine Ct (bq Sr)<|Sw ?_
  obtain ⟨F5,amz,H⟩:=aC H
  refine Rh hN [.aD [B F5.1,B F5.2]] (.c1 (tN.au amz).c)<|Sw<|Rg hN ?_
  cases H
  exact Rt dR
 refine Cf (bn Sr)<|Sw<|Rg hN ?_
 rcases aj H with ⟨Su,H⟩ | ⟨Su,H⟩
 ·refine Ct (bq Su)<|Sw ?_
  obtain ⟨Sl,amA,H⟩:=aC H
  refine Rh hN [B Sl] (.c1 (tV.au amA).c) ?_
  cases H
  exact Rt dR
 refine Cf (bn Su)<|Sw<|Rg hN ?_
 rcases aj H with ⟨Sv,H⟩ | ⟨Sv,H⟩
 ·refine Ct (bq Sv)<|Sw ?_
  obtain ⟨Bd,amB,H⟩:=aC H
  refine Rh hN [.aD [S Bd.1,I Bd.2.1,B Bd.2.2]] (.c1 (tO.au amB).c)<|Sw<|Rg hN ?_
  cases H
  exact Rt dR
 refine Cf (bn Sv)<|Sw<|Rg hN ?_
 rcases aj H with ⟨Sy,H⟩ | ⟨Sy,H⟩
 ·refine Ct (bq Sy)<|Sw<|Rg hN ?_
  cases H
  exact Rt dR
 refine Cf (bn Sy)<|Sw<|Rg hN ?_
 rcases aj H with ⟨Sz,H⟩ | ⟨Sz,H⟩
 ·refine Ct (bq Sz)<|Sw<|Ri hN [] (.c1 (eP (rfl:a1.toList=a1.toList) (dV ([]:List UInt8)))) [(39,.bool (a1.toList == ([]:List UInt8)))] ?_
  cases H
  exact Rt dR
 refine Cf (bn Sz)<|Sw<|Rg hN ?_
 rcases aj H with ⟨SA,H⟩ | ⟨SA,H⟩
 ·refine Ct (bq SA)<|Sw ?_
  obtain ⟨F6,amC,H⟩:=aC H
  refine Rh hN [.aD [.row none 1 (List.map I F6.1),B F6.2]] (.c1 (gI.au amC).c)<|Sw<|Rg hN ?_
  cases H
  exact Rt dR
 refine Cf (bn SA)<|Sw<|Rg hN ?_
 rcases aj H with ⟨SB,H⟩ | ⟨SB,H⟩
 ·refine Ct (bq SB)<|Sw ?_
  obtain ⟨Sm,amD,H⟩:=aC H
  refine Rh hN [B Sm] (.c1 (lT.au amD).c) ?_
  cases H
  exact Rt dR
 refine Cf (bn SB)<|Sw<|Rg hN ?_
 rcases aj H with ⟨SC,H⟩ | ⟨SC,H⟩
 ·refine Ct (bq SC)<|Sw ?_
  obtain ⟨Sn,amE,H⟩:=aC H
  refine Rh hN [B Sn] (.c1 (iF.au amE).c) ?_
  cases H
  exact Rt dR
 refine Cf (bn SC)<|Sk<|Sw<|Rg hN ?_
 cases H
 exact Rt dR
def iM.j0:Nat→Bool→Int→Int→Bool→ByteArray→List Int→Option (Bool)
 | 0,_,_,_,_,_,_=>none
 | k+1,x20,x1000,ah,aA,av,dQ=>if x20=true then (some false) else (if aA=true then (if av.toList=([]:List UInt8) then (if x1000=0 then (if ah=16 then (some true) else (some (ah == 17))) else (some true)) else (some false)) else (if (dQ.length:Int)=0 then (if x1000=0 then ((mh.f k ah av).bind fun Ko=>(some Ko)) else (some true)) else (some false)))
def iM.f (k:Nat) (aJ:Int) (bN:Int) (dB:Bool) (cB:ByteArray) (iB:List Int):Option (Bool):=if aJ < 0 then (iM.j0 k true aJ bN dB cB iB) else (if aJ > 3 then (iM.j0 k true aJ bN dB cB iB) else (if bN < 0 then (iM.j0 k true aJ bN dB cB iB) else (iM.j0 k (decide (bN > 2097151)) aJ bN dB cB iB)))
theorem iM.au {k:Nat} {aJ:Int} {bN:Int} {dB:Bool} {cB:ByteArray} {iB:List Int} {r:(Bool)} (H:iM.f k aJ bN dB cB iB=some r):aQ Tryz.prog 116 [.agg [I aJ,I bN,B dB,S cB,.row none 1 (List.map I iB)]] (B r):=by
 refine Cg Tryz.func116 rfl fun C hN hL=>?_
 unfold iM.f at H
 refine Sw<|Rg hN<|Sw<|Sw<|Good.cut (fun st=>∃ n':Nat,n'≤k∧∃ (x20:Bool) (x1000:Int) (ah:Int) (aA:Bool) (av:ByteArray) (dQ:List Int),Wk C st ⟨[(1,.d (.ptr 0 0)),(20,.w (B x20))],[.cells [.v (I x1000),.v (I ah),.v (B aA),.v (S av),.v (.row none 1 (List.map I dQ))]]⟩∧iM.j0 n' x20 x1000 ah aA av dQ=some r) ?_ ?_
 ·rcases aj H with ⟨Be,H⟩ | ⟨Be,H⟩
  ·exact Rh hN [B true,B true,B true] (.c3 (dt Be) (rfl:true=true) (rfl:true=true))<|⟨k,by omega,true,aJ,bN,dB,cB,iB,Wo [(1,0),(20,0)],H⟩
  rcases aj H with ⟨F7,H⟩ | ⟨F7,H⟩
  ·exact Rh hN [B false,B true,B true] (.c3 (df Be) (dt F7) (rfl:true=true))<|⟨k,by omega,true,aJ,bN,dB,cB,iB,Wo [(1,0),(20,0)],H⟩
  rcases aj H with ⟨SE,H⟩ | ⟨SE,H⟩
  ·exact Rh hN [B false,B false,B true] (.c3 (df Be) (df F7) (dt SE))<|⟨k,by omega,true,aJ,bN,dB,cB,iB,Wo [(1,0),(20,0)],H⟩
  exact Rh hN [B false,B false,B false] (.c3 (df Be) (df F7) (df SE))<|⟨k,by omega,decide (bN > 2097151),aJ,bN,dB,cB,iB,Wo [(1,0),(20,0)],H⟩
 clear H
 rintro st ⟨n',hn',x20,x1000,ah,aA,av,dQ,W,H⟩
 rcases n' with _ | k
 ·cases H
 refine W.good ?_
 rw [iM.j0] at H
 rcases aj H with ⟨SF,H⟩ | ⟨SF,H⟩
 ·refine Ct SF<|Sw<|Rg hN ?_
  cases H
  exact Rt dR
 refine Cf (bf SF)<|Sk<|Sw<|Sw<|Rg hN ?_
 rcases (aj H).symm with ⟨SG,H⟩ | ⟨SG,H⟩
 ·refine Cf (bf SG)<|Sk<|Sw ?_
  rcases (aj H).symm with ⟨Dj,H⟩ | ⟨Dj,H⟩
  ·refine Rh hN [I (dQ.length:Int),B false] (.c2 (aT I dQ) (bn Dj)) ?_
   cases H
   exact Rt dR
  rcases (aj H).symm with ⟨Kq,H⟩ | ⟨Kq,H⟩
  ·refine Rh hN [I (dQ.length:Int),B true,B true] (.c3 (aT I dQ) (bq Dj) (nq Kq)) ?_
   cases H
   exact Rt dR
  obtain ⟨Ko,ag2,H⟩:=aC H
  refine Rh hN [I (dQ.length:Int),B true,B false,B Ko] (.c4 (aT I dQ) (bq Dj) (bM Kq) (mh.au ag2).c) ?_
  cases H
  exact Rt dR
 refine Ct SG<|Sw ?_
 rcases (aj H).symm with ⟨y9,H⟩ | ⟨y9,H⟩
 ·refine Ri hN [B false] (.c2 (eP (rfl:av.toList=av.toList) (dV ([]:List UInt8))) (bn y9)) [(25,.bool (av.toList == ([]:List UInt8)))] ?_
  cases H
  exact Rt dR
 rcases (aj H).symm with ⟨Dk,H⟩ | ⟨Dk,H⟩
 ·refine Ri hN [B true,B true,B true] (.c4 (eP (rfl:av.toList=av.toList) (dV ([]:List UInt8))) (bq y9) (nq Dk) (rfl:true=true)) [(25,.bool (av.toList == ([]:List UInt8)))] ?_
  cases H
  exact Rt dR
 rcases aj H with ⟨Kr,H⟩ | ⟨Kr,H⟩
 ·refine Ri hN [B true,B false,B true] (.c4 (eP (rfl:av.toList=av.toList) (dV ([]:List UInt8))) (bq y9) (bM Dk) (bq Kr)) [(25,.bool (av.toList == ([]:List UInt8)))] ?_
  cases H
  exact Rt dR
 refine Ri hN [B true,B false,B false] (.c4 (eP (rfl:av.toList=av.toList) (dV ([]:List UInt8))) (bq y9) (bM Dk) (bn Kr)) [(25,.bool (av.toList == ([]:List UInt8)))] ?_
 cases H
 exact Rt dR
mutual
def fo.j0:Nat→List af→Int→Int→Bool→Option (Int)
 | 0,_,_,_,_=>none
 | k+1,x0,x1,x2,x24=>if x24=true then (some (-1)) else (fo.l0 k x0 x1 x2 (wrap64 (x1+1)) 0)
def fo.l0:Nat→List af→Int→Int→Int→Int→Option (Int)
 | 0,_,_,_,_,_=>none
 | k+1,x0,x1,x2,x7,x8=>if 0≤x1 then (if x1 < (x0.length:Int) then (if x8 < (((aa x0 x1).f4).length:Int) then (if 0≤x8 then (if (rd ((aa x0 x1).f4) x8)=x7 then ((fo.f k x0 x7 (wrap64 (x2+1))).bind fun za=>(if za < 0 then (some (-1)) else (fo.l0 k x0 x1 x2 za (wrap64 (x8+1))))) else (some (-1))) else (none)) else (some x7)) else (none)) else (none)
def fo.f:Nat→List af→Int→Int→Option (Int)
 | 0,_,_,_=>none
 | k+1,l0,a1,a2=>if a1≥(l0.length:Int) then (fo.j0 k l0 a1 a2 true) else (if a2 > 16 then (fo.j0 k l0 a1 a2 true) else (if 0≤a1 then (if a1 < (l0.length:Int) then ((iM.f k ((aa l0 a1).f0) ((aa l0 a1).f1) ((aa l0 a1).f2) ((aa l0 a1).f3) ((aa l0 a1).f4)).bind fun Dl=>(fo.j0 k l0 a1 a2 (!Dl))) else (none)) else (none)))
end
theorem fo.cons:∀ n k (l0:List af) (a1:Int) (a2:Int) (r:(Int)),k≤n→fo.f k l0 a1 a2=some r→aQ Tryz.prog 79 [.row none 5 (List.map (v55 0) l0),I a1,I a2] (I r):=by
 intro n
 induction n with
 | zero =>
  intro k l0 a1 a2 r hk H
  rcases k with _ | k
  ·cases H
  ·omega
 | succ n ih =>
  intro k l0 a1 a2 r hk H
  rcases k with _ | k
  ·cases H
  rw [fo.f] at H
  refine GQ Tryz.func79 rfl (by kernel_rfl) (by kernel_rfl) fun C hN hL=>?_
  refine Good.seq ?_
  refine Good.reg hN [] .nil [] (by kernel_rfl) ?_
  refine Good.seq ?_
  refine Good.seq ?_
  refine Good.cut (fun st=>∃ n':Nat,n'≤k∧∃ (x0:List af) (x1:Int) (x2:Int) (x24:Bool),Wk C st ⟨[(0,.d (.v (.row none 5 (List.map (v55 0) x0)))),(1,.d (.v (I x1))),(2,.d (.v (I x2))),(24,.d (.v (B x24)))],[]⟩∧fo.j0 n' x0 x1 x2 x24=some r) ?_ ?_
  ·rcases aj H with ⟨Dm,H⟩ | ⟨Dm,H⟩
   ·refine Good.reg hN [I (l0.length:Int),B true,B true] (.cons (aT (v55 0) l0) (.cons (decide_eq_true Dm) (.cons (rfl:true=true) .nil))) [] (by kernel_rfl) ?_
    exact ⟨k,by omega,l0,a1,a2,true,Wk.of [(0,0),(1,0),(2,0),(24,0)] (by kernel_rfl) (by kernel_rfl),H⟩
   rcases aj H with ⟨Kt,H⟩ | ⟨Kt,H⟩
   ·refine Good.reg hN [I (l0.length:Int),B false,B true] (.cons (aT (v55 0) l0) (.cons (decide_eq_false Dm) (.cons (decide_eq_true Kt) .nil))) [] (by kernel_rfl) ?_
    exact ⟨k,by omega,l0,a1,a2,true,Wk.of [(0,0),(1,0),(2,0),(24,0)] (by kernel_rfl) (by kernel_rfl),H⟩
   obtain ⟨XW,H⟩:=ax H
   obtain ⟨ag3,H⟩:=ax H
   obtain ⟨Dl,ag4,H⟩:=aC H
   refine Good.reg hN [I (l0.length:Int),B false,B false,(v55 0) (aa l0 a1),B Dl] (.cons (aT (v55 0) l0) (.cons (decide_eq_false Dm) (.cons (decide_eq_false Kt) (.cons XW (.cons (aF (v55 0) z55 XW ag3) (.cons (iM.au ag4).c .nil)))))) [] (by kernel_rfl) ?_
   exact ⟨k,by omega,l0,a1,a2,!Dl,Wk.of [(0,0),(1,0),(2,0),(24,0)] (by kernel_rfl) (by kernel_rfl),H⟩
  clear H
  rintro st ⟨n',hn',x0,x1,x2,x24,W,H⟩
  rcases n' with _ | k
  ·cases H
  refine W.good ?_
  rw [fo.j0] at H
  rcases aj H with ⟨Ku,H⟩ | ⟨Ku,H⟩
  ·refine Good.kF Ku (by kernel_rfl) ?_
   refine Good.seq ?_
   refine Good.reg hN [] .nil [] (by kernel_rfl) ?_
   obtain rfl:=Option.some.inj H
   exact Good.ret (fin.pV (by kernel_rfl))
  refine Good.kG (Bool.eq_false_iff.2 Ku) (by kernel_rfl) ?_
  refine Good.skip ?_
  refine Good.seq ?_
  refine Good.reg hN [] .nil [] (by kernel_rfl) ?_
  refine Good.seq ?_
  refine Good.seq ?_
  refine Good.reg hN [] .nil [] (by kernel_rfl) ?_
  refine Good.block ?_
  refine Good.dN (fun k' st=>∃ (x0:List af) (x1:Int) (x2:Int) (x7:Int) (x8:Int),k'≤k∧Wk C st ⟨[(0,.d (.v (.row none 5 (List.map (v55 0) x0)))),(1,.d (.v (I x1))),(2,.d (.v (I x2))),(7,.d (.v (I x7))),(8,.d (.v (I x8)))],[]⟩∧fo.l0 k' x0 x1 x2 x7 x8=some r) k ⟨x0,x1,x2,wrap64 (x1+1),0,Nat.le_refl _,Wk.of [(0,0),(1,0),(2,0),(7,0),(8,0)] (by kernel_rfl) (by kernel_rfl),H⟩ fun k=>⟨fun st h=>(by obtain ⟨_,_,_,_,_,_,_,H⟩:=h;cases H),?_⟩
  clear H
  rintro st ⟨x0,x1,x2,x7,x8,hk,W,H⟩
  refine W.good ?_
  rw [fo.l0] at H
  refine Good.seq ?_
  refine Good.seq ?_
  obtain ⟨Dn,H⟩:=ax H
  obtain ⟨XX,H⟩:=ax H
  refine Good.reg hN [(v55 0) (aa x0 x1),I (((aa x0 x1).f4).length:Int)] (.cons Dn (.cons (aF (v55 0) z55 Dn XX) (.cons (aT I ((aa x0 x1).f4)) .nil))) [] (by kernel_rfl) ?_
  rcases (aj H).symm with ⟨Dp,H⟩ | ⟨Dp,H⟩
  ·refine Good.kG (decide_eq_false Dp) (by kernel_rfl) ?_
   refine Good.exit ?_
   refine Good.seq ?_
   refine Good.reg hN [] .nil [] (by kernel_rfl) ?_
   obtain rfl:=Option.some.inj H
   exact Good.ret (fin.pV (by kernel_rfl))
  refine Good.kF (decide_eq_true Dp) (by kernel_rfl) ?_
  refine Good.skip ?_
  refine Good.seq ?_
  refine Good.block ?_
  refine Good.seq ?_
  refine Good.seq ?_
  obtain ⟨XY,H⟩:=ax H
  refine Good.reg hN [(v55 0) (aa x0 x1),I (rd ((aa x0 x1).f4) x8)] (.cons Dn (.cons (aF (v55 0) z55 Dn XX) (.cons XY (.cons (aF I (0:Int) XY Dp) .nil)))) [] (by kernel_rfl) ?_
  rcases (aj H).symm with ⟨Kv,H⟩ | ⟨Kv,H⟩
  ·refine Good.kF (bne_iff_ne.2 Kv) (by kernel_rfl) ?_
   refine Good.seq ?_
   refine Good.reg hN [] .nil [] (by kernel_rfl) ?_
   obtain rfl:=Option.some.inj H
   exact Good.ret (fin.pV (by kernel_rfl))
  refine Good.kG (bM Kv) (by kernel_rfl) ?_
  refine Good.skip ?_
  refine Good.seq ?_
  obtain ⟨za,ag5,H⟩:=aC H
  refine Good.reg hN [I za] (.cons (ih _ _ _ _ _ (by omega) ag5).c .nil) [] (by kernel_rfl) ?_
  refine Good.seq ?_
  refine Good.reg hN [] .nil [] (by kernel_rfl) ?_
  rcases (aj H).symm with ⟨Kw,H⟩ | ⟨Kw,H⟩
  ·refine Good.kG (decide_eq_false Kw) (by kernel_rfl) ?_
   refine Good.skip ?_
   refine Good.reg hN [] .nil [] (by kernel_rfl) ?_
   exact ⟨k,by omega,x0,x1,x2,za,wrap64 (x8+1),by omega,Wk.of [(0,0),(1,0),(2,0),(7,0),(8,0)] (by kernel_rfl) (by kernel_rfl),H⟩
  refine Good.kF (decide_eq_true Kw) (by kernel_rfl) ?_
  refine Good.seq ?_
  refine Good.reg hN [] .nil [] (by kernel_rfl) ?_
  obtain rfl:=Option.some.inj H
  exact Good.ret (fin.pV (by kernel_rfl))
theorem fo.au {k:Nat} {l0:List af} {a1:Int} {a2:Int} {r:(Int)} (H:fo.f k l0 a1 a2=some r):aQ Tryz.prog 79 [.row none 5 (List.map (v55 0) l0),I a1,I a2] (I r):=fo.cons k k l0 a1 a2 r (Nat.le_refl _) H
def mP.f (k:Nat) (l0:List af):Option (Bool):=if (l0.length:Int) > 0 then (if (l0.length:Int)≤1000 then ((fo.f k l0 0 1).bind fun Ky=>(some (Ky == (l0.length:Int)))) else (some false)) else (some false)
theorem mP.au {k:Nat} {l0:List af} {r:(Bool)} (H:mP.f k l0=some r):aQ Tryz.prog 46 [.row none 5 (List.map (v55 0) l0)] (B r):=by
 refine Cg Tryz.func46 rfl fun C hN hL=>?_
 unfold mP.f at H
 refine Sw<|Rg hN<|Sw ?_
 rcases (aj H).symm with ⟨Dq,H⟩ | ⟨Dq,H⟩
 ·refine Rh hN [I (l0.length:Int),B false,B false] (.c3 (aT (v55 0) l0) (df Dq) (rfl:false=false)) ?_
  cases H
  exact Rt dR
 rcases (aj H).symm with ⟨Kz,H⟩ | ⟨Kz,H⟩
 ·refine Rh hN [I (l0.length:Int),B true,I (l0.length:Int),B false] (.c4 (aT (v55 0) l0) (dt Dq) (aT (v55 0) l0) (df Kz)) ?_
  cases H
  exact Rt dR
 obtain ⟨Ky,ag6,H⟩:=aC H
 refine Rh hN [I (l0.length:Int),B true,I (l0.length:Int),B true,I Ky,I (l0.length:Int)] (.c6 (aT (v55 0) l0) (dt Dq) (aT (v55 0) l0) (dt Kz) (fo.au ag6).c (aT (v55 0) l0)) ?_
 cases H
 exact Rt dR
def uj.f (aJ:Int) (bN:Int) (dB:Bool) (cB:Int):Option (Bool):=if aJ≥0 then (if aJ < 4 then (if bN≥0 then (if bN≤2097151 then (if cB≥0 then (some (decide (cB≤65535))) else (some false)) else (some false)) else (some false)) else (some false)) else (some false)
theorem uj.au {aJ:Int} {bN:Int} {dB:Bool} {cB:Int} {r:(Bool)} (H:uj.f aJ bN dB cB=some r):aQ Tryz.prog 117 [.agg [I aJ,I bN,B dB,I cB]] (B r):=by
 refine Cg Tryz.func117 rfl fun C hN hL=>?_
 unfold uj.f at H
 refine Sw<|Rg hN<|Sw ?_
 rcases (aj H).symm with ⟨uG,H⟩ | ⟨uG,H⟩
 ·refine Rh hN [B false,B false,B false,B false,B false] (.c5 (df uG) (rfl:false=false) (rfl:false=false) (rfl:false=false) (rfl:false=false)) ?_
  cases H
  exact Rt dR
 rcases (aj H).symm with ⟨wD,H⟩ | ⟨wD,H⟩
 ·refine Rh hN [B true,B false,B false,B false,B false] (.c5 (dt uG) (df wD) (rfl:false=false) (rfl:false=false) (rfl:false=false)) ?_
  cases H
  exact Rt dR
 rcases (aj H).symm with ⟨zb,H⟩ | ⟨zb,H⟩
 ·refine Rh hN [B true,B true,B false,B false,B false] (.c5 (dt uG) (dt wD) (df zb) (rfl:false=false) (rfl:false=false)) ?_
  cases H
  exact Rt dR
 rcases (aj H).symm with ⟨Dr,H⟩ | ⟨Dr,H⟩
 ·refine Rh hN [B true,B true,B true,B false,B false] (.c5 (dt uG) (dt wD) (dt zb) (df Dr) (rfl:false=false)) ?_
  cases H
  exact Rt dR
 rcases aj H with ⟨KA,H⟩ | ⟨KA,H⟩
 ·refine Rh hN [B true,B true,B true,B true,B true] (.c5 (dt uG) (dt wD) (dt zb) (dt Dr) (dt KA)) ?_
  cases H
  exact Rt dR
 refine Rh hN [B true,B true,B true,B true,B false] (.c5 (dt uG) (dt wD) (dt zb) (dt Dr) (df KA)) ?_
 cases H
 exact Rt dR
def jC.l0:Nat→Int→ByteArray→Option (ByteArray)
 | 0,_,_=>none
 | k+1,x0,x3=>if x0 > 0 then (if (strOfNums ([(wrap64 (128+(Int.tmod x0 128))) % 256]:List Int)).size+x3.size≤9223372036854775807 then (jC.l0 k (wrap64 (Int.tdiv x0 128)) ((strOfNums ([(wrap64 (128+(Int.tmod x0 128))) % 256]:List Int))++x3)) else (none)) else (some x3)
def jC.f (k:Nat) (a0:Int):Option (ByteArray):=jC.l0 k (wrap64 (Int.tdiv a0 128)) (strOfNums ([(Int.tmod a0 128) % 256]:List Int))
theorem jC.au {k:Nat} {a0:Int} {r:(ByteArray)} (H:jC.f k a0=some r):aQ Tryz.prog 118 [I a0] (S r):=by
 refine Cg Tryz.func118 rfl fun C hN hL=>?_
 unfold jC.f at H
 refine Sw<|Rg hN<|Sw<|Rh hN [S (strOfNums ([(Int.tmod a0 128) % 256]:List Int))] (.c2 (show (128:Int)≠0 by decide) (lg ([(Int.tmod a0 128) % 256]:List Int)))<|Sw<|Rh hN [] (.c1 (show (128:Int)≠0 by decide))<|Sw<|Bl<|Good.dN (fun k' st=>∃ (x0:Int) (x3:ByteArray),k'≤k∧Wk C st ⟨[(0,.w (I x0)),(3,.w (S x3))],[]⟩∧jC.l0 k' x0 x3=some r) k ⟨wrap64 (Int.tdiv a0 128),strOfNums ([(Int.tmod a0 128) % 256]:List Int),Nat.le_refl _,Wo [(0,0),(3,0)],H⟩ fun k=>⟨fun st h=>(by obtain ⟨_,_,_,_,H⟩:=h;cases H),?_⟩
 clear H
 rintro st ⟨x0,x3,hk,W,H⟩
 refine W.good ?_
 rw [jC.l0] at H
 refine Sw<|Sw<|Rg hN ?_
 rcases (aj H).symm with ⟨KC,H⟩ | ⟨KC,H⟩
 ·refine Cf (df KC)<|Ex<|Sw<|Rg hN ?_
  cases H
  exact Rt dR
 refine Ct (dt KC)<|Sk<|Bl<|Sw ?_
 obtain ⟨ag7,H⟩:=ax H
 exact Rh hN [S (strOfNums ([(wrap64 (128+(Int.tmod x0 128))) % 256]:List Int))] (.c3 (show (128:Int)≠0 by decide) (lg ([(wrap64 (128+(Int.tmod x0 128))) % 256]:List Int)) ag7)<|Rh hN [] (.c1 (show (128:Int)≠0 by decide))<|⟨k,by omega,wrap64 (Int.tdiv x0 128),(strOfNums ([(wrap64 (128+(Int.tmod x0 128))) % 256]:List Int))++x3,by omega,Wo [(0,0),(3,0)],H⟩
def gJ.j1:Nat→ByteArray→Int→Option (ByteArray × Int)
 | 0,_,_=>none
 | k+1,x5,av=>if av < 128 then (if x5.size+(strOfNums ([(av) % 256]:List Int)).size≤9223372036854775807 then (some (x5++(strOfNums ([(av) % 256]:List Int)),0)) else (none)) else (if av < 256 then (if x5.size+1≤9223372036854775807 then ((fF.f k (IntKind.u64.wrap (av)) 1).bind fun Dt=>(if (x5++(⟨#[129]⟩:ByteArray)).size+Dt.size≤9223372036854775807 then (some ((x5++(⟨#[129]⟩:ByteArray))++Dt,0)) else (none))) else (none)) else (if x5.size+1≤9223372036854775807 then ((fF.f k (IntKind.u64.wrap (av)) 2).bind fun Du=>(if (x5++(⟨#[130]⟩:ByteArray)).size+Du.size≤9223372036854775807 then (some ((x5++(⟨#[130]⟩:ByteArray))++Du,0)) else (none))) else (none)))
def gJ.j0:Nat→Int→Int→Int→Option (ByteArray × Int)
 | 0,_,_,_=>none
 | k+1,x4,ah,av=>if ah < 31 then (gJ.j1 k (strOfNums ([(wrap64 (x4+ah)) % 256]:List Int)) av) else ((jC.f k ah).bind fun rP=>(if (strOfNums ([(wrap64 (x4+31)) % 256]:List Int)).size+rP.size≤9223372036854775807 then (gJ.j1 k ((strOfNums ([(wrap64 (x4+31)) % 256]:List Int))++rP) av) else (none)))
def gJ.f (k:Nat) (aJ:Int) (bN:Int) (dB:Bool) (cB:Int):Option (ByteArray × Int):=(uj.f aJ bN dB cB).bind fun KD=>(if KD=true then (if dB=true then (gJ.j0 k (wrap64 ((wrap64 (64*aJ))+32)) bN cB) else (gJ.j0 k (wrap64 (64*aJ)) bN cB)) else (some ((⟨#[]⟩:ByteArray),1)))
theorem gJ.au {k:Nat} {aJ:Int} {bN:Int} {dB:Bool} {cB:Int} {r:(ByteArray × Int)} (H:gJ.f k aJ bN dB cB=some r):aQ Tryz.prog 80 [.agg [I aJ,I bN,B dB,I cB]] (.aD [S r.1,I r.2]):=by
 refine Cg Tryz.func80 rfl fun C hN hL=>?_
 unfold gJ.f at H
 refine Sw<|Rg hN<|Sw<|Sw ?_
 obtain ⟨KD,ag8,H⟩:=aC H
 refine Rh hN [B KD] (.c1 (uj.au ag8).c) ?_
 rcases (aj H).symm with ⟨KE,H⟩ | ⟨KE,H⟩
 ·refine Ct (eB (bf KE))<|Sw<|Rg hN ?_
  cases H
  exact Rt dR
 refine Cf (fw KE)<|Sk<|Sw<|Rg hN<|Sw<|Sw<|Rg hN<|Good.cut (fun st=>∃ n':Nat,n'≤k∧∃ (x4:Int) (x1000:Int) (ah:Int) (aA:Bool) (av:Int),Wk C st ⟨[(1,.d (.ptr 0 0)),(4,.w (I x4))],[.cells [.v (I x1000),.v (I ah),.v (B aA),.v (I av)]]⟩∧gJ.j0 n' x4 ah av=some r) ?_ ?_
 ·rcases aj H with ⟨KF,H⟩ | ⟨KF,H⟩
  ·exact Ct KF<|Rg hN<|⟨k,by omega,wrap64 ((wrap64 (64*aJ))+32),aJ,bN,dB,cB,Wo [(1,0),(4,0)],H⟩
  exact Cf (bf KF)<|Sk<|⟨k,by omega,wrap64 (64*aJ),aJ,bN,dB,cB,Wo [(1,0),(4,0)],H⟩
 clear H
 rintro st ⟨n',hn',x4,x1000,ah,aA,av,W,H⟩
 rcases n' with _ | k
 ·cases H
 refine W.good ?_
 rw [gJ.j0] at H
 refine Sw<|Rg hN<|Sw<|Sw<|Rg hN<|Good.cut (fun st=>∃ n':Nat,n'≤k∧∃ (x5:ByteArray) (x1000:Int) (ah:Int) (aA:Bool) (av:Int),Wk C st ⟨[(1,.d (.ptr 0 0)),(5,.w (S x5))],[.cells [.v (I x1000),.v (I ah),.v (B aA),.v (I av)]]⟩∧gJ.j1 n' x5 av=some r) ?_ ?_
 ·rcases aj H with ⟨KG,H⟩ | ⟨KG,H⟩
  ·exact Ct (dt KG)<|Rh hN [S (strOfNums ([(wrap64 (x4+ah)) % 256]:List Int))] (.c1 (lg ([(wrap64 (x4+ah)) % 256]:List Int)))<|⟨k,by omega,strOfNums ([(wrap64 (x4+ah)) % 256]:List Int),x1000,ah,aA,av,Wo [(1,0),(5,0)],H⟩
  refine Cf (df KG) ?_
  obtain ⟨rP,KH,H⟩:=aC H
  obtain ⟨wE,H⟩:=ax H
  exact Rb 3 hm hN hL (.qs 3 0 (.q 5 [] (.q 6 [] (.b 3 [] [] (.b 4 [S (strOfNums ([(wrap64 (x4+31)) % 256]:List Int)),S rP] [] (.e 7 (.q 8 [] (.q 9 [] .z))) [S rP,S (strOfNums ([(wrap64 (x4+31)) % 256]:List Int))] [] (.e 7 (.e 4 (.q 8 [] (.q 9 [] .z))))) [S rP,S (strOfNums ([(wrap64 (x4+31)) % 256]:List Int))] [] (.e 7 (.e 3 (.e 4 (.q 8 [] (.q 9 [] .z))))))))) [(1,some (.pt [I x1000,I ah,B aA,I av])),(4,none)] (.c1 (bJ (ay (rfl:(V.shr (I x1000))=I x1000) (ay (rfl:(V.shr (I ah))=I ah) (ay (rfl:(V.shr (B aA))=B aA) (ay (rfl:(V.shr (I av))=I av) (rfl:aX []=[]))))))) [] [] (.cons (.c3 (lg ([(wrap64 (x4+31)) % 256]:List Int)) (jC.au KH).c wE) (.c1 wE) (.cons (.c3 (jC.au KH).c (lg ([(wrap64 (x4+31)) % 256]:List Int)) wE) (.c1 wE) (.cons (.c3 (jC.au KH).c (lg ([(wrap64 (x4+31)) % 256]:List Int)) wE) (.c1 wE) .nil))) [] [] [[],[],[]] [(1,0),(5,0)] [(1,.d (.ptr 0 0)),(5,.w (S ((strOfNums ([(wrap64 (x4+31)) % 256]:List Int))++rP)))] [.cells [.v (I x1000),.v (I ah),.v (B aA),.v (I av)]]<|⟨k,by omega,(strOfNums ([(wrap64 (x4+31)) % 256]:List Int))++rP,x1000,ah,aA,av,Wo [(1,0),(5,0)],H⟩
 clear H
 rintro st ⟨n',hn',x5,x1000,ah,aA,av,W,H⟩
 rcases n' with _ | k
 ·cases H
 refine W.good ?_
 rw [gJ.j1] at H
 refine Sw<|Sw<|Rg hN ?_
 rcases aj H with ⟨KI,H⟩ | ⟨KI,H⟩
 ·refine Ct (dt KI)<|Sw ?_
  obtain ⟨ag9,H⟩:=ax H
  refine Rh hN [S (strOfNums ([(av) % 256]:List Int))] (.c2 (lg ([(av) % 256]:List Int)) ag9) ?_
  cases H
  exact Rt dR
 refine Cf (df KI)<|Sk<|Sw<|Sw<|Rg hN ?_
 rcases aj H with ⟨KJ,H⟩ | ⟨KJ,H⟩
 ·refine Ct (dt KJ)<|Sw ?_
  obtain ⟨aha,H⟩:=ax H
  obtain ⟨Dt,ahb,H⟩:=aC H
  obtain ⟨ahc,H⟩:=ax H
  refine Rh hN [S Dt] (.c3 aha (fF.au ahb).c ahc) ?_
  cases H
  exact Rt dR
 refine Cf (df KJ)<|Sk<|Sw ?_
 obtain ⟨ahd,H⟩:=ax H
 obtain ⟨Du,ahe,H⟩:=aC H
 obtain ⟨ahf,H⟩:=ax H
 refine Rh hN [S Du] (.c3 ahd (fF.au ahe).c ahf) ?_
 cases H
 exact Rt dR
mutual
def iV.l0:Nat→List af→Int→ByteArray→Int→Option (ByteArray × Bool)
 | 0,_,_,_,_=>none
 | k+1,x0,x1,x6,x7=>if 0≤x1 then (if x1 < (x0.length:Int) then (if x7 < (((aa x0 x1).f4).length:Int) then (if 0≤x7 then ((iV.f k x0 (rd ((aa x0 x1).f4) x7)).bind fun rQ=>(if x6.size+rQ.1.size≤9223372036854775807 then (if rQ.2=true then (if ((x6++rQ.1).size:Int) > 65535 then (some ((⟨#[]⟩:ByteArray),false)) else (iV.l0 k x0 x1 (x6++rQ.1) (wrap64 (x7+1)))) else (some ((⟨#[]⟩:ByteArray),false))) else (none))) else (none)) else ((gJ.f k ((aa x0 x1).f0) ((aa x0 x1).f1) ((aa x0 x1).f2) (x6.size:Int)).bind fun rR=>(if rR.1.size+x6.size≤9223372036854775807 then (if rR.2=0 then (some (rR.1++x6,decide ((wrap64 ((rR.1.size:Int)+(x6.size:Int)))≤65535))) else (some (rR.1++x6,false))) else (none)))) else (none)) else (none)
def iV.f:Nat→List af→Int→Option (ByteArray × Bool)
 | 0,_,_=>none
 | k+1,l0,a1=>if 0≤a1 then (if a1 < (l0.length:Int) then (iV.l0 k l0 a1 ((aa l0 a1).f3) 0) else (none)) else (none)
end
theorem iV.cons:∀ n k (l0:List af) (a1:Int) (r:(ByteArray × Bool)),k≤n→iV.f k l0 a1=some r→aQ Tryz.prog 47 [.row none 5 (List.map (v55 0) l0),I a1] (.aD [S r.1,B r.2]):=by
 intro n
 induction n with
 | zero =>
  intro k l0 a1 r hk H
  rcases k with _ | k
  ·cases H
  ·omega
 | succ n ih =>
  intro k l0 a1 r hk H
  rcases k with _ | k
  ·cases H
  rw [iV.f] at H
  refine GQ Tryz.func47 rfl (by kernel_rfl) (by kernel_rfl) fun C hN hL=>?_
  refine Good.seq ?_
  refine Good.reg hN [] .nil [] (by kernel_rfl) ?_
  refine Good.seq ?_
  obtain ⟨XZ,H⟩:=ax H
  obtain ⟨ahg,H⟩:=ax H
  refine Good.reg hN [(v55 0) (aa l0 a1)] (.cons XZ (.cons (aF (v55 0) z55 XZ ahg) .nil)) [] (by kernel_rfl) ?_
  refine Good.seq ?_
  refine Good.seq ?_
  refine Good.reg hN [] .nil [] (by kernel_rfl) ?_
  refine Good.block ?_
  refine Good.dN (fun k' st=>∃ (x0:List af) (x1:Int) (x6:ByteArray) (x7:Int),k'≤k∧Wk C st ⟨[(0,.d (.v (.row none 5 (List.map (v55 0) x0)))),(1,.d (.v (I x1))),(6,.d (.v (S x6))),(7,.d (.v (I x7)))],[]⟩∧iV.l0 k' x0 x1 x6 x7=some r) k ⟨l0,a1,(aa l0 a1).f3,0,Nat.le_refl _,Wk.of [(0,0),(1,0),(6,0),(7,0)] (by kernel_rfl) (by kernel_rfl),H⟩ fun k=>⟨fun st h=>(by obtain ⟨_,_,_,_,_,_,H⟩:=h;cases H),?_⟩
  clear H
  rintro st ⟨x0,x1,x6,x7,hk,W,H⟩
  refine W.good ?_
  rw [iV.l0] at H
  refine Good.seq ?_
  refine Good.seq ?_
  obtain ⟨kY,H⟩:=ax H
  obtain ⟨rT,H⟩:=ax H
  refine Good.reg hN [(v55 0) (aa x0 x1),I (((aa x0 x1).f4).length:Int)] (.cons kY (.cons (aF (v55 0) z55 kY rT) (.cons (aT I ((aa x0 x1).f4)) .nil))) [] (by kernel_rfl) ?_
  rcases (aj H).symm with ⟨Dv,H⟩ | ⟨Dv,H⟩
  ·refine Good.kG (decide_eq_false Dv) (by kernel_rfl) ?_
   refine Good.exit ?_
   refine Good.seq ?_
   obtain ⟨rR,ahh,H⟩:=aC H
   refine Good.uF hm hN (.q 0 [] (.q 1 [] (.q 2 [] (.q 3 [] (.q 4 [] (.q 5 [] (.q 6 [] (.q 7 [] (.q 8 [] (.q 9 [] (.q 10 [] (.q 11 [] (.q 12 [] (.q 13 [] (.q 14 [] (.q 15 [] (.q 16 [] (.q 17 [] (.e 18 (.q 19 [] (.q 20 [] (.q 21 [] (.q 22 [] (.q 23 [] .z)))))))))))))))))))))))) [(0,none),(1,none),(6,none)] (by kernel_rfl) .nil [(v55 0) (aa x0 x1),(v55 0) (aa x0 x1),(v55 0) (aa x0 x1),.aD [S rR.1,I rR.2]] [(v55 0) (aa x0 x1),(v55 0) (aa x0 x1),(v55 0) (aa x0 x1)] (.cons kY (.cons (aF (v55 0) z55 kY rT) (.cons kY (.cons (aF (v55 0) z55 kY rT) (.cons kY (.cons (aF (v55 0) z55 kY rT) (.cons (gJ.au ahh).c .nil))))))) (.cons kY (.cons (aF (v55 0) z55 kY rT) (.cons kY (.cons (aF (v55 0) z55 kY rT) (.cons kY (.cons (aF (v55 0) z55 kY rT) .nil)))))) [] [] (by kernel_rfl) (by kernel_rfl) ?_
   refine Good.seq ?_
   obtain ⟨X0,H⟩:=ax H
   rcases aj H with ⟨KL,H⟩ | ⟨KL,H⟩
   ·refine Good.reg hN [B true] (.cons X0 (.cons (beq_iff_eq.2 KL) .nil)) [] (by kernel_rfl) ?_
    obtain rfl:=Option.some.inj H
    exact Good.ret (fin.pV (by kernel_rfl))
   refine Good.reg hN [B false] (.cons X0 (.cons (beq_eq_false_iff_ne.2 KL) .nil)) [] (by kernel_rfl) ?_
   obtain rfl:=Option.some.inj H
   exact Good.ret (fin.pV (by kernel_rfl))
  refine Good.kF (decide_eq_true Dv) (by kernel_rfl) ?_
  refine Good.skip ?_
  refine Good.seq ?_
  refine Good.block ?_
  refine Good.seq ?_
  obtain ⟨X3,H⟩:=ax H
  obtain ⟨rQ,ahi,H⟩:=aC H
  refine Good.reg hN [(v55 0) (aa x0 x1),I (rd ((aa x0 x1).f4) x7),.aD [S rQ.1,B rQ.2]] (.cons kY (.cons (aF (v55 0) z55 kY rT) (.cons X3 (.cons (aF I (0:Int) X3 Dv) (.cons (ih _ _ _ _ (by omega) ahi).c .nil))))) [] (by kernel_rfl) ?_
  refine Good.seq ?_
  obtain ⟨ahj,H⟩:=ax H
  refine Good.reg hN [] (.cons ahj .nil) [] (by kernel_rfl) ?_
  refine Good.seq ?_
  rcases (aj H).symm with ⟨KM,H⟩ | ⟨KM,H⟩
  ·refine Good.reg hN [B true] (.cons (eB (Bool.eq_false_iff.2 KM)) .nil) [] (by kernel_rfl) ?_
   refine Good.cond true (by kernel_rfl) ?_
   refine Good.seq ?_
   refine Good.reg hN [] .nil [] (by kernel_rfl) ?_
   obtain rfl:=Option.some.inj H
   exact Good.ret (fin.pV (by kernel_rfl))
  refine Good.reg hN [B false] (.cons (fw KM) .nil) [] (by kernel_rfl) ?_
  rcases (aj H).symm with ⟨KN,H⟩ | ⟨KN,H⟩
  ·refine Good.kG (decide_eq_false KN) (by kernel_rfl) ?_
   refine Good.skip ?_
   refine Good.reg hN [] .nil [] (by kernel_rfl) ?_
   exact ⟨k,by omega,x0,x1,x6++rQ.1,wrap64 (x7+1),by omega,Wk.of [(0,0),(1,0),(6,0),(7,0)] (by kernel_rfl) (by kernel_rfl),H⟩
  refine Good.kF (decide_eq_true KN) (by kernel_rfl) ?_
  refine Good.seq ?_
  refine Good.reg hN [] .nil [] (by kernel_rfl) ?_
  obtain rfl:=Option.some.inj H
  exact Good.ret (fin.pV (by kernel_rfl))
theorem iV.au {k:Nat} {l0:List af} {a1:Int} {r:(ByteArray × Bool)} (H:iV.f k l0 a1=some r):aQ Tryz.prog 47 [.row none 5 (List.map (v55 0) l0),I a1] (.aD [S r.1,B r.2]):=iV.cons k k l0 a1 r (Nat.le_refl _) H
def pF.f (k:Nat) (l0:List af):Option (ByteArray × Int):=(mP.f k l0).bind fun KO=>(if KO=true then ((iV.f k l0 0).bind fun zf=>(if zf.2=true then (some (zf.1,0)) else (some ((⟨#[]⟩:ByteArray),4)))) else (some ((⟨#[]⟩:ByteArray),1)))
theorem pF.au {k:Nat} {l0:List af} {r:(ByteArray × Int)} (H:pF.f k l0=some r):aQ Tryz.prog 22 [.row none 5 (List.map (v55 0) l0)] (.aD [S r.1,I r.2]):=by
 refine Cg Tryz.func22 rfl fun C hN hL=>?_
 unfold pF.f at H
 refine Sw<|Rg hN<|Sw<|Sw ?_
 obtain ⟨KO,ahk,H⟩:=aC H
 refine Rh hN [B KO] (.c1 (mP.au ahk).c) ?_
 rcases (aj H).symm with ⟨KP,H⟩ | ⟨KP,H⟩
 ·refine Ct (eB (bf KP))<|Sw<|Rg hN ?_
  cases H
  exact Rt dR
 refine Cf (fw KP)<|Sk<|Sw ?_
 obtain ⟨zf,ahl,H⟩:=aC H
 refine Rh hN [.aD [S zf.1,B zf.2]] (.c1 (iV.au ahl).c)<|Sw<|Sw<|Rg hN ?_
 rcases (aj H).symm with ⟨KQ,H⟩ | ⟨KQ,H⟩
 ·refine Ct (eB (bf KQ))<|Sw<|Rg hN ?_
  cases H
  exact Rt dR
 refine Cf (fw KQ)<|Sk<|Sw<|Rg hN ?_
 cases H
 exact Rt dR
def nD.f (k:Nat) (a0:Int) (a1:ByteArray):Option (ByteArray × Int):=(lK.f a0).bind fun KR=>(if KR=0 then (some ((⟨#[]⟩:ByteArray),8)) else ((lK.f a0).bind fun KS=>(if (a1.size:Int)=KS then ((gL.f k a0 a1).bind fun KT=>(if KT=true then ((mR.f a0).bind fun zg=>((kC.f k zg).bind fun Dw=>((qm.f 0 6 Dw.1).bind fun uH=>((fT.f k 2 0 ([uH]:List (List af))).bind fun uI=>((qm.f 0 2 (⟨#[1]⟩:ByteArray)).bind fun uJ=>((qm.f 0 4 a1).bind fun uK=>((fT.f k 0 16 ([uJ,uK,uI]:List (List af))).bind fun zh=>((pF.f k zh).bind fun zi=>(some (zi.1,zi.2)))))))))) else (some ((⟨#[]⟩:ByteArray),10)))) else (some ((⟨#[]⟩:ByteArray),9)))))
theorem nD.au {k:Nat} {a0:Int} {a1:ByteArray} {r:(ByteArray × Int)} (H:nD.f k a0 a1=some r):aQ Tryz.prog 7 [I a0,S a1] (.aD [S r.1,I r.2]):=by
 refine Cg Tryz.func7 rfl fun C hN hL=>?_
 unfold nD.f at H
 refine Sw<|Rg hN<|Sw<|Sw ?_
 obtain ⟨KR,ahm,H⟩:=aC H
 refine Rh hN [I KR] (.c1 (lK.au ahm).c) ?_
 rcases aj H with ⟨KU,H⟩ | ⟨KU,H⟩
 ·refine Ct (bq KU)<|Sw<|Rg hN ?_
  cases H
  exact Rt dR
 refine Cf (bn KU)<|Sk<|Sw<|Sw ?_
 obtain ⟨KS,ahn,H⟩:=aC H
 refine Rh hN [I KS] (.c1 (lK.au ahn).c) ?_
 rcases (aj H).symm with ⟨KV,H⟩ | ⟨KV,H⟩
 ·refine Ct (nq KV)<|Sw<|Rg hN ?_
  cases H
  exact Rt dR
 refine Cf (bM KV)<|Sk<|Sw<|Sw ?_
 obtain ⟨KT,aho,H⟩:=aC H
 refine Rh hN [B KT] (.c1 (gL.au aho).c) ?_
 rcases (aj H).symm with ⟨KW,H⟩ | ⟨KW,H⟩
 ·refine Ct (eB (bf KW))<|Sw<|Rg hN ?_
  cases H
  exact Rt dR
 refine Cf (fw KW)<|Sk<|Sw ?_
 obtain ⟨zg,ahp,H⟩:=aC H
 obtain ⟨Dw,ahq,H⟩:=aC H
 refine Rh hN [.row (some 3) 1 (List.map I zg),.row none 1 (List.map I zg),.aD [S Dw.1,B Dw.2]] (.c3 (mR.au ahp).c (aS (some 3) 1 I I zg (fun _=>rfl)) (kC.au ahq).c)<|Sw ?_
 obtain ⟨uH,ahr,H⟩:=aC H
 obtain ⟨uI,ahs,H⟩:=aC H
 refine Rh hN [.row (some 55) 5 (List.map (v55 0) uH),.row none 5 (List.map (v55 0) uH),.row none 1 (List.map (dw 0) ([uH]:List (List af))),.row (some 55) 5 (List.map (v55 1) uI)] (.c4 (qm.au ahr).c (aS (some 55) 5 (v55 0) (v55 0) uH (v55.shr _)) (aS (some 33) 1 (dw 0) (dw 0) ([uH]:List (List af)) (dw.shr _)) (fT.au ahs).c)<|Sw ?_
 obtain ⟨uJ,aht,H⟩:=aC H
 obtain ⟨uK,ahu,H⟩:=aC H
 obtain ⟨zh,ahv,H⟩:=aC H
 obtain ⟨zi,ahw,H⟩:=aC H
 refine Rh hN [.row (some 55) 5 (List.map (v55 0) uJ),.row (some 55) 5 (List.map (v55 0) uK),.row none 5 (List.map (v55 0) uJ),.row none 5 (List.map (v55 0) uK),.row none 5 (List.map (v55 0) uI),.row none 1 (List.map (dw 0) ([uJ,uK,uI]:List (List af))),.row (some 55) 5 (List.map (v55 1) zh),.row none 5 (List.map (v55 0) zh),.aD [S zi.1,I zi.2]] (.cons (qm.au aht).c (.c8 (qm.au ahu).c (aS (some 55) 5 (v55 0) (v55 0) uJ (v55.shr _)) (aS (some 55) 5 (v55 0) (v55 0) uK (v55.shr _)) (aS (some 55) 5 (v55 1) (v55 0) uI (v55.shr _)) (aS (some 33) 1 (dw 0) (dw 0) ([uJ,uK,uI]:List (List af)) (dw.shr _)) (fT.au ahv).c (aS (some 55) 5 (v55 1) (v55 0) zh (v55.shr _)) (pF.au ahw).c)) ?_
 cases H
 exact Rt dR
def gM.f (a0:Int) (a1:Int):Option (Int × Int):=some (a0,a1)
theorem gM.au {a0:Int} {a1:Int} {r:(Int × Int)} (H:gM.f a0 a1=some r):aQ Tryz.prog 94 [I a0,I a1] (.agg [I r.1,I r.2]):=by
 refine Cg Tryz.func94 rfl fun C hN hL=>?_
 unfold gM.f at H
 refine Sw<|Rg hN<|Sw<|Rg hN ?_
 cases H
 exact Rt dR
mutual
def gU.l0:Nat→ByteArray→Int→Int→Int→Bool→Int→Option (Int × Int × Bool × Int × Int)
 | 0,_,_,_,_,_,_=>none
 | k+1,x0,x6,x2000,aB,aI,aK=>if x6 < (x0.size:Int) then (gU.j1 k x0 x6 (decide (x6 < 4)) x2000 aB aI aK) else (gU.j1 k x0 x6 false x2000 aB aI aK)
def gU.j1:Nat→ByteArray→Int→Bool→Int→Int→Bool→Int→Option (Int × Int × Bool × Int × Int)
 | 0,_,_,_,_,_,_,_=>none
 | k+1,x0,x6,x34,x2000,aB,aI,aK=>if x34=true then (if 0≤x6 then (if x6 < (x0.size:Int) then (if (bt x0 x6) < 128 then (some (x2000,wrap64 ((wrap64 (128*aB))+(Int.tmod (wrap64 (bt x0 x6)) 128)),aI,aK,wrap64 (x6+1))) else (gU.l0 k x0 (wrap64 (x6+1)) x2000 (wrap64 ((wrap64 (128*aB))+(Int.tmod (wrap64 (bt x0 x6)) 128))) aI aK)) else (none)) else (none)) else (some (0,0,false,0,0))
end
def gU.f (k:Nat) (a0:ByteArray):Option (Int × Int × Bool × Int × Int):=if a0.toList=([]:List UInt8) then (some (0,0,false,0,0)) else (if 0 < (a0.size:Int) then (if (Int.tmod (wrap64 (bt a0 0)) 32) < 31 then (some (wrap64 (Int.tdiv (wrap64 (bt a0 0)) 64),Int.tmod (wrap64 (bt a0 0)) 32,((Int.tmod (wrap64 (Int.tdiv (wrap64 (bt a0 0)) 32)) 2) == 1),0,1)) else (gU.l0 k a0 1 (wrap64 (Int.tdiv (wrap64 (bt a0 0)) 64)) 0 ((Int.tmod (wrap64 (Int.tdiv (wrap64 (bt a0 0)) 32)) 2) == 1) 0)) else (none))
theorem gU.au {k:Nat} {a0:ByteArray} {r:(Int × Int × Bool × Int × Int)} (H:gU.f k a0=some r):aQ Tryz.prog 143 [S a0] (.aD [.agg [I r.1,I r.2.1,B r.2.2.1,I r.2.2.2.1],I r.2.2.2.2]):=by
 refine Cg Tryz.func143 rfl fun C hN hL=>?_
 unfold gU.f at H
 refine Sw<|Rg hN<|Sw<|Sw<|Ri hN [] (.c1 (eP (rfl:a0.toList=a0.toList) (dV ([]:List UInt8)))) [(8,.bool (a0.toList == ([]:List UInt8)))] ?_
 rcases aj H with ⟨KX,H⟩ | ⟨KX,H⟩
 ·refine Ct (bq KX)<|Sw<|Rg hN ?_
  cases H
  exact Rt dR
 refine Cf (bn KX)<|Sk<|Sw ?_
 obtain ⟨ahx,H⟩:=ax H
 refine Rh hN [] (.c2 (show (0:Int)≤0 by decide) ahx)<|Sw<|Rh hN [] (.c4 (show (64:Int)≠0 by decide) (show (32:Int)≠0 by decide) (show (2:Int)≠0 by decide) (show (32:Int)≠0 by decide))<|Sw<|Sw<|Rg hN ?_
 rcases aj H with ⟨KY,H⟩ | ⟨KY,H⟩
 ·refine Ct (dt KY)<|Sw<|Rg hN ?_
  cases H
  exact Rt dR
 refine Cf (df KY)<|Sk<|Sw<|Rg hN<|Sw<|Sw<|Rg hN<|Bl<|Good.dN (fun k' st=>∃ (x0:ByteArray) (x6:Int) (x1000:Int) (ah:Int) (aA:Bool) (av:Int) (x2000:Int) (aB:Int) (aI:Bool) (aK:Int),k'≤k∧Wk C st ⟨[(0,.w (S x0)),(2,.d (.ptr 0 0)),(5,.d (.ptr 1 0)),(6,.w (I x6))],[.cells [.v (I x1000),.v (I ah),.v (B aA),.v (I av)],.cells [.v (I x2000),.v (I aB),.v (B aI),.v (I aK)]]⟩∧gU.l0 k' x0 x6 x2000 aB aI aK=some r) k ⟨a0,1,0,0,false,0,wrap64 (Int.tdiv (wrap64 (bt a0 0)) 64),0,((Int.tmod (wrap64 (Int.tdiv (wrap64 (bt a0 0)) 32)) 2) == 1),0,Nat.le_refl _,Wo [(0,0),(2,0),(5,0),(6,0)],H⟩ fun k=>⟨fun st h=>(by obtain ⟨_,_,_,_,_,_,_,_,_,_,_,_,H⟩:=h;cases H),?_⟩
 clear H
 rintro st ⟨x0,x6,x1000,ah,aA,av,x2000,aB,aI,aK,hk,W,H⟩
 refine W.good ?_
 rw [gU.l0] at H
 refine Sw<|Sw<|Good.cut (fun st=>∃ n':Nat,n'≤k∧∃ (x0:ByteArray) (x6:Int) (x34:Bool) (x1000:Int) (ah:Int) (aA:Bool) (av:Int) (x2000:Int) (aB:Int) (aI:Bool) (aK:Int),Wk C st ⟨[(0,.w (S x0)),(2,.d (.ptr 0 0)),(5,.d (.ptr 1 0)),(6,.w (I x6)),(34,.w (B x34))],[.cells [.v (I x1000),.v (I ah),.v (B aA),.v (I av)],.cells [.v (I x2000),.v (I aB),.v (B aI),.v (I aK)]]⟩∧gU.j1 n' x0 x6 x34 x2000 aB aI aK=some r) ?_ ?_
 ·rcases aj H with ⟨KZ,H⟩ | ⟨KZ,H⟩
  ·exact Rh hN [B true] (.c1 (dt KZ))<|⟨k,by omega,x0,x6,decide (x6 < 4),x1000,ah,aA,av,x2000,aB,aI,aK,Wo [(0,0),(2,0),(5,0),(6,0),(34,0)],H⟩
  exact Rh hN [B false] (.c1 (df KZ))<|⟨k,by omega,x0,x6,false,x1000,ah,aA,av,x2000,aB,aI,aK,Wo [(0,0),(2,0),(5,0),(6,0),(34,0)],H⟩
 clear H
 rintro st ⟨n',hn',x0,x6,x34,x1000,ah,aA,av,x2000,aB,aI,aK,W,H⟩
 rcases n' with _ | k
 ·cases H
 refine W.good ?_
 rw [gU.j1] at H
 rcases (aj H).symm with ⟨K3,H⟩ | ⟨K3,H⟩
 ·refine Cf (bf K3)<|Ex<|Sw<|Rg hN ?_
  cases H
  exact Rt dR
 refine Ct K3<|Sk<|Sw<|Bl<|Sw ?_
 obtain ⟨K4,H⟩:=ax H
 obtain ⟨K5,H⟩:=ax H
 refine Rd hm hN (.q 0 [[]] (.q 1 [[]] (.q 2 [[]] (.q 3 [[]] (.q 4 [[]] (.q 5 [[]] (.q 6 [[]] (.q 7 [[]] (.q 8 [[]] (.q 9 [[]] (.e 10 .z))))))))))) [(0,none),(5,some (.pt [I x2000,I aB,B aI,I aK])),(6,none)] (.c1 (bJ (ay (rfl:(V.shr (I x2000))=I x2000) (ay (rfl:(V.shr (I aB))=I aB) (ay (rfl:(V.shr (B aI))=B aI) (ay (rfl:(V.shr (I aK))=I aK) (rfl:aX []=[]))))))) [] [] (.c3 K4 K5 (show (128:Int)≠0 by decide)) (.c3 K4 K5 (show (128:Int)≠0 by decide)) [] []<|Sw<|Rh hN [] (.c2 K4 K5) ?_
 rcases (aj H).symm with ⟨K6,H⟩ | ⟨K6,H⟩
 ·exact Cf (df K6)<|Sk<|Rg hN<|⟨k,by omega,x0,wrap64 (x6+1),x1000,ah,aA,av,x2000,wrap64 ((wrap64 (128*aB))+(Int.tmod (wrap64 (bt x0 x6)) 128)),aI,aK,by omega,Wo [(0,0),(2,0),(5,0),(6,0)],H⟩
 refine Ct (dt K6)<|Sw<|Rg hN ?_
 cases H
 exact Rt dR
def jd.l0:Nat→ByteArray→Int→Int→Option (Int × Bool)
 | 0,_,_,_=>none
 | k+1,x0,x4,x5=>if x5 < (x0.size:Int) then (if 0≤x5 then (jd.l0 k x0 (IntKind.u64.wrap ((IntKind.u64.wrap (x4*256))+(IntKind.u64.wrap (bt x0 x5)))) (wrap64 (x5+1))) else (none)) else (some (x4,true))
def jd.j0:Nat→ByteArray→Bool→Option (Int × Bool)
 | 0,_,_=>none
 | k+1,x0,bB=>if bB=true then (some (0,false)) else (jd.l0 k x0 0 0)
def jd.f (k:Nat) (a0:ByteArray):Option (Int × Bool):=if (a0.size:Int) < 1 then (jd.j0 k a0 true) else (jd.j0 k a0 (decide ((a0.size:Int) > 8)))
theorem jd.au {k:Nat} {a0:ByteArray} {r:(Int × Bool)} (H:jd.f k a0=some r):aQ Tryz.prog 144 [S a0] (.aD [K .u64 r.1,B r.2]):=by
 refine Cg Tryz.func144 rfl fun C hN hL=>?_
 unfold jd.f at H
 refine Sw<|Rg hN<|Sw<|Sw<|Good.cut (fun st=>∃ n':Nat,n'≤k∧∃ (x0:ByteArray) (bB:Bool),Wk C st ⟨[(0,.w (S x0)),(13,.w (B bB))],[]⟩∧jd.j0 n' x0 bB=some r) ?_ ?_
 ·rcases aj H with ⟨K7,H⟩ | ⟨K7,H⟩
  ·exact Rh hN [B true] (.c1 (dt K7))<|⟨k,by omega,a0,true,Wo [(0,0),(13,0)],H⟩
  exact Rh hN [B false] (.c1 (df K7))<|⟨k,by omega,a0,decide ((a0.size:Int) > 8),Wo [(0,0),(13,0)],H⟩
 clear H
 rintro st ⟨n',hn',x0,bB,W,H⟩
 rcases n' with _ | k
 ·cases H
 refine W.good ?_
 rw [jd.j0] at H
 rcases aj H with ⟨K8,H⟩ | ⟨K8,H⟩
 ·refine Ct K8<|Sw<|Rg hN ?_
  cases H
  exact Rt dR
 refine Cf (bf K8)<|Sk<|Sw<|Rg hN<|Sw<|Sw<|Rg hN<|Bl<|Good.dN (fun k' st=>∃ (x0:ByteArray) (x4:Int) (x5:Int),k'≤k∧Wk C st ⟨[(0,.w (S x0)),(4,.w (K .u64 x4)),(5,.w (I x5))],[]⟩∧jd.l0 k' x0 x4 x5=some r) k ⟨x0,0,0,Nat.le_refl _,Wo [(0,0),(4,0),(5,0)],H⟩ fun k=>⟨fun st h=>(by obtain ⟨_,_,_,_,_,H⟩:=h;cases H),?_⟩
 clear H
 rintro st ⟨x0,x4,x5,hk,W,H⟩
 refine W.good ?_
 rw [jd.l0] at H
 refine Sw<|Sw<|Rg hN ?_
 rcases (aj H).symm with ⟨Dx,H⟩ | ⟨Dx,H⟩
 ·refine Cf (df Dx)<|Ex<|Sw<|Rg hN ?_
  cases H
  exact Rt dR
 refine Ct (dt Dx)<|Sk<|Sw<|Bl ?_
 obtain ⟨ahy,H⟩:=ax H
 exact Rh hN [] (.c2 ahy Dx)<|Rg hN<|⟨k,by omega,x0,IntKind.u64.wrap ((IntKind.u64.wrap (x4*256))+(IntKind.u64.wrap (bt x0 x5))),wrap64 (x5+1),by omega,Wo [(0,0),(4,0),(5,0)],H⟩
def gN.j1:Nat→ByteArray→Int→Int→Int→Int→Bool→Option (Int × Int × Bool × Int × Int × Int)
 | 0,_,_,_,_,_,_=>none
 | k+1,x0,x6,x9,x2000,aB,aI=>if (wrap64 ((wrap64 (x6+1))+x9)) > (x0.size:Int) then (some (0,0,false,0,0,5)) else (if 0≤x6 then (if x6 < (x0.size:Int) then (if x9 > 0 then (if 0≤(wrap64 (x6+1)) then (if (wrap64 (x6+1))≤(wrap64 ((wrap64 (x6+1))+x9)) then (if (wrap64 ((wrap64 (x6+1))+x9))≤(x0.size:Int) then ((jd.f k (x0.extract ((wrap64 (x6+1)):Int).toNat ((wrap64 ((wrap64 (x6+1))+x9)):Int).toNat)).bind fun zk=>((gJ.f k x2000 aB aI (wrap64 (zk.1))).bind fun zl=>(if 0≤(wrap64 ((wrap64 (x6+1))+x9)) then (if zl.1.toList=(x0.extract 0 ((wrap64 ((wrap64 (x6+1))+x9)):Int).toNat).toList then (some (x2000,aB,aI,wrap64 (zk.1),(zl.1.size:Int),0)) else (some (0,0,false,0,0,5))) else (none)))) else (none)) else (none)) else (none)) else ((gJ.f k x2000 aB aI (wrap64 (bt x0 x6))).bind fun zm=>(if 0≤(wrap64 ((wrap64 (x6+1))+x9)) then (if (wrap64 ((wrap64 (x6+1))+x9))≤(x0.size:Int) then (if zm.1.toList=(x0.extract 0 ((wrap64 ((wrap64 (x6+1))+x9)):Int).toNat).toList then (some (x2000,aB,aI,wrap64 (bt x0 x6),(zm.1.size:Int),0)) else (some (0,0,false,0,0,5))) else (none)) else (none)))) else (none)) else (none))
def gN.j0:Nat→ByteArray→Int→Bool→Int→Int→Bool→Option (Int × Int × Bool × Int × Int × Int)
 | 0,_,_,_,_,_,_=>none
 | k+1,x0,x6,kS,x2000,aB,aI=>if kS=true then (some (0,0,false,0,0,5)) else (if 0≤x6 then (if x6 < (x0.size:Int) then (if (bt x0 x6) > 130 then (some (0,0,false,0,0,4)) else (if (bt x0 x6) > 128 then (gN.j1 k x0 x6 (wrap64 ((wrap64 (bt x0 x6)) - 128)) x2000 aB aI) else (gN.j1 k x0 x6 0 x2000 aB aI))) else (none)) else (none))
def gN.f (k:Nat) (a0:ByteArray):Option (Int × Int × Bool × Int × Int × Int):=(gU.f k a0).bind fun dX=>(if dX.2.2.2.2=0 then (some (0,0,false,0,0,5)) else ((gJ.f k dX.1 dX.2.1 dX.2.2.1 dX.2.2.2.1).bind fun rU=>(if 0≤(wrap64 ((rU.1.size:Int) - 1)) then (if (wrap64 ((rU.1.size:Int) - 1))≤(rU.1.size:Int) then (if 0≤dX.2.2.2.2 then (if dX.2.2.2.2≤(a0.size:Int) then (if (rU.1.extract 0 ((wrap64 ((rU.1.size:Int) - 1)):Int).toNat).toList=(a0.extract 0 (dX.2.2.2.2:Int).toNat).toList then (if dX.2.2.2.2=(a0.size:Int) then (gN.j0 k a0 dX.2.2.2.2 true dX.1 dX.2.1 dX.2.2.1) else (if dX.2.2.2.2 < (a0.size:Int) then (gN.j0 k a0 dX.2.2.2.2 ((bt a0 dX.2.2.2.2) == 128) dX.1 dX.2.1 dX.2.2.1) else (none))) else (gN.j0 k a0 dX.2.2.2.2 true dX.1 dX.2.1 dX.2.2.1)) else (none)) else (none)) else (none)) else (none))))
theorem gN.au {k:Nat} {a0:ByteArray} {r:(Int × Int × Bool × Int × Int × Int)} (H:gN.f k a0=some r):aQ Tryz.prog 125 [S a0] (.aD [.agg [I r.1,I r.2.1,B r.2.2.1,I r.2.2.2.1],I r.2.2.2.2.1,I r.2.2.2.2.2]):=by
 refine Cg Tryz.func125 rfl fun C hN hL=>?_
 unfold gN.f at H
 refine Sw<|Rg hN<|Sw ?_
 obtain ⟨dX,ahz,H⟩:=aC H
 refine Rh hN [.aD [.agg [I dX.1,I dX.2.1,B dX.2.2.1,I dX.2.2.2.1],I dX.2.2.2.2]] (.c1 (gU.au ahz).c)<|Sw<|Sw<|Rg hN ?_
 rcases aj H with ⟨K9,H⟩ | ⟨K9,H⟩
 ·refine Ct (bq K9)<|Sw<|Rg hN ?_
  cases H
  exact Rt dR
 refine Cf (bn K9)<|Sk<|Sw ?_
 obtain ⟨rU,ahA,H⟩:=aC H
 refine Rh hN [.aD [S rU.1,I rU.2]] (.c1 (gJ.au ahA).c)<|Sw<|Sw<|Good.cut (fun st=>∃ n':Nat,n'≤k∧∃ (x0:ByteArray) (x6:Int) (kS:Bool) (x1000:Int) (ah:Int) (aA:Bool) (av:Int) (x2000:Int) (aB:Int) (aI:Bool) (aK:Int),Wk C st ⟨[(0,.w (S x0)),(2,.d (.ptr 0 0)),(5,.d (.ptr 1 0)),(6,.w (I x6)),(45,.w (B kS))],[.cells [.v (I x1000),.v (I ah),.v (B aA),.v (I av)],.cells [.v (I x2000),.v (I aB),.v (B aI),.v (I aK)]]⟩∧gN.j0 n' x0 x6 kS x2000 aB aI=some r) ?_ ?_
 ·obtain ⟨wF,H⟩:=ax H
  obtain ⟨wG,H⟩:=ax H
  obtain ⟨rV,H⟩:=ax H
  obtain ⟨wH,H⟩:=ax H
  rcases (aj H).symm with ⟨uL,H⟩ | ⟨uL,H⟩
  ·exact Rd hm hN (.qs 10 0 (.k 34 (.is 4 10 (.q 14 [] (.q 15 [] (.k 40 (.is 4 16 (.q 20 [] .z)))))))) [(0,none),(6,none),(7,none)] .nil [B true,B true] [] (.c6 wF wG rV wH (nq uL) (rfl:true=true)) (.c6 wF wG rV wH (nq uL) (rfl:true=true)) [] []<|⟨k,by omega,a0,dX.2.2.2.2,true,0,0,false,0,dX.1,dX.2.1,dX.2.2.1,dX.2.2.2.1,Wo [(0,0),(2,0),(5,0),(6,0),(45,0)],H⟩
  rcases aj H with ⟨zn,H⟩ | ⟨zn,H⟩
  ·exact Rd hm hN (.qs 10 0 (.k 34 (.qs 6 10 (.k 40 (.is 4 16 (.q 20 [] .z)))))) [(0,none),(6,none),(7,none)] .nil [B false,B true] [] (.c6 wF wG rV wH (bM uL) (bq zn)) (.c6 wF wG rV wH (bM uL) (bq zn)) [] []<|⟨k,by omega,a0,dX.2.2.2.2,true,0,0,false,0,dX.1,dX.2.1,dX.2.2.1,dX.2.2.2.1,Wo [(0,0),(2,0),(5,0),(6,0),(45,0)],H⟩
  obtain ⟨X4,H⟩:=ax H
  exact Rd hm hN (.qs 10 0 (.k 34 (.qs 6 10 (.k 40 (.qs 4 16 (.q 20 [] .z)))))) [(0,none),(6,none),(7,none)] .nil [B false,B false] [] (.c8 wF wG rV wH (bM uL) (bn zn) rV X4) (.c8 wF wG rV wH (bM uL) (bn zn) rV X4) [] []<|⟨k,by omega,a0,dX.2.2.2.2,((bt a0 dX.2.2.2.2) == 128),0,0,false,0,dX.1,dX.2.1,dX.2.2.1,dX.2.2.2.1,Wo [(0,0),(2,0),(5,0),(6,0),(45,0)],H⟩
 clear H
 rintro st ⟨n',hn',x0,x6,kS,x1000,ah,aA,av,x2000,aB,aI,aK,W,H⟩
 rcases n' with _ | k
 ·cases H
 refine W.good ?_
 rw [gN.j0] at H
 rcases aj H with ⟨La,H⟩ | ⟨La,H⟩
 ·refine Ct La<|Sw<|Rg hN ?_
  cases H
  exact Rt dR
 refine Cf (bf La)<|Sk<|Sw<|Sw ?_
 obtain ⟨Lb,H⟩:=ax H
 obtain ⟨Lc,H⟩:=ax H
 refine Rh hN [] (.c2 Lb Lc) ?_
 rcases aj H with ⟨Ld,H⟩ | ⟨Ld,H⟩
 ·refine Ct (dt Ld)<|Sw<|Rg hN ?_
  cases H
  exact Rt dR
 refine Cf (df Ld)<|Sk<|Sw<|Rg hN<|Sw<|Sw<|Rh hN [] (.c2 Lb Lc)<|Good.cut (fun st=>∃ n':Nat,n'≤k∧∃ (x0:ByteArray) (x6:Int) (x9:Int) (x1000:Int) (ah:Int) (aA:Bool) (av:Int) (x2000:Int) (aB:Int) (aI:Bool) (aK:Int),Wk C st ⟨[(0,.w (S x0)),(2,.d (.ptr 0 0)),(5,.d (.ptr 1 0)),(6,.w (I x6)),(9,.w (I x9))],[.cells [.v (I x1000),.v (I ah),.v (B aA),.v (I av)],.cells [.v (I x2000),.v (I aB),.v (B aI),.v (I aK)]]⟩∧gN.j1 n' x0 x6 x9 x2000 aB aI=some r) ?_ ?_
 ·rcases aj H with ⟨Le,H⟩ | ⟨Le,H⟩
  ·exact Ct (dt Le)<|Rh hN [] (.c2 Lb Lc)<|⟨k,by omega,x0,x6,wrap64 ((wrap64 (bt x0 x6)) - 128),x1000,ah,aA,av,x2000,aB,aI,aK,Wo [(0,0),(2,0),(5,0),(6,0),(9,0)],H⟩
  exact Cf (df Le)<|Sk<|⟨k,by omega,x0,x6,0,x1000,ah,aA,av,x2000,aB,aI,aK,Wo [(0,0),(2,0),(5,0),(6,0),(9,0)],H⟩
 clear H
 rintro st ⟨n',hn',x0,x6,x9,x1000,ah,aA,av,x2000,aB,aI,aK,W,H⟩
 rcases n' with _ | k
 ·cases H
 refine W.good ?_
 rw [gN.j1] at H
 refine Sw<|Sw<|Rg hN ?_
 rcases aj H with ⟨Lf,H⟩ | ⟨Lf,H⟩
 ·refine Ct (dt Lf)<|Sw<|Rg hN ?_
  cases H
  exact Rt dR
 refine Cf (df Lf)<|Sk<|Sw ?_
 obtain ⟨ahB,H⟩:=ax H
 obtain ⟨ahC,H⟩:=ax H
 refine Rh hN [] (.c2 ahB ahC)<|Sw<|Sw<|Rg hN ?_
 rcases (aj H).symm with ⟨Lg,H⟩ | ⟨Lg,H⟩
 ·refine Cf (df Lg)<|Sk<|Sw ?_
  obtain ⟨zm,ahD,H⟩:=aC H
  refine Rh hN [.aD [S zm.1,I zm.2]] (.c1 (gJ.au ahD).c)<|Sw<|Sw ?_
  obtain ⟨ahE,H⟩:=ax H
  obtain ⟨ahF,H⟩:=ax H
  refine Rh hN [] (.c2 ahE ahF) ?_
  rcases (aj H).symm with ⟨Lh,H⟩ | ⟨Lh,H⟩
  ·refine Ct (nq Lh)<|Sw<|Rg hN ?_
   cases H
   exact Rt dR
  refine Cf (bM Lh)<|Sk<|Sw<|Rg hN ?_
  cases H
  exact Rt dR
 refine Ct (dt Lg)<|Sw ?_
 obtain ⟨ahG,H⟩:=ax H
 obtain ⟨ahH,H⟩:=ax H
 obtain ⟨X5,H⟩:=ax H
 obtain ⟨zk,ahI,H⟩:=aC H
 refine Rh hN [.aD [K .u64 zk.1,B zk.2]] (.c4 ahG ahH X5 (jd.au ahI).c)<|Rg hN<|Sw ?_
 obtain ⟨zl,ahJ,H⟩:=aC H
 refine Rh hN [.aD [S zl.1,I zl.2]] (.c1 (gJ.au ahJ).c)<|Sw<|Sw ?_
 obtain ⟨ahK,H⟩:=ax H
 refine Rh hN [] (.c2 ahK X5) ?_
 rcases (aj H).symm with ⟨Li,H⟩ | ⟨Li,H⟩
 ·refine Ct (nq Li)<|Sw<|Rg hN ?_
  cases H
  exact Rt dR
 refine Cf (bM Li)<|Sk<|Sw<|Rg hN ?_
 cases H
 exact Rt dR
mutual
def bT.j0:Nat→Int→Int→Int→Int→Bool→ByteArray→List af→List Int→List Int→Int→Int→Bool→Option (Int × Int × Int × ByteArray × List af × List Int × List Int)
 | 0,_,_,_,_,_,_,_,_,_,_,_,_=>none
 | k+1,x1,x3,bB,bD,ja,x1000,ah,aA,av,x3000,dJ,dA=>if ja=true then ((gM.f 5 x1).bind fun zo=>(some (0,zo.1,zo.2,x1000,ah,aA,av))) else (if x3000=0 then (if dA=true then (bT.j1 k x1 x3 bB bD false x1000 ah aA av x3000 dJ dA) else (if 0≤bB then (if bB≤bD then (if bD≤(x1000.size:Int) then ((mh.f k dJ (x1000.extract (bB:Int).toNat (bD:Int).toNat)).bind fun Dy=>(bT.j1 k x1 x3 bB bD (!Dy) x1000 ah aA av x3000 dJ dA)) else (none)) else (none)) else (none))) else (bT.j1 k x1 x3 bB bD false x1000 ah aA av x3000 dJ dA))
def bT.j1:Nat→Int→Int→Int→Int→Bool→ByteArray→List af→List Int→List Int→Int→Int→Bool→Option (Int × Int × Int × ByteArray × List af × List Int × List Int)
 | 0,_,_,_,_,_,_,_,_,_,_,_,_=>none
 | k+1,x1,x3,bB,bD,x100,x1000,ah,aA,av,x3000,dJ,dA=>if x100=true then ((gM.f 5 x1).bind fun zq=>(some (0,zq.1,zq.2,x1000,ah,aA,av))) else (if dA=true then (bT.j2 k x1 x3 bB bD (ah.length:Int) x1000 ah aA av dA x3000 dJ dA (⟨#[]⟩:ByteArray)) else (if 0≤bB then (if bB≤bD then (if bD≤(x1000.size:Int) then (bT.j2 k x1 x3 bB bD (ah.length:Int) x1000 ah aA av dA x3000 dJ dA (x1000.extract (bB:Int).toNat (bD:Int).toNat)) else (none)) else (none)) else (none)))
def bT.j2:Nat→Int→Int→Int→Int→Int→ByteArray→List af→List Int→List Int→Bool→Int→Int→Bool→ByteArray→Option (Int × Int × Int × ByteArray × List af × List Int × List Int)
 | 0,_,_,_,_,_,_,_,_,_,_,_,_,_,_=>none
 | k+1,x1,x3,bB,bD,aR,x1000,ah,aA,av,dA,x4000,kH,kI,kJ=>if ah.length < 2199023255552 then ((some (ah++[(⟨x4000,kH,kI,kJ,([]:List Int)⟩:af)]:List af)).bind fun y1183=>(if aA.length < 17592186044416 then ((some (aA++[x1]:List Int)).bind fun y1185=>(if av.length < 17592186044416 then ((some (av++[bD]:List Int)).bind fun y1187=>(if dA=true then (bT.l0 k x3 bD aR bB x1000 y1183 y1185 y1187) else (some (bD,0,0,x1000,y1183,y1185,y1187)))) else (none))) else (none))) else (none)
def bT.l0:Nat→Int→Int→Int→Int→ByteArray→List af→List Int→List Int→Option (Int × Int × Int × ByteArray × List af × List Int × List Int)
 | 0,_,_,_,_,_,_,_,_=>none
 | k+1,x3,bD,aR,bQ,x1000,ah,aA,av=>if bQ < bD then (if 0≤aR then (if aR < (ah.length:Int) then (if ((aa ah aR).f4).length < 17592186044416 then ((bT.f k x1000 (ah.set (aR:Int).toNat (⟨(aa ah aR).f0,(aa ah aR).f1,(aa ah aR).f2,(aa ah aR).f3,(((aa ah aR).f4)++[(ah.length:Int)])⟩:af)) aA av bQ bD (wrap64 (x3+1))).bind fun gm=>(if gm.2.1=0 then (bT.l0 k x3 bD aR gm.1 gm.2.2.2.1 gm.2.2.2.2.1 gm.2.2.2.2.2.1 gm.2.2.2.2.2.2) else (some (0,gm.2.1,gm.2.2.1,gm.2.2.2.1,gm.2.2.2.2.1,gm.2.2.2.2.2.1,gm.2.2.2.2.2.2)))) else (none)) else (none)) else (none)) else (some (bD,0,0,x1000,ah,aA,av))
def bT.f:Nat→ByteArray→List af→List Int→List Int→Int→Int→Int→Option (Int × Int × Int × ByteArray × List af × List Int × List Int)
 | 0,_,_,_,_,_,_,_=>none
 | k+1,aJ,az,aY,ai,a1,a2,a3=>if 0≤a1 then (if a1≤a2 then (if a2≤(aJ.size:Int) then ((gN.f k (aJ.extract (a1:Int).toNat (a2:Int).toNat)).bind fun bW=>(if bW.2.2.2.2.2=0 then (if (wrap64 ((wrap64 (a1+bW.2.2.2.2.1))+bW.2.2.2.1)) > a2 then ((gM.f 5 a1).bind fun zt=>(some (0,zt.1,zt.2,aJ,az,aY,ai))) else (if a3 > 16 then ((gM.f 6 a1).bind fun zu=>(some (0,zu.1,zu.2,aJ,az,aY,ai))) else (if (az.length:Int)≥1000 then ((gM.f 4 a1).bind fun zw=>(some (0,zw.1,zw.2,aJ,az,aY,ai))) else (if bW.1=0 then (if bW.2.2.1=true then (if bW.2.1=16 then (bT.j0 k a1 a3 (wrap64 (a1+bW.2.2.2.2.1)) (wrap64 ((wrap64 (a1+bW.2.2.2.2.1))+bW.2.2.2.1)) false aJ az aY ai bW.1 bW.2.1 bW.2.2.1) else (bT.j0 k a1 a3 (wrap64 (a1+bW.2.2.2.2.1)) (wrap64 ((wrap64 (a1+bW.2.2.2.2.1))+bW.2.2.2.1)) (bW.2.1 != 17) aJ az aY ai bW.1 bW.2.1 bW.2.2.1)) else (bT.j0 k a1 a3 (wrap64 (a1+bW.2.2.2.2.1)) (wrap64 ((wrap64 (a1+bW.2.2.2.2.1))+bW.2.2.2.1)) false aJ az aY ai bW.1 bW.2.1 bW.2.2.1)) else (bT.j0 k a1 a3 (wrap64 (a1+bW.2.2.2.2.1)) (wrap64 ((wrap64 (a1+bW.2.2.2.2.1))+bW.2.2.2.1)) false aJ az aY ai bW.1 bW.2.1 bW.2.2.1))))) else ((gM.f bW.2.2.2.2.2 a1).bind fun zx=>(some (0,zx.1,zx.2,aJ,az,aY,ai))))) else (none)) else (none)) else (none)
end
theorem bT.cons:∀ n k (aJ:ByteArray) (az:List af) (aY:List Int) (ai:List Int) (a1:Int) (a2:Int) (a3:Int) (r:(Int × Int × Int × ByteArray × List af × List Int × List Int)),k≤n→bT.f k aJ az aY ai a1 a2 a3=some r→lY Tryz.prog 95 [.ptr 0 0,.v (I a1),.v (I a2),.v (I a3)] [[S aJ,.row (some 55) 5 (List.map (v55 1) az),.row (some 3) 1 (List.map I aY),.row (some 3) 1 (List.map I ai)]] (.v (.aD [I r.1,.agg [I r.2.1,I r.2.2.1]])) [[S r.2.2.2.1,.row (some 55) 5 (List.map (v55 1) r.2.2.2.2.1),.row (some 3) 1 (List.map I r.2.2.2.2.2.1),.row (some 3) 1 (List.map I r.2.2.2.2.2.2)]]:=by
 intro n
 induction n with
 | zero =>
  intro k aJ az aY ai a1 a2 a3 r hk H
  rcases k with _ | k
  ·cases H
  ·omega
 | succ n ih =>
  intro k aJ az aY ai a1 a2 a3 r hk H
  rcases k with _ | k
  ·cases H
  rw [bT.f] at H
  refine vM Tryz.func95 rfl (by kernel_rfl) (by kernel_rfl) fun C hN hL=>?_
  refine Good.seq ?_
  refine Good.reg hN [] .nil [] (by kernel_rfl) ?_
  refine Good.seq ?_
  obtain ⟨ahL,H⟩:=ax H
  obtain ⟨ahM,H⟩:=ax H
  obtain ⟨ahN,H⟩:=ax H
  obtain ⟨bW,ahO,H⟩:=aC H
  refine Good.reg hN [.aD [.agg [I bW.1,I bW.2.1,B bW.2.2.1,I bW.2.2.2.1],I bW.2.2.2.2.1,I bW.2.2.2.2.2]] (.cons ahL (.cons ahM (.cons ahN (.cons (gN.au ahO).c .nil)))) [] (by kernel_rfl) ?_
  refine Good.seq ?_
  refine Good.seq ?_
  refine Good.reg hN [] .nil [] (by kernel_rfl) ?_
  rcases (aj H).symm with ⟨Lj,H⟩ | ⟨Lj,H⟩
  ·refine Good.kF (bne_iff_ne.2 Lj) (by kernel_rfl) ?_
   refine Good.seq ?_
   obtain ⟨zx,ahP,H⟩:=aC H
   refine Good.reg hN [.agg [I zx.1,I zx.2]] (.cons (gM.au ahP).c .nil) [] (by kernel_rfl) ?_
   obtain rfl:=Option.some.inj H
   exact Good.ret (gT (.refl _) (cz.refl _) (by kernel_rfl) rfl)
  refine Good.kG (bM Lj) (by kernel_rfl) ?_
  refine Good.skip ?_
  refine Good.seq ?_
  refine Good.reg hN [] .nil [] (by kernel_rfl) ?_
  refine Good.seq ?_
  refine Good.reg hN [] .nil [] (by kernel_rfl) ?_
  refine Good.seq ?_
  refine Good.seq ?_
  refine Good.reg hN [] .nil [] (by kernel_rfl) ?_
  rcases aj H with ⟨Ll,H⟩ | ⟨Ll,H⟩
  ·refine Good.kF (decide_eq_true Ll) (by kernel_rfl) ?_
   refine Good.seq ?_
   obtain ⟨zt,ahQ,H⟩:=aC H
   refine Good.reg hN [.agg [I zt.1,I zt.2]] (.cons (gM.au ahQ).c .nil) [] (by kernel_rfl) ?_
   obtain rfl:=Option.some.inj H
   exact Good.ret (gT (.refl _) (cz.refl _) (by kernel_rfl) rfl)
  refine Good.kG (decide_eq_false Ll) (by kernel_rfl) ?_
  refine Good.skip ?_
  refine Good.seq ?_
  refine Good.seq ?_
  refine Good.reg hN [] .nil [] (by kernel_rfl) ?_
  rcases aj H with ⟨Lm,H⟩ | ⟨Lm,H⟩
  ·refine Good.kF (decide_eq_true Lm) (by kernel_rfl) ?_
   refine Good.seq ?_
   obtain ⟨zu,ahR,H⟩:=aC H
   refine Good.reg hN [.agg [I zu.1,I zu.2]] (.cons (gM.au ahR).c .nil) [] (by kernel_rfl) ?_
   obtain rfl:=Option.some.inj H
   exact Good.ret (gT (.refl _) (cz.refl _) (by kernel_rfl) rfl)
  refine Good.kG (decide_eq_false Lm) (by kernel_rfl) ?_
  refine Good.skip ?_
  refine Good.seq ?_
  refine Good.seq ?_
  refine Good.reg hN [I (az.length:Int)] (.cons (aT (v55 1) az) .nil) [] (by kernel_rfl) ?_
  rcases aj H with ⟨Lp,H⟩ | ⟨Lp,H⟩
  ·refine Good.kF (decide_eq_true Lp) (by kernel_rfl) ?_
   refine Good.seq ?_
   obtain ⟨zw,ahS,H⟩:=aC H
   refine Good.reg hN [.agg [I zw.1,I zw.2]] (.cons (gM.au ahS).c .nil) [] (by kernel_rfl) ?_
   obtain rfl:=Option.some.inj H
   exact Good.ret (gT (.refl _) (cz.refl _) (by kernel_rfl) rfl)
  refine Good.kG (decide_eq_false Lp) (by kernel_rfl) ?_
  refine Good.skip ?_
  refine Good.seq ?_
  refine Good.seq ?_
  refine Good.cut (fun st=>∃ n':Nat,n'≤k∧∃ (x1:Int) (x3:Int) (bB:Int) (bD:Int) (ja:Bool) (x1000:ByteArray) (ah:List af) (aA:List Int) (av:List Int) (x2000:Int) (aB:Int) (x3000:Int) (dJ:Int) (dA:Bool) (eu:Int),Wk C st ⟨[(0,.d (.ptr 0 0)),(1,.d (.v (I x1))),(3,.d (.v (I x3))),(9,.d (.ptr 1 0)),(10,.d (.ptr 2 0)),(13,.d (.v (I bB))),(14,.d (.v (I bD))),(77,.d (.v (B ja)))],[.cells [.v (S x1000),.v (.row (some 55) 5 (List.map (v55 1) ah)),.v (.row (some 3) 1 (List.map I aA)),.v (.row (some 3) 1 (List.map I av))],.cells [.v (I x2000),.v (I aB)],.cells [.v (I x3000),.v (I dJ),.v (B dA),.v (I eu)]]⟩∧bT.j0 n' x1 x3 bB bD ja x1000 ah aA av x3000 dJ dA=some r) ?_ ?_
  ·rcases (aj H).symm with ⟨zy,H⟩ | ⟨zy,H⟩
   ·refine Good.reg hN [B false,B false,B false] (.cons (beq_eq_false_iff_ne.2 zy) (.cons (rfl:false=false) (.cons (rfl:false=false) .nil))) [] (by kernel_rfl) ?_
    exact ⟨k,by omega,a1,a3,wrap64 (a1+bW.2.2.2.2.1),wrap64 ((wrap64 (a1+bW.2.2.2.2.1))+bW.2.2.2.1),false,aJ,az,aY,ai,0,0,bW.1,bW.2.1,bW.2.2.1,bW.2.2.2.1,Wk.of [(0,0),(1,0),(3,0),(9,0),(10,0),(13,0),(14,0),(77,0)] (by kernel_rfl) (by kernel_rfl),H⟩
   rcases (aj H).symm with ⟨Dz,H⟩ | ⟨Dz,H⟩
   ·refine Good.reg hN [B true,B false,B false] (.cons (beq_iff_eq.2 zy) (.cons (Bool.eq_false_iff.2 Dz) (.cons (rfl:false=false) .nil))) [] (by kernel_rfl) ?_
    exact ⟨k,by omega,a1,a3,wrap64 (a1+bW.2.2.2.2.1),wrap64 ((wrap64 (a1+bW.2.2.2.2.1))+bW.2.2.2.1),false,aJ,az,aY,ai,0,0,bW.1,bW.2.1,bW.2.2.1,bW.2.2.2.1,Wk.of [(0,0),(1,0),(3,0),(9,0),(10,0),(13,0),(14,0),(77,0)] (by kernel_rfl) (by kernel_rfl),H⟩
   rcases aj H with ⟨Lr,H⟩ | ⟨Lr,H⟩
   ·refine Good.reg hN [B true,B true,B false] (.cons (beq_iff_eq.2 zy) (.cons Dz (.cons (bM Lr) .nil))) [] (by kernel_rfl) ?_
    exact ⟨k,by omega,a1,a3,wrap64 (a1+bW.2.2.2.2.1),wrap64 ((wrap64 (a1+bW.2.2.2.2.1))+bW.2.2.2.1),false,aJ,az,aY,ai,0,0,bW.1,bW.2.1,bW.2.2.1,bW.2.2.2.1,Wk.of [(0,0),(1,0),(3,0),(9,0),(10,0),(13,0),(14,0),(77,0)] (by kernel_rfl) (by kernel_rfl),H⟩
   refine Good.reg hN [B true,B true,B true] (.cons (beq_iff_eq.2 zy) (.cons Dz (.cons (bne_iff_ne.2 Lr) .nil))) [] (by kernel_rfl) ?_
   exact ⟨k,by omega,a1,a3,wrap64 (a1+bW.2.2.2.2.1),wrap64 ((wrap64 (a1+bW.2.2.2.2.1))+bW.2.2.2.1),(bW.2.1 != 17),aJ,az,aY,ai,0,0,bW.1,bW.2.1,bW.2.2.1,bW.2.2.2.1,Wk.of [(0,0),(1,0),(3,0),(9,0),(10,0),(13,0),(14,0),(77,0)] (by kernel_rfl) (by kernel_rfl),H⟩
  clear H
  rintro st ⟨n',hn',x1,x3,bB,bD,ja,x1000,ah,aA,av,x2000,aB,x3000,dJ,dA,eu,W,H⟩
  rcases n' with _ | k
  ·cases H
  refine W.good ?_
  rw [bT.j0] at H
  rcases aj H with ⟨Ls,H⟩ | ⟨Ls,H⟩
  ·refine Good.kF Ls (by kernel_rfl) ?_
   refine Good.seq ?_
   obtain ⟨zo,ahT,H⟩:=aC H
   refine Good.reg hN [.agg [I zo.1,I zo.2]] (.cons (gM.au ahT).c .nil) [] (by kernel_rfl) ?_
   obtain rfl:=Option.some.inj H
   exact Good.ret (gT (.refl _) (cz.refl _) (by kernel_rfl) rfl)
  refine Good.kG (Bool.eq_false_iff.2 Ls) (by kernel_rfl) ?_
  refine Good.skip ?_
  refine Good.seq ?_
  refine Good.seq ?_
  refine Good.cut (fun st=>∃ n':Nat,n'≤k∧∃ (x1:Int) (x3:Int) (bB:Int) (bD:Int) (x100:Bool) (x1000:ByteArray) (ah:List af) (aA:List Int) (av:List Int) (x2000:Int) (aB:Int) (x3000:Int) (dJ:Int) (dA:Bool) (eu:Int),Wk C st ⟨[(0,.d (.ptr 0 0)),(1,.d (.v (I x1))),(3,.d (.v (I x3))),(9,.d (.ptr 1 0)),(10,.d (.ptr 2 0)),(13,.d (.v (I bB))),(14,.d (.v (I bD))),(100,.d (.v (B x100)))],[.cells [.v (S x1000),.v (.row (some 55) 5 (List.map (v55 1) ah)),.v (.row (some 3) 1 (List.map I aA)),.v (.row (some 3) 1 (List.map I av))],.cells [.v (I x2000),.v (I aB)],.cells [.v (I x3000),.v (I dJ),.v (B dA),.v (I eu)]]⟩∧bT.j1 n' x1 x3 bB bD x100 x1000 ah aA av x3000 dJ dA=some r) ?_ ?_
  ·rcases (aj H).symm with ⟨uM,H⟩ | ⟨uM,H⟩
   ·refine Good.uF hm hN (.q 0 [] (.q 1 [] (.q 2 [] (.q 3 [] (.k 83 (.i 4 (.i 5 (.i 6 (.q 7 [] (.q 8 [] (.k 88 (.i 9 (.i 10 (.i 11 (.i 12 (.i 13 (.i 14 (.i 15 (.i 16 (.i 17 (.i 18 (.i 19 (.q 20 [] .z))))))))))))))))))))))) [(0,some (.pt [S x1000,.row none 5 (List.map (v55 0) ah),.row none 1 (List.map I aA),.row none 1 (List.map I av)])),(10,some (.pt [I x3000,I dJ,B dA,I eu])),(13,none),(14,none)] (by kernel_rfl) (.cons (bJ (ay (rfl:(V.shr (S x1000))=S x1000) (ay (aS (some 55) 5 (v55 1) (v55 0) ah (v55.shr _)) (ay (aS (some 3) 1 I I aA (fun _=>rfl)) (ay (aS (some 3) 1 I I av (fun _=>rfl)) (rfl:aX []=[])))))) (.cons (bJ (ay (rfl:(V.shr (I x3000))=I x3000) (ay (rfl:(V.shr (I dJ))=I dJ) (ay (rfl:(V.shr (B dA))=B dA) (ay (rfl:(V.shr (I eu))=I eu) (rfl:aX []=[])))))) .nil)) [B false,B false] [] (.cons (beq_eq_false_iff_ne.2 uM) (.cons (rfl:false=false) .nil)) (.cons (beq_eq_false_iff_ne.2 uM) (.cons (rfl:false=false) .nil)) [] [] (by kernel_rfl) (by kernel_rfl) ?_
    exact ⟨k,by omega,x1,x3,bB,bD,false,x1000,ah,aA,av,x2000,aB,x3000,dJ,dA,eu,Wk.of [(0,0),(1,0),(3,0),(9,0),(10,0),(13,0),(14,0),(100,0)] (by kernel_rfl) (by kernel_rfl),H⟩
   rcases aj H with ⟨zz,H⟩ | ⟨zz,H⟩
   ·refine Good.uF hm hN (.q 0 [] (.q 1 [] (.q 2 [] (.q 3 [] (.k 83 (.q 4 [] (.q 5 [] (.q 6 [] (.q 7 [] (.q 8 [] (.k 88 (.i 9 (.i 10 (.i 11 (.i 12 (.i 13 (.i 14 (.i 15 (.i 16 (.i 17 (.i 18 (.i 19 (.q 20 [] .z))))))))))))))))))))))) [(0,some (.pt [S x1000,.row none 5 (List.map (v55 0) ah),.row none 1 (List.map I aA),.row none 1 (List.map I av)])),(10,some (.pt [I x3000,I dJ,B dA,I eu])),(13,none),(14,none)] (by kernel_rfl) (.cons (bJ (ay (rfl:(V.shr (S x1000))=S x1000) (ay (aS (some 55) 5 (v55 1) (v55 0) ah (v55.shr _)) (ay (aS (some 3) 1 I I aA (fun _=>rfl)) (ay (aS (some 3) 1 I I av (fun _=>rfl)) (rfl:aX []=[])))))) (.cons (bJ (ay (rfl:(V.shr (I x3000))=I x3000) (ay (rfl:(V.shr (I dJ))=I dJ) (ay (rfl:(V.shr (B dA))=B dA) (ay (rfl:(V.shr (I eu))=I eu) (rfl:aX []=[])))))) .nil)) [B true,B false] [] (.cons (beq_iff_eq.2 uM) (.cons (fw zz) .nil)) (.cons (beq_iff_eq.2 uM) (.cons (fw zz) .nil)) [] [] (by kernel_rfl) (by kernel_rfl) ?_
    exact ⟨k,by omega,x1,x3,bB,bD,false,x1000,ah,aA,av,x2000,aB,x3000,dJ,dA,eu,Wk.of [(0,0),(1,0),(3,0),(9,0),(10,0),(13,0),(14,0),(100,0)] (by kernel_rfl) (by kernel_rfl),H⟩
   obtain ⟨X6,H⟩:=ax H
   obtain ⟨X7,H⟩:=ax H
   obtain ⟨X8,H⟩:=ax H
   obtain ⟨Dy,ahU,H⟩:=aC H
   refine Good.uF hm hN (.q 0 [] (.q 1 [] (.q 2 [] (.q 3 [] (.k 83 (.q 4 [] (.q 5 [] (.q 6 [] (.q 7 [] (.q 8 [] (.k 88 (.q 9 [] (.q 10 [] (.q 11 [] (.q 12 [] (.q 13 [] (.q 14 [] (.q 15 [] (.q 16 [] (.q 17 [] (.e 18 (.q 19 [] (.q 20 [] .z))))))))))))))))))))))) [(0,some (.pt [S x1000,.row none 5 (List.map (v55 0) ah),.row none 1 (List.map I aA),.row none 1 (List.map I av)])),(10,some (.pt [I x3000,I dJ,B dA,I eu])),(13,none),(14,none)] (by kernel_rfl) (.cons (bJ (ay (rfl:(V.shr (S x1000))=S x1000) (ay (aS (some 55) 5 (v55 1) (v55 0) ah (v55.shr _)) (ay (aS (some 3) 1 I I aA (fun _=>rfl)) (ay (aS (some 3) 1 I I av (fun _=>rfl)) (rfl:aX []=[])))))) (.cons (bJ (ay (rfl:(V.shr (I x3000))=I x3000) (ay (rfl:(V.shr (I dJ))=I dJ) (ay (rfl:(V.shr (B dA))=B dA) (ay (rfl:(V.shr (I eu))=I eu) (rfl:aX []=[])))))) .nil)) [B true,B true,B Dy] [] (.cons (beq_iff_eq.2 uM) (.cons (eB (Bool.eq_false_iff.2 zz)) (.cons X6 (.cons X7 (.cons X8 (.cons (mh.au ahU).c .nil)))))) (.cons (beq_iff_eq.2 uM) (.cons (eB (Bool.eq_false_iff.2 zz)) (.cons X6 (.cons X7 (.cons X8 .nil))))) [] [] (by kernel_rfl) (by kernel_rfl) ?_
   exact ⟨k,by omega,x1,x3,bB,bD,!Dy,x1000,ah,aA,av,x2000,aB,x3000,dJ,dA,eu,Wk.of [(0,0),(1,0),(3,0),(9,0),(10,0),(13,0),(14,0),(100,0)] (by kernel_rfl) (by kernel_rfl),H⟩
  clear H
  rintro st ⟨n',hn',x1,x3,bB,bD,x100,x1000,ah,aA,av,x2000,aB,x3000,dJ,dA,eu,W,H⟩
  rcases n' with _ | k
  ·cases H
  refine W.good ?_
  rw [bT.j1] at H
  rcases aj H with ⟨Lt,H⟩ | ⟨Lt,H⟩
  ·refine Good.kF Lt (by kernel_rfl) ?_
   refine Good.seq ?_
   obtain ⟨zq,ahV,H⟩:=aC H
   refine Good.reg hN [.agg [I zq.1,I zq.2]] (.cons (gM.au ahV).c .nil) [] (by kernel_rfl) ?_
   obtain rfl:=Option.some.inj H
   exact Good.ret (gT (.refl _) (cz.refl _) (by kernel_rfl) rfl)
  refine Good.kG (Bool.eq_false_iff.2 Lt) (by kernel_rfl) ?_
  refine Good.skip ?_
  refine Good.seq ?_
  refine Good.reg hN [I (ah.length:Int)] (.cons (aT (v55 1) ah) .nil) [] (by kernel_rfl) ?_
  refine Good.seq ?_
  refine Good.reg hN [] .nil [] (by kernel_rfl) ?_
  refine Good.seq ?_
  refine Good.seq ?_
  refine Good.reg hN [] .nil [] (by kernel_rfl) ?_
  refine Good.cut (fun st=>∃ n':Nat,n'≤k∧∃ (x1:Int) (x3:Int) (bB:Int) (bD:Int) (aR:Int) (x1000:ByteArray) (ah:List af) (aA:List Int) (av:List Int) (x2000:Int) (aB:Int) (x3000:Int) (dJ:Int) (dA:Bool) (eu:Int) (x4000:Int) (kH:Int) (kI:Bool) (kJ:ByteArray),Wk C st ⟨[(0,.d (.ptr 0 0)),(1,.d (.v (I x1))),(3,.d (.v (I x3))),(9,.d (.ptr 1 0)),(10,.d (.ptr 2 0)),(13,.d (.v (I bB))),(14,.d (.v (I bD))),(15,.d (.v (I aR))),(16,.d (.ptr 3 0))],[.cells [.v (S x1000),.v (.row (some 55) 5 (List.map (v55 1) ah)),.v (.row (some 3) 1 (List.map I aA)),.v (.row (some 3) 1 (List.map I av))],.cells [.v (I x2000),.v (I aB)],.cells [.v (I x3000),.v (I dJ),.v (B dA),.v (I eu)],.cells [.v (I x4000),.v (I kH),.v (B kI),.v (S kJ),.v (.nil 3 1)]]⟩∧bT.j2 n' x1 x3 bB bD aR x1000 ah aA av dA x4000 kH kI kJ=some r) ?_ ?_
  ·rcases aj H with ⟨Lu,H⟩ | ⟨Lu,H⟩
   ·refine Good.kG (fw Lu) (by kernel_rfl) ?_
    refine Good.skip ?_
    exact ⟨k,by omega,x1,x3,bB,bD,(ah.length:Int),x1000,ah,aA,av,x2000,aB,x3000,dJ,dA,eu,x3000,dJ,dA,(⟨#[]⟩:ByteArray),Wk.of [(0,0),(1,0),(3,0),(9,0),(10,0),(13,0),(14,0),(15,0),(16,0)] (by kernel_rfl) (by kernel_rfl),H⟩
   refine Good.kF (eB (Bool.eq_false_iff.2 Lu)) (by kernel_rfl) ?_
   obtain ⟨ahW,H⟩:=ax H
   obtain ⟨ahX,H⟩:=ax H
   obtain ⟨ahY,H⟩:=ax H
   refine Good.reg hN [] (.cons ahW (.cons ahX (.cons ahY .nil))) [] (by kernel_rfl) ?_
   exact ⟨k,by omega,x1,x3,bB,bD,(ah.length:Int),x1000,ah,aA,av,x2000,aB,x3000,dJ,dA,eu,x3000,dJ,dA,x1000.extract (bB:Int).toNat (bD:Int).toNat,Wk.of [(0,0),(1,0),(3,0),(9,0),(10,0),(13,0),(14,0),(15,0),(16,0)] (by kernel_rfl) (by kernel_rfl),H⟩
  clear H
  rintro st ⟨n',hn',x1,x3,bB,bD,aR,x1000,ah,aA,av,x2000,aB,x3000,dJ,dA,eu,x4000,kH,kI,kJ,W,H⟩
  rcases n' with _ | k
  ·cases H
  refine W.good ?_
  rw [bT.j2] at H
  refine Good.seq ?_
  obtain ⟨ahZ,H⟩:=ax H
  replace H:=oK H
  refine Good.uF hm hN (.i 0 (.q 1 [[4,3,2],[]] (.q 2 [[4,3],[]] (.q 3 [[4],[]] (.q 4 [[],[]] (.q 5 [[6],[]] (.e 6 (.e 7 (.i 8 (.i 9 (.e 10 .z))))))))))) [(0,some (.pt [S x1000,.row none 5 (List.map (v55 0) ah),.row none 1 (List.map I aA),.row none 1 (List.map I av)])),(16,some (.pt [I x4000,I kH,B kI,S kJ,.nil 3 1]))] (by kernel_rfl) (.cons (bJ (ay (rfl:(V.shr (S x1000))=S x1000) (ay (aS (some 55) 5 (v55 1) (v55 0) ah (v55.shr _)) (ay (aS (some 3) 1 I I aA (fun _=>rfl)) (ay (aS (some 3) 1 I I av (fun _=>rfl)) (rfl:aX []=[])))))) (.cons (bJ (ay (rfl:(V.shr (I x4000))=I x4000) (ay (rfl:(V.shr (I kH))=I kH) (ay (rfl:(V.shr (B kI))=B kI) (ay (rfl:(V.shr (S kJ))=S kJ) (ay (rfl:(V.shr (.nil 3 1))=.nil 3 1) (rfl:aX []=[]))))))) .nil)) [.kb true,.row (some 55) 5 (List.map (v55 1) (ah++[(⟨x4000,kH,kI,kJ,([]:List Int)⟩:af)]))] [] (.cons (dY (v55 1) ah [(⟨x4000,kH,kI,kJ,([]:List Int)⟩:af)] (.cons (.agg (.cons (.refl _) (.cons (.refl _) (.cons (.refl _) (.cons (.refl _) (.cons (.iA 3 1) .nil)))))) .nil)) (.cons (eZ (v55 1) ahZ) .nil)) .nil [] [] (by kernel_rfl) (by kernel_rfl) ?_
  refine Good.seq ?_
  obtain ⟨ah0,H⟩:=ax H
  replace H:=oK H
  refine Good.reg hN [.kb true,.row (some 3) 1 (List.map I (aA++[x1]))] (.cons (dY I aA [x1] (.refl _)) (.cons (eZ I ah0) .nil)) [] (by kernel_rfl) ?_
  refine Good.seq ?_
  obtain ⟨ah1,H⟩:=ax H
  replace H:=oK H
  refine Good.reg hN [.kb true,.row (some 3) 1 (List.map I (av++[bD]))] (.cons (dY I av [bD] (.refl _)) (.cons (eZ I ah1) .nil)) [] (by kernel_rfl) ?_
  refine Good.seq ?_
  refine Good.seq ?_
  refine Good.reg hN [] .nil [] (by kernel_rfl) ?_
  rcases (aj H).symm with ⟨Lv,H⟩ | ⟨Lv,H⟩
  ·refine Good.kF (eB (Bool.eq_false_iff.2 Lv)) (by kernel_rfl) ?_
   refine Good.seq ?_
   refine Good.reg hN [] .nil [] (by kernel_rfl) ?_
   obtain rfl:=Option.some.inj H
   exact Good.ret (gT (.refl _) (cz.refl _) (by kernel_rfl) rfl)
  refine Good.kG (fw Lv) (by kernel_rfl) ?_
  refine Good.skip ?_
  refine Good.seq ?_
  refine Good.reg hN [] .nil [] (by kernel_rfl) ?_
  refine Good.seq ?_
  refine Good.block ?_
  refine Good.dN (fun k' st=>∃ (x3:Int) (bD:Int) (aR:Int) (bQ:Int) (x1000:ByteArray) (ah:List af) (aA:List Int) (av:List Int) (x2000:Int) (aB:Int) (x3000:Int) (dJ:Int) (dA:Bool) (eu:Int) (x4000:Int) (kH:Int) (kI:Bool) (kJ:ByteArray),k'≤k∧Wk C st ⟨[(0,.d (.ptr 0 0)),(3,.d (.v (I x3))),(9,.d (.ptr 1 0)),(14,.d (.v (I bD))),(15,.d (.v (I aR))),(17,.d (.v (I bQ)))],[.cells [.v (S x1000),.v (.row (some 55) 5 (List.map (v55 1) ah)),.v (.row (some 3) 1 (List.map I aA)),.v (.row (some 3) 1 (List.map I av))],.cells [.v (I x2000),.v (I aB)],.cells [.v (I x3000),.v (I dJ),.v (B dA),.v (I eu)],.cells [.v (I x4000),.v (I kH),.v (B kI),.v (S kJ),.v (.nil 3 1)]]⟩∧bT.l0 k' x3 bD aR bQ x1000 ah aA av=some r) k ⟨x3,bD,aR,bB,x1000,(ah++[(⟨x4000,kH,kI,kJ,([]:List Int)⟩:af)]),(aA++[x1]),(av++[bD]),x2000,aB,x3000,dJ,dA,eu,x4000,kH,kI,kJ,Nat.le_refl _,Wk.of [(0,0),(3,0),(9,0),(14,0),(15,0),(17,0)] (by kernel_rfl) (by kernel_rfl),H⟩ fun k=>⟨fun st h=>(by obtain ⟨_,_,_,_,_,_,_,_,_,_,_,_,_,_,_,_,_,_,_,_,H⟩:=h;cases H),?_⟩
  clear H
  rintro st ⟨x3,bD,aR,bQ,x1000,ah,aA,av,x2000,aB,x3000,dJ,dA,eu,x4000,kH,kI,kJ,hk,W,H⟩
  refine W.good ?_
  rw [bT.l0] at H
  refine Good.seq ?_
  refine Good.seq ?_
  refine Good.reg hN [] .nil [] (by kernel_rfl) ?_
  rcases (aj H).symm with ⟨Lx,H⟩ | ⟨Lx,H⟩
  ·refine Good.kG (decide_eq_false Lx) (by kernel_rfl) ?_
   refine Good.exit ?_
   refine Good.seq ?_
   refine Good.reg hN [] .nil [] (by kernel_rfl) ?_
   obtain rfl:=Option.some.inj H
   exact Good.ret (gT (.refl _) (cz.refl _) (by kernel_rfl) rfl)
  refine Good.kF (decide_eq_true Lx) (by kernel_rfl) ?_
  refine Good.skip ?_
  refine Good.block ?_
  refine Good.seq ?_
  obtain ⟨jk,H⟩:=ax H
  obtain ⟨kg,H⟩:=ax H
  obtain ⟨LA,H⟩:=ax H
  refine Good.XU (n:=3) hm hN hL (.i 0 (.i 1 (.i 2 (.i 4 (.q 5 [[12,11,10,8,7,6],[]] (.q 6 [[12,11,10,8,7],[]] (.q 7 [[12,11,10,8],[]] (.q 8 [[12,11,10],[]] (.q 9 [[12,11,10],[]] (.q 10 [[12,11],[]] (.q 11 [[12],[]] (.q 12 [[],[]] (.q 13 [[18,17,16,15,14],[]] (.q 14 [[18,17,16,15],[]] (.q 15 [[18,17,16],[]] (.q 16 [[18,17],[]] (.q 17 [[18],[]] (.b 3 [.kb true,(v55 1) (aa ah aR),.row (some 3) 1 (List.map I (((aa ah aR).f4)++[(ah.length:Int)])),dU ((v55 1) (aa ah aR)) 4 [.any],(v55 1) (⟨(aa ah aR).f0,(aa ah aR).f1,(aa ah aR).f2,(aa ah aR).f3,(((aa ah aR).f4)++[(ah.length:Int)])⟩:af),.row (some 55) 5 (List.map (v55 1) (ah.set (aR:Int).toNat (⟨(aa ah aR).f0,(aa ah aR).f1,(aa ah aR).f2,(aa ah aR).f3,(((aa ah aR).f4)++[(ah.length:Int)])⟩:af)))] [] (.e 18 (.e 19 (.e 20 (.e 21 (.e 22 .z))))) [] [] (.e 18 (.b 3 [.kb true,(v55 1) (aa ah aR),.row (some 3) 1 (List.map I (((aa ah aR).f4)++[(ah.length:Int)])),dU ((v55 1) (aa ah aR)) 4 [.any],(v55 1) (⟨(aa ah aR).f0,(aa ah aR).f1,(aa ah aR).f2,(aa ah aR).f3,(((aa ah aR).f4)++[(ah.length:Int)])⟩:af),.row (some 55) 5 (List.map (v55 1) (ah.set (aR:Int).toNat (⟨(aa ah aR).f0,(aa ah aR).f1,(aa ah aR).f2,(aa ah aR).f3,(((aa ah aR).f4)++[(ah.length:Int)])⟩:af)))] [] (.e 19 (.e 20 (.e 21 (.e 22 .z)))) [.kb true,(v55 1) (aa ah aR),.row (some 3) 1 (List.map I (((aa ah aR).f4)++[(ah.length:Int)])),dU ((v55 1) (aa ah aR)) 4 [.any],(v55 1) (⟨(aa ah aR).f0,(aa ah aR).f1,(aa ah aR).f2,(aa ah aR).f3,(((aa ah aR).f4)++[(ah.length:Int)])⟩:af),.row (some 55) 5 (List.map (v55 1) (ah.set (aR:Int).toNat (⟨(aa ah aR).f0,(aa ah aR).f1,(aa ah aR).f2,(aa ah aR).f3,(((aa ah aR).f4)++[(ah.length:Int)])⟩:af)))] [] (.e 19 (.e 3 (.e 20 (.e 21 (.e 22 .z))))))))))))))))))))))))) [(0,some (.pt [S x1000,.row none 5 (List.map (v55 0) ah),.row none 1 (List.map I aA),.row none 1 (List.map I av)])),(15,none)] (by kernel_rfl) (.cons (bJ (ay (rfl:(V.shr (S x1000))=S x1000) (ay (aS (some 55) 5 (v55 1) (v55 0) ah (v55.shr _)) (ay (aS (some 3) 1 I I aA (fun _=>rfl)) (ay (aS (some 3) 1 I I av (fun _=>rfl)) (rfl:aX []=[])))))) .nil) [(v55 1) (aa ah aR),I (ah.length:Int)] [(v55 0) (aa ah aR),I (ah.length:Int)] (.cons (.cons jk (.cons (gz (v55 1) kg) (.cons (aF (v55 1) z55 jk kg) (.cons (aT (v55 1) ah) (.cons (aF (v55 1) z55 jk kg) (.cons (dY I ((aa ah aR).f4) [(ah.length:Int)] (.refl _)) (.cons (eZ I LA) (.cons jk (.cons (sU (v55 1) (m:=(aR:Int).toNat) (X:=dU ((v55 1) (aa ah aR)) 4 [.any]) kg) (.cons (sW (v55 1) (X:=dU ((v55 1) (aa ah aR)) 4 [.any]) jk kg) (.cons (Fit.refl ((v55 1) (⟨(aa ah aR).f0,(aa ah aR).f1,(aa ah aR).f2,(aa ah aR).f3,(((aa ah aR).f4)++[(ah.length:Int)])⟩:af))) (.cons (setH (v55 1) (l:=ah) (n:=(aR:Int).toNat) (x:=(⟨(aa ah aR).f0,(aa ah aR).f1,(aa ah aR).f2,(aa ah aR).f3,(((aa ah aR).f4)++[(ah.length:Int)])⟩:af)) (X:=dU ((v55 1) (aa ah aR)) 4 [.any])) .nil)))))))))))) (.cons jk (.cons (aF (v55 0) z55 jk kg) (.cons (aT (v55 0) ah) .nil))) (.cons (.cons jk (.cons (gz (v55 1) kg) (.cons (aF (v55 1) z55 jk kg) (.cons (aT (v55 1) ah) (.cons (aF (v55 1) z55 jk kg) (.cons (dY I ((aa ah aR).f4) [(ah.length:Int)] (.refl _)) (.cons (eZ I LA) (.cons jk (.cons (sU (v55 1) (m:=(aR:Int).toNat) (X:=dU ((v55 1) (aa ah aR)) 4 [.any]) kg) (.cons (sW (v55 1) (X:=dU ((v55 1) (aa ah aR)) 4 [.any]) jk kg) (.cons (Fit.refl ((v55 1) (⟨(aa ah aR).f0,(aa ah aR).f1,(aa ah aR).f2,(aa ah aR).f3,(((aa ah aR).f4)++[(ah.length:Int)])⟩:af))) (.cons (setH (v55 1) (l:=ah) (n:=(aR:Int).toNat) (x:=(⟨(aa ah aR).f0,(aa ah aR).f1,(aa ah aR).f2,(aa ah aR).f3,(((aa ah aR).f4)++[(ah.length:Int)])⟩:af)) (X:=dU ((v55 1) (aa ah aR)) 4 [.any])) .nil)))))))))))) (.cons jk (.cons (aF (v55 0) z55 jk kg) (.cons (aT (v55 0) ah) .nil))) (.cons (.cons jk (.cons (gz (v55 1) kg) (.cons (aF (v55 1) z55 jk kg) (.cons (aT (v55 1) ah) (.cons (aF (v55 1) z55 jk kg) (.cons (dY I ((aa ah aR).f4) [(ah.length:Int)] (.refl _)) (.cons (eZ I LA) (.cons jk (.cons (sU (v55 1) (m:=(aR:Int).toNat) (X:=dU ((v55 1) (aa ah aR)) 4 [.any]) kg) (.cons (sW (v55 1) (X:=dU ((v55 1) (aa ah aR)) 4 [.any]) jk kg) (.cons (Fit.refl ((v55 1) (⟨(aa ah aR).f0,(aa ah aR).f1,(aa ah aR).f2,(aa ah aR).f3,(((aa ah aR).f4)++[(ah.length:Int)])⟩:af))) (.cons (setH (v55 1) (l:=ah) (n:=(aR:Int).toNat) (x:=(⟨(aa ah aR).f0,(aa ah aR).f1,(aa ah aR).f2,(aa ah aR).f3,(((aa ah aR).f4)++[(ah.length:Int)])⟩:af)) (X:=dU ((v55 1) (aa ah aR)) 4 [.any])) .nil)))))))))))) (.cons jk (.cons (aF (v55 0) z55 jk kg) (.cons (aT (v55 0) ah) .nil))) .nil))) [] [] (by kernel_rfl) (by kernel_rfl) [[],[],[]] [(0,0),(3,0),(9,0),(14,0),(15,0),(17,0)] [(0,.d (.ptr 0 0)),(3,.d (.v (I x3))),(9,.d (.ptr 1 0)),(14,.d (.v (I bD))),(15,.d (.v (I aR))),(17,.d (.v (I bQ)))] [.cells [.v (S x1000),.v (.row (some 55) 5 (List.map (v55 1) (ah.set (aR:Int).toNat (⟨(aa ah aR).f0,(aa ah aR).f1,(aa ah aR).f2,(aa ah aR).f3,(((aa ah aR).f4)++[(ah.length:Int)])⟩:af)))),.v (.row (some 3) 1 (List.map I aA)),.v (.row (some 3) 1 (List.map I av))],.cells [.v (I x2000),.v (I aB)],.cells [.v (I x3000),.v (I dJ),.v (B dA),.v (I eu)],.cells [.v (I x4000),.v (I kH),.v (B kI),.v (S kJ),.v (.nil 3 1)]] (by kernel_rfl) (by kernel_rfl) ?_
  refine Good.seq ?_
  obtain ⟨gm,ah2,H⟩:=aC H
  refine Good.reg hN [.aD [I gm.1,.agg [I gm.2.1,I gm.2.2.1]],.aD [.agg [S gm.2.2.2.1,.row (some 55) 5 (List.map (v55 1) gm.2.2.2.2.1),.row (some 3) 1 (List.map I gm.2.2.2.2.2.1),.row (some 3) 1 (List.map I gm.2.2.2.2.2.2)]]] (.cons (ih _ _ _ _ _ _ _ _ _ (by omega) ah2).c .nil) [] (by kernel_rfl) ?_
  refine Good.seq ?_
  refine Good.seq ?_
  refine Good.reg hN [] .nil [] (by kernel_rfl) ?_
  rcases aj H with ⟨LC,H⟩ | ⟨LC,H⟩
  ·refine Good.kG (bM LC) (by kernel_rfl) ?_
   refine Good.skip ?_
   refine Good.reg hN [] .nil [] (by kernel_rfl) ?_
   exact ⟨k,by omega,x3,bD,aR,gm.1,gm.2.2.2.1,gm.2.2.2.2.1,gm.2.2.2.2.2.1,gm.2.2.2.2.2.2,x2000,aB,x3000,dJ,dA,eu,x4000,kH,kI,kJ,by omega,Wk.oV hL 4 [(0,0),(3,0),(9,0),(14,0),(15,0),(17,0)] (by kernel_rfl) (by kernel_rfl) (by kernel_rfl),H⟩
  refine Good.kF (bne_iff_ne.2 LC) (by kernel_rfl) ?_
  refine Good.seq ?_
  refine Good.uF hm hN (.q 0 [[]] (.q 1 [[]] (.e 2 .z))) [(9,some (.pt [I x2000,I aB])),(19,some (.pt [I gm.2.1,I gm.2.2.1]))] (by kernel_rfl) (.cons (bJ (ay (rfl:(V.shr (I x2000))=I x2000) (ay (rfl:(V.shr (I aB))=I aB) (rfl:aX []=[])))) (.cons (bJ (ay (rfl:(V.shr (I gm.2.1))=I gm.2.1) (ay (rfl:(V.shr (I gm.2.2.1))=I gm.2.2.1) (rfl:aX []=[])))) .nil)) [] [] .nil .nil [] [] (by kernel_rfl) (by kernel_rfl) ?_
  obtain rfl:=Option.some.inj H
  exact Good.ret (gT (.refl _) (cz.refl _) (by kernel_rfl) rfl)
theorem bT.au {k:Nat} {aJ:ByteArray} {az:List af} {aY:List Int} {ai:List Int} {a1:Int} {a2:Int} {a3:Int} {r:(Int × Int × Int × ByteArray × List af × List Int × List Int)} (H:bT.f k aJ az aY ai a1 a2 a3=some r):lY Tryz.prog 95 [.ptr 0 0,.v (I a1),.v (I a2),.v (I a3)] [[S aJ,.row (some 55) 5 (List.map (v55 1) az),.row (some 3) 1 (List.map I aY),.row (some 3) 1 (List.map I ai)]] (.v (.aD [I r.1,.agg [I r.2.1,I r.2.2.1]])) [[S r.2.2.2.1,.row (some 55) 5 (List.map (v55 1) r.2.2.2.2.1),.row (some 3) 1 (List.map I r.2.2.2.2.2.1),.row (some 3) 1 (List.map I r.2.2.2.2.2.2)]]:=bT.cons k k aJ az aY ai a1 a2 a3 r (Nat.le_refl _) H
def oH.f (k:Nat) (a0:ByteArray):Option (ByteArray × List af × List Int × List Int × Int × Int):=if a0.toList=([]:List UInt8) then ((gM.f 3 0).bind fun zA=>(some (a0,([]:List af),([]:List Int),([]:List Int),zA.1,zA.2))) else (if (a0.size:Int) > 65535 then ((gM.f 4 0).bind fun zB=>(some (a0,([]:List af),([]:List Int),([]:List Int),zB.1,zB.2))) else ((bT.f k a0 ([]:List af) ([]:List Int) ([]:List Int) 0 (a0.size:Int) 1).bind fun bu=>(if bu.2.1=0 then (if bu.1 < (a0.size:Int) then ((gM.f 5 bu.1).bind fun oL=>(some (bu.2.2.2.1,bu.2.2.2.2.1,bu.2.2.2.2.2.1,bu.2.2.2.2.2.2,oL.1,oL.2))) else (some (bu.2.2.2.1,bu.2.2.2.2.1,bu.2.2.2.2.2.1,bu.2.2.2.2.2.2,bu.2.1,bu.2.2.1))) else (some (bu.2.2.2.1,bu.2.2.2.2.1,bu.2.2.2.2.2.1,bu.2.2.2.2.2.2,bu.2.1,bu.2.2.1)))))
theorem oH.au {k:Nat} {a0:ByteArray} {r:(ByteArray × List af × List Int × List Int × Int × Int)} (H:oH.f k a0=some r):aQ Tryz.prog 57 [S a0] (.aD [.pt [S r.1,.row none 5 (List.map (v55 0) r.2.1),.row none 1 (List.map I r.2.2.1),.row none 1 (List.map I r.2.2.2.1)],.agg [I r.2.2.2.2.1,I r.2.2.2.2.2]]):=by
 refine Cg Tryz.func57 rfl fun C hN hL=>?_
 unfold oH.f at H
 refine Sw<|Rg hN<|Sw<|Rg hN<|Sw<|Sw<|Ri hN [] (.c1 (eP (rfl:a0.toList=a0.toList) (dV ([]:List UInt8)))) [(11,.bool (a0.toList == ([]:List UInt8)))] ?_
 rcases aj H with ⟨LD,H⟩ | ⟨LD,H⟩
 ·refine Ct (bq LD)<|Sw ?_
  obtain ⟨zA,ah3,H⟩:=aC H
  refine Rh hN [.agg [I zA.1,I zA.2]] (.c1 (gM.au ah3).c) ?_
  cases H
  exact Good.YA 1 (us:=[S a0,.nil 55 5,.nil 3 1,.nil 3 1]) (ds:=[S a0,.row none 5 (List.map (v55 0) ([]:List af)),.row none 1 (List.map I ([]:List Int)),.row none 1 (List.map I ([]:List Int))]) (by kernel_rfl) (.c4 (.refl _) (.jf 55 5 _) (.jf 3 1 _) (.jf 3 1 _))<|Good.pK 2 1 0 (us:=[S a0,.row none 5 (List.map (v55 0) ([]:List af)),.row none 1 (List.map I ([]:List Int)),.row none 1 (List.map I ([]:List Int))]) (us':=[S a0,.row none 5 (List.map (v55 0) ([]:List af)),.row none 1 (List.map I ([]:List Int)),.row none 1 (List.map I ([]:List Int))]) (by kernel_rfl) (by kernel_rfl) (ay (rfl:(V.shr (S a0))=S a0) (ay (aS none 5 (v55 0) (v55 0) ([]:List af) (v55.shr _)) (ay (aS none 1 I I ([]:List Int) (fun _=>rfl)) (ay (aS none 1 I I ([]:List Int) (fun _=>rfl)) (rfl:aX []=[])))))<|Rt dR
 refine Cf (bn LD)<|Sk<|Sw<|Sw<|Rg hN ?_
 rcases aj H with ⟨LF,H⟩ | ⟨LF,H⟩
 ·refine Ct (dt LF)<|Sw ?_
  obtain ⟨zB,ah4,H⟩:=aC H
  refine Rh hN [.agg [I zB.1,I zB.2]] (.c1 (gM.au ah4).c) ?_
  cases H
  exact Good.YA 1 (us:=[S a0,.nil 55 5,.nil 3 1,.nil 3 1]) (ds:=[S a0,.row none 5 (List.map (v55 0) ([]:List af)),.row none 1 (List.map I ([]:List Int)),.row none 1 (List.map I ([]:List Int))]) (by kernel_rfl) (.c4 (.refl _) (.jf 55 5 _) (.jf 3 1 _) (.jf 3 1 _))<|Good.pK 2 1 0 (us:=[S a0,.row none 5 (List.map (v55 0) ([]:List af)),.row none 1 (List.map I ([]:List Int)),.row none 1 (List.map I ([]:List Int))]) (us':=[S a0,.row none 5 (List.map (v55 0) ([]:List af)),.row none 1 (List.map I ([]:List Int)),.row none 1 (List.map I ([]:List Int))]) (by kernel_rfl) (by kernel_rfl) (ay (rfl:(V.shr (S a0))=S a0) (ay (aS none 5 (v55 0) (v55 0) ([]:List af) (v55.shr _)) (ay (aS none 1 I I ([]:List Int) (fun _=>rfl)) (ay (aS none 1 I I ([]:List Int) (fun _=>rfl)) (rfl:aX []=[])))))<|Rt dR
 refine Cf (df LF)<|Sk<|Sw ?_
 obtain ⟨bu,ah5,H⟩:=aC H
 refine Rh hN [.aD [I bu.1,.agg [I bu.2.1,I bu.2.2.1]],.aD [.agg [S bu.2.2.2.1,.row (some 55) 5 (List.map (v55 1) bu.2.2.2.2.1),.row (some 3) 1 (List.map I bu.2.2.2.2.2.1),.row (some 3) 1 (List.map I bu.2.2.2.2.2.2)]]] (.c1 (lY.n (bT.au ah5) (.c4 (.refl _) (.refl _) (.refl _) (.refl _)) (.c1 (.c4 (.refl _) (.iA 55 5) (.iA 3 1) (.iA 3 1)))))<|Sw<|Sw ?_
 rcases (aj H).symm with ⟨LG,H⟩ | ⟨LG,H⟩
 ·refine Rh hN [B false] (.c1 (bn LG))<|Good.cond false (by kernel_rfl)<|Sk<|Sw<|Rd hm hN (.q 0 [[]] (.q 1 [[]] (.q 2 [[]] (.e 3 .z)))) [(3,some (.pt [I 0,I 0])),(4,some (.pt [S bu.2.2.2.1,.row none 5 (List.map (v55 0) bu.2.2.2.2.1),.row none 1 (List.map I bu.2.2.2.2.2.1),.row none 1 (List.map I bu.2.2.2.2.2.2)])),(6,some (.pt [I bu.2.1,I bu.2.2.1]))] (.c3 (bJ (ay (rfl:(V.shr (I 0))=I 0) (ay (rfl:(V.shr (I 0))=I 0) (rfl:aX []=[])))) (bJ (ay (rfl:(V.shr (S bu.2.2.2.1))=S bu.2.2.2.1) (ay (aS (some 55) 5 (v55 1) (v55 0) bu.2.2.2.2.1 (v55.shr _)) (ay (aS (some 3) 1 I I bu.2.2.2.2.2.1 (fun _=>rfl)) (ay (aS (some 3) 1 I I bu.2.2.2.2.2.2 (fun _=>rfl)) (rfl:aX []=[])))))) (bJ (ay (rfl:(V.shr (I bu.2.1))=I bu.2.1) (ay (rfl:(V.shr (I bu.2.2.1))=I bu.2.2.1) (rfl:aX []=[]))))) [] [] .nil .nil [] [] ?_
  cases H
  exact Good.pK 2 1 0 (us:=[S bu.2.2.2.1,.row (some 55) 5 (List.map (v55 1) bu.2.2.2.2.1),.row (some 3) 1 (List.map I bu.2.2.2.2.2.1),.row (some 3) 1 (List.map I bu.2.2.2.2.2.2)]) (us':=[S bu.2.2.2.1,.row none 5 (List.map (v55 0) bu.2.2.2.2.1),.row none 1 (List.map I bu.2.2.2.2.2.1),.row none 1 (List.map I bu.2.2.2.2.2.2)]) (by kernel_rfl) (by kernel_rfl) (ay (rfl:(V.shr (S bu.2.2.2.1))=S bu.2.2.2.1) (ay (aS (some 55) 5 (v55 1) (v55 0) bu.2.2.2.2.1 (v55.shr _)) (ay (aS (some 3) 1 I I bu.2.2.2.2.2.1 (fun _=>rfl)) (ay (aS (some 3) 1 I I bu.2.2.2.2.2.2 (fun _=>rfl)) (rfl:aX []=[])))))<|Rt dR
 refine Rh hN [B true] (.c1 (bq LG)) ?_
 rcases (aj H).symm with ⟨LH,H⟩ | ⟨LH,H⟩
 ·refine Cf (df LH)<|Sk<|Sw<|Rd hm hN (.q 0 [[]] (.q 1 [[]] (.q 2 [[]] (.e 3 .z)))) [(3,some (.pt [I 0,I 0])),(4,some (.pt [S bu.2.2.2.1,.row none 5 (List.map (v55 0) bu.2.2.2.2.1),.row none 1 (List.map I bu.2.2.2.2.2.1),.row none 1 (List.map I bu.2.2.2.2.2.2)])),(6,some (.pt [I bu.2.1,I bu.2.2.1]))] (.c3 (bJ (ay (rfl:(V.shr (I 0))=I 0) (ay (rfl:(V.shr (I 0))=I 0) (rfl:aX []=[])))) (bJ (ay (rfl:(V.shr (S bu.2.2.2.1))=S bu.2.2.2.1) (ay (aS (some 55) 5 (v55 1) (v55 0) bu.2.2.2.2.1 (v55.shr _)) (ay (aS (some 3) 1 I I bu.2.2.2.2.2.1 (fun _=>rfl)) (ay (aS (some 3) 1 I I bu.2.2.2.2.2.2 (fun _=>rfl)) (rfl:aX []=[])))))) (bJ (ay (rfl:(V.shr (I bu.2.1))=I bu.2.1) (ay (rfl:(V.shr (I bu.2.2.1))=I bu.2.2.1) (rfl:aX []=[]))))) [] [] .nil .nil [] [] ?_
  cases H
  exact Good.pK 2 1 0 (us:=[S bu.2.2.2.1,.row (some 55) 5 (List.map (v55 1) bu.2.2.2.2.1),.row (some 3) 1 (List.map I bu.2.2.2.2.2.1),.row (some 3) 1 (List.map I bu.2.2.2.2.2.2)]) (us':=[S bu.2.2.2.1,.row none 5 (List.map (v55 0) bu.2.2.2.2.1),.row none 1 (List.map I bu.2.2.2.2.2.1),.row none 1 (List.map I bu.2.2.2.2.2.2)]) (by kernel_rfl) (by kernel_rfl) (ay (rfl:(V.shr (S bu.2.2.2.1))=S bu.2.2.2.1) (ay (aS (some 55) 5 (v55 1) (v55 0) bu.2.2.2.2.1 (v55.shr _)) (ay (aS (some 3) 1 I I bu.2.2.2.2.2.1 (fun _=>rfl)) (ay (aS (some 3) 1 I I bu.2.2.2.2.2.2 (fun _=>rfl)) (rfl:aX []=[])))))<|Rt dR
 refine Ct (dt LH) ?_
 obtain ⟨oL,ah6,H⟩:=aC H
 refine Rh hN [.agg [I oL.1,I oL.2]] (.c1 (gM.au ah6).c)<|Sw<|Rd hm hN (.q 0 [[]] (.q 1 [[]] (.q 2 [[]] (.e 3 .z)))) [(3,some (.pt [I 0,I 0])),(4,some (.pt [S bu.2.2.2.1,.row none 5 (List.map (v55 0) bu.2.2.2.2.1),.row none 1 (List.map I bu.2.2.2.2.2.1),.row none 1 (List.map I bu.2.2.2.2.2.2)])),(6,some (.pt [I oL.1,I oL.2]))] (.c3 (bJ (ay (rfl:(V.shr (I 0))=I 0) (ay (rfl:(V.shr (I 0))=I 0) (rfl:aX []=[])))) (bJ (ay (rfl:(V.shr (S bu.2.2.2.1))=S bu.2.2.2.1) (ay (aS (some 55) 5 (v55 1) (v55 0) bu.2.2.2.2.1 (v55.shr _)) (ay (aS (some 3) 1 I I bu.2.2.2.2.2.1 (fun _=>rfl)) (ay (aS (some 3) 1 I I bu.2.2.2.2.2.2 (fun _=>rfl)) (rfl:aX []=[])))))) (bJ (ay (rfl:(V.shr (I oL.1))=I oL.1) (ay (rfl:(V.shr (I oL.2))=I oL.2) (rfl:aX []=[]))))) [] [] .nil .nil [] [] ?_
 cases H
 exact Good.pK 2 1 0 (us:=[S bu.2.2.2.1,.row (some 55) 5 (List.map (v55 1) bu.2.2.2.2.1),.row (some 3) 1 (List.map I bu.2.2.2.2.2.1),.row (some 3) 1 (List.map I bu.2.2.2.2.2.2)]) (us':=[S bu.2.2.2.1,.row none 5 (List.map (v55 0) bu.2.2.2.2.1),.row none 1 (List.map I bu.2.2.2.2.2.1),.row none 1 (List.map I bu.2.2.2.2.2.2)]) (by kernel_rfl) (by kernel_rfl) (ay (rfl:(V.shr (S bu.2.2.2.1))=S bu.2.2.2.1) (ay (aS (some 55) 5 (v55 1) (v55 0) bu.2.2.2.2.1 (v55.shr _)) (ay (aS (some 3) 1 I I bu.2.2.2.2.2.1 (fun _=>rfl)) (ay (aS (some 3) 1 I I bu.2.2.2.2.2.2 (fun _=>rfl)) (rfl:aX []=[])))))<|Rt dR
def mO.f (k:Nat) (a0:ByteArray):Option (List af × Int × Int):=(oH.f k a0).bind fun ig=>(if ig.2.2.2.2.1=0 then (some (ig.2.1,ig.2.2.2.2.1,ig.2.2.2.2.2)) else (some (([]:List af),ig.2.2.2.2.1,ig.2.2.2.2.2)))
theorem mO.au {k:Nat} {a0:ByteArray} {r:(List af × Int × Int)} (H:mO.f k a0=some r):aQ Tryz.prog 27 [S a0] (.aD [.row none 5 (List.map (v55 0) r.1),.agg [I r.2.1,I r.2.2]]):=by
 refine Cg Tryz.func27 rfl fun C hN hL=>?_
 unfold mO.f at H
 refine Sw<|Rg hN<|Sw ?_
 obtain ⟨ig,ah7,H⟩:=aC H
 refine Rh hN [.aD [.pt [S ig.1,.row none 5 (List.map (v55 0) ig.2.1),.row none 1 (List.map I ig.2.2.1),.row none 1 (List.map I ig.2.2.2.1)],.agg [I ig.2.2.2.2.1,I ig.2.2.2.2.2]]] (.c1 (oH.au ah7).c)<|Sw<|Sw<|Rg hN ?_
 rcases (aj H).symm with ⟨LJ,H⟩ | ⟨LJ,H⟩
 ·refine Ct (nq LJ)<|Sw<|Rd hm hN (.q 0 [[]] (.q 1 [[]] (.e 2 .z))) [(3,some (.pt [I 0,I 0])),(5,some (.pt [I ig.2.2.2.2.1,I ig.2.2.2.2.2]))] (.c2 (bJ (ay (rfl:(V.shr (I 0))=I 0) (ay (rfl:(V.shr (I 0))=I 0) (rfl:aX []=[])))) (bJ (ay (rfl:(V.shr (I ig.2.2.2.2.1))=I ig.2.2.2.2.1) (ay (rfl:(V.shr (I ig.2.2.2.2.2))=I ig.2.2.2.2.2) (rfl:aX []=[]))))) [] [] .nil .nil [] [] ?_
  cases H
  exact Good.ret (jY (u:=.aD [.nil 55 5,.agg [I ig.2.2.2.2.1,I ig.2.2.2.2.2]]) (.aD (.c2 (.jf 55 5 _) (.refl _))) (by kernel_rfl))
 refine Cf (bM LJ)<|Sk<|Sw<|Rd hm hN (.q 0 [[]] (.q 1 [[]] (.q 2 [[]] (.q 3 [[]] (.q 4 [[]] (.q 5 [[]] (.e 6 .z))))))) [(3,some (.pt [I 0,I 0])),(4,none),(5,some (.pt [I ig.2.2.2.2.1,I ig.2.2.2.2.2]))] (.c2 (bJ (ay (rfl:(V.shr (I 0))=I 0) (ay (rfl:(V.shr (I 0))=I 0) (rfl:aX []=[])))) (bJ (ay (rfl:(V.shr (I ig.2.2.2.2.1))=I ig.2.2.2.2.1) (ay (rfl:(V.shr (I ig.2.2.2.2.2))=I ig.2.2.2.2.2) (rfl:aX []=[]))))) [] [] .nil .nil [] [] ?_
 cases H
 exact Rt dR
def lN.l0:Nat→List Int→List Int→Int→Option (Bool)
 | 0,_,_,_=>none
 | k+1,x0,x1,x5=>if x5 < (x0.length:Int) then (if 0≤x5 then (if x5 < (x1.length:Int) then (if (rd x0 x5)=(rd x1 x5) then (lN.l0 k x0 x1 (wrap64 (x5+1))) else (some false)) else (none)) else (none)) else (some true)
def lN.f (k:Nat) (l0:List Int) (l1:List Int):Option (Bool):=if (l0.length:Int)=(l1.length:Int) then (lN.l0 k l0 l1 0) else (some false)
theorem lN.au {k:Nat} {l0:List Int} {l1:List Int} {r:(Bool)} (H:lN.f k l0 l1=some r):aQ Tryz.prog 58 [.row none 1 (List.map I l0),.row none 1 (List.map I l1)] (B r):=by
 refine Cg Tryz.func58 rfl fun C hN hL=>?_
 unfold lN.f at H
 refine Sw<|Rg hN<|Sw<|Sw<|Rh hN [I (l0.length:Int),I (l1.length:Int)] (.c2 (aT I l0) (aT I l1)) ?_
 rcases (aj H).symm with ⟨LK,H⟩ | ⟨LK,H⟩
 ·refine Ct (nq LK)<|Sw<|Rg hN ?_
  cases H
  exact Rt dR
 refine Cf (bM LK)<|Sk<|Sw<|Sw<|Rg hN<|Bl<|Good.dN (fun k' st=>∃ (x0:List Int) (x1:List Int) (x5:Int),k'≤k∧Wk C st ⟨[(0,.w (.row none 1 (List.map I x0))),(1,.w (.row none 1 (List.map I x1))),(5,.w (I x5))],[]⟩∧lN.l0 k' x0 x1 x5=some r) k ⟨l0,l1,0,Nat.le_refl _,Wo [(0,0),(1,0),(5,0)],H⟩ fun k=>⟨fun st h=>(by obtain ⟨_,_,_,_,_,H⟩:=h;cases H),?_⟩
 clear H
 rintro st ⟨x0,x1,x5,hk,W,H⟩
 refine W.good ?_
 rw [lN.l0] at H
 refine Sw<|Sw<|Rh hN [I (x0.length:Int)] (.c1 (aT I x0)) ?_
 rcases (aj H).symm with ⟨zC,H⟩ | ⟨zC,H⟩
 ·refine Cf (df zC)<|Ex<|Sw<|Rg hN ?_
  cases H
  exact Rt dR
 refine Ct (dt zC)<|Sk<|Sw<|Bl<|Sw ?_
 obtain ⟨rW,H⟩:=ax H
 obtain ⟨X9,H⟩:=ax H
 refine Rd hm hN (.qs 8 0 (.q 8 [] .z)) [(0,none),(1,none),(5,none)] .nil [I (rd x0 x5),I (rd x1 x5)] [I (rd x0 x5),I (rd x1 x5)] (.c4 rW (aF I (0:Int) rW zC) rW (aF I (0:Int) rW X9)) (.c4 rW (aF I (0:Int) rW zC) rW (aF I (0:Int) rW X9)) [] [] ?_
 rcases aj H with ⟨LM,H⟩ | ⟨LM,H⟩
 ·exact Cf (bM LM)<|Sk<|Rg hN<|⟨k,by omega,x0,x1,wrap64 (x5+1),by omega,Wo [(0,0),(1,0),(5,0)],H⟩
 refine Ct (nq LM)<|Sw<|Rg hN ?_
 cases H
 exact Rt dR
def kE.l0:Nat→List Int→Int→Option (Int × Bool)
 | 0,_,_=>none
 | k+1,x0,x4=>if x4 < 5 then ((mR.f x4).bind fun zD=>((lN.f k zD x0).bind fun LP=>(if LP=true then (some (x4,true)) else (kE.l0 k x0 (wrap64 (x4+1)))))) else (some (0,false))
def kE.f (k:Nat) (l0:List Int):Option (Int × Bool):=kE.l0 k l0 1
theorem kE.au {k:Nat} {l0:List Int} {r:(Int × Bool)} (H:kE.f k l0=some r):aQ Tryz.prog 29 [.row none 1 (List.map I l0)] (.aD [I r.1,B r.2]):=by
 refine Cg Tryz.func29 rfl fun C hN hL=>?_
 unfold kE.f at H
 refine Sw<|Rg hN<|Sw<|Sw<|Rg hN<|Bl<|Good.dN (fun k' st=>∃ (x0:List Int) (x4:Int),k'≤k∧Wk C st ⟨[(0,.w (.row none 1 (List.map I x0))),(4,.w (I x4))],[]⟩∧kE.l0 k' x0 x4=some r) k ⟨l0,1,Nat.le_refl _,Wo [(0,0),(4,0)],H⟩ fun k=>⟨fun st h=>(by obtain ⟨_,_,_,_,H⟩:=h;cases H),?_⟩
 clear H
 rintro st ⟨x0,x4,hk,W,H⟩
 refine W.good ?_
 rw [kE.l0] at H
 refine Sw<|Sw<|Rg hN ?_
 rcases (aj H).symm with ⟨LQ,H⟩ | ⟨LQ,H⟩
 ·refine Cf (df LQ)<|Ex<|Sw<|Rg hN ?_
  cases H
  exact Rt dR
 refine Ct (dt LQ)<|Sk<|Sw<|Bl<|Sw ?_
 obtain ⟨zD,ah8,H⟩:=aC H
 obtain ⟨LP,ah9,H⟩:=aC H
 refine Rh hN [.row (some 3) 1 (List.map I zD),.row none 1 (List.map I zD),B LP] (.c3 (mR.au ah8).c (aS (some 3) 1 I I zD (fun _=>rfl)) (lN.au ah9).c) ?_
 rcases (aj H).symm with ⟨LU,H⟩ | ⟨LU,H⟩
 ·exact Cf (bf LU)<|Sk<|Rg hN<|⟨k,by omega,x0,wrap64 (x4+1),by omega,Wo [(0,0),(4,0)],H⟩
 refine Ct LU<|Sw<|Rg hN ?_
 cases H
 exact Rt dR
def ed.j2:Nat→List af→Bool→Option (Int × ByteArray × Int)
 | 0,_,_=>none
 | k+1,x5,x114=>if x114=true then (some (0,(⟨#[]⟩:ByteArray),5)) else (if 4 < (x5.length:Int) then ((gI.f k ((aa x5 4).f3)).bind fun DC=>((kE.f k DC.1).bind fun wI=>(if wI.2=true then (if 2 < (x5.length:Int) then ((nD.f k wI.1 ((aa x5 2).f3)).bind fun zF=>(if zF.2=0 then (some (wI.1,(aa x5 2).f3,0)) else (some (0,(⟨#[]⟩:ByteArray),zF.2)))) else (none)) else (some (0,(⟨#[]⟩:ByteArray),8))))) else (none))
end Go.Rf.T
