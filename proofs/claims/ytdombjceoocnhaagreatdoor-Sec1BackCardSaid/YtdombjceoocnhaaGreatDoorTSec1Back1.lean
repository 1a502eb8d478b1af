import Derived.Test.YtdombjceoocnhaaGreatDoorTSec1Back0
set_option linter.unusedSectionVars false
set_option linter.unusedSimpArgs false
set_option linter.unusedVariables false
namespace Go.Rf.T
open Go Go.Rf Go.Proofs Go.RowKit Go.Proofs.YtdombjceoocnhaaGreatDoor
theorem tlv_reader_put.con {a0_0:ByteArray} {l0_1:List S55} {l0_2:List (Nat × Nat)} {l0_3:List Int} {a1_0:Int} {a1_1:Int} {a1_2:Bool} {a1_3:Int} {a2:ByteArray} {a3:(Nat × Nat)} {r:(List S55 × List (Nat × Nat) × List Int)} (H:tlv_reader_put.f a0_0 l0_1 l0_2 l0_3 a1_0 a1_1 a1_2 a1_3 a2 a3=some r):ConX Tryz.prog 85 [.ptr 0 0,.v (.agg [I a1_0,I a1_1,B a1_2,I a1_3]),.v (S a2),.v (Cx a3)] [[S a0_0,.row (some 55) 5 (List.map (v55 1) l0_1),.row (some 67) 1 (List.map Cx l0_2),.row (some 3) 1 (List.map I l0_3)]] (.v (.tup [])) [[S a0_0,.row (some 55) 5 (List.map (v55 1) r.1),.row (some 67) 1 (List.map Cx r.2.1),.row (some 3) 1 (List.map I r.2.2)]]:=by
 refine conX_of_good Tryz.func85 rfl (by kernel_rfl) (by kernel_rfl) fun C hN hL=>?_
 unfold tlv_reader_put.f at H
 refine Sw<|Rg hN<|Sw<|Rh hN [I (l0_1.length:Int)] (.c1 (lenM (v55 1) l0_1))<|Sw<|Sw<|Rh hN [I (l0_3.length:Int)] (.c1 (lenM I l0_3)) ?_
 rcases (ifC H).symm with ⟨c507,H⟩ | ⟨c507,H⟩
 ·refine Cf (df c507)<|Sk<|Sw<|Rg hN<|Sw<|Sw<|Rg hN ?_
  rcases (ifC H).symm with ⟨c526,H⟩ | ⟨c526,H⟩
  ·refine Cf (bf c526)<|Rg hN<|Sw ?_
   obtain ⟨c533,H⟩:=ifS H
   refine Rd hm hN (.i 0 (.q 1 [[4,3,2],[]] (.q 2 [[4,3],[]] (.q 3 [[4],[]] (.q 4 [[],[]] (.q 5 [[6],[]] (.e 6 (.e 7 (.i 8 (.i 9 (.e 10 .z))))))))))) [(0,some (.pt [S a0_0,.row none 5 (List.map (v55 0) l0_1),.row none 1 (List.map Cx l0_2),.row none 1 (List.map I l0_3)])),(10,some (.pt [I a1_0,I a1_1,B a1_2,S a2,.nil 3 1]))] (.c2 (ptS (shrC (rfl:(V.shr (S a0_0))=S a0_0) (shrC (shrM (some 55) 5 (v55 1) (v55 0) l0_1 (v55.shr _)) (shrC (shrM (some 67) 1 Cx Cx l0_2 (fun _=>rfl)) (shrC (shrM (some 3) 1 I I l0_3 (fun _=>rfl)) (rfl:shrL []=[])))))) (ptS (shrC (rfl:(V.shr (I a1_0))=I a1_0) (shrC (rfl:(V.shr (I a1_1))=I a1_1) (shrC (rfl:(V.shr (B a1_2))=B a1_2) (shrC (rfl:(V.shr (S a2))=S a2) (shrC (rfl:(V.shr (.nil 3 1))=.nil 3 1) (rfl:shrL []=[])))))))) [.kb true,.row (some 55) 5 (List.map (v55 1) (l0_1++[(⟨a1_0,a1_1,a1_2,a2,([]:List Int)⟩:S55)]))] [] (.c2 (fitM (v55 1) l0_1 [(⟨a1_0,a1_1,a1_2,a2,([]:List Int)⟩:S55)] (.c1 (.agg (.c5 (.refl _) (.refl _) (.refl _) (.refl _) (.nilO 3 1))))) (limM1 (v55 1) c533)) .nil [] [] ?_
   obtain ⟨c535,H⟩:=ifS H
   refine Rh hN [.kb true,.row (some 67) 1 (List.map Cx (l0_2++[a3]))] (.c2 (fitM Cx l0_2 [a3] (.refl _)) (limM1 Cx c535)) ?_
   cases H
   exact finX_fit (.refl _) (FitLL.refl _) (by kernel_rfl) rfl
  refine Ct c526 ?_
  obtain ⟨c527,H⟩:=ifS H
  refine Rh hN [.kb true,.row (some 3) 1 (List.map I (l0_3++[(l0_1.length:Int)]))] (.c2 (fitM I l0_3 [(l0_1.length:Int)] (.refl _)) (limM1 I c527))<|Sw ?_
  obtain ⟨c529,H⟩:=ifS H
  refine Rd hm hN (.i 0 (.q 1 [[4,3,2],[]] (.q 2 [[4,3],[]] (.q 3 [[4],[]] (.q 4 [[],[]] (.q 5 [[6],[]] (.e 6 (.e 7 (.i 8 (.i 9 (.e 10 .z))))))))))) [(0,some (.pt [S a0_0,.row none 5 (List.map (v55 0) l0_1),.row none 1 (List.map Cx l0_2),.row none 1 (List.map I (l0_3++[(l0_1.length:Int)]))])),(10,some (.pt [I a1_0,I a1_1,B a1_2,S (⟨#[]⟩:ByteArray),.nil 3 1]))] (.c2 (ptS (shrC (rfl:(V.shr (S a0_0))=S a0_0) (shrC (shrM (some 55) 5 (v55 1) (v55 0) l0_1 (v55.shr _)) (shrC (shrM (some 67) 1 Cx Cx l0_2 (fun _=>rfl)) (shrC (shrM (some 3) 1 I I (l0_3++[(l0_1.length:Int)]) (fun _=>rfl)) (rfl:shrL []=[])))))) (ptS (shrC (rfl:(V.shr (I a1_0))=I a1_0) (shrC (rfl:(V.shr (I a1_1))=I a1_1) (shrC (rfl:(V.shr (B a1_2))=B a1_2) (shrC (rfl:(V.shr (S (⟨#[]⟩:ByteArray)))=S (⟨#[]⟩:ByteArray)) (shrC (rfl:(V.shr (.nil 3 1))=.nil 3 1) (rfl:shrL []=[])))))))) [.kb true,.row (some 55) 5 (List.map (v55 1) (l0_1++[(⟨a1_0,a1_1,a1_2,(⟨#[]⟩:ByteArray),([]:List Int)⟩:S55)]))] [] (.c2 (fitM (v55 1) l0_1 [(⟨a1_0,a1_1,a1_2,(⟨#[]⟩:ByteArray),([]:List Int)⟩:S55)] (.c1 (.agg (.c5 (.refl _) (.refl _) (.refl _) (.refl _) (.nilO 3 1))))) (limM1 (v55 1) c529)) .nil [] [] ?_
  obtain ⟨c531,H⟩:=ifS H
  refine Rh hN [.kb true,.row (some 67) 1 (List.map Cx (l0_2++[a3]))] (.c2 (fitM Cx l0_2 [a3] (.refl _)) (limM1 Cx c531)) ?_
  cases H
  exact finX_fit (.refl _) (FitLL.refl _) (by kernel_rfl) rfl
 refine Ct (dt c507)<|Sw ?_
 obtain ⟨c508,H⟩:=ifS H
 obtain ⟨c509,H⟩:=ifS H
 refine Rd hm hN (.qs 12 0 (.q 12 [] .z)) [(0,some (.pt [S a0_0,.row none 5 (List.map (v55 0) l0_1),.row none 1 (List.map Cx l0_2),.row none 1 (List.map I l0_3)]))] (.c1 (ptS (shrC (rfl:(V.shr (S a0_0))=S a0_0) (shrC (shrM (some 55) 5 (v55 1) (v55 0) l0_1 (v55.shr _)) (shrC (shrM (some 67) 1 Cx Cx l0_2 (fun _=>rfl)) (shrC (shrM (some 3) 1 I I l0_3 (fun _=>rfl)) (rfl:shrL []=[]))))))) [I (l0_3.length:Int),I (rd l0_3 (wrap64 ((l0_3.length:Int) - 1)))] [I (l0_3.length:Int),I (rd l0_3 (wrap64 ((l0_3.length:Int) - 1)))] (.c4 (lenM I l0_3) c508 (ltM I c509) (atM I (0:Int) c508 c509)) (.c3 (lenM I l0_3) c508 (atM I (0:Int) c508 c509)) [] [] ?_
 obtain ⟨c510,H⟩:=ifS H
 obtain ⟨c511,H⟩:=ifS H
 obtain ⟨c512,H⟩:=ifS H
 replace H:=bindI H
 refine Rb 3 hm hN hL (.is 3 0 (.i 4 (.q 5 [[12,11,10,8,7,6],[]] (.q 6 [[12,11,10,8,7],[]] (.q 7 [[12,11,10,8],[]] (.q 8 [[12,11,10],[]] (.q 9 [[12,11,10],[]] (.q 10 [[12,11],[]] (.q 11 [[12],[]] (.q 12 [[],[]] (.q 13 [[14],[]] (.b 3 [.kb true,(v55 1) (rd_T55 l0_1 (rd l0_3 (wrap64 ((l0_3.length:Int) - 1)))),.row (some 3) 1 (List.map I (((rd_T55 l0_1 (rd l0_3 (wrap64 ((l0_3.length:Int) - 1)))).f4)++[(l0_1.length:Int)])),setC ((v55 1) (rd_T55 l0_1 (rd l0_3 (wrap64 ((l0_3.length:Int) - 1))))) 4 [.any],(v55 1) (⟨(rd_T55 l0_1 (rd l0_3 (wrap64 ((l0_3.length:Int) - 1)))).f0,(rd_T55 l0_1 (rd l0_3 (wrap64 ((l0_3.length:Int) - 1)))).f1,(rd_T55 l0_1 (rd l0_3 (wrap64 ((l0_3.length:Int) - 1)))).f2,(rd_T55 l0_1 (rd l0_3 (wrap64 ((l0_3.length:Int) - 1)))).f3,(((rd_T55 l0_1 (rd l0_3 (wrap64 ((l0_3.length:Int) - 1)))).f4)++[(l0_1.length:Int)])⟩:S55),.row (some 55) 5 (List.map (v55 1) (l0_1.set ((rd l0_3 (wrap64 ((l0_3.length:Int) - 1))):Int).toNat (⟨(rd_T55 l0_1 (rd l0_3 (wrap64 ((l0_3.length:Int) - 1)))).f0,(rd_T55 l0_1 (rd l0_3 (wrap64 ((l0_3.length:Int) - 1)))).f1,(rd_T55 l0_1 (rd l0_3 (wrap64 ((l0_3.length:Int) - 1)))).f2,(rd_T55 l0_1 (rd l0_3 (wrap64 ((l0_3.length:Int) - 1)))).f3,(((rd_T55 l0_1 (rd l0_3 (wrap64 ((l0_3.length:Int) - 1)))).f4)++[(l0_1.length:Int)])⟩:S55)))] [] (.e 14 (.e 15 (.e 16 (.e 17 (.e 18 .z))))) [] [] (.e 14 (.b 3 [.kb true,(v55 1) (rd_T55 l0_1 (rd l0_3 (wrap64 ((l0_3.length:Int) - 1)))),.row (some 3) 1 (List.map I (((rd_T55 l0_1 (rd l0_3 (wrap64 ((l0_3.length:Int) - 1)))).f4)++[(l0_1.length:Int)])),setC ((v55 1) (rd_T55 l0_1 (rd l0_3 (wrap64 ((l0_3.length:Int) - 1))))) 4 [.any],(v55 1) (⟨(rd_T55 l0_1 (rd l0_3 (wrap64 ((l0_3.length:Int) - 1)))).f0,(rd_T55 l0_1 (rd l0_3 (wrap64 ((l0_3.length:Int) - 1)))).f1,(rd_T55 l0_1 (rd l0_3 (wrap64 ((l0_3.length:Int) - 1)))).f2,(rd_T55 l0_1 (rd l0_3 (wrap64 ((l0_3.length:Int) - 1)))).f3,(((rd_T55 l0_1 (rd l0_3 (wrap64 ((l0_3.length:Int) - 1)))).f4)++[(l0_1.length:Int)])⟩:S55),.row (some 55) 5 (List.map (v55 1) (l0_1.set ((rd l0_3 (wrap64 ((l0_3.length:Int) - 1))):Int).toNat (⟨(rd_T55 l0_1 (rd l0_3 (wrap64 ((l0_3.length:Int) - 1)))).f0,(rd_T55 l0_1 (rd l0_3 (wrap64 ((l0_3.length:Int) - 1)))).f1,(rd_T55 l0_1 (rd l0_3 (wrap64 ((l0_3.length:Int) - 1)))).f2,(rd_T55 l0_1 (rd l0_3 (wrap64 ((l0_3.length:Int) - 1)))).f3,(((rd_T55 l0_1 (rd l0_3 (wrap64 ((l0_3.length:Int) - 1)))).f4)++[(l0_1.length:Int)])⟩:S55)))] [] (.e 15 (.e 16 (.e 17 (.e 18 .z)))) [.kb true,(v55 1) (rd_T55 l0_1 (rd l0_3 (wrap64 ((l0_3.length:Int) - 1)))),.row (some 3) 1 (List.map I (((rd_T55 l0_1 (rd l0_3 (wrap64 ((l0_3.length:Int) - 1)))).f4)++[(l0_1.length:Int)])),setC ((v55 1) (rd_T55 l0_1 (rd l0_3 (wrap64 ((l0_3.length:Int) - 1))))) 4 [.any],(v55 1) (⟨(rd_T55 l0_1 (rd l0_3 (wrap64 ((l0_3.length:Int) - 1)))).f0,(rd_T55 l0_1 (rd l0_3 (wrap64 ((l0_3.length:Int) - 1)))).f1,(rd_T55 l0_1 (rd l0_3 (wrap64 ((l0_3.length:Int) - 1)))).f2,(rd_T55 l0_1 (rd l0_3 (wrap64 ((l0_3.length:Int) - 1)))).f3,(((rd_T55 l0_1 (rd l0_3 (wrap64 ((l0_3.length:Int) - 1)))).f4)++[(l0_1.length:Int)])⟩:S55),.row (some 55) 5 (List.map (v55 1) (l0_1.set ((rd l0_3 (wrap64 ((l0_3.length:Int) - 1))):Int).toNat (⟨(rd_T55 l0_1 (rd l0_3 (wrap64 ((l0_3.length:Int) - 1)))).f0,(rd_T55 l0_1 (rd l0_3 (wrap64 ((l0_3.length:Int) - 1)))).f1,(rd_T55 l0_1 (rd l0_3 (wrap64 ((l0_3.length:Int) - 1)))).f2,(rd_T55 l0_1 (rd l0_3 (wrap64 ((l0_3.length:Int) - 1)))).f3,(((rd_T55 l0_1 (rd l0_3 (wrap64 ((l0_3.length:Int) - 1)))).f4)++[(l0_1.length:Int)])⟩:S55)))] [] (.e 15 (.e 3 (.e 16 (.e 17 (.e 18 .z))))))))))))))))))) [(0,some (.pt [S a0_0,.row none 5 (List.map (v55 0) l0_1),.row none 1 (List.map Cx l0_2),.row none 1 (List.map I l0_3)])),(8,none),(9,none)] (.c1 (ptS (shrC (rfl:(V.shr (S a0_0))=S a0_0) (shrC (shrM (some 55) 5 (v55 1) (v55 0) l0_1 (v55.shr _)) (shrC (shrM (some 67) 1 Cx Cx l0_2 (fun _=>rfl)) (shrC (shrM (some 3) 1 I I l0_3 (fun _=>rfl)) (rfl:shrL []=[]))))))) [(v55 1) (rd_T55 l0_1 (rd l0_3 (wrap64 ((l0_3.length:Int) - 1))))] [(v55 0) (rd_T55 l0_1 (rd l0_3 (wrap64 ((l0_3.length:Int) - 1))))] (.cons (.cons c510 (.cons (ltM (v55 1) c511) (.cons (atM (v55 1) z55 c510 c511) (.c8 (atM (v55 1) z55 c510 c511) (fitM I ((rd_T55 l0_1 (rd l0_3 (wrap64 ((l0_3.length:Int) - 1)))).f4) [(l0_1.length:Int)] (.refl _)) (limM1 I c512) c510 (ltH (v55 1) (m:=((rd l0_3 (wrap64 ((l0_3.length:Int) - 1))):Int).toNat) (X:=setC ((v55 1) (rd_T55 l0_1 (rd l0_3 (wrap64 ((l0_3.length:Int) - 1))))) 4 [.any]) c511) (atH (v55 1) (X:=setC ((v55 1) (rd_T55 l0_1 (rd l0_3 (wrap64 ((l0_3.length:Int) - 1))))) 4 [.any]) c510 c511) (Fit.refl ((v55 1) (⟨(rd_T55 l0_1 (rd l0_3 (wrap64 ((l0_3.length:Int) - 1)))).f0,(rd_T55 l0_1 (rd l0_3 (wrap64 ((l0_3.length:Int) - 1)))).f1,(rd_T55 l0_1 (rd l0_3 (wrap64 ((l0_3.length:Int) - 1)))).f2,(rd_T55 l0_1 (rd l0_3 (wrap64 ((l0_3.length:Int) - 1)))).f3,(((rd_T55 l0_1 (rd l0_3 (wrap64 ((l0_3.length:Int) - 1)))).f4)++[(l0_1.length:Int)])⟩:S55))) (setH (v55 1) (l:=l0_1) (n:=((rd l0_3 (wrap64 ((l0_3.length:Int) - 1))):Int).toNat) (x:=(⟨(rd_T55 l0_1 (rd l0_3 (wrap64 ((l0_3.length:Int) - 1)))).f0,(rd_T55 l0_1 (rd l0_3 (wrap64 ((l0_3.length:Int) - 1)))).f1,(rd_T55 l0_1 (rd l0_3 (wrap64 ((l0_3.length:Int) - 1)))).f2,(rd_T55 l0_1 (rd l0_3 (wrap64 ((l0_3.length:Int) - 1)))).f3,(((rd_T55 l0_1 (rd l0_3 (wrap64 ((l0_3.length:Int) - 1)))).f4)++[(l0_1.length:Int)])⟩:S55)) (X:=setC ((v55 1) (rd_T55 l0_1 (rd l0_3 (wrap64 ((l0_3.length:Int) - 1))))) 4 [.any])))))) (.c2 c510 (atM (v55 0) z55 c510 c511)) (.cons (.cons c510 (.cons (ltM (v55 1) c511) (.cons (atM (v55 1) z55 c510 c511) (.c8 (atM (v55 1) z55 c510 c511) (fitM I ((rd_T55 l0_1 (rd l0_3 (wrap64 ((l0_3.length:Int) - 1)))).f4) [(l0_1.length:Int)] (.refl _)) (limM1 I c512) c510 (ltH (v55 1) (m:=((rd l0_3 (wrap64 ((l0_3.length:Int) - 1))):Int).toNat) (X:=setC ((v55 1) (rd_T55 l0_1 (rd l0_3 (wrap64 ((l0_3.length:Int) - 1))))) 4 [.any]) c511) (atH (v55 1) (X:=setC ((v55 1) (rd_T55 l0_1 (rd l0_3 (wrap64 ((l0_3.length:Int) - 1))))) 4 [.any]) c510 c511) (Fit.refl ((v55 1) (⟨(rd_T55 l0_1 (rd l0_3 (wrap64 ((l0_3.length:Int) - 1)))).f0,(rd_T55 l0_1 (rd l0_3 (wrap64 ((l0_3.length:Int) - 1)))).f1,(rd_T55 l0_1 (rd l0_3 (wrap64 ((l0_3.length:Int) - 1)))).f2,(rd_T55 l0_1 (rd l0_3 (wrap64 ((l0_3.length:Int) - 1)))).f3,(((rd_T55 l0_1 (rd l0_3 (wrap64 ((l0_3.length:Int) - 1)))).f4)++[(l0_1.length:Int)])⟩:S55))) (setH (v55 1) (l:=l0_1) (n:=((rd l0_3 (wrap64 ((l0_3.length:Int) - 1))):Int).toNat) (x:=(⟨(rd_T55 l0_1 (rd l0_3 (wrap64 ((l0_3.length:Int) - 1)))).f0,(rd_T55 l0_1 (rd l0_3 (wrap64 ((l0_3.length:Int) - 1)))).f1,(rd_T55 l0_1 (rd l0_3 (wrap64 ((l0_3.length:Int) - 1)))).f2,(rd_T55 l0_1 (rd l0_3 (wrap64 ((l0_3.length:Int) - 1)))).f3,(((rd_T55 l0_1 (rd l0_3 (wrap64 ((l0_3.length:Int) - 1)))).f4)++[(l0_1.length:Int)])⟩:S55)) (X:=setC ((v55 1) (rd_T55 l0_1 (rd l0_3 (wrap64 ((l0_3.length:Int) - 1))))) 4 [.any])))))) (.c2 c510 (atM (v55 0) z55 c510 c511)) (.cons (.cons c510 (.cons (ltM (v55 1) c511) (.cons (atM (v55 1) z55 c510 c511) (.c8 (atM (v55 1) z55 c510 c511) (fitM I ((rd_T55 l0_1 (rd l0_3 (wrap64 ((l0_3.length:Int) - 1)))).f4) [(l0_1.length:Int)] (.refl _)) (limM1 I c512) c510 (ltH (v55 1) (m:=((rd l0_3 (wrap64 ((l0_3.length:Int) - 1))):Int).toNat) (X:=setC ((v55 1) (rd_T55 l0_1 (rd l0_3 (wrap64 ((l0_3.length:Int) - 1))))) 4 [.any]) c511) (atH (v55 1) (X:=setC ((v55 1) (rd_T55 l0_1 (rd l0_3 (wrap64 ((l0_3.length:Int) - 1))))) 4 [.any]) c510 c511) (Fit.refl ((v55 1) (⟨(rd_T55 l0_1 (rd l0_3 (wrap64 ((l0_3.length:Int) - 1)))).f0,(rd_T55 l0_1 (rd l0_3 (wrap64 ((l0_3.length:Int) - 1)))).f1,(rd_T55 l0_1 (rd l0_3 (wrap64 ((l0_3.length:Int) - 1)))).f2,(rd_T55 l0_1 (rd l0_3 (wrap64 ((l0_3.length:Int) - 1)))).f3,(((rd_T55 l0_1 (rd l0_3 (wrap64 ((l0_3.length:Int) - 1)))).f4)++[(l0_1.length:Int)])⟩:S55))) (setH (v55 1) (l:=l0_1) (n:=((rd l0_3 (wrap64 ((l0_3.length:Int) - 1))):Int).toNat) (x:=(⟨(rd_T55 l0_1 (rd l0_3 (wrap64 ((l0_3.length:Int) - 1)))).f0,(rd_T55 l0_1 (rd l0_3 (wrap64 ((l0_3.length:Int) - 1)))).f1,(rd_T55 l0_1 (rd l0_3 (wrap64 ((l0_3.length:Int) - 1)))).f2,(rd_T55 l0_1 (rd l0_3 (wrap64 ((l0_3.length:Int) - 1)))).f3,(((rd_T55 l0_1 (rd l0_3 (wrap64 ((l0_3.length:Int) - 1)))).f4)++[(l0_1.length:Int)])⟩:S55)) (X:=setC ((v55 1) (rd_T55 l0_1 (rd l0_3 (wrap64 ((l0_3.length:Int) - 1))))) 4 [.any])))))) (.c2 c510 (atM (v55 0) z55 c510 c511)) .nil))) [] [] [[],[],[]] [(0,0),(2,0),(3,0),(5,0),(8,0)] [(0,.d (.ptr 0 0)),(2,.w (S a2)),(3,.w (Cx a3)),(5,.d (.ptr 1 0)),(8,.w (I (l0_1.length:Int)))] [.cells [.v (S a0_0),.v (.row (some 55) 5 (List.map (v55 1) (l0_1.set ((rd l0_3 (wrap64 ((l0_3.length:Int) - 1))):Int).toNat (⟨(rd_T55 l0_1 (rd l0_3 (wrap64 ((l0_3.length:Int) - 1)))).f0,(rd_T55 l0_1 (rd l0_3 (wrap64 ((l0_3.length:Int) - 1)))).f1,(rd_T55 l0_1 (rd l0_3 (wrap64 ((l0_3.length:Int) - 1)))).f2,(rd_T55 l0_1 (rd l0_3 (wrap64 ((l0_3.length:Int) - 1)))).f3,(((rd_T55 l0_1 (rd l0_3 (wrap64 ((l0_3.length:Int) - 1)))).f4)++[(l0_1.length:Int)])⟩:S55)))),.v (.row (some 67) 1 (List.map Cx l0_2)),.v (.row (some 3) 1 (List.map I l0_3))],.cells [.v (I a1_0),.v (I a1_1),.v (B a1_2),.v (I a1_3)]]<|Sw<|Rg hN<|Sw<|Sw<|Rg hN ?_
 rcases (ifC H).symm with ⟨c515,H⟩ | ⟨c515,H⟩
 ·refine Cf (bf c515)<|Rg hN<|Sw ?_
  obtain ⟨c522,H⟩:=ifS H
  refine Rd hm hN (.i 0 (.q 1 [[4,3,2],[]] (.q 2 [[4,3],[]] (.q 3 [[4],[]] (.q 4 [[],[]] (.q 5 [[6],[]] (.e 6 (.e 7 (.i 8 (.i 9 (.e 10 .z))))))))))) [(0,some (.pt [S a0_0,.row none 5 (List.map (v55 0) (l0_1.set ((rd l0_3 (wrap64 ((l0_3.length:Int) - 1))):Int).toNat (⟨(rd_T55 l0_1 (rd l0_3 (wrap64 ((l0_3.length:Int) - 1)))).f0,(rd_T55 l0_1 (rd l0_3 (wrap64 ((l0_3.length:Int) - 1)))).f1,(rd_T55 l0_1 (rd l0_3 (wrap64 ((l0_3.length:Int) - 1)))).f2,(rd_T55 l0_1 (rd l0_3 (wrap64 ((l0_3.length:Int) - 1)))).f3,(((rd_T55 l0_1 (rd l0_3 (wrap64 ((l0_3.length:Int) - 1)))).f4)++[(l0_1.length:Int)])⟩:S55))),.row none 1 (List.map Cx l0_2),.row none 1 (List.map I l0_3)])),(10,some (.pt [I a1_0,I a1_1,B a1_2,S a2,.nil 3 1]))] (.c2 (ptS (shrC (rfl:(V.shr (S a0_0))=S a0_0) (shrC (shrM (some 55) 5 (v55 1) (v55 0) (l0_1.set ((rd l0_3 (wrap64 ((l0_3.length:Int) - 1))):Int).toNat (⟨(rd_T55 l0_1 (rd l0_3 (wrap64 ((l0_3.length:Int) - 1)))).f0,(rd_T55 l0_1 (rd l0_3 (wrap64 ((l0_3.length:Int) - 1)))).f1,(rd_T55 l0_1 (rd l0_3 (wrap64 ((l0_3.length:Int) - 1)))).f2,(rd_T55 l0_1 (rd l0_3 (wrap64 ((l0_3.length:Int) - 1)))).f3,(((rd_T55 l0_1 (rd l0_3 (wrap64 ((l0_3.length:Int) - 1)))).f4)++[(l0_1.length:Int)])⟩:S55)) (v55.shr _)) (shrC (shrM (some 67) 1 Cx Cx l0_2 (fun _=>rfl)) (shrC (shrM (some 3) 1 I I l0_3 (fun _=>rfl)) (rfl:shrL []=[])))))) (ptS (shrC (rfl:(V.shr (I a1_0))=I a1_0) (shrC (rfl:(V.shr (I a1_1))=I a1_1) (shrC (rfl:(V.shr (B a1_2))=B a1_2) (shrC (rfl:(V.shr (S a2))=S a2) (shrC (rfl:(V.shr (.nil 3 1))=.nil 3 1) (rfl:shrL []=[])))))))) [.kb true,.row (some 55) 5 (List.map (v55 1) ((l0_1.set ((rd l0_3 (wrap64 ((l0_3.length:Int) - 1))):Int).toNat (⟨(rd_T55 l0_1 (rd l0_3 (wrap64 ((l0_3.length:Int) - 1)))).f0,(rd_T55 l0_1 (rd l0_3 (wrap64 ((l0_3.length:Int) - 1)))).f1,(rd_T55 l0_1 (rd l0_3 (wrap64 ((l0_3.length:Int) - 1)))).f2,(rd_T55 l0_1 (rd l0_3 (wrap64 ((l0_3.length:Int) - 1)))).f3,(((rd_T55 l0_1 (rd l0_3 (wrap64 ((l0_3.length:Int) - 1)))).f4)++[(l0_1.length:Int)])⟩:S55))++[(⟨a1_0,a1_1,a1_2,a2,([]:List Int)⟩:S55)]))] [] (.c2 (fitM (v55 1) (l0_1.set ((rd l0_3 (wrap64 ((l0_3.length:Int) - 1))):Int).toNat (⟨(rd_T55 l0_1 (rd l0_3 (wrap64 ((l0_3.length:Int) - 1)))).f0,(rd_T55 l0_1 (rd l0_3 (wrap64 ((l0_3.length:Int) - 1)))).f1,(rd_T55 l0_1 (rd l0_3 (wrap64 ((l0_3.length:Int) - 1)))).f2,(rd_T55 l0_1 (rd l0_3 (wrap64 ((l0_3.length:Int) - 1)))).f3,(((rd_T55 l0_1 (rd l0_3 (wrap64 ((l0_3.length:Int) - 1)))).f4)++[(l0_1.length:Int)])⟩:S55)) [(⟨a1_0,a1_1,a1_2,a2,([]:List Int)⟩:S55)] (.c1 (.agg (.c5 (.refl _) (.refl _) (.refl _) (.refl _) (.nilO 3 1))))) (limM1 (v55 1) c522)) .nil [] [] ?_
  obtain ⟨c524,H⟩:=ifS H
  refine Rh hN [.kb true,.row (some 67) 1 (List.map Cx (l0_2++[a3]))] (.c2 (fitM Cx l0_2 [a3] (.refl _)) (limM1 Cx c524)) ?_
  cases H
  exact finX_fit (.refl _) (FitLL.refl _) (by kernel_rfl) rfl
 refine Ct c515 ?_
 obtain ⟨c516,H⟩:=ifS H
 refine Rh hN [.kb true,.row (some 3) 1 (List.map I (l0_3++[(l0_1.length:Int)]))] (.c2 (fitM I l0_3 [(l0_1.length:Int)] (.refl _)) (limM1 I c516))<|Sw ?_
 obtain ⟨c518,H⟩:=ifS H
 refine Rd hm hN (.i 0 (.q 1 [[4,3,2],[]] (.q 2 [[4,3],[]] (.q 3 [[4],[]] (.q 4 [[],[]] (.q 5 [[6],[]] (.e 6 (.e 7 (.i 8 (.i 9 (.e 10 .z))))))))))) [(0,some (.pt [S a0_0,.row none 5 (List.map (v55 0) (l0_1.set ((rd l0_3 (wrap64 ((l0_3.length:Int) - 1))):Int).toNat (⟨(rd_T55 l0_1 (rd l0_3 (wrap64 ((l0_3.length:Int) - 1)))).f0,(rd_T55 l0_1 (rd l0_3 (wrap64 ((l0_3.length:Int) - 1)))).f1,(rd_T55 l0_1 (rd l0_3 (wrap64 ((l0_3.length:Int) - 1)))).f2,(rd_T55 l0_1 (rd l0_3 (wrap64 ((l0_3.length:Int) - 1)))).f3,(((rd_T55 l0_1 (rd l0_3 (wrap64 ((l0_3.length:Int) - 1)))).f4)++[(l0_1.length:Int)])⟩:S55))),.row none 1 (List.map Cx l0_2),.row none 1 (List.map I (l0_3++[(l0_1.length:Int)]))])),(10,some (.pt [I a1_0,I a1_1,B a1_2,S (⟨#[]⟩:ByteArray),.nil 3 1]))] (.c2 (ptS (shrC (rfl:(V.shr (S a0_0))=S a0_0) (shrC (shrM (some 55) 5 (v55 1) (v55 0) (l0_1.set ((rd l0_3 (wrap64 ((l0_3.length:Int) - 1))):Int).toNat (⟨(rd_T55 l0_1 (rd l0_3 (wrap64 ((l0_3.length:Int) - 1)))).f0,(rd_T55 l0_1 (rd l0_3 (wrap64 ((l0_3.length:Int) - 1)))).f1,(rd_T55 l0_1 (rd l0_3 (wrap64 ((l0_3.length:Int) - 1)))).f2,(rd_T55 l0_1 (rd l0_3 (wrap64 ((l0_3.length:Int) - 1)))).f3,(((rd_T55 l0_1 (rd l0_3 (wrap64 ((l0_3.length:Int) - 1)))).f4)++[(l0_1.length:Int)])⟩:S55)) (v55.shr _)) (shrC (shrM (some 67) 1 Cx Cx l0_2 (fun _=>rfl)) (shrC (shrM (some 3) 1 I I (l0_3++[(l0_1.length:Int)]) (fun _=>rfl)) (rfl:shrL []=[])))))) (ptS (shrC (rfl:(V.shr (I a1_0))=I a1_0) (shrC (rfl:(V.shr (I a1_1))=I a1_1) (shrC (rfl:(V.shr (B a1_2))=B a1_2) (shrC (rfl:(V.shr (S (⟨#[]⟩:ByteArray)))=S (⟨#[]⟩:ByteArray)) (shrC (rfl:(V.shr (.nil 3 1))=.nil 3 1) (rfl:shrL []=[])))))))) [.kb true,.row (some 55) 5 (List.map (v55 1) ((l0_1.set ((rd l0_3 (wrap64 ((l0_3.length:Int) - 1))):Int).toNat (⟨(rd_T55 l0_1 (rd l0_3 (wrap64 ((l0_3.length:Int) - 1)))).f0,(rd_T55 l0_1 (rd l0_3 (wrap64 ((l0_3.length:Int) - 1)))).f1,(rd_T55 l0_1 (rd l0_3 (wrap64 ((l0_3.length:Int) - 1)))).f2,(rd_T55 l0_1 (rd l0_3 (wrap64 ((l0_3.length:Int) - 1)))).f3,(((rd_T55 l0_1 (rd l0_3 (wrap64 ((l0_3.length:Int) - 1)))).f4)++[(l0_1.length:Int)])⟩:S55))++[(⟨a1_0,a1_1,a1_2,(⟨#[]⟩:ByteArray),([]:List Int)⟩:S55)]))] [] (.c2 (fitM (v55 1) (l0_1.set ((rd l0_3 (wrap64 ((l0_3.length:Int) - 1))):Int).toNat (⟨(rd_T55 l0_1 (rd l0_3 (wrap64 ((l0_3.length:Int) - 1)))).f0,(rd_T55 l0_1 (rd l0_3 (wrap64 ((l0_3.length:Int) - 1)))).f1,(rd_T55 l0_1 (rd l0_3 (wrap64 ((l0_3.length:Int) - 1)))).f2,(rd_T55 l0_1 (rd l0_3 (wrap64 ((l0_3.length:Int) - 1)))).f3,(((rd_T55 l0_1 (rd l0_3 (wrap64 ((l0_3.length:Int) - 1)))).f4)++[(l0_1.length:Int)])⟩:S55)) [(⟨a1_0,a1_1,a1_2,(⟨#[]⟩:ByteArray),([]:List Int)⟩:S55)] (.c1 (.agg (.c5 (.refl _) (.refl _) (.refl _) (.refl _) (.nilO 3 1))))) (limM1 (v55 1) c518)) .nil [] [] ?_
 obtain ⟨c520,H⟩:=ifS H
 refine Rh hN [.kb true,.row (some 67) 1 (List.map Cx (l0_2++[a3]))] (.c2 (fitM Cx l0_2 [a3] (.refl _)) (limM1 Cx c520)) ?_
 cases H
 exact finX_fit (.refl _) (FitLL.refl _) (by kernel_rfl) rfl
def span_Of.f (a0:Int) (a1:Int):Option ((Nat × Nat)):=if (mn a0 a1) < 0 then (some (0,0)) else (if (mx a0 a1) > 65552 then (some (0,0)) else ((span_sure.f (floatOfInt .f64 a0,floatOfInt .f64 a1)).bind fun t539=>(some t539)))
theorem span_Of.con {a0:Int} {a1:Int} {r:((Nat × Nat))} (H:span_Of.f a0 a1=some r):Con Tryz.prog 86 [I a0,I a1] (Cx r):=by
 refine Cg Tryz.func86 rfl fun C hN hL=>?_
 unfold span_Of.f at H
 refine Sw<|Rg hN<|Sw<|Sw ?_
 rcases ifC H with ⟨c537,H⟩ | ⟨c537,H⟩
 ·refine Rh hN [B true] (.c1 (dt c537))<|Good.cond true (by kernel_rfl)<|Sw<|Rg hN ?_
  cases H
  exact Rt dR
 refine Rh hN [B false] (.c1 (df c537)) ?_
 rcases ifC H with ⟨c538,H⟩ | ⟨c538,H⟩
 ·refine Ct (dt c538)<|Sw<|Rg hN ?_
  cases H
  exact Rt dR
 refine Cf (df c538)<|Sk<|Sw ?_
 obtain ⟨t539,h540,H⟩:=bindS H
 refine Rh hN [Cx t539] (.c1 (span_sure.con h540).c) ?_
 cases H
 exact Rt dR
def tlv_reader_close.l0:Nat→Int→ByteArray→List S55→List (Nat × Nat)→List Int→Option (Bool × ByteArray × List S55 × List (Nat × Nat) × List Int)
 | 0,_,_,_,_,_=>none
 | k+1,x1,x1000,x1001,x1002,x1003=>if (x1003.length:Int) > 0 then ((tlv_reader_end.f x1000 x1001 x1002 x1003).bind fun t542=>(if t542=x1 then (if 0≤(wrap64 ((x1003.length:Int) - 1)) then (if (wrap64 ((x1003.length:Int) - 1))≤(x1003.length:Int) then (tlv_reader_close.l0 k x1 x1000 x1001 x1002 (x1003.take ((wrap64 ((x1003.length:Int) - 1)):Int).toNat)) else (none)) else (none)) else (some (((x1003.length:Int) == 0),x1000,x1001,x1002,x1003)))) else (some (((x1003.length:Int) == 0),x1000,x1001,x1002,x1003))
def tlv_reader_close.f (k:Nat) (a0_0:ByteArray) (l0_1:List S55) (l0_2:List (Nat × Nat)) (l0_3:List Int) (a1:Int):Option (Bool × ByteArray × List S55 × List (Nat × Nat) × List Int):=tlv_reader_close.l0 k a1 a0_0 l0_1 l0_2 l0_3
theorem tlv_reader_close.con {k:Nat} {a0_0:ByteArray} {l0_1:List S55} {l0_2:List (Nat × Nat)} {l0_3:List Int} {a1:Int} {r:(Bool × ByteArray × List S55 × List (Nat × Nat) × List Int)} (H:tlv_reader_close.f k a0_0 l0_1 l0_2 l0_3 a1=some r):ConX Tryz.prog 87 [.ptr 0 0,.v (I a1)] [[S a0_0,.row (some 55) 5 (List.map (v55 1) l0_1),.row (some 67) 1 (List.map Cx l0_2),.row (some 3) 1 (List.map I l0_3)]] (.v (B r.1)) [[S r.2.1,.row (some 55) 5 (List.map (v55 1) r.2.2.1),.row (some 67) 1 (List.map Cx r.2.2.2.1),.row (some 3) 1 (List.map I r.2.2.2.2)]]:=by
 refine conX_of_good Tryz.func87 rfl (by kernel_rfl) (by kernel_rfl) fun C hN hL=>?_
 unfold tlv_reader_close.f at H
 refine Sw<|Rg hN<|Sw<|Bl<|Good.loopN (fun k' st=>∃ (x1:Int) (x1000:ByteArray) (x1001:List S55) (x1002:List (Nat × Nat)) (x1003:List Int),k'≤k∧Wk C st ⟨[(0,.d (.ptr 0 0)),(1,.w (I x1))],[.cells [.v (S x1000),.v (.row (some 55) 5 (List.map (v55 1) x1001)),.v (.row (some 67) 1 (List.map Cx x1002)),.v (.row (some 3) 1 (List.map I x1003))]]⟩∧tlv_reader_close.l0 k' x1 x1000 x1001 x1002 x1003=some r) k ⟨a1,a0_0,l0_1,l0_2,l0_3,Nat.le_refl _,Wo [(0,0),(1,0)],H⟩ fun k=>⟨fun st h=>(by obtain ⟨_,_,_,_,_,_,_,H⟩:=h;cases H),?_⟩
 clear H
 rintro st ⟨x1,x1000,x1001,x1002,x1003,hk,W,H⟩
 refine W.good ?_
 rw [tlv_reader_close.l0] at H
 refine Sw<|Sw ?_
 rcases (ifC H).symm with ⟨c541,H⟩ | ⟨c541,H⟩
 ·refine Rh hN [I (x1003.length:Int),B false] (.c2 (lenM I x1003) (df c541))<|Good.cond false (by kernel_rfl)<|Ex<|Sw<|Rh hN [I (x1003.length:Int)] (.c1 (lenM I x1003)) ?_
  cases H
  exact Good.ret (finX_fitR (.refl _) (FitLL.refl _) (by kernel_rfl) rfl)
 obtain ⟨t542,h543,H⟩:=bindS H
 refine Rh hN [I (x1003.length:Int),B true,I t542,.tup [.agg [S x1000,.row (some 55) 5 (List.map (v55 1) x1001),.row (some 67) 1 (List.map Cx x1002),.row (some 3) 1 (List.map I x1003)]]] (.c3 (lenM I x1003) (dt c541) (tlv_reader_end.con h543).c) ?_
 rcases (ifC H).symm with ⟨c544,H⟩ | ⟨c544,H⟩
 ·refine Cf (bn c544)<|Ex<|Sw<|Rh hN [I (x1003.length:Int)] (.c1 (lenM I x1003)) ?_
  cases H
  exact Good.ret (finX_fitR (.refl _) (FitLL.refl _) (by kernel_rfl) rfl)
 refine Ct (bq c544)<|Sk<|Bl ?_
 obtain ⟨c545,H⟩:=ifS H
 obtain ⟨c546,H⟩:=ifS H
 exact Rd hm hN (.q 0 [[]] (.q 1 [[]] (.q 2 [[]] (.q 3 [[]] (.q 4 [[]] (.q 5 [[]] (.q 6 [[]] (.q 7 [[]] (.q 8 [[]] (.q 9 [[]] (.q 10 [[]] (.e 11 (.q 12 [[13]] (.q 13 [[]] (.e 14 .z))))))))))))))) [(0,some (.pt [S x1000,.row none 5 (List.map (v55 0) x1001),.row none 1 (List.map Cx x1002),.row none 1 (List.map I x1003)]))] (.c1 (ptS (shrC (rfl:(V.shr (S x1000))=S x1000) (shrC (shrM (some 55) 5 (v55 1) (v55 0) x1001 (v55.shr _)) (shrC (shrM (some 67) 1 Cx Cx x1002 (fun _=>rfl)) (shrC (shrM (some 3) 1 I I x1003 (fun _=>rfl)) (rfl:shrL []=[]))))))) [I (x1003.length:Int),.row (some 3) 1 (List.map I (x1003.take ((wrap64 ((x1003.length:Int) - 1)):Int).toNat))] [I (x1003.length:Int)] (.c4 (lenM I x1003) c545 (leM I c546) (takeM I (l:=x1003) (n:=((wrap64 ((x1003.length:Int) - 1)):Int).toNat))) (.c1 (lenM I x1003)) [] []<|⟨k,by omega,x1,x1000,x1001,x1002,x1003.take ((wrap64 ((x1003.length:Int) - 1)):Int).toNat,by omega,Wo [(0,0),(1,0)],H⟩
def tlv_reader_read.g0_0:Nat→Int→Int→ByteArray→List S55→List (Nat × Nat)→List Int→Option (Int × Int × ByteArray × List S55 × List (Nat × Nat) × List Int)
 | 0,_,_,_,_,_,_=>none
 | k+1,x5,x8,x1000,x1001,x1002,x1003=>if x8=0 then (some (0,0,x1000,x1001,x1002,x1003)) else (some (x8,x5,x1000,x1001,x1002,x1003))
mutual
def tlv_reader_read.g0_1:Nat→Int→ByteArray→List S55→List (Nat × Nat)→List Int→Option (Int × Int × ByteArray × List S55 × List (Nat × Nat) × List Int)
 | 0,_,_,_,_,_=>none
 | k+1,x5,x1000,x1001,x1002,x1003=>(tlv_reader_end.f x1000 x1001 x1002 x1003).bind fun t573=>((octets_Cut.f x1000 x5 (wrap64 (t573 - x5))).bind fun t575=>((head_Decode.f k t575).bind fun t577=>(if t577.2.2.2.2.2=0 then (if t577.2.2.2.1 > (wrap64 ((wrap64 (t573 - x5)) - t577.2.2.2.2.1)) then (tlv_reader_read.g0_0 k x5 5 x1000 x1001 x1002 x1003) else ((octets_Cut.f x1000 (wrap64 (x5+t577.2.2.2.2.1)) t577.2.2.2.1).bind fun t581=>((tlv_reader_may.f k x1000 x1001 x1002 x1003 t577.1 t577.2.1 t577.2.2.1 t577.2.2.2.1 t581).bind fun t583=>(if t583.1=0 then ((span_Of.f x5 (wrap64 ((wrap64 (x5+t577.2.2.2.2.1))+t577.2.2.2.1))).bind fun t586=>((tlv_reader_put.f t583.2.1 t583.2.2.1 t583.2.2.2.1 t583.2.2.2.2 t577.1 t577.2.1 t577.2.2.1 t577.2.2.2.1 t581 t586).bind fun t588=>(if t577.2.2.1=true then (tlv_reader_read.j3 k (wrap64 (x5+t577.2.2.2.2.1)) t583.1 t583.2.1 t588.1 t588.2.1 t588.2.2) else (tlv_reader_read.j3 k (wrap64 ((wrap64 (x5+t577.2.2.2.2.1))+t577.2.2.2.1)) t583.1 t583.2.1 t588.1 t588.2.1 t588.2.2)))) else (tlv_reader_read.g0_0 k x5 t583.1 t583.2.1 t583.2.2.1 t583.2.2.2.1 t583.2.2.2.2))))) else (tlv_reader_read.g0_0 k x5 t577.2.2.2.2.2 x1000 x1001 x1002 x1003))))
def tlv_reader_read.j3:Nat→Int→Int→ByteArray→List S55→List (Nat × Nat)→List Int→Option (Int × Int × ByteArray × List S55 × List (Nat × Nat) × List Int)
 | 0,_,_,_,_,_,_=>none
 | k+1,x5,x8,x1000,x1001,x1002,x1003=>(tlv_reader_close.f k x1000 x1001 x1002 x1003 x5).bind fun t591=>(if t591.1=true then (if x5 < (t591.2.1.size:Int) then (some (5,x5,t591.2.1,t591.2.2.1,t591.2.2.2.1,t591.2.2.2.2)) else (if x8=0 then (some (0,0,t591.2.1,t591.2.2.1,t591.2.2.2.1,t591.2.2.2.2)) else (some (x8,x5,t591.2.1,t591.2.2.1,t591.2.2.2.1,t591.2.2.2.2)))) else (tlv_reader_read.g0_1 k x5 t591.2.1 t591.2.2.1 t591.2.2.2.1 t591.2.2.2.2))
end
def tlv_reader_read.j0:Nat→Int→Int→ByteArray→List S55→List (Nat × Nat)→List Int→Option (Int × Int × ByteArray × List S55 × List (Nat × Nat) × List Int)
 | 0,_,_,_,_,_,_=>none
 | k+1,x5,x8,x1000,x1001,x1002,x1003=>(tlv_reader_close.f k x1000 x1001 x1002 x1003 x5).bind fun t567=>(if t567.1=true then (if x5 < (t567.2.1.size:Int) then (some (5,x5,t567.2.1,t567.2.2.1,t567.2.2.2.1,t567.2.2.2.2)) else (if x8=0 then (some (0,0,t567.2.1,t567.2.2.1,t567.2.2.2.1,t567.2.2.2.2)) else (some (x8,x5,t567.2.1,t567.2.2.1,t567.2.2.2.1,t567.2.2.2.2)))) else (tlv_reader_read.g0_1 k x5 t567.2.1 t567.2.2.1 t567.2.2.2.1 t567.2.2.2.2))
def tlv_reader_read.f (k:Nat) (a0_0:ByteArray) (l0_1:List S55) (l0_2:List (Nat × Nat)) (l0_3:List Int):Option (Int × Int × ByteArray × List S55 × List (Nat × Nat) × List Int):=if a0_0.toList=([]:List UInt8) then (tlv_reader_read.g0_0 k 0 3 a0_0 l0_1 l0_2 l0_3) else (if (a0_0.size:Int) > 65535 then (tlv_reader_read.g0_0 k 0 4 a0_0 l0_1 l0_2 l0_3) else ((tlv_reader_end.f a0_0 l0_1 l0_2 l0_3).bind fun t549=>((octets_Cut.f a0_0 0 (wrap64 (t549 - 0))).bind fun t551=>((head_Decode.f k t551).bind fun t553=>(if t553.2.2.2.2.2=0 then (if t553.2.2.2.1 > (wrap64 ((wrap64 (t549 - 0)) - t553.2.2.2.2.1)) then (tlv_reader_read.g0_0 k 0 5 a0_0 l0_1 l0_2 l0_3) else ((octets_Cut.f a0_0 (wrap64 (0+t553.2.2.2.2.1)) t553.2.2.2.1).bind fun t557=>((tlv_reader_may.f k a0_0 l0_1 l0_2 l0_3 t553.1 t553.2.1 t553.2.2.1 t553.2.2.2.1 t557).bind fun t559=>(if t559.1=0 then ((span_Of.f 0 (wrap64 ((wrap64 (0+t553.2.2.2.2.1))+t553.2.2.2.1))).bind fun t562=>((tlv_reader_put.f t559.2.1 t559.2.2.1 t559.2.2.2.1 t559.2.2.2.2 t553.1 t553.2.1 t553.2.2.1 t553.2.2.2.1 t557 t562).bind fun t564=>(if t553.2.2.1=true then (tlv_reader_read.j0 k (wrap64 (0+t553.2.2.2.2.1)) t559.1 t559.2.1 t564.1 t564.2.1 t564.2.2) else (tlv_reader_read.j0 k (wrap64 ((wrap64 (0+t553.2.2.2.2.1))+t553.2.2.2.1)) t559.1 t559.2.1 t564.1 t564.2.1 t564.2.2)))) else (tlv_reader_read.g0_0 k 0 t559.1 t559.2.1 t559.2.2.1 t559.2.2.2.1 t559.2.2.2.2))))) else (tlv_reader_read.g0_0 k 0 t553.2.2.2.2.2 a0_0 l0_1 l0_2 l0_3))))))
theorem tlv_reader_read.con {k:Nat} {a0_0:ByteArray} {l0_1:List S55} {l0_2:List (Nat × Nat)} {l0_3:List Int} {r:(Int × Int × ByteArray × List S55 × List (Nat × Nat) × List Int)} (H:tlv_reader_read.f k a0_0 l0_1 l0_2 l0_3=some r):ConX Tryz.prog 48 [.ptr 0 0] [[S a0_0,.row (some 55) 5 (List.map (v55 1) l0_1),.row (some 67) 1 (List.map Cx l0_2),.row (some 3) 1 (List.map I l0_3)]] (.v (.agg [I r.1,I r.2.1])) [[S r.2.2.1,.row (some 55) 5 (List.map (v55 1) r.2.2.2.1),.row (some 67) 1 (List.map Cx r.2.2.2.2.1),.row (some 3) 1 (List.map I r.2.2.2.2.2)]]:=by
 refine conX_of_good Tryz.func48 rfl (by kernel_rfl) (by kernel_rfl) fun C hN hL=>?_
 unfold tlv_reader_read.f at H
 refine Sw<|Rg hN<|Good.scope [(0,_,fun n st=>∃ (x5:Int) (x8:Int) (x1000:ByteArray) (x1001:List S55) (x1002:List (Nat × Nat)) (x1003:List Int) (x2000:Int) (x2001:Int) (x3000:Int) (x3001:Int) (x3002:Bool) (x3003:Int),n≤k∧Wk C st ⟨[(2,.d (.ptr 1 0)),(5,.w (I x5)),(8,.w (I x8))],[.cells [.v (S x1000),.v (.row (some 55) 5 (List.map (v55 1) x1001)),.v (.row (some 67) 1 (List.map Cx x1002)),.v (.row (some 3) 1 (List.map I x1003))],.cells [.v (I x2000),.v (I x2001)],.cells [.v (I x3000),.v (I x3001),.v (B x3002),.v (I x3003)]]⟩∧tlv_reader_read.g0_0 n x5 x8 x1000 x1001 x1002 x1003=some r),(1,_,fun n st=>∃ (x5:Int) (x1000:ByteArray) (x1001:List S55) (x1002:List (Nat × Nat)) (x1003:List Int) (x2000:Int) (x2001:Int) (x3000:Int) (x3001:Int) (x3002:Bool) (x3003:Int),n≤k∧Wk C st ⟨[(0,.d (.ptr 0 0)),(2,.d (.ptr 1 0)),(3,.d (.ptr 2 0)),(5,.w (I x5))],[.cells [.v (S x1000),.v (.row (some 55) 5 (List.map (v55 1) x1001)),.v (.row (some 67) 1 (List.map Cx x1002)),.v (.row (some 3) 1 (List.map I x1003))],.cells [.v (I x2000),.v (I x2001)],.cells [.v (I x3000),.v (I x3001),.v (B x3002),.v (I x3003)]]⟩∧tlv_reader_read.g0_1 n x5 x1000 x1001 x1002 x1003=some r)] (.c2 rfl rfl) ?_ (.c2 ?_ ?_)
 ·refine Sw<|Rg hN<|Sw<|Rg hN<|Sw<|Rg hN<|Sw<|Rg hN<|Sw<|Sw<|Ri hN [] (.c1 (strV (rfl:a0_0.toList=a0_0.toList) (litL ([]:List UInt8)))) [(13,.bool (a0_0.toList == ([]:List UInt8)))] ?_
  rcases ifC H with ⟨c547,H⟩ | ⟨c547,H⟩
  ·exact Ct (bq c547)<|Sw<|Rg hN<|Good.goto<|⟨k,(by first | trivial | omega),0,3,a0_0,l0_1,l0_2,l0_3,0,0,0,0,false,0,by omega,Wo [(2,0),(5,0),(8,0)],H⟩
  refine Cf (bn c547)<|Sk<|Sw<|Sw<|Rg hN ?_
  rcases ifC H with ⟨c548,H⟩ | ⟨c548,H⟩
  ·exact Ct (dt c548)<|Sw<|Rg hN<|Good.goto<|⟨k,(by first | trivial | omega),0,4,a0_0,l0_1,l0_2,l0_3,0,0,0,0,false,0,by omega,Wo [(2,0),(5,0),(8,0)],H⟩
  refine Cf (df c548)<|Sk<|Sw<|Good.label<|Sw ?_
  obtain ⟨t549,h550,H⟩:=bindS H
  refine Rh hN [I t549,.tup [.agg [S a0_0,.row (some 55) 5 (List.map (v55 1) l0_1),.row (some 67) 1 (List.map Cx l0_2),.row (some 3) 1 (List.map I l0_3)]]] (.c1 (tlv_reader_end.con h550).c)<|Sw ?_
  obtain ⟨t551,h552,H⟩:=bindS H
  obtain ⟨t553,h554,H⟩:=bindS H
  refine Rh hN [S t551,.tup [.agg [I t553.1,I t553.2.1,B t553.2.2.1,I t553.2.2.2.1],I t553.2.2.2.2.1,I t553.2.2.2.2.2]] (.c2 (octets_Cut.con h552).c (head_Decode.con h554).c)<|Sw<|Sw<|Rg hN ?_
  rcases (ifC H).symm with ⟨c555,H⟩ | ⟨c555,H⟩
  ·exact Ct (nq c555)<|Good.goto<|⟨k,(by first | trivial | omega),0,t553.2.2.2.2.2,a0_0,l0_1,l0_2,l0_3,0,0,t553.1,t553.2.1,t553.2.2.1,t553.2.2.2.1,by omega,Wo [(2,0),(5,0),(8,0)],H⟩
  refine Cf (bneF c555)<|Sk<|Sw<|Sw<|Rg hN ?_
  rcases ifC H with ⟨c556,H⟩ | ⟨c556,H⟩
  ·exact Ct (dt c556)<|Sw<|Rg hN<|Good.goto<|⟨k,(by first | trivial | omega),0,5,a0_0,l0_1,l0_2,l0_3,0,0,t553.1,t553.2.1,t553.2.2.1,t553.2.2.2.1,by omega,Wo [(2,0),(5,0),(8,0)],H⟩
  refine Cf (df c556)<|Sk<|Sw ?_
  obtain ⟨t557,h558,H⟩:=bindS H
  refine Rd hm hN (.qs 9 0 (.e 9 (.q 10 [] .z))) [(0,some (.pt [S a0_0,.row none 5 (List.map (v55 0) l0_1),.row none 1 (List.map Cx l0_2),.row none 1 (List.map I l0_3)])),(3,some (.pt [I t553.1,I t553.2.1,B t553.2.2.1,I t553.2.2.2.1])),(4,none),(5,none)] (.c2 (ptS (shrC (rfl:(V.shr (S a0_0))=S a0_0) (shrC (shrM (some 55) 5 (v55 1) (v55 0) l0_1 (v55.shr _)) (shrC (shrM (some 67) 1 Cx Cx l0_2 (fun _=>rfl)) (shrC (shrM (some 3) 1 I I l0_3 (fun _=>rfl)) (rfl:shrL []=[])))))) (ptS (shrC (rfl:(V.shr (I t553.1))=I t553.1) (shrC (rfl:(V.shr (I t553.2.1))=I t553.2.1) (shrC (rfl:(V.shr (B t553.2.2.1))=B t553.2.2.1) (shrC (rfl:(V.shr (I t553.2.2.2.1))=I t553.2.2.2.1) (rfl:shrL []=[]))))))) [S t557] [] (.c1 (octets_Cut.con h558).c) .nil [] []<|Sw<|Sw ?_
  obtain ⟨t559,h560,H⟩:=bindS H
  refine Rh hN [I t559.1,.tup [.agg [S t559.2.1,.row (some 55) 5 (List.map (v55 1) t559.2.2.1),.row (some 67) 1 (List.map Cx t559.2.2.2.1),.row (some 3) 1 (List.map I t559.2.2.2.2)]]] (.c1 (tlv_reader_may.con h560).c)<|Sw<|Rg hN ?_
  rcases (ifC H).symm with ⟨c561,H⟩ | ⟨c561,H⟩
  ·exact Ct (nq c561)<|Good.goto<|⟨k,(by first | trivial | omega),0,t559.1,t559.2.1,t559.2.2.1,t559.2.2.2.1,t559.2.2.2.2,0,0,t553.1,t553.2.1,t553.2.2.1,t553.2.2.2.1,by omega,Wo [(2,0),(5,0),(8,0)],H⟩
  refine Cf (bneF c561)<|Sk<|Sw ?_
  obtain ⟨t562,h563,H⟩:=bindS H
  obtain ⟨t564,h565,H⟩:=bindS H
  refine Rd hm hN (.q 0 [[]] (.q 1 [[]] (.q 2 [[]] (.q 3 [[10]] (.q 4 [[10,9,6]] (.q 5 [[10,9,6]] (.q 6 [[10,9]] (.q 7 [[10,9,8]] (.q 8 [[10,9]] (.q 9 [[10]] (.e 10 (.e 11 .z)))))))))))) [(0,some (.pt [S t559.2.1,.row none 5 (List.map (v55 0) t559.2.2.1),.row none 1 (List.map Cx t559.2.2.2.1),.row none 1 (List.map I t559.2.2.2.2)])),(3,some (.pt [I t553.1,I t553.2.1,B t553.2.2.1,I t553.2.2.2.1])),(4,none),(5,none),(7,none)] (.c2 (ptS (shrC (rfl:(V.shr (S t559.2.1))=S t559.2.1) (shrC (shrM (some 55) 5 (v55 1) (v55 0) t559.2.2.1 (v55.shr _)) (shrC (shrM (some 67) 1 Cx Cx t559.2.2.2.1 (fun _=>rfl)) (shrC (shrM (some 3) 1 I I t559.2.2.2.2 (fun _=>rfl)) (rfl:shrL []=[])))))) (ptS (shrC (rfl:(V.shr (I t553.1))=I t553.1) (shrC (rfl:(V.shr (I t553.2.1))=I t553.2.1) (shrC (rfl:(V.shr (B t553.2.2.1))=B t553.2.2.1) (shrC (rfl:(V.shr (I t553.2.2.2.1))=I t553.2.2.2.1) (rfl:shrL []=[]))))))) [Cx t562,.tup [],.tup [.agg [S t559.2.1,.row (some 55) 5 (List.map (v55 1) t564.1),.row (some 67) 1 (List.map Cx t564.2.1),.row (some 3) 1 (List.map I t564.2.2)]]] [] (.c2 (span_Of.con h563).c (tlv_reader_put.con h565).c) .nil [] []<|Sw<|Rg hN<|Sw<|Sw<|Rg hN<|Good.cut (fun st=>∃ n':Nat,n'≤k∧∃ (x5:Int) (x8:Int) (x1000:ByteArray) (x1001:List S55) (x1002:List (Nat × Nat)) (x1003:List Int) (x2000:Int) (x2001:Int) (x3000:Int) (x3001:Int) (x3002:Bool) (x3003:Int),Wk C st ⟨[(0,.d (.ptr 0 0)),(2,.d (.ptr 1 0)),(3,.d (.ptr 2 0)),(5,.w (I x5)),(8,.w (I x8))],[.cells [.v (S x1000),.v (.row (some 55) 5 (List.map (v55 1) x1001)),.v (.row (some 67) 1 (List.map Cx x1002)),.v (.row (some 3) 1 (List.map I x1003))],.cells [.v (I x2000),.v (I x2001)],.cells [.v (I x3000),.v (I x3001),.v (B x3002),.v (I x3003)]]⟩∧tlv_reader_read.j0 n' x5 x8 x1000 x1001 x1002 x1003=some r) ?_ ?_
  ·rcases ifC H with ⟨c566,H⟩ | ⟨c566,H⟩
   ·exact Cf (notF c566)<|Sk<|⟨k,by omega,wrap64 (0+t553.2.2.2.2.1),t559.1,t559.2.1,t564.1,t564.2.1,t564.2.2,0,0,t553.1,t553.2.1,t553.2.2.1,t553.2.2.2.1,Wo [(0,0),(2,0),(3,0),(5,0),(8,0)],H⟩
   exact Ct (notT (bf c566))<|Rg hN<|⟨k,by omega,wrap64 ((wrap64 (0+t553.2.2.2.2.1))+t553.2.2.2.1),t559.1,t559.2.1,t564.1,t564.2.1,t564.2.2,0,0,t553.1,t553.2.1,t553.2.2.1,t553.2.2.2.1,Wo [(0,0),(2,0),(3,0),(5,0),(8,0)],H⟩
  clear H
  rintro st ⟨n',hn',x5,x8,x1000,x1001,x1002,x1003,x2000,x2001,x3000,x3001,x3002,x3003,W,H⟩
  rcases n' with _ | k
  ·cases H
  refine W.good ?_
  rw [tlv_reader_read.j0] at H
  refine Sw<|Sw ?_
  obtain ⟨t567,h568,H⟩:=bindS H
  refine Rh hN [B t567.1,.tup [.agg [S t567.2.1,.row (some 55) 5 (List.map (v55 1) t567.2.2.1),.row (some 67) 1 (List.map Cx t567.2.2.2.1),.row (some 3) 1 (List.map I t567.2.2.2.2)]]] (.c1 (tlv_reader_close.con h568).c) ?_
  rcases (ifC H).symm with ⟨c569,H⟩ | ⟨c569,H⟩
  ·exact Ct (notT (bf c569))<|Good.goto<|⟨k,(by first | trivial | omega),x5,t567.2.1,t567.2.2.1,t567.2.2.2.1,t567.2.2.2.2,x2000,x2001,x3000,x3001,x3002,x3003,by omega,Wo [(0,0),(2,0),(3,0),(5,0)],H⟩
  refine Cf (notF c569)<|Sk<|Sw<|Sw<|Rg hN ?_
  rcases ifC H with ⟨c570,H⟩ | ⟨c570,H⟩
  ·refine Ct (dt c570)<|Rg hN<|Sw<|Good.label<|Sw<|Sw<|Rg hN<|Cf (bn (show ¬ ((5:Int)=0) by decide))<|Sk<|Sw<|Rg hN ?_
   cases H
   exact Good.ret (finX_fitR (.refl _) (FitLL.refl _) (by kernel_rfl) rfl)
  refine Cf (df c570)<|Sk<|Sw<|Good.label<|Sw<|Sw<|Rg hN ?_
  rcases ifC H with ⟨c571,H⟩ | ⟨c571,H⟩
  ·refine Ct (bq c571)<|Sw<|Rg hN ?_
   cases H
   exact Good.ret (finX_fitR (.refl _) (FitLL.refl _) (by kernel_rfl) rfl)
  refine Cf (bn c571)<|Sk<|Sw<|Rg hN ?_
  cases H
  exact Good.ret (finX_fitR (.refl _) (FitLL.refl _) (by kernel_rfl) rfl)
 ·clear H
  rintro n st ⟨x5,x8,x1000,x1001,x1002,x1003,x2000,x2001,x3000,x3001,x3002,x3003,hn,W,H⟩
  rcases n with _ | k
  ·cases H
  refine W.good ?_
  rw [tlv_reader_read.g0_0] at H
  refine Sw<|Sk<|Sw<|Sw<|Rg hN ?_
  rcases ifC H with ⟨c572,H⟩ | ⟨c572,H⟩
  ·refine Ct (bq c572)<|Sw<|Rg hN ?_
   cases H
   exact Good.ret (finX_fitR (.refl _) (FitLL.refl _) (by kernel_rfl) rfl)
  refine Cf (bn c572)<|Sk<|Sw<|Rg hN ?_
  cases H
  exact Good.ret (finX_fitR (.refl _) (FitLL.refl _) (by kernel_rfl) rfl)
 ·clear H
  rintro n st ⟨x5,x1000,x1001,x1002,x1003,x2000,x2001,x3000,x3001,x3002,x3003,hn,W,H⟩
  rcases n with _ | k
  ·cases H
  refine W.good ?_
  rw [tlv_reader_read.g0_1] at H
  refine Sw<|Sk<|Sw ?_
  obtain ⟨t573,h574,H⟩:=bindS H
  refine Rh hN [I t573,.tup [.agg [S x1000,.row (some 55) 5 (List.map (v55 1) x1001),.row (some 67) 1 (List.map Cx x1002),.row (some 3) 1 (List.map I x1003)]]] (.c1 (tlv_reader_end.con h574).c)<|Sw ?_
  obtain ⟨t575,h576,H⟩:=bindS H
  obtain ⟨t577,h578,H⟩:=bindS H
  refine Rh hN [S t575,.tup [.agg [I t577.1,I t577.2.1,B t577.2.2.1,I t577.2.2.2.1],I t577.2.2.2.2.1,I t577.2.2.2.2.2]] (.c2 (octets_Cut.con h576).c (head_Decode.con h578).c)<|Sw<|Sw<|Rg hN ?_
  rcases (ifC H).symm with ⟨c579,H⟩ | ⟨c579,H⟩
  ·exact Ct (nq c579)<|Good.goto<|⟨k,(by first | trivial | omega),x5,t577.2.2.2.2.2,x1000,x1001,x1002,x1003,x2000,x2001,t577.1,t577.2.1,t577.2.2.1,t577.2.2.2.1,by omega,Wo [(2,0),(5,0),(8,0)],H⟩
  refine Cf (bneF c579)<|Sk<|Sw<|Sw<|Rg hN ?_
  rcases ifC H with ⟨c580,H⟩ | ⟨c580,H⟩
  ·exact Ct (dt c580)<|Sw<|Rg hN<|Good.goto<|⟨k,(by first | trivial | omega),x5,5,x1000,x1001,x1002,x1003,x2000,x2001,t577.1,t577.2.1,t577.2.2.1,t577.2.2.2.1,by omega,Wo [(2,0),(5,0),(8,0)],H⟩
  refine Cf (df c580)<|Sk<|Sw ?_
  obtain ⟨t581,h582,H⟩:=bindS H
  refine Rd hm hN (.qs 9 0 (.e 9 (.q 10 [] .z))) [(0,some (.pt [S x1000,.row none 5 (List.map (v55 0) x1001),.row none 1 (List.map Cx x1002),.row none 1 (List.map I x1003)])),(3,some (.pt [I t577.1,I t577.2.1,B t577.2.2.1,I t577.2.2.2.1])),(4,none),(5,none)] (.c2 (ptS (shrC (rfl:(V.shr (S x1000))=S x1000) (shrC (shrM (some 55) 5 (v55 1) (v55 0) x1001 (v55.shr _)) (shrC (shrM (some 67) 1 Cx Cx x1002 (fun _=>rfl)) (shrC (shrM (some 3) 1 I I x1003 (fun _=>rfl)) (rfl:shrL []=[])))))) (ptS (shrC (rfl:(V.shr (I t577.1))=I t577.1) (shrC (rfl:(V.shr (I t577.2.1))=I t577.2.1) (shrC (rfl:(V.shr (B t577.2.2.1))=B t577.2.2.1) (shrC (rfl:(V.shr (I t577.2.2.2.1))=I t577.2.2.2.1) (rfl:shrL []=[]))))))) [S t581] [] (.c1 (octets_Cut.con h582).c) .nil [] []<|Sw<|Sw ?_
  obtain ⟨t583,h584,H⟩:=bindS H
  refine Rh hN [I t583.1,.tup [.agg [S t583.2.1,.row (some 55) 5 (List.map (v55 1) t583.2.2.1),.row (some 67) 1 (List.map Cx t583.2.2.2.1),.row (some 3) 1 (List.map I t583.2.2.2.2)]]] (.c1 (tlv_reader_may.con h584).c)<|Sw<|Rg hN ?_
  rcases (ifC H).symm with ⟨c585,H⟩ | ⟨c585,H⟩
  ·exact Ct (nq c585)<|Good.goto<|⟨k,(by first | trivial | omega),x5,t583.1,t583.2.1,t583.2.2.1,t583.2.2.2.1,t583.2.2.2.2,x2000,x2001,t577.1,t577.2.1,t577.2.2.1,t577.2.2.2.1,by omega,Wo [(2,0),(5,0),(8,0)],H⟩
  refine Cf (bneF c585)<|Sk<|Sw ?_
  obtain ⟨t586,h587,H⟩:=bindS H
  obtain ⟨t588,h589,H⟩:=bindS H
  refine Rd hm hN (.q 0 [[]] (.q 1 [[]] (.q 2 [[]] (.q 3 [[10]] (.q 4 [[10,9,6]] (.q 5 [[10,9,6]] (.q 6 [[10,9]] (.q 7 [[10,9,8]] (.q 8 [[10,9]] (.q 9 [[10]] (.e 10 (.e 11 .z)))))))))))) [(0,some (.pt [S t583.2.1,.row none 5 (List.map (v55 0) t583.2.2.1),.row none 1 (List.map Cx t583.2.2.2.1),.row none 1 (List.map I t583.2.2.2.2)])),(3,some (.pt [I t577.1,I t577.2.1,B t577.2.2.1,I t577.2.2.2.1])),(4,none),(5,none),(7,none)] (.c2 (ptS (shrC (rfl:(V.shr (S t583.2.1))=S t583.2.1) (shrC (shrM (some 55) 5 (v55 1) (v55 0) t583.2.2.1 (v55.shr _)) (shrC (shrM (some 67) 1 Cx Cx t583.2.2.2.1 (fun _=>rfl)) (shrC (shrM (some 3) 1 I I t583.2.2.2.2 (fun _=>rfl)) (rfl:shrL []=[])))))) (ptS (shrC (rfl:(V.shr (I t577.1))=I t577.1) (shrC (rfl:(V.shr (I t577.2.1))=I t577.2.1) (shrC (rfl:(V.shr (B t577.2.2.1))=B t577.2.2.1) (shrC (rfl:(V.shr (I t577.2.2.2.1))=I t577.2.2.2.1) (rfl:shrL []=[]))))))) [Cx t586,.tup [],.tup [.agg [S t583.2.1,.row (some 55) 5 (List.map (v55 1) t588.1),.row (some 67) 1 (List.map Cx t588.2.1),.row (some 3) 1 (List.map I t588.2.2)]]] [] (.c2 (span_Of.con h587).c (tlv_reader_put.con h589).c) .nil [] []<|Sw<|Rg hN<|Sw<|Sw<|Rg hN<|Good.cut (fun st=>∃ n':Nat,n'≤k∧∃ (x5:Int) (x8:Int) (x1000:ByteArray) (x1001:List S55) (x1002:List (Nat × Nat)) (x1003:List Int) (x2000:Int) (x2001:Int) (x3000:Int) (x3001:Int) (x3002:Bool) (x3003:Int),Wk C st ⟨[(0,.d (.ptr 0 0)),(2,.d (.ptr 1 0)),(3,.d (.ptr 2 0)),(5,.w (I x5)),(8,.w (I x8))],[.cells [.v (S x1000),.v (.row (some 55) 5 (List.map (v55 1) x1001)),.v (.row (some 67) 1 (List.map Cx x1002)),.v (.row (some 3) 1 (List.map I x1003))],.cells [.v (I x2000),.v (I x2001)],.cells [.v (I x3000),.v (I x3001),.v (B x3002),.v (I x3003)]]⟩∧tlv_reader_read.j3 n' x5 x8 x1000 x1001 x1002 x1003=some r) ?_ ?_
  ·rcases ifC H with ⟨c590,H⟩ | ⟨c590,H⟩
   ·exact Cf (notF c590)<|Sk<|⟨k,by omega,wrap64 (x5+t577.2.2.2.2.1),t583.1,t583.2.1,t588.1,t588.2.1,t588.2.2,x2000,x2001,t577.1,t577.2.1,t577.2.2.1,t577.2.2.2.1,Wo [(0,0),(2,0),(3,0),(5,0),(8,0)],H⟩
   exact Ct (notT (bf c590))<|Rg hN<|⟨k,by omega,wrap64 ((wrap64 (x5+t577.2.2.2.2.1))+t577.2.2.2.1),t583.1,t583.2.1,t588.1,t588.2.1,t588.2.2,x2000,x2001,t577.1,t577.2.1,t577.2.2.1,t577.2.2.2.1,Wo [(0,0),(2,0),(3,0),(5,0),(8,0)],H⟩
  clear H
  rintro st ⟨n',hn',x5,x8,x1000,x1001,x1002,x1003,x2000,x2001,x3000,x3001,x3002,x3003,W,H⟩
  rcases n' with _ | k
  ·cases H
  refine W.good ?_
  rw [tlv_reader_read.j3] at H
  refine Sw<|Sw ?_
  obtain ⟨t591,h592,H⟩:=bindS H
  refine Rh hN [B t591.1,.tup [.agg [S t591.2.1,.row (some 55) 5 (List.map (v55 1) t591.2.2.1),.row (some 67) 1 (List.map Cx t591.2.2.2.1),.row (some 3) 1 (List.map I t591.2.2.2.2)]]] (.c1 (tlv_reader_close.con h592).c) ?_
  rcases (ifC H).symm with ⟨c593,H⟩ | ⟨c593,H⟩
  ·exact Ct (notT (bf c593))<|Good.goto<|⟨k,(by first | trivial | omega),x5,t591.2.1,t591.2.2.1,t591.2.2.2.1,t591.2.2.2.2,x2000,x2001,x3000,x3001,x3002,x3003,by omega,Wo [(0,0),(2,0),(3,0),(5,0)],H⟩
  refine Cf (notF c593)<|Sk<|Sw<|Sw<|Rg hN ?_
  rcases ifC H with ⟨c594,H⟩ | ⟨c594,H⟩
  ·refine Ct (dt c594)<|Rg hN<|Sw<|Good.label<|Sw<|Sw<|Rg hN<|Cf (bn (show ¬ ((5:Int)=0) by decide))<|Sk<|Sw<|Rg hN ?_
   cases H
   exact Good.ret (finX_fitR (.refl _) (FitLL.refl _) (by kernel_rfl) rfl)
  refine Cf (df c594)<|Sk<|Sw<|Good.label<|Sw<|Sw<|Rg hN ?_
  rcases ifC H with ⟨c595,H⟩ | ⟨c595,H⟩
  ·refine Ct (bq c595)<|Sw<|Rg hN ?_
   cases H
   exact Good.ret (finX_fitR (.refl _) (FitLL.refl _) (by kernel_rfl) rfl)
  refine Cf (bn c595)<|Sk<|Sw<|Rg hN ?_
  cases H
  exact Good.ret (finX_fitR (.refl _) (FitLL.refl _) (by kernel_rfl) rfl)
def tlv_Decode.f (k:Nat) (a0:ByteArray):Option (List S55 × Int × Int):=(tlv_reader_read.f k a0 ([]:List S55) ([]:List (Nat × Nat)) ([]:List Int)).bind fun t596=>(if t596.1=0 then (some (t596.2.2.2.1,0,0)) else (some (([]:List S55),t596.1,t596.2.1)))
theorem tlv_Decode.con {k:Nat} {a0:ByteArray} {r:(List S55 × Int × Int)} (H:tlv_Decode.f k a0=some r):Con Tryz.prog 23 [S a0] (.tup [.row (some 55) 5 (List.map (v55 1) r.1),.agg [I r.2.1,I r.2.2]]):=by
 refine Cg Tryz.func23 rfl fun C hN hL=>?_
 unfold tlv_Decode.f at H
 refine Sw<|Rg hN<|Sw<|Rg hN<|Sw<|Sw ?_
 obtain ⟨t596,h597,H⟩:=bindS H
 refine Rh hN [.agg [I t596.1,I t596.2.1],.tup [.agg [S t596.2.2.1,.row (some 55) 5 (List.map (v55 1) t596.2.2.2.1),.row (some 67) 1 (List.map Cx t596.2.2.2.2.1),.row (some 3) 1 (List.map I t596.2.2.2.2.2)]]] (.c1 (ConX.n (tlv_reader_read.con h597) (.c1 (.refl _)) (.c1 (.c4 (.refl _) (.nilO 55 5) (.nilO 67 1) (.nilO 3 1)))))<|Sw<|Rg hN ?_
 rcases (ifC H).symm with ⟨c598,H⟩ | ⟨c598,H⟩
 ·refine Ct (nq c598)<|Sw<|Rd hm hN (.q 0 [[]] (.q 1 [[]] (.e 2 .z))) [(3,some (.pt [I 0,I 0])),(5,some (.pt [I t596.1,I t596.2.1]))] (.c2 (ptS (shrC (rfl:(V.shr (I 0))=I 0) (shrC (rfl:(V.shr (I 0))=I 0) (rfl:shrL []=[])))) (ptS (shrC (rfl:(V.shr (I t596.1))=I t596.1) (shrC (rfl:(V.shr (I t596.2.1))=I t596.2.1) (rfl:shrL []=[]))))) [] [] .nil .nil [] [] ?_
  cases H
  exact Good.ret (fin_fit (u:=.tup [.nil 55 5,.agg [I t596.1,I t596.2.1]]) (.tup (.c2 (.nilO 55 5) (.refl _))) (by kernel_rfl))
 refine Cf (bneF c598)<|Sk<|Sw<|Rg hN ?_
 cases H
 exact Rt dR
def tree_end.l0:Nat→List S55→Int→Option (Int)
 | 0,_,_=>none
 | k+1,x0,x1=>if 0≤x1 then (if x1 < (x0.length:Int) then (if (((rd_T55 x0 x1).f4).length:Int) > 0 then (if 0≤(wrap64 ((((rd_T55 x0 x1).f4).length:Int) - 1)) then (if (wrap64 ((((rd_T55 x0 x1).f4).length:Int) - 1)) < (((rd_T55 x0 x1).f4).length:Int) then (tree_end.l0 k x0 (rd ((rd_T55 x0 x1).f4) (wrap64 ((((rd_T55 x0 x1).f4).length:Int) - 1)))) else (none)) else (none)) else (some (wrap64 (x1+1)))) else (none)) else (none)
def tree_end.f (k:Nat) (l0:List S55) (a1:Int):Option (Int):=tree_end.l0 k l0 a1
theorem tree_end.con {k:Nat} {l0:List S55} {a1:Int} {r:(Int)} (H:tree_end.f k l0 a1=some r):Con Tryz.prog 123 [.row none 5 (List.map (v55 0) l0),I a1] (I r):=by
 refine Cg Tryz.func123 rfl fun C hN hL=>?_
 unfold tree_end.f at H
 refine Sw<|Rg hN<|Sw<|Bl<|Good.loopN (fun k' st=>∃ (x0:List S55) (x1:Int),k'≤k∧Wk C st ⟨[(0,.w (.row none 5 (List.map (v55 0) x0))),(1,.w (I x1))],[]⟩∧tree_end.l0 k' x0 x1=some r) k ⟨l0,a1,Nat.le_refl _,Wo [(0,0),(1,0)],H⟩ fun k=>⟨fun st h=>(by obtain ⟨_,_,_,_,H⟩:=h;cases H),?_⟩
 clear H
 rintro st ⟨x0,x1,hk,W,H⟩
 refine W.good ?_
 rw [tree_end.l0] at H
 refine Sw<|Sw ?_
 obtain ⟨c599,H⟩:=ifS H
 obtain ⟨c600,H⟩:=ifS H
 refine Rh hN [(v55 0) (rd_T55 x0 x1),I (((rd_T55 x0 x1).f4).length:Int)] (.c3 c599 (atM (v55 0) z55 c599 c600) (lenM I ((rd_T55 x0 x1).f4))) ?_
 rcases (ifC H).symm with ⟨c601,H⟩ | ⟨c601,H⟩
 ·refine Cf (df c601)<|Ex<|Sw<|Rg hN ?_
  cases H
  exact Rt dR
 refine Ct (dt c601)<|Sk<|Bl ?_
 obtain ⟨c602,H⟩:=ifS H
 obtain ⟨c603,H⟩:=ifS H
 exact Rd hm hN (.qs 14 0 (.q 14 [] .z)) [(0,none),(1,none)] .nil [(v55 0) (rd_T55 x0 x1),(v55 0) (rd_T55 x0 x1),I (((rd_T55 x0 x1).f4).length:Int),I (rd ((rd_T55 x0 x1).f4) (wrap64 ((((rd_T55 x0 x1).f4).length:Int) - 1)))] [(v55 0) (rd_T55 x0 x1),(v55 0) (rd_T55 x0 x1),I (((rd_T55 x0 x1).f4).length:Int),I (rd ((rd_T55 x0 x1).f4) (wrap64 ((((rd_T55 x0 x1).f4).length:Int) - 1)))] (.c7 c599 (atM (v55 0) z55 c599 c600) c599 (atM (v55 0) z55 c599 c600) (lenM I ((rd_T55 x0 x1).f4)) c602 (atM I (0:Int) c602 c603)) (.c7 c599 (atM (v55 0) z55 c599 c600) c599 (atM (v55 0) z55 c599 c600) (lenM I ((rd_T55 x0 x1).f4)) c602 (atM I (0:Int) c602 c603)) [] []<|⟨k,by omega,x0,rd ((rd_T55 x0 x1).f4) (wrap64 ((((rd_T55 x0 x1).f4).length:Int) - 1)),by omega,Wo [(0,0),(1,0)],H⟩
def tree_Sub.l0:Nat→Int→List S55→List S55→Int→Int→Option (List S55)
 | 0,_,_,_,_,_=>none
 | k+1,x1,x5,x26,x27,x28=>if x28 < x27 then (if 0≤x28 then (if x28 < (x26.length:Int) then ((tree_moved.f k ((rd_T55 x26 x28).f0) ((rd_T55 x26 x28).f1) ((rd_T55 x26 x28).f2) ((rd_T55 x26 x28).f3) ((rd_T55 x26 x28).f4) (wrap64 (-x1))).bind fun t634=>(if x5.length < 2199023255552 then (tree_Sub.l0 k x1 (x5++[(⟨t634.1,t634.2.1,t634.2.2.1,t634.2.2.2.1,t634.2.2.2.2⟩:S55)]) x26 x27 (wrap64 (x28+1))) else (none))) else (none)) else (none)) else (some x5)
def tree_Sub.j0:Nat→List S55→Int→Bool→Option (List S55)
 | 0,_,_,_=>none
 | k+1,x0,x1,x20=>if x20=true then (some ([]:List S55)) else ((tree_end.f k x0 x1).bind fun t626=>(if 0≤x1 then (if x1≤t626 then (if t626≤(x0.length:Int) then (tree_Sub.l0 k x1 ([]:List S55) ((x0.take (t626:Int).toNat).drop (x1:Int).toNat) (((x0.take (t626:Int).toNat).drop (x1:Int).toNat).length:Int) 0) else (none)) else (none)) else (none)))
def tree_Sub.f (k:Nat) (l0:List S55) (a1:Int):Option (List S55):=if a1 < 0 then (tree_Sub.j0 k l0 a1 true) else (if a1≥(l0.length:Int) then (tree_Sub.j0 k l0 a1 true) else ((tree_Right.f k l0).bind fun t623=>(tree_Sub.j0 k l0 a1 (!t623))))
theorem tree_Sub.con {k:Nat} {l0:List S55} {a1:Int} {r:(List S55)} (H:tree_Sub.f k l0 a1=some r):Con Tryz.prog 88 [.row none 5 (List.map (v55 0) l0),I a1] (.row (some 55) 5 (List.map (v55 1) r)):=by
 refine Cg Tryz.func88 rfl fun C hN hL=>?_
 unfold tree_Sub.f at H
 refine Sw<|Rg hN<|Sw<|Sw<|Good.cut (fun st=>∃ n':Nat,n'≤k∧∃ (x0:List S55) (x1:Int) (x20:Bool),Wk C st ⟨[(0,.w (.row none 5 (List.map (v55 0) x0))),(1,.w (I x1)),(20,.w (B x20))],[]⟩∧tree_Sub.j0 n' x0 x1 x20=some r) ?_ ?_
 ·rcases ifC H with ⟨c621,H⟩ | ⟨c621,H⟩
  ·exact Rh hN [B true,B true] (.c2 (dt c621) (rfl:true=true))<|⟨k,by omega,l0,a1,true,Wo [(0,0),(1,0),(20,0)],H⟩
  rcases ifC H with ⟨c622,H⟩ | ⟨c622,H⟩
  ·exact Rh hN [B false,I (l0.length:Int),B true] (.c3 (df c621) (lenM (v55 0) l0) (dt c622))<|⟨k,by omega,l0,a1,true,Wo [(0,0),(1,0),(20,0)],H⟩
  obtain ⟨t623,h624,H⟩:=bindS H
  exact Rh hN [B false,I (l0.length:Int),B false,B t623] (.c4 (df c621) (lenM (v55 0) l0) (df c622) (tree_Right.con h624).c)<|⟨k,by omega,l0,a1,!t623,Wo [(0,0),(1,0),(20,0)],H⟩
 clear H
 rintro st ⟨n',hn',x0,x1,x20,W,H⟩
 rcases n' with _ | k
 ·cases H
 refine W.good ?_
 rw [tree_Sub.j0] at H
 rcases ifC H with ⟨c625,H⟩ | ⟨c625,H⟩
 ·refine Ct c625<|Sw<|Rg hN ?_
  cases H
  exact Good.ret (fin_fit (u:=.nil 55 5) (.nilO 55 5) (by kernel_rfl))
 refine Cf (bf c625)<|Sk<|Sw<|Rg hN<|Sw<|Sw ?_
 obtain ⟨t626,h627,H⟩:=bindS H
 obtain ⟨c628,H⟩:=ifS H
 obtain ⟨c629,H⟩:=ifS H
 obtain ⟨c630,H⟩:=ifS H
 refine Rh hN [I t626,.row none 5 (List.map (v55 0) ((x0.take (t626:Int).toNat).drop (x1:Int).toNat)),I (((x0.take (t626:Int).toNat).drop (x1:Int).toNat).length:Int)] (.c6 (tree_end.con h627).c c628 c629 (leM (v55 0) c630) (cutM (v55 0) (l:=x0) (n:=(x1:Int).toNat) (m:=(t626:Int).toNat)) (lenM (v55 0) ((x0.take (t626:Int).toNat).drop (x1:Int).toNat)))<|Bl<|Good.loopN (fun k' st=>∃ (x1:Int) (x5:List S55) (x26:List S55) (x27:Int) (x28:Int),k'≤k∧Wk C st ⟨[(1,.w (I x1)),(5,.w (.row (some 55) 5 (List.map (v55 1) x5))),(26,.w (.row none 5 (List.map (v55 0) x26))),(27,.w (I x27)),(28,.w (I x28))],[]⟩∧tree_Sub.l0 k' x1 x5 x26 x27 x28=some r) k ⟨x1,([]:List S55),(x0.take (t626:Int).toNat).drop (x1:Int).toNat,(((x0.take (t626:Int).toNat).drop (x1:Int).toNat).length:Int),0,Nat.le_refl _,Wo [(1,0),(5,1),(26,0),(27,0),(28,0)],H⟩ fun k=>⟨fun st h=>(by obtain ⟨_,_,_,_,_,_,_,H⟩:=h;cases H),?_⟩
 clear H
 rintro st ⟨x1,x5,x26,x27,x28,hk,W,H⟩
 refine W.good ?_
 rw [tree_Sub.l0] at H
 refine Sw<|Rg hN<|Sw ?_
 rcases (ifC H).symm with ⟨c631,H⟩ | ⟨c631,H⟩
 ·refine Cf (df c631)<|Ex<|Sw<|Rg hN ?_
  cases H
  exact Rt dR
 refine Ct (dt c631)<|Sk<|Sw<|Bl<|Sw ?_
 obtain ⟨c632,H⟩:=ifS H
 obtain ⟨c633,H⟩:=ifS H
 refine Rh hN [(v55 0) (rd_T55 x26 x28)] (.c2 c632 (atM (v55 0) z55 c632 c633)) ?_
 obtain ⟨t634,h635,H⟩:=bindS H
 obtain ⟨c636,H⟩:=ifS H
 exact Ri hN [.agg [I t634.1,I t634.2.1,B t634.2.2.1,S t634.2.2.2.1,.row (some 3) 1 (List.map I t634.2.2.2.2)],.tup [],.kb true,.row (some 55) 5 (List.map (v55 1) (x5++[(⟨t634.1,t634.2.1,t634.2.2.1,t634.2.2.2.1,t634.2.2.2.2⟩:S55)]))] (.c4 (congrArg (Value.int .i64) ((wrapK_eq .i64 (0 - x1)).symm.trans (congrArg wrap64 (Int.zero_sub x1)))) (tree_moved.con h635).c (fitM (v55 1) x5 [(⟨t634.1,t634.2.1,t634.2.2.1,t634.2.2.2.1,t634.2.2.2.2⟩:S55)] (.refl _)) (limM1 (v55 1) c636)) [(35,.int .i64 (wrap64 (-x1)))]<|Rg hN<|⟨k,by omega,x1,(x5++[(⟨t634.1,t634.2.1,t634.2.2.1,t634.2.2.2.1,t634.2.2.2.2⟩:S55)]),x26,x27,wrap64 (x28+1),by omega,Wk.ofB hL 0 [(1,0),(5,0),(26,0),(27,0),(28,0)] (by kernel_rfl) (by kernel_rfl) (by kernel_rfl),H⟩
def tree_Kids.l0:Nat→List S55→List (List S55)→List Int→Int→Int→Option (List (List S55))
 | 0,_,_,_,_,_=>none
 | k+1,x0,x3,x12,x13,x14=>if x14 < x13 then (if 0≤x14 then (if x14 < (x12.length:Int) then ((tree_Sub.f k x0 (rd x12 x14)).bind fun t656=>(if x3.length < 5864062014805 then (tree_Kids.l0 k x0 (x3++[t656]) x12 x13 (wrap64 (x14+1))) else (none))) else (none)) else (none)) else (some x3)
def tree_Kids.f (k:Nat) (l0:List S55):Option (List (List S55)):=(tree_Right.f k l0).bind fun t649=>(if t649=true then (if 0 < (l0.length:Int) then (tree_Kids.l0 k l0 ([]:List (List S55)) ((rd_T55 l0 0).f4) (((rd_T55 l0 0).f4).length:Int) 0) else (none)) else (some ([]:List (List S55))))
theorem tree_Kids.con {k:Nat} {l0:List S55} {r:(List (List S55))} (H:tree_Kids.f k l0=some r):Con Tryz.prog 49 [.row none 5 (List.map (v55 0) l0)] (.row (some 33) 1 (List.map (vL55 0) r)):=by
 refine Cg Tryz.func49 rfl fun C hN hL=>?_
 unfold tree_Kids.f at H
 refine Sw<|Rg hN<|Sw<|Sw ?_
 obtain ⟨t649,h650,H⟩:=bindS H
 refine Rh hN [B t649] (.c1 (tree_Right.con h650).c) ?_
 rcases (ifC H).symm with ⟨c651,H⟩ | ⟨c651,H⟩
 ·refine Ct (notT (bf c651))<|Sw<|Rg hN ?_
  cases H
  exact Good.ret (fin_fit (u:=.nil 33 1) (.nilO 33 1) (by kernel_rfl))
 refine Cf (notF c651)<|Sk<|Sw<|Rg hN<|Sw<|Sw ?_
 obtain ⟨c652,H⟩:=ifS H
 refine Rh hN [(v55 0) (rd_T55 l0 0),I (((rd_T55 l0 0).f4).length:Int)] (.c3 (show (0:Int)≤0 by decide) (atM (v55 0) z55 (show (0:Int)≤0 by decide) c652) (lenM I ((rd_T55 l0 0).f4)))<|Bl<|Good.loopN (fun k' st=>∃ (x0:List S55) (x3:List (List S55)) (x12:List Int) (x13:Int) (x14:Int),k'≤k∧Wk C st ⟨[(0,.w (.row none 5 (List.map (v55 0) x0))),(3,.w (.row (some 33) 1 (List.map (vL55 0) x3))),(12,.w (.row none 1 (List.map I x12))),(13,.w (I x13)),(14,.w (I x14))],[]⟩∧tree_Kids.l0 k' x0 x3 x12 x13 x14=some r) k ⟨l0,([]:List (List S55)),(rd_T55 l0 0).f4,(((rd_T55 l0 0).f4).length:Int),0,Nat.le_refl _,Wo [(0,0),(3,1),(12,0),(13,0),(14,0)],H⟩ fun k=>⟨fun st h=>(by obtain ⟨_,_,_,_,_,_,_,H⟩:=h;cases H),?_⟩
 clear H
 rintro st ⟨x0,x3,x12,x13,x14,hk,W,H⟩
 refine W.good ?_
 rw [tree_Kids.l0] at H
 refine Sw<|Rg hN<|Sw ?_
 rcases (ifC H).symm with ⟨c653,H⟩ | ⟨c653,H⟩
 ·refine Cf (df c653)<|Ex<|Sw<|Rg hN ?_
  cases H
  exact Rt dR
 refine Ct (dt c653)<|Sk<|Sw<|Bl<|Sw ?_
 obtain ⟨c654,H⟩:=ifS H
 obtain ⟨c655,H⟩:=ifS H
 refine Rh hN [I (rd x12 x14)] (.c2 c654 (atM I (0:Int) c654 c655)) ?_
 obtain ⟨t656,h657,H⟩:=bindS H
 obtain ⟨c658,H⟩:=ifS H
 exact Rh hN [.row (some 55) 5 (List.map (v55 1) t656),.row none 5 (List.map (v55 0) t656),.kb true,.row (some 33) 1 (List.map (vL55 0) (x3++[t656]))] (.c4 (tree_Sub.con h657).c (shrM (some 55) 5 (v55 1) (v55 0) t656 (v55.shr _)) (fitM (vL55 0) x3 [t656] (.refl _)) (limM1 (vL55 0) c658))<|Rg hN<|⟨k,by omega,x0,(x3++[t656]),x12,x13,wrap64 (x14+1),by omega,Wo [(0,0),(3,0),(12,0),(13,0),(14,0)],H⟩
def sec1_is.f (l0:List S55) (a1:Int) (a2:Int) (a3:Int):Option (Bool):=if (l0.length:Int) > 0 then (if 0 < (l0.length:Int) then (if ((rd_T55 l0 0).f0)=a1 then (if ((rd_T55 l0 0).f1)=a2 then (some ((((rd_T55 l0 0).f4).length:Int) == a3)) else (some false)) else (some false)) else (none)) else (some false)
theorem sec1_is.con {l0:List S55} {a1:Int} {a2:Int} {a3:Int} {r:(Bool)} (H:sec1_is.f l0 a1 a2 a3=some r):Con Tryz.prog 50 [.row none 5 (List.map (v55 0) l0),I a1,I a2,I a3] (B r):=by
 refine Cg Tryz.func50 rfl fun C hN hL=>?_
 unfold sec1_is.f at H
 refine Sw<|Rg hN<|Sw ?_
 rcases (ifC H).symm with ⟨c660,H⟩ | ⟨c660,H⟩
 ·refine Rh hN [I (l0.length:Int),B false,B false,B false] (.c4 (lenM (v55 0) l0) (df c660) (rfl:false=false) (rfl:false=false)) ?_
  cases H
  exact Rt dR
 obtain ⟨c661,H⟩:=ifS H
 rcases (ifC H).symm with ⟨c662,H⟩ | ⟨c662,H⟩
 ·refine Rh hN [I (l0.length:Int),B true,(v55 0) (rd_T55 l0 0),B false,B false] (.c6 (lenM (v55 0) l0) (dt c660) (show (0:Int)≤0 by decide) (atM (v55 0) z55 (show (0:Int)≤0 by decide) c661) (bn c662) (rfl:false=false)) ?_
  cases H
  exact Rt dR
 rcases ifC H with ⟨c663,H⟩ | ⟨c663,H⟩
 ·refine Rh hN [I (l0.length:Int),B true,(v55 0) (rd_T55 l0 0),B true,(v55 0) (rd_T55 l0 0),B true,(v55 0) (rd_T55 l0 0),I (((rd_T55 l0 0).f4).length:Int)] (.cons (lenM (v55 0) l0) (.cons (dt c660) (.cons (show (0:Int)≤0 by decide) (.c8 (atM (v55 0) z55 (show (0:Int)≤0 by decide) c661) (bq c662) (show (0:Int)≤0 by decide) (atM (v55 0) z55 (show (0:Int)≤0 by decide) c661) (bq c663) (show (0:Int)≤0 by decide) (atM (v55 0) z55 (show (0:Int)≤0 by decide) c661) (lenM I ((rd_T55 l0 0).f4)))))) ?_
  cases H
  exact Rt dR
 refine Rh hN [I (l0.length:Int),B true,(v55 0) (rd_T55 l0 0),B true,(v55 0) (rd_T55 l0 0),B false] (.c8 (lenM (v55 0) l0) (dt c660) (show (0:Int)≤0 by decide) (atM (v55 0) z55 (show (0:Int)≤0 by decide) c661) (bq c662) (show (0:Int)≤0 by decide) (atM (v55 0) z55 (show (0:Int)≤0 by decide) c661) (bn c663)) ?_
 cases H
 exact Rt dR
def whole_Decode.l0:Nat→ByteArray→Int→Int→Option (Int × Bool)
 | 0,_,_,_=>none
 | k+1,x0,x4,x5=>if x5 < (x0.size:Int) then (if 0≤x5 then (whole_Decode.l0 k x0 (Go.bits .or .i64 (wrap64 (x4*256)) (wrap64 (bt x0 x5))) (wrap64 (x5+1))) else (none)) else (some (x4,true))
def whole_Decode.j0:Nat→ByteArray→Bool→Option (Int × Bool)
 | 0,_,_=>none
 | k+1,x0,x13=>if x13=true then (some (0,false)) else (if 0 < (x0.size:Int) then (whole_Decode.l0 k x0 (wrap64 (IntKind.i8.wrap (bt x0 0))) 1) else (none))
def whole_Decode.f (k:Nat) (a0:ByteArray):Option (Int × Bool):=if (a0.size:Int) > 8 then (whole_Decode.j0 k a0 true) else ((whole_Right.f a0).bind fun t665=>(whole_Decode.j0 k a0 (!t665)))
theorem whole_Decode.con {k:Nat} {a0:ByteArray} {r:(Int × Bool)} (H:whole_Decode.f k a0=some r):Con Tryz.prog 51 [S a0] (.tup [I r.1,B r.2]):=by
 refine Cg Tryz.func51 rfl fun C hN hL=>?_
 unfold whole_Decode.f at H
 refine Sw<|Rg hN<|Sw<|Sw<|Good.cut (fun st=>∃ n':Nat,n'≤k∧∃ (x0:ByteArray) (x13:Bool),Wk C st ⟨[(0,.w (S x0)),(13,.w (B x13))],[]⟩∧whole_Decode.j0 n' x0 x13=some r) ?_ ?_
 ·rcases ifC H with ⟨c664,H⟩ | ⟨c664,H⟩
  ·exact Rh hN [B true] (.c1 (dt c664))<|⟨k,by omega,a0,true,Wo [(0,0),(13,0)],H⟩
  obtain ⟨t665,h666,H⟩:=bindS H
  exact Rh hN [B false,B t665] (.c2 (df c664) (whole_Right.con h666).c)<|⟨k,by omega,a0,!t665,Wo [(0,0),(13,0)],H⟩
 clear H
 rintro st ⟨n',hn',x0,x13,W,H⟩
 rcases n' with _ | k
 ·cases H
 refine W.good ?_
 rw [whole_Decode.j0] at H
 rcases ifC H with ⟨c667,H⟩ | ⟨c667,H⟩
 ·refine Ct c667<|Sw<|Rg hN ?_
  cases H
  exact Rt dR
 refine Cf (bf c667)<|Sk<|Sw ?_
 obtain ⟨c668,H⟩:=ifS H
 refine Rh hN [] (.c2 (show (0:Int)≤0 by decide) c668)<|Sw<|Sw<|Rg hN<|Bl<|Good.loopN (fun k' st=>∃ (x0:ByteArray) (x4:Int) (x5:Int),k'≤k∧Wk C st ⟨[(0,.w (S x0)),(4,.w (I x4)),(5,.w (I x5))],[]⟩∧whole_Decode.l0 k' x0 x4 x5=some r) k ⟨x0,wrap64 (IntKind.i8.wrap (bt x0 0)),1,Nat.le_refl _,Wo [(0,0),(4,0),(5,0)],H⟩ fun k=>⟨fun st h=>(by obtain ⟨_,_,_,_,_,H⟩:=h;cases H),?_⟩
 clear H
 rintro st ⟨x0,x4,x5,hk,W,H⟩
 refine W.good ?_
 rw [whole_Decode.l0] at H
 refine Sw<|Sw<|Rg hN ?_
 rcases (ifC H).symm with ⟨c669,H⟩ | ⟨c669,H⟩
 ·refine Cf (df c669)<|Ex<|Sw<|Rg hN ?_
  cases H
  exact Rt dR
 refine Ct (dt c669)<|Sk<|Sw<|Bl ?_
 obtain ⟨c670,H⟩:=ifS H
 exact Rh hN [] (.c3 (show (0:Int)≤8 by decide) c670 c669)<|Rg hN<|⟨k,by omega,x0,Go.bits .or .i64 (wrap64 (x4*256)) (wrap64 (bt x0 x5)),wrap64 (x5+1),by omega,Wo [(0,0),(4,0),(5,0)],H⟩
def sec1_taken.f (k:Nat) (l0:List S55):Option (List S55 × List S55 × List S55 × Bool):=(tree_Kids.f k l0).bind fun t671=>((sec1_is.f l0 0 16 3).bind fun t673=>(if t673=true then (if 0 < (t671.length:Int) then (if 1 < (t671.length:Int) then (if 2 < (t671.length:Int) then (if 0 < ((rd_L55 t671 0).length:Int) then ((whole_Decode.f k ((rd_T55 (rd_L55 t671 0) 0).f3)).bind fun t680=>((sec1_is.f (rd_L55 t671 0) 0 2 0).bind fun t682=>(if t682=true then (if t680.1=1 then ((sec1_is.f (rd_L55 t671 1) 0 4 0).bind fun t686=>(if t686=true then ((sec1_is.f (rd_L55 t671 2) 2 0 1).bind fun t689=>(if t689=true then (if 1≤((rd_L55 t671 2).length:Int) then ((sec1_is.f ((rd_L55 t671 2).drop 1) 0 6 0).bind fun t693=>(some (rd_L55 t671 0,rd_L55 t671 1,rd_L55 t671 2,t693))) else (none)) else (some (rd_L55 t671 0,rd_L55 t671 1,rd_L55 t671 2,false)))) else (some (rd_L55 t671 0,rd_L55 t671 1,rd_L55 t671 2,false)))) else (some (rd_L55 t671 0,rd_L55 t671 1,rd_L55 t671 2,false))) else (some (rd_L55 t671 0,rd_L55 t671 1,rd_L55 t671 2,false))))) else (none)) else (none)) else (none)) else (none)) else (some (([]:List S55),([]:List S55),([]:List S55),false))))
theorem sec1_taken.con {k:Nat} {l0:List S55} {r:(List S55 × List S55 × List S55 × Bool)} (H:sec1_taken.f k l0=some r):Con Tryz.prog 24 [.row none 5 (List.map (v55 0) l0)] (.tup [.agg [.row none 5 (List.map (v55 0) r.1),.row none 5 (List.map (v55 0) r.2.1),.row none 5 (List.map (v55 0) r.2.2.1)],B r.2.2.2]):=by
 refine Cg Tryz.func24 rfl fun C hN hL=>?_
 unfold sec1_taken.f at H
 refine Sw<|Rg hN<|Sw ?_
 obtain ⟨t671,h672,H⟩:=bindS H
 refine Rh hN [.row (some 33) 1 (List.map (vL55 0) t671)] (.c1 (tree_Kids.con h672).c)<|Sw<|Sw ?_
 obtain ⟨t673,h674,H⟩:=bindS H
 refine Rh hN [B t673] (.c1 (sec1_is.con h674).c) ?_
 rcases (ifC H).symm with ⟨c675,H⟩ | ⟨c675,H⟩
 ·refine Ct (notT (bf c675))<|Sw<|Rg hN ?_
  cases H
  exact Good.ret (fin_fit (u:=.tup [.agg [.nil 55 5,.nil 55 5,.nil 55 5],B false]) (.tup (.c2 (.agg (.c3 (.nilS 55 5 _) (.nilS 55 5 _) (.nilS 55 5 _))) (.refl _))) (by kernel_rfl))
 refine Cf (notF c675)<|Sk<|Sw ?_
 obtain ⟨c676,H⟩:=ifS H
 obtain ⟨c677,H⟩:=ifS H
 obtain ⟨c678,H⟩:=ifS H
 refine Rd hm hN (.q 0 [[]] (.q 1 [[]] (.q 2 [[]] (.q 3 [[]] (.q 4 [[]] (.q 5 [[]] (.q 6 [[]] (.q 7 [[]] (.q 8 [[]] (.q 9 [[]] (.e 10 (.e 11 .z)))))))))))) [(4,some (.row none 1 (List.map (vL55 0) t671)))] (.c1 (shrM (some 33) 1 (vL55 0) (vL55 0) t671 (vL55.shr _))) [(vL55 0) (rd_L55 t671 0),(vL55 0) (rd_L55 t671 1),(vL55 0) (rd_L55 t671 2)] [(vL55 0) (rd_L55 t671 0),(vL55 0) (rd_L55 t671 1),(vL55 0) (rd_L55 t671 2)] (.cons (show (0:Int)≤0 by decide) (.c8 (ltM (vL55 0) c676) (atM (vL55 0) ([]:List S55) (show (0:Int)≤0 by decide) c676) (show (0:Int)≤1 by decide) (ltM (vL55 0) c677) (atM (vL55 0) ([]:List S55) (show (0:Int)≤1 by decide) c677) (show (0:Int)≤2 by decide) (ltM (vL55 0) c678) (atM (vL55 0) ([]:List S55) (show (0:Int)≤2 by decide) c678))) (.c6 (show (0:Int)≤0 by decide) (atM (vL55 0) ([]:List S55) (show (0:Int)≤0 by decide) c676) (show (0:Int)≤1 by decide) (atM (vL55 0) ([]:List S55) (show (0:Int)≤1 by decide) c677) (show (0:Int)≤2 by decide) (atM (vL55 0) ([]:List S55) (show (0:Int)≤2 by decide) c678)) [] []<|Sw ?_
 obtain ⟨c679,H⟩:=ifS H
 obtain ⟨t680,h681,H⟩:=bindS H
 refine Rh hN [(v55 0) (rd_T55 (rd_L55 t671 0) 0),.tup [I t680.1,B t680.2]] (.c3 (show (0:Int)≤0 by decide) (atM (v55 0) z55 (show (0:Int)≤0 by decide) c679) (whole_Decode.con h681).c)<|Sw ?_
 obtain ⟨t682,h683,H⟩:=bindS H
 rcases (ifC H).symm with ⟨c684,H⟩ | ⟨c684,H⟩
 ·refine Rh hN [B t682,B false,B false,B false] (.c4 (sec1_is.con h683).c (bf c684) (rfl:false=false) (rfl:false=false))<|Sw<|Rd hm hN (.q 0 [[]] (.q 1 [[6,2]] (.q 2 [[6]] (.k 53 (.is 5 3 (.e 8 (.i 9 .z))))))) [(2,some (.pt [.nil 55 5,.nil 55 5,.nil 55 5])),(5,some (.pt [.row none 5 (List.map (v55 0) (rd_L55 t671 0)),.row none 5 (List.map (v55 0) (rd_L55 t671 1)),.row none 5 (List.map (v55 0) (rd_L55 t671 2))])),(8,none)] (.c2 (ptS (shrC (rfl:(V.shr (.nil 55 5))=.nil 55 5) (shrC (rfl:(V.shr (.nil 55 5))=.nil 55 5) (shrC (rfl:(V.shr (.nil 55 5))=.nil 55 5) (rfl:shrL []=[]))))) (ptS (shrC (shrM none 5 (v55 0) (v55 0) (rd_L55 t671 0) (v55.shr _)) (shrC (shrM none 5 (v55 0) (v55 0) (rd_L55 t671 1) (v55.shr _)) (shrC (shrM none 5 (v55 0) (v55 0) (rd_L55 t671 2) (v55.shr _)) (rfl:shrL []=[])))))) [B false] [] (.c1 (rfl:false=false)) (.c1 (rfl:false=false)) [] [] ?_
  cases H
  exact Rt dR
 rcases (ifC H).symm with ⟨c685,H⟩ | ⟨c685,H⟩
 ·refine Rh hN [B t682,B true,B false,B false] (.c4 (sec1_is.con h683).c c684 (bn c685) (rfl:false=false))<|Sw<|Rd hm hN (.q 0 [[]] (.q 1 [[6,2]] (.q 2 [[6]] (.k 53 (.is 5 3 (.e 8 (.i 9 .z))))))) [(2,some (.pt [.nil 55 5,.nil 55 5,.nil 55 5])),(5,some (.pt [.row none 5 (List.map (v55 0) (rd_L55 t671 0)),.row none 5 (List.map (v55 0) (rd_L55 t671 1)),.row none 5 (List.map (v55 0) (rd_L55 t671 2))])),(8,none)] (.c2 (ptS (shrC (rfl:(V.shr (.nil 55 5))=.nil 55 5) (shrC (rfl:(V.shr (.nil 55 5))=.nil 55 5) (shrC (rfl:(V.shr (.nil 55 5))=.nil 55 5) (rfl:shrL []=[]))))) (ptS (shrC (shrM none 5 (v55 0) (v55 0) (rd_L55 t671 0) (v55.shr _)) (shrC (shrM none 5 (v55 0) (v55 0) (rd_L55 t671 1) (v55.shr _)) (shrC (shrM none 5 (v55 0) (v55 0) (rd_L55 t671 2) (v55.shr _)) (rfl:shrL []=[])))))) [B false] [] (.c1 (rfl:false=false)) (.c1 (rfl:false=false)) [] [] ?_
  cases H
  exact Rt dR
 obtain ⟨t686,h687,H⟩:=bindS H
 rcases (ifC H).symm with ⟨c688,H⟩ | ⟨c688,H⟩
 ·refine Rh hN [B t682,B true,B true,B t686,B false] (.c5 (sec1_is.con h683).c c684 (bq c685) (sec1_is.con h687).c (bf c688))<|Sw<|Rd hm hN (.q 0 [[]] (.q 1 [[6,2]] (.q 2 [[6]] (.k 53 (.is 5 3 (.e 8 (.i 9 .z))))))) [(2,some (.pt [.nil 55 5,.nil 55 5,.nil 55 5])),(5,some (.pt [.row none 5 (List.map (v55 0) (rd_L55 t671 0)),.row none 5 (List.map (v55 0) (rd_L55 t671 1)),.row none 5 (List.map (v55 0) (rd_L55 t671 2))])),(8,none)] (.c2 (ptS (shrC (rfl:(V.shr (.nil 55 5))=.nil 55 5) (shrC (rfl:(V.shr (.nil 55 5))=.nil 55 5) (shrC (rfl:(V.shr (.nil 55 5))=.nil 55 5) (rfl:shrL []=[]))))) (ptS (shrC (shrM none 5 (v55 0) (v55 0) (rd_L55 t671 0) (v55.shr _)) (shrC (shrM none 5 (v55 0) (v55 0) (rd_L55 t671 1) (v55.shr _)) (shrC (shrM none 5 (v55 0) (v55 0) (rd_L55 t671 2) (v55.shr _)) (rfl:shrL []=[])))))) [B false] [] (.c1 (rfl:false=false)) (.c1 (rfl:false=false)) [] [] ?_
  cases H
  exact Rt dR
 obtain ⟨t689,h690,H⟩:=bindS H
 refine Rh hN [B t682,B true,B true,B t686,B true,B t689] (.c6 (sec1_is.con h683).c c684 (bq c685) (sec1_is.con h687).c c688 (sec1_is.con h690).c)<|Sw ?_
 rcases (ifC H).symm with ⟨c691,H⟩ | ⟨c691,H⟩
 ·refine Rd hm hN (.q 0 [[]] (.q 1 [[6,2]] (.q 2 [[6]] (.k 53 (.is 5 3 (.e 8 (.i 9 .z))))))) [(2,some (.pt [.nil 55 5,.nil 55 5,.nil 55 5])),(5,some (.pt [.row none 5 (List.map (v55 0) (rd_L55 t671 0)),.row none 5 (List.map (v55 0) (rd_L55 t671 1)),.row none 5 (List.map (v55 0) (rd_L55 t671 2))])),(8,none)] (.c2 (ptS (shrC (rfl:(V.shr (.nil 55 5))=.nil 55 5) (shrC (rfl:(V.shr (.nil 55 5))=.nil 55 5) (shrC (rfl:(V.shr (.nil 55 5))=.nil 55 5) (rfl:shrL []=[]))))) (ptS (shrC (shrM none 5 (v55 0) (v55 0) (rd_L55 t671 0) (v55.shr _)) (shrC (shrM none 5 (v55 0) (v55 0) (rd_L55 t671 1) (v55.shr _)) (shrC (shrM none 5 (v55 0) (v55 0) (rd_L55 t671 2) (v55.shr _)) (rfl:shrL []=[])))))) [B false] [] (.c1 (bf c691)) (.c1 (bf c691)) [] [] ?_
  cases H
  exact Rt dR
 obtain ⟨c692,H⟩:=ifS H
 obtain ⟨t693,h694,H⟩:=bindS H
 refine Rd hm hN (.q 0 [[]] (.q 1 [[6,2]] (.q 2 [[6]] (.k 53 (.q 3 [[6,5,4]] (.q 4 [[6,5]] (.e 5 (.e 6 (.i 7 (.e 8 (.i 9 .z))))))))))) [(2,some (.pt [.nil 55 5,.nil 55 5,.nil 55 5])),(5,some (.pt [.row none 5 (List.map (v55 0) (rd_L55 t671 0)),.row none 5 (List.map (v55 0) (rd_L55 t671 1)),.row none 5 (List.map (v55 0) (rd_L55 t671 2))])),(8,none)] (.c2 (ptS (shrC (rfl:(V.shr (.nil 55 5))=.nil 55 5) (shrC (rfl:(V.shr (.nil 55 5))=.nil 55 5) (shrC (rfl:(V.shr (.nil 55 5))=.nil 55 5) (rfl:shrL []=[]))))) (ptS (shrC (shrM none 5 (v55 0) (v55 0) (rd_L55 t671 0) (v55.shr _)) (shrC (shrM none 5 (v55 0) (v55 0) (rd_L55 t671 1) (v55.shr _)) (shrC (shrM none 5 (v55 0) (v55 0) (rd_L55 t671 2) (v55.shr _)) (rfl:shrL []=[])))))) [B true,.row none 5 (List.map (v55 0) ((rd_L55 t671 2).drop 1)),B t693] [] (.c5 c691 (show (0:Int)≤1 by decide) (leM (v55 0) c692) (cutMlo (v55 0) (l:=rd_L55 t671 2) (n:=1)) (sec1_is.con h694).c) (.c1 c691) [] [] ?_
 cases H
 exact Rt dR
def strings_Join.f (l0:List ByteArray) (a1:ByteArray):Option ByteArray:=if l0.length≤140737488355328 then (if (Lib.join (l0.map (·.data.toList)) a1.data.toList).length≤140737488355328 then some ⟨(Lib.join (l0.map (·.data.toList)) a1.data.toList).toArray⟩ else none) else none
theorem strings_Join.con {l0:List ByteArray} {a1 r:ByteArray} (H:strings_Join.f l0 a1=some r):Con Tryz.prog 91 [.row none 1 (List.map S l0),S a1] (S r):=by
 refine ⟨enter_of Tryz.func91 rfl (by kernel_rfl),fun p w vs hp ht hr=>?_⟩
 unfold strings_Join.f at H
 obtain ⟨h1,H⟩:=ifS H
 obtain ⟨h2,H⟩:=ifS H
 cases H
 obtain ⟨v,vs1,rfl,r1,hr⟩:=hr.cons_inv
 obtain ⟨v2,vs2,rfl,r2,hr⟩:=hr.cons_inv
 obtain rfl:=r2.lit_inv
 obtain rfl:vs2=[]:=List.eq_nil_of_length_eq_zero (by simpa using hr.length)
 obtain ⟨ao,cap,rfl,h0,hc⟩:=Rep.shared_lits (enc:=Value.string) r1
 have fin:Calls Tryz.prog 91 #[.slice ao l0.length cap,.string a1] w fun e w'=>e=.returned (.string ⟨(Lib.join (l0.map (·.data.toList)) a1.data.toList).toArray⟩)∧Below w.heap.size w w':=by
  cases l0 with
  | nil =>
   refine (Tryz.strings_Join_none ao cap a1 w).mono ?_
   rintro e w' ⟨rfl,rfl⟩
   exact ⟨by simp [Lib.join],Below.refl _ _⟩
  | cons x l0 =>
   obtain ⟨b,o,rfl,hb,_⟩:=hc 0 x rfl
   exact Tryz.strings_Join b o cap (x :: l0) a1 w (fun j y hj=>by obtain ⟨b',o',e',_,h⟩:=hc j y hj;cases e';exact h) (hp b hb) h1 h0 h2
 refine fin.mono ?_
 rintro e w' ⟨rfl,hb⟩
 exact ⟨_,[],fun _=>False,rfl,calm_of_below hb,fun _ h=>h.elim,List.nodup_nil,fun _ h=>(by cases h),.lit _⟩
def oid_Text.l0:Nat→List ByteArray→List Int→Int→Int→Option (ByteArray)
 | 0,_,_,_,_=>none
 | k+1,x3,x12,x13,x14=>if x14 < x13 then (if 0≤x14 then (if x14 < (x12.length:Int) then ((digits_Num.f (rd x12 x14)).bind fun t703=>(if x14 < (x3.length:Int) then (oid_Text.l0 k (x3.set (x14:Int).toNat t703) x12 x13 (wrap64 (x14+1))) else (none))) else (none)) else (none)) else ((strings_Join.f x3 (⟨#[46]⟩:ByteArray)).bind fun t707=>(some t707))
def oid_Text.f (k:Nat) (l0:List Int):Option (ByteArray):=(oid_Right.f k l0).bind fun t695=>(if t695=true then (if 0≤(l0.length:Int) then (if ((l0.length:Int):Int).toNat≤17592186044416 then (oid_Text.l0 k (List.replicate ((l0.length:Int):Int).toNat (⟨#[]⟩:ByteArray)) l0 (l0.length:Int) 0) else (none)) else (none)) else (some (⟨#[]⟩:ByteArray)))
theorem oid_Text.con {k:Nat} {l0:List Int} {r:(ByteArray)} (H:oid_Text.f k l0=some r):Con Tryz.prog 54 [.row none 1 (List.map I l0)] (S r):=by
 refine Cg Tryz.func54 rfl fun C hN hL=>?_
 unfold oid_Text.f at H
 refine Sw<|Rg hN<|Sw<|Sw ?_
 obtain ⟨t695,h696,H⟩:=bindS H
 refine Rh hN [B t695] (.c1 (oid_Right.con h696).c) ?_
 rcases (ifC H).symm with ⟨c697,H⟩ | ⟨c697,H⟩
 ·refine Ct (notT (bf c697))<|Sw<|Rg hN ?_
  cases H
  exact Rt dR
 refine Cf (notF c697)<|Sk<|Sw ?_
 obtain ⟨c698,H⟩:=ifS H
 obtain ⟨c699,H⟩:=ifS H
 refine Rh hN [I (l0.length:Int),.row (some 9) 1 (List.map S (List.replicate ((l0.length:Int):Int).toNat (⟨#[]⟩:ByteArray)))] (.c5 (lenM I l0) c698 (Int.le_refl (l0.length:Int)) (natLe c699) (repM0 S (((l0.length:Int):Int).toNat) (⟨#[]⟩:ByteArray)))<|Sw<|Sw<|Rh hN [I (l0.length:Int)] (.c1 (lenM I l0))<|Bl<|Good.loopN (fun k' st=>∃ (x3:List ByteArray) (x12:List Int) (x13:Int) (x14:Int),k'≤k∧Wk C st ⟨[(3,.w (.row (some 9) 1 (List.map S x3))),(12,.w (.row none 1 (List.map I x12))),(13,.w (I x13)),(14,.w (I x14))],[]⟩∧oid_Text.l0 k' x3 x12 x13 x14=some r) k ⟨List.replicate ((l0.length:Int):Int).toNat (⟨#[]⟩:ByteArray),l0,(l0.length:Int),0,Nat.le_refl _,Wo [(3,0),(12,0),(13,0),(14,0)],H⟩ fun k=>⟨fun st h=>(by obtain ⟨_,_,_,_,_,_,H⟩:=h;cases H),?_⟩
 clear H
 rintro st ⟨x3,x12,x13,x14,hk,W,H⟩
 refine W.good ?_
 rw [oid_Text.l0] at H
 refine Sw<|Rg hN<|Sw ?_
 rcases (ifC H).symm with ⟨c700,H⟩ | ⟨c700,H⟩
 ·refine Cf (df c700)<|Ex<|Sw ?_
  obtain ⟨t707,h708,H⟩:=bindS H
  refine Rh hN [.row none 1 (List.map S x3),S t707] (.c2 (shrM (some 9) 1 S S x3 (fun _=>rfl)) (strings_Join.con h708).c) ?_
  cases H
  exact Rt dR
 refine Ct (dt c700)<|Sk<|Sw<|Bl<|Sw ?_
 obtain ⟨c701,H⟩:=ifS H
 obtain ⟨c702,H⟩:=ifS H
 refine Rh hN [I (rd x12 x14)] (.c2 c701 (atM I (0:Int) c701 c702)) ?_
 obtain ⟨t703,h704,H⟩:=bindS H
 obtain ⟨c705,H⟩:=ifS H
 exact Rh hN [S t703,S (rdOf ByteArray.empty x3 x14),S t703,.row (some 9) 1 (List.map S (x3.set (x14:Int).toNat t703))] (.c6 (digits_Num.con h704).c c701 (ltM S c705) (atM S ByteArray.empty c701 c705) (Fit.refl (S t703)) (setM S (l:=x3) (n:=(x14:Int).toNat) (x:=t703)))<|Rg hN<|⟨k,by omega,(x3.set (x14:Int).toNat t703),x12,x13,wrap64 (x14+1),by omega,Wo [(3,0),(12,0),(13,0),(14,0)],H⟩
def curve_curve.l0:Nat→(ByteArray→ByteArray→ByteArray→Int→Option (Bool))→List S85→Int→Int→Option (Int)
 | 0,_,_,_,_=>none
 | k+1,g1,x0,x7,x8=>if x8 < x7 then (if 0≤x8 then (if x8 < (x0.length:Int) then ((g1 ((rd_T85 x0 x8).f0) ((rd_T85 x0 x8).f1) ((rd_T85 x0 x8).f2) ((rd_T85 x0 x8).f3)).bind fun t712=>(if t712=true then (some x8) else (curve_curve.l0 k g1 x0 x7 (wrap64 (x8+1))))) else (none)) else (none)) else (some (-1))
def curve_curve.f (k:Nat) (l0:List S85) (g1:ByteArray→ByteArray→ByteArray→Int→Option (Bool)):Option (Int):=curve_curve.l0 k g1 l0 (l0.length:Int) 0
theorem curve_curve.con {k:Nat} {l0:List S85} {g1:ByteArray→ByteArray→ByteArray→Int→Option (Bool)} {f1:FuncId} {c1:List V} (hg1:∀ (az0_0:ByteArray) (az0_1:ByteArray) (az0_2:ByteArray) (az0_3:Int) r,g1 az0_0 az0_1 az0_2 az0_3=some r→Con Tryz.prog f1 ([.agg [S az0_0,S az0_1,S az0_2,I az0_3]]++c1) (B r)) {r:(Int)} (H:curve_curve.f k l0 g1=some r):Con Tryz.prog 93 [.row none 4 (List.map v85 l0),.clo f1 c1] (I r):=by
 refine Cg Tryz.func93 rfl fun C hN hL=>?_
 unfold curve_curve.f at H
 refine Sw<|Rg hN<|Sw<|Sw<|Rh hN [I (l0.length:Int)] (.c1 (lenM v85 l0))<|Bl<|Good.loopN (fun k' st=>∃ (x0:List S85) (x7:Int) (x8:Int),k'≤k∧Wk C st ⟨[(0,.w (.row none 4 (List.map v85 x0))),(1,.w (.clo f1 c1)),(7,.w (I x7)),(8,.w (I x8))],[]⟩∧curve_curve.l0 k' g1 x0 x7 x8=some r) k ⟨l0,(l0.length:Int),0,Nat.le_refl _,Wo [(0,0),(1,0),(7,0),(8,0)],H⟩ fun k=>⟨fun st h=>(by obtain ⟨_,_,_,_,_,H⟩:=h;cases H),?_⟩
 clear H
 rintro st ⟨x0,x7,x8,hk,W,H⟩
 refine W.good ?_
 rw [curve_curve.l0] at H
 refine Sw<|Rg hN<|Sw ?_
 rcases (ifC H).symm with ⟨c709,H⟩ | ⟨c709,H⟩
 ·refine Cf (df c709)<|Ex<|Sw<|Rg hN ?_
  cases H
  exact Rt dR
 refine Ct (dt c709)<|Sk<|Sw<|Bl<|Sw<|Rg hN<|Sw ?_
 obtain ⟨c710,H⟩:=ifS H
 obtain ⟨c711,H⟩:=ifS H
 obtain ⟨t712,h713,H⟩:=bindS H
 refine Rh hN [v85 (rd_T85 x0 x8),B t712] (.c3 c710 (atM v85 z85 c710 c711) (hg1 _ _ _ _ _ h713).c) ?_
 rcases (ifC H).symm with ⟨c714,H⟩ | ⟨c714,H⟩
 ·exact Cf (bf c714)<|Sk<|Rg hN<|⟨k,by omega,x0,x7,wrap64 (x8+1),by omega,Wo [(0,0),(1,0),(7,0),(8,0)],H⟩
 refine Ct c714<|Sw<|Rg hN ?_
 cases H
 exact Rt dR
def curve_found.f (k:Nat) (g0:ByteArray→ByteArray→ByteArray→Int→Option (Bool)):Option (Int × Bool):=(curve_table.f).bind fun t715=>((curve_curve.f k ([(⟨t715.1,t715.2.1,t715.2.2.1,t715.2.2.2.1⟩:S85),(⟨t715.2.2.2.2.1,t715.2.2.2.2.2.1,t715.2.2.2.2.2.2.1,t715.2.2.2.2.2.2.2.1⟩:S85),(⟨t715.2.2.2.2.2.2.2.2.1,t715.2.2.2.2.2.2.2.2.2.1,t715.2.2.2.2.2.2.2.2.2.2.1,t715.2.2.2.2.2.2.2.2.2.2.2.1⟩:S85),(⟨t715.2.2.2.2.2.2.2.2.2.2.2.2.1,t715.2.2.2.2.2.2.2.2.2.2.2.2.2.1,t715.2.2.2.2.2.2.2.2.2.2.2.2.2.2.1,t715.2.2.2.2.2.2.2.2.2.2.2.2.2.2.2⟩:S85)]:List S85) g0).bind fun t717=>(some (wrap64 (t717+1),decide (t717≥0))))
theorem curve_found.con {k:Nat} {g0:ByteArray→ByteArray→ByteArray→Int→Option (Bool)} {f0:FuncId} {c0:List V} (hg0:∀ (az0_0:ByteArray) (az0_1:ByteArray) (az0_2:ByteArray) (az0_3:Int) r,g0 az0_0 az0_1 az0_2 az0_3=some r→Con Tryz.prog f0 ([.agg [S az0_0,S az0_1,S az0_2,I az0_3]]++c0) (B r)) {r:(Int × Bool)} (H:curve_found.f k g0=some r):Con Tryz.prog 55 [.clo f0 c0] (.tup [I r.1,B r.2]):=by
 refine Cg Tryz.func55 rfl fun C hN hL=>?_
 unfold curve_found.f at H
 refine Sw<|Rg hN<|Sw ?_
 obtain ⟨t715,h716,H⟩:=bindS H
 refine Rh hN [.agg [S t715.1,S t715.2.1,S t715.2.2.1,I t715.2.2.2.1,S t715.2.2.2.2.1,S t715.2.2.2.2.2.1,S t715.2.2.2.2.2.2.1,I t715.2.2.2.2.2.2.2.1,S t715.2.2.2.2.2.2.2.2.1,S t715.2.2.2.2.2.2.2.2.2.1,S t715.2.2.2.2.2.2.2.2.2.2.1,I t715.2.2.2.2.2.2.2.2.2.2.2.1,S t715.2.2.2.2.2.2.2.2.2.2.2.2.1,S t715.2.2.2.2.2.2.2.2.2.2.2.2.2.1,S t715.2.2.2.2.2.2.2.2.2.2.2.2.2.2.1,I t715.2.2.2.2.2.2.2.2.2.2.2.2.2.2.2]] (.c1 (curve_table.con h716).c)<|Sw<|Good.publish 4 0 0 (us:=[S t715.1,S t715.2.1,S t715.2.2.1,I t715.2.2.2.1,S t715.2.2.2.2.1,S t715.2.2.2.2.2.1,S t715.2.2.2.2.2.2.1,I t715.2.2.2.2.2.2.2.1,S t715.2.2.2.2.2.2.2.2.1,S t715.2.2.2.2.2.2.2.2.2.1,S t715.2.2.2.2.2.2.2.2.2.2.1,I t715.2.2.2.2.2.2.2.2.2.2.2.1,S t715.2.2.2.2.2.2.2.2.2.2.2.2.1,S t715.2.2.2.2.2.2.2.2.2.2.2.2.2.1,S t715.2.2.2.2.2.2.2.2.2.2.2.2.2.2.1,I t715.2.2.2.2.2.2.2.2.2.2.2.2.2.2.2]) (us':=[S t715.1,S t715.2.1,S t715.2.2.1,I t715.2.2.2.1,S t715.2.2.2.2.1,S t715.2.2.2.2.2.1,S t715.2.2.2.2.2.2.1,I t715.2.2.2.2.2.2.2.1,S t715.2.2.2.2.2.2.2.2.1,S t715.2.2.2.2.2.2.2.2.2.1,S t715.2.2.2.2.2.2.2.2.2.2.1,I t715.2.2.2.2.2.2.2.2.2.2.2.1,S t715.2.2.2.2.2.2.2.2.2.2.2.2.1,S t715.2.2.2.2.2.2.2.2.2.2.2.2.2.1,S t715.2.2.2.2.2.2.2.2.2.2.2.2.2.2.1,I t715.2.2.2.2.2.2.2.2.2.2.2.2.2.2.2]) (by kernel_rfl) (by kernel_rfl) (shrC (rfl:(V.shr (S t715.1))=S t715.1) (shrC (rfl:(V.shr (S t715.2.1))=S t715.2.1) (shrC (rfl:(V.shr (S t715.2.2.1))=S t715.2.2.1) (shrC (rfl:(V.shr (I t715.2.2.2.1))=I t715.2.2.2.1) (shrC (rfl:(V.shr (S t715.2.2.2.2.1))=S t715.2.2.2.2.1) (shrC (rfl:(V.shr (S t715.2.2.2.2.2.1))=S t715.2.2.2.2.2.1) (shrC (rfl:(V.shr (S t715.2.2.2.2.2.2.1))=S t715.2.2.2.2.2.2.1) (shrC (rfl:(V.shr (I t715.2.2.2.2.2.2.2.1))=I t715.2.2.2.2.2.2.2.1) (shrC (rfl:(V.shr (S t715.2.2.2.2.2.2.2.2.1))=S t715.2.2.2.2.2.2.2.2.1) (shrC (rfl:(V.shr (S t715.2.2.2.2.2.2.2.2.2.1))=S t715.2.2.2.2.2.2.2.2.2.1) (shrC (rfl:(V.shr (S t715.2.2.2.2.2.2.2.2.2.2.1))=S t715.2.2.2.2.2.2.2.2.2.2.1) (shrC (rfl:(V.shr (I t715.2.2.2.2.2.2.2.2.2.2.2.1))=I t715.2.2.2.2.2.2.2.2.2.2.2.1) (shrC (rfl:(V.shr (S t715.2.2.2.2.2.2.2.2.2.2.2.2.1))=S t715.2.2.2.2.2.2.2.2.2.2.2.2.1) (shrC (rfl:(V.shr (S t715.2.2.2.2.2.2.2.2.2.2.2.2.2.1))=S t715.2.2.2.2.2.2.2.2.2.2.2.2.2.1) (shrC (rfl:(V.shr (S t715.2.2.2.2.2.2.2.2.2.2.2.2.2.2.1))=S t715.2.2.2.2.2.2.2.2.2.2.2.2.2.2.1) (shrC (rfl:(V.shr (I t715.2.2.2.2.2.2.2.2.2.2.2.2.2.2.2))=I t715.2.2.2.2.2.2.2.2.2.2.2.2.2.2.2) (rfl:shrL []=[]))))))))))))))))) ?_
 obtain ⟨t717,h718,H⟩:=bindS H
 refine Rh hN [.row none 4 (List.map v85 ([(⟨t715.1,t715.2.1,t715.2.2.1,t715.2.2.2.1⟩:S85),(⟨t715.2.2.2.2.1,t715.2.2.2.2.2.1,t715.2.2.2.2.2.2.1,t715.2.2.2.2.2.2.2.1⟩:S85),(⟨t715.2.2.2.2.2.2.2.2.1,t715.2.2.2.2.2.2.2.2.2.1,t715.2.2.2.2.2.2.2.2.2.2.1,t715.2.2.2.2.2.2.2.2.2.2.2.1⟩:S85),(⟨t715.2.2.2.2.2.2.2.2.2.2.2.2.1,t715.2.2.2.2.2.2.2.2.2.2.2.2.2.1,t715.2.2.2.2.2.2.2.2.2.2.2.2.2.2.1,t715.2.2.2.2.2.2.2.2.2.2.2.2.2.2.2⟩:S85)]:List S85)),I t717] (.c3 (rfl:List.flatMap V.cells (List.map v85 ([(⟨t715.1,t715.2.1,t715.2.2.1,t715.2.2.2.1⟩:S85),(⟨t715.2.2.2.2.1,t715.2.2.2.2.2.1,t715.2.2.2.2.2.2.1,t715.2.2.2.2.2.2.2.1⟩:S85),(⟨t715.2.2.2.2.2.2.2.2.1,t715.2.2.2.2.2.2.2.2.2.1,t715.2.2.2.2.2.2.2.2.2.2.1,t715.2.2.2.2.2.2.2.2.2.2.2.1⟩:S85),(⟨t715.2.2.2.2.2.2.2.2.2.2.2.2.1,t715.2.2.2.2.2.2.2.2.2.2.2.2.2.1,t715.2.2.2.2.2.2.2.2.2.2.2.2.2.2.1,t715.2.2.2.2.2.2.2.2.2.2.2.2.2.2.2⟩:S85)]:List S85))=[S t715.1,S t715.2.1,S t715.2.2.1,I t715.2.2.2.1,S t715.2.2.2.2.1,S t715.2.2.2.2.2.1,S t715.2.2.2.2.2.2.1,I t715.2.2.2.2.2.2.2.1,S t715.2.2.2.2.2.2.2.2.1,S t715.2.2.2.2.2.2.2.2.2.1,S t715.2.2.2.2.2.2.2.2.2.2.1,I t715.2.2.2.2.2.2.2.2.2.2.2.1,S t715.2.2.2.2.2.2.2.2.2.2.2.2.1,S t715.2.2.2.2.2.2.2.2.2.2.2.2.2.1,S t715.2.2.2.2.2.2.2.2.2.2.2.2.2.2.1,I t715.2.2.2.2.2.2.2.2.2.2.2.2.2.2.2]) (rfl:List.all (List.map v85 ([(⟨t715.1,t715.2.1,t715.2.2.1,t715.2.2.2.1⟩:S85),(⟨t715.2.2.2.2.1,t715.2.2.2.2.2.1,t715.2.2.2.2.2.2.1,t715.2.2.2.2.2.2.2.1⟩:S85),(⟨t715.2.2.2.2.2.2.2.2.1,t715.2.2.2.2.2.2.2.2.2.1,t715.2.2.2.2.2.2.2.2.2.2.1,t715.2.2.2.2.2.2.2.2.2.2.2.1⟩:S85),(⟨t715.2.2.2.2.2.2.2.2.2.2.2.2.1,t715.2.2.2.2.2.2.2.2.2.2.2.2.2.1,t715.2.2.2.2.2.2.2.2.2.2.2.2.2.2.1,t715.2.2.2.2.2.2.2.2.2.2.2.2.2.2.2⟩:S85)]:List S85)) (fun y=>Nat.beq y.cells.length 4)=true) (curve_curve.con (f1:=f0) (c1:=c0) hg0 h718).c)<|Sw<|Rg hN ?_
 cases H
 exact Rt dR
def curve_By_1.f (a0_0:ByteArray) (a0_1:ByteArray) (a0_2:ByteArray) (a0_3:Int) (a1:ByteArray):Option (Bool):=some (a0_1.toList == a1.toList)
theorem curve_By_1.con {a0_0:ByteArray} {a0_1:ByteArray} {a0_2:ByteArray} {a0_3:Int} {a1:ByteArray} {r:(Bool)} (H:curve_By_1.f a0_0 a0_1 a0_2 a0_3 a1=some r):Con Tryz.prog 56 [.agg [S a0_0,S a0_1,S a0_2,I a0_3],.pt [S a1]] (B r):=by
 refine Cg Tryz.func56 rfl fun C hN hL=>?_
 unfold curve_By_1.f at H
 refine Sw<|Rg hN<|Sw<|Rg hN ?_
 cases H
 exact Rt dR
def curve_By.f (k:Nat) (l0:List Int):Option (Int × Bool):=(oid_Text.f k l0).bind fun t719=>((curve_found.f k (fun z0 z1 z2 z3=>curve_By_1.f z0 z1 z2 z3 t719)).bind fun t721=>(some (t721.1,t721.2)))
theorem curve_By.con {k:Nat} {l0:List Int} {r:(Int × Bool)} (H:curve_By.f k l0=some r):Con Tryz.prog 26 [.row none 1 (List.map I l0)] (.tup [I r.1,B r.2]):=by
 refine Cg Tryz.func26 rfl fun C hN hL=>?_
 unfold curve_By.f at H
 refine Sw<|Rg hN<|Sw ?_
 obtain ⟨t719,h720,H⟩:=bindS H
 refine Rh hN [S t719] (.c1 (oid_Text.con h720).c)<|Sw<|Good.publish 4 0 0 (us:=[S t719]) (us':=[S t719]) (by kernel_rfl) (by kernel_rfl) (shrC (rfl:(V.shr (S t719))=S t719) (rfl:shrL []=[])) ?_
 obtain ⟨t721,h722,H⟩:=bindS H
 refine Rh hN [.tup [I t721.1,B t721.2]] (.c1 (curve_found.con (f0:=56) (c0:=[.pt [S t719]]) (fun _ _ _ _ _ h=>curve_By_1.con h) h722).c) ?_
 cases H
 exact Rt dR
def sec1_Decode.f (k:Nat) (a0:ByteArray):Option (Int × ByteArray × Int):=(tlv_Decode.f k a0).bind fun t723=>(if t723.2.1=0 then ((sec1_taken.f k t723.1).bind fun t726=>(if t726.2.2.2=true then (if 1 < (t726.2.2.1.length:Int) then ((oid_Decode.f k ((rd_T55 t726.2.2.1 1).f3)).bind fun t730=>((curve_By.f k t730.1).bind fun t732=>(if 0 < (t726.2.1.length:Int) then ((sec1_may.f k t732.1 ((rd_T55 t726.2.1 0).f3)).bind fun t735=>(if t735=0 then (some (t732.1,(rd_T55 t726.2.1 0).f3,0)) else (some (0,(⟨#[]⟩:ByteArray),t735)))) else (none)))) else (none)) else (some (0,(⟨#[]⟩:ByteArray),5)))) else (some (0,(⟨#[]⟩:ByteArray),t723.2.1)))
theorem sec1_Decode.con {k:Nat} {a0:ByteArray} {r:(Int × ByteArray × Int)} (H:sec1_Decode.f k a0=some r):Con Tryz.prog 8 [S a0] (.tup [I r.1,S r.2.1,I r.2.2]):=by
 refine Cg Tryz.func8 rfl fun C hN hL=>?_
 unfold sec1_Decode.f at H
 refine Sw<|Rg hN<|Sw ?_
 obtain ⟨t723,h724,H⟩:=bindS H
 refine Rh hN [.tup [.row (some 55) 5 (List.map (v55 1) t723.1),.agg [I t723.2.1,I t723.2.2]]] (.c1 (tlv_Decode.con h724).c)<|Sw<|Sw<|Rg hN ?_
 rcases (ifC H).symm with ⟨c725,H⟩ | ⟨c725,H⟩
 ·refine Ct (nq c725)<|Sw<|Rd hm hN (.qs 4 0 (.q 4 [] .z)) [(6,some (.pt [I t723.2.1,I t723.2.2]))] (.c1 (ptS (shrC (rfl:(V.shr (I t723.2.1))=I t723.2.1) (shrC (rfl:(V.shr (I t723.2.2))=I t723.2.2) (rfl:shrL []=[]))))) [] [] .nil .nil [] [] ?_
  cases H
  exact Rt dR
 refine Cf (bneF c725)<|Sk<|Sw ?_
 obtain ⟨t726,h727,H⟩:=bindS H
 refine Rh hN [.row none 5 (List.map (v55 0) t723.1),.tup [.agg [.row none 5 (List.map (v55 0) t726.1),.row none 5 (List.map (v55 0) t726.2.1),.row none 5 (List.map (v55 0) t726.2.2.1)],B t726.2.2.2]] (.c2 (shrM (some 55) 5 (v55 1) (v55 0) t723.1 (v55.shr _)) (sec1_taken.con h727).c)<|Sw<|Sw<|Rg hN ?_
 rcases (ifC H).symm with ⟨c728,H⟩ | ⟨c728,H⟩
 ·refine Ct (notT (bf c728))<|Sw<|Rg hN ?_
  cases H
  exact Rt dR
 refine Cf (notF c728)<|Sk<|Sw ?_
 obtain ⟨c729,H⟩:=ifS H
 obtain ⟨t730,h731,H⟩:=bindS H
 refine Rh hN [(v55 0) (rd_T55 t726.2.2.1 1),.tup [.row none 1 (List.map I t730.1),B t730.2]] (.c3 (show (0:Int)≤1 by decide) (atM (v55 0) z55 (show (0:Int)≤1 by decide) c729) (oid_Decode.con h731).c)<|Sw ?_
 obtain ⟨t732,h733,H⟩:=bindS H
 refine Rh hN [.tup [I t732.1,B t732.2]] (.c1 (curve_By.con h733).c)<|Sw ?_
 obtain ⟨c734,H⟩:=ifS H
 refine Rh hN [(v55 0) (rd_T55 t726.2.1 0)] (.c2 (show (0:Int)≤0 by decide) (atM (v55 0) z55 (show (0:Int)≤0 by decide) c734))<|Sw<|Sw ?_
 obtain ⟨t735,h736,H⟩:=bindS H
 refine Rh hN [I t735] (.c1 (sec1_may.con h736).c)<|Sw<|Rg hN ?_
 rcases (ifC H).symm with ⟨c737,H⟩ | ⟨c737,H⟩
 ·refine Ct (nq c737)<|Sw<|Rg hN ?_
  cases H
  exact Rt dR
 refine Cf (bneF c737)<|Sk<|Sw<|Rg hN ?_
 cases H
 exact Rt dR
def tree_Size.f (k:Nat) (l0:List S55):Option (Int):=(tree_Encode.f k l0).bind fun t738=>(some (t738.1.size:Int))
theorem tree_Size.con {k:Nat} {l0:List S55} {r:(Int)} (H:tree_Size.f k l0=some r):Con Tryz.prog 31 [.row none 5 (List.map (v55 0) l0)] (I r):=by
 refine Cg Tryz.func31 rfl fun C hN hL=>?_
 unfold tree_Size.f at H
 refine Sw<|Rg hN<|Sw ?_
 obtain ⟨t738,h739,H⟩:=bindS H
 refine Rh hN [.tup [S t738.1,I t738.2]] (.c1 (tree_Encode.con h739).c)<|Sw<|Rg hN ?_
 cases H
 exact Rt dR
def strings_Repeat.f (a0:ByteArray) (a1:Int):Option ByteArray:=if 0≤a1∧a1≤9223372036854775807∧a0.size*a1.toNat≤140737488355328 then some ⟨(Lib.repeatL a0.data.toList a1.toNat).toArray⟩ else none
theorem strings_Repeat.con {a0:ByteArray} {a1:Int} {r:ByteArray} (H:strings_Repeat.f a0 a1=some r):Con Tryz.prog 32 [S a0,I a1] (S r):=by
 unfold strings_Repeat.f at H
 obtain ⟨⟨h1,h2,h3⟩,H⟩:=ifS H
 cases H
 obtain ⟨c,rfl⟩:∃ c:Nat,a1=c:=⟨a1.toNat,by omega⟩
 exact con_lits Tryz.func32 rfl (by kernel_rfl) rfl fun p w ht=>Tryz.strings_Repeat a0 c w (by omega) h3
def sec1_Size.f (k:Nat) (a0:Int):Option (Int):=(curve_Width.f a0).bind fun t740=>(if t740=0 then (some 0) else ((strings_Repeat.f (⟨#[1]⟩:ByteArray) t740).bind fun t743=>((sec1_made.f k a0 t743).bind fun t745=>((sec1_parts_tree.f k t745.1 t745.2.1 t745.2.2).bind fun t747=>((tree_Size.f k t747).bind fun t749=>(some t749))))))
theorem sec1_Size.con {k:Nat} {a0:Int} {r:(Int)} (H:sec1_Size.f k a0=some r):Con Tryz.prog 10 [I a0] (I r):=by
 refine Cg Tryz.func10 rfl fun C hN hL=>?_
 unfold sec1_Size.f at H
 refine Sw<|Rg hN<|Sw ?_
 obtain ⟨t740,h741,H⟩:=bindS H
 refine Rh hN [I t740] (.c1 (curve_Width.con h741).c)<|Sw<|Sw<|Rg hN ?_
 rcases ifC H with ⟨c742,H⟩ | ⟨c742,H⟩
 ·refine Ct (bq c742)<|Sw<|Rg hN ?_
  cases H
  exact Rt dR
 refine Cf (bn c742)<|Sk<|Sw ?_
 obtain ⟨t743,h744,H⟩:=bindS H
 obtain ⟨t745,h746,H⟩:=bindS H
 obtain ⟨t747,h748,H⟩:=bindS H
 obtain ⟨t749,h750,H⟩:=bindS H
 refine Rh hN [S t743,.agg [.row none 5 (List.map (v55 0) t745.1),.row none 5 (List.map (v55 0) t745.2.1),.row none 5 (List.map (v55 0) t745.2.2)],.row (some 55) 5 (List.map (v55 1) t747),.row none 5 (List.map (v55 0) t747),I t749] (.c5 (strings_Repeat.con h744).c (sec1_made.con h746).c (sec1_parts_tree.con h748).c (shrM (some 55) 5 (v55 1) (v55 0) t747 (v55.shr _)) (tree_Size.con h750).c) ?_
 cases H
 exact Rt dR
def clavigerlaw25_awake.f (k:Nat)  : Option (Bool):=(sec1_Encode.f k 2 (⟨#[0,0,0,0,0,0,0,0,0,0,0,0,0,0,0,0,0,0,0,0,0,0,0,0,0,0,0,0,0,0,0,5]⟩:ByteArray)).bind fun t751=>((sec1_Decode.f k t751.1).bind fun t753=>(if (t751.1.size:Int)=51 then (if 7≤(t751.1.size:Int) then (if (t751.1.extract 0 7).toList=([48,49,2,1,1,4,32]:List UInt8) then (if t751.2=0 then (if t753.1=2 then (if t753.2.1.toList=([0,0,0,0,0,0,0,0,0,0,0,0,0,0,0,0,0,0,0,0,0,0,0,0,0,0,0,0,0,0,0,5]:List UInt8) then (if t753.2.2=0 then ((sec1_Size.f k 2).bind fun t762=>(some (t762 == 51))) else (some false)) else (some false)) else (some false)) else (some false)) else (some false)) else (none)) else (some false)))
theorem clavigerlaw25_awake.con {k:Nat} {r:(Bool)} (H:clavigerlaw25_awake.f k  = some r):Con Tryz.prog 5 [] (B r):=by
 refine Cg Tryz.func5 rfl fun C hN hL=>?_
 unfold clavigerlaw25_awake.f at H
 refine Sw<|Rg hN<|Sw ?_
 obtain ⟨t751,h752,H⟩:=bindS H
 refine Rh hN [.tup [S t751.1,I t751.2]] (.c1 (sec1_Encode.con h752).c)<|Sw ?_
 obtain ⟨t753,h754,H⟩:=bindS H
 refine Rh hN [.tup [I t753.1,S t753.2.1,I t753.2.2]] (.c1 (sec1_Decode.con h754).c)<|Sw ?_
 rcases (ifC H).symm with ⟨c755,H⟩ | ⟨c755,H⟩
 ·refine Rh hN [B false,B false,B false,B false,B false,B false] (.c6 (bn c755) (rfl:false=false) (rfl:false=false) (rfl:false=false) (rfl:false=false) (rfl:false=false)) ?_
  cases H
  exact Rt dR
 obtain ⟨c756,H⟩:=ifS H
 rcases (ifC H).symm with ⟨c757,H⟩ | ⟨c757,H⟩
 ·refine Ri hN [B true,B false,B false,B false,B false,B false] (.cons (bq c755) (.c8 (show (0:Int)≤7 by decide) c756 (strV (rfl:(t751.1.extract 0 7).toList=(t751.1.extract 0 7).toList) (litL ([48,49,2,1,1,4,32]:List UInt8))) (bn c757) (rfl:false=false) (rfl:false=false) (rfl:false=false) (rfl:false=false))) [(22,.bool ((t751.1.extract 0 7).toList == ([48,49,2,1,1,4,32]:List UInt8)))] ?_
  cases H
  exact Rt dR
 rcases (ifC H).symm with ⟨c758,H⟩ | ⟨c758,H⟩
 ·refine Ri hN [B true,B true,B false,B false,B false,B false] (.cons (bq c755) (.c8 (show (0:Int)≤7 by decide) c756 (strV (rfl:(t751.1.extract 0 7).toList=(t751.1.extract 0 7).toList) (litL ([48,49,2,1,1,4,32]:List UInt8))) (bq c757) (bn c758) (rfl:false=false) (rfl:false=false) (rfl:false=false))) [(22,.bool ((t751.1.extract 0 7).toList == ([48,49,2,1,1,4,32]:List UInt8)))] ?_
  cases H
  exact Rt dR
 rcases (ifC H).symm with ⟨c759,H⟩ | ⟨c759,H⟩
 ·refine Ri hN [B true,B true,B true,B false,B false,B false] (.cons (bq c755) (.c8 (show (0:Int)≤7 by decide) c756 (strV (rfl:(t751.1.extract 0 7).toList=(t751.1.extract 0 7).toList) (litL ([48,49,2,1,1,4,32]:List UInt8))) (bq c757) (bq c758) (bn c759) (rfl:false=false) (rfl:false=false))) [(22,.bool ((t751.1.extract 0 7).toList == ([48,49,2,1,1,4,32]:List UInt8)))] ?_
  cases H
  exact Rt dR
 rcases (ifC H).symm with ⟨c760,H⟩ | ⟨c760,H⟩
 ·refine Ri hN [B true,B true,B true,B true,B false,B false] (.cons (bq c755) (.cons (show (0:Int)≤7 by decide) (.c8 c756 (strV (rfl:(t751.1.extract 0 7).toList=(t751.1.extract 0 7).toList) (litL ([48,49,2,1,1,4,32]:List UInt8))) (bq c757) (bq c758) (bq c759) (strV (rfl:t753.2.1.toList=t753.2.1.toList) (litL ([0,0,0,0,0,0,0,0,0,0,0,0,0,0,0,0,0,0,0,0,0,0,0,0,0,0,0,0,0,0,0,5]:List UInt8))) (bn c760) (rfl:false=false)))) [(22,.bool ((t751.1.extract 0 7).toList == ([48,49,2,1,1,4,32]:List UInt8))),(34,.bool (t753.2.1.toList == ([0,0,0,0,0,0,0,0,0,0,0,0,0,0,0,0,0,0,0,0,0,0,0,0,0,0,0,0,0,0,0,5]:List UInt8)))] ?_
  cases H
  exact Rt dR
 rcases (ifC H).symm with ⟨c761,H⟩ | ⟨c761,H⟩
 ·refine Ri hN [B true,B true,B true,B true,B true,B false] (.cons (bq c755) (.cons (show (0:Int)≤7 by decide) (.c8 c756 (strV (rfl:(t751.1.extract 0 7).toList=(t751.1.extract 0 7).toList) (litL ([48,49,2,1,1,4,32]:List UInt8))) (bq c757) (bq c758) (bq c759) (strV (rfl:t753.2.1.toList=t753.2.1.toList) (litL ([0,0,0,0,0,0,0,0,0,0,0,0,0,0,0,0,0,0,0,0,0,0,0,0,0,0,0,0,0,0,0,5]:List UInt8))) (bq c760) (bn c761)))) [(22,.bool ((t751.1.extract 0 7).toList == ([48,49,2,1,1,4,32]:List UInt8))),(34,.bool (t753.2.1.toList == ([0,0,0,0,0,0,0,0,0,0,0,0,0,0,0,0,0,0,0,0,0,0,0,0,0,0,0,0,0,0,0,5]:List UInt8)))] ?_
  cases H
  exact Rt dR
 obtain ⟨t762,h763,H⟩:=bindS H
 refine Ri hN [B true,B true,B true,B true,B true,B true,I t762] (.cons (bq c755) (.cons (show (0:Int)≤7 by decide) (.cons c756 (.c8 (strV (rfl:(t751.1.extract 0 7).toList=(t751.1.extract 0 7).toList) (litL ([48,49,2,1,1,4,32]:List UInt8))) (bq c757) (bq c758) (bq c759) (strV (rfl:t753.2.1.toList=t753.2.1.toList) (litL ([0,0,0,0,0,0,0,0,0,0,0,0,0,0,0,0,0,0,0,0,0,0,0,0,0,0,0,0,0,0,0,5]:List UInt8))) (bq c760) (bq c761) (sec1_Size.con h763).c)))) [(22,.bool ((t751.1.extract 0 7).toList == ([48,49,2,1,1,4,32]:List UInt8))),(34,.bool (t753.2.1.toList == ([0,0,0,0,0,0,0,0,0,0,0,0,0,0,0,0,0,0,0,0,0,0,0,0,0,0,0,0,0,0,0,5]:List UInt8)))] ?_
 cases H
 exact Rt dR
def clavigerlaw25_Sec1Back.j1:Nat→ByteArray→Option (Bool)
 | 0,_=>none
 | k+1,x2=>(sec1_Decode.f k x2).bind fun t779=>(if t779.2.2=0 then ((sec1_Encode.f k t779.1 t779.2.1).bind fun t782=>(if t782.1.toList=x2.toList then (if t782.2=0 then ((clavigerlaw25_awake.f k).bind fun t786=>(some t786)) else (some false)) else (some false))) else (if t779.1=0 then (if t779.2.1.toList=([]:List UInt8) then ((clavigerlaw25_awake.f k).bind fun t790=>(some t790)) else (some false)) else (some false)))
def clavigerlaw25_Sec1Back.j0:Nat→Int→ByteArray→ByteArray→Bool→Option (Bool)
 | 0,_,_,_,_=>none
 | k+1,x0,x1,x2,x24=>if x24=true then ((clavigerlaw25_awake.f k).bind fun t766=>(some t766)) else ((sec1_Encode.f k x0 x1).bind fun t768=>(if t768.2=0 then ((sec1_Decode.f k t768.1).bind fun t771=>(if t771.1=x0 then (if t771.2.1.toList=x1.toList then (if t771.2.2=0 then ((sec1_Size.f k x0).bind fun t776=>(if (t768.1.size:Int)=t776 then (clavigerlaw25_Sec1Back.j1 k x2) else (some false))) else (some false)) else (some false)) else (some false))) else (clavigerlaw25_Sec1Back.j1 k x2)))
def clavigerlaw25_Sec1Back.f (k:Nat) (a0:Int) (a1:ByteArray) (a2:ByteArray):Option (Bool):=if (a1.size:Int) > 200 then (clavigerlaw25_Sec1Back.j0 k a0 a1 a2 true) else (clavigerlaw25_Sec1Back.j0 k a0 a1 a2 (decide ((a2.size:Int) > 500)))
theorem clavigerlaw25_Sec1Back.con {k:Nat} {a0:Int} {a1:ByteArray} {a2:ByteArray} {r:(Bool)} (H:clavigerlaw25_Sec1Back.f k a0 a1 a2=some r):Con Tryz.prog 4 [I a0,S a1,S a2] (B r):=by
 refine Cg Tryz.func4 rfl fun C hN hL=>?_
 unfold clavigerlaw25_Sec1Back.f at H
 refine Sw<|Rg hN<|Sw<|Sw<|Good.cut (fun st=>∃ n':Nat,n'≤k∧∃ (x0:Int) (x1:ByteArray) (x2:ByteArray) (x24:Bool),Wk C st ⟨[(0,.w (I x0)),(1,.w (S x1)),(2,.w (S x2)),(24,.w (B x24))],[]⟩∧clavigerlaw25_Sec1Back.j0 n' x0 x1 x2 x24=some r) ?_ ?_
 ·rcases ifC H with ⟨c764,H⟩ | ⟨c764,H⟩
  ·exact Rh hN [B true] (.c1 (dt c764))<|⟨k,by omega,a0,a1,a2,true,Wo [(0,0),(1,0),(2,0),(24,0)],H⟩
  exact Rh hN [B false] (.c1 (df c764))<|⟨k,by omega,a0,a1,a2,decide ((a2.size:Int) > 500),Wo [(0,0),(1,0),(2,0),(24,0)],H⟩
 clear H
 rintro st ⟨n',hn',x0,x1,x2,x24,W,H⟩
 rcases n' with _ | k
 ·cases H
 refine W.good ?_
 rw [clavigerlaw25_Sec1Back.j0] at H
 rcases ifC H with ⟨c765,H⟩ | ⟨c765,H⟩
 ·refine Ct c765<|Sw ?_
  obtain ⟨t766,h767,H⟩:=bindS H
  refine Rh hN [B t766] (.c1 (clavigerlaw25_awake.con h767).c) ?_
  cases H
  exact Rt dR
 refine Cf (bf c765)<|Sk<|Sw<|Sw ?_
 obtain ⟨t768,h769,H⟩:=bindS H
 refine Rh hN [.tup [S t768.1,I t768.2]] (.c1 (sec1_Encode.con h769).c)<|Sw<|Rg hN<|Good.cut (fun st=>∃ n':Nat,n'≤k∧∃ (x2:ByteArray),Wk C st ⟨[(2,.w (S x2))],[]⟩∧clavigerlaw25_Sec1Back.j1 n' x2=some r) ?_ ?_
 ·rcases (ifC H).symm with ⟨c770,H⟩ | ⟨c770,H⟩
  ·exact Cf (bn c770)<|Sk<|⟨k,by omega,x2,Wo [(2,0)],H⟩
  refine Ct (bq c770)<|Sw ?_
  obtain ⟨t771,h772,H⟩:=bindS H
  refine Rh hN [.tup [I t771.1,S t771.2.1,I t771.2.2]] (.c1 (sec1_Decode.con h772).c)<|Sw ?_
  rcases (ifC H).symm with ⟨c773,H⟩ | ⟨c773,H⟩
  ·refine Rh hN [B true,B true,B true] (.c3 (nq c773) (rfl:true=true) (rfl:true=true))<|Good.cond true (by kernel_rfl)<|Sw<|Rg hN ?_
   cases H
   exact Rt dR
  rcases (ifC H).symm with ⟨c774,H⟩ | ⟨c774,H⟩
  ·refine Rh hN [B false,B true,B true] (.c3 (bneF c773) (nq c774) (rfl:true=true))<|Good.cond true (by kernel_rfl)<|Sw<|Rg hN ?_
   cases H
   exact Rt dR
  rcases (ifC H).symm with ⟨c775,H⟩ | ⟨c775,H⟩
  ·refine Rh hN [B false,B false,B true] (.c3 (bneF c773) (bneF c774) (nq c775))<|Good.cond true (by kernel_rfl)<|Sw<|Rg hN ?_
   cases H
   exact Rt dR
  obtain ⟨t776,h777,H⟩:=bindS H
  refine Rh hN [B false,B false,B false,I t776] (.c4 (bneF c773) (bneF c774) (bneF c775) (sec1_Size.con h777).c) ?_
  rcases ifC H with ⟨c778,H⟩ | ⟨c778,H⟩
  ·exact Cf (bneF c778)<|Sk<|⟨k,by omega,x2,Wo [(2,0)],H⟩
  refine Ct (nq c778)<|Sw<|Rg hN ?_
  cases H
  exact Rt dR
 clear H
 rintro st ⟨n',hn',x2,W,H⟩
 rcases n' with _ | k
 ·cases H
 refine W.good ?_
 rw [clavigerlaw25_Sec1Back.j1] at H
 refine Sw ?_
 obtain ⟨t779,h780,H⟩:=bindS H
 refine Rh hN [.tup [I t779.1,S t779.2.1,I t779.2.2]] (.c1 (sec1_Decode.con h780).c)<|Sw<|Sw<|Rg hN ?_
 rcases (ifC H).symm with ⟨c781,H⟩ | ⟨c781,H⟩
 ·refine Ct (nq c781)<|Sw ?_
  rcases (ifC H).symm with ⟨c788,H⟩ | ⟨c788,H⟩
  ·refine Rh hN [B false,B false] (.c2 (bn c788) (rfl:false=false)) ?_
   cases H
   exact Rt dR
  rcases (ifC H).symm with ⟨c789,H⟩ | ⟨c789,H⟩
  ·refine Ri hN [B true,B false] (.c3 (bq c788) (strV (rfl:t779.2.1.toList=t779.2.1.toList) (litL ([]:List UInt8))) (bn c789)) [(71,.bool (t779.2.1.toList == ([]:List UInt8)))] ?_
   cases H
   exact Rt dR
  obtain ⟨t790,h791,H⟩:=bindS H
  refine Ri hN [B true,B true,B t790] (.c4 (bq c788) (strV (rfl:t779.2.1.toList=t779.2.1.toList) (litL ([]:List UInt8))) (bq c789) (clavigerlaw25_awake.con h791).c) [(71,.bool (t779.2.1.toList == ([]:List UInt8)))] ?_
  cases H
  exact Rt dR
 refine Cf (bneF c781)<|Sk<|Sw ?_
 obtain ⟨t782,h783,H⟩:=bindS H
 refine Rh hN [.tup [S t782.1,I t782.2]] (.c1 (sec1_Encode.con h783).c)<|Sw ?_
 rcases (ifC H).symm with ⟨c784,H⟩ | ⟨c784,H⟩
 ·refine Rh hN [B false,B false] (.c2 (bn c784) (rfl:false=false)) ?_
  cases H
  exact Rt dR
 rcases (ifC H).symm with ⟨c785,H⟩ | ⟨c785,H⟩
 ·refine Rh hN [B true,B false] (.c2 (bq c784) (bn c785)) ?_
  cases H
  exact Rt dR
 obtain ⟨t786,h787,H⟩:=bindS H
 refine Rh hN [B true,B true,B t786] (.c3 (bq c784) (bq c785) (clavigerlaw25_awake.con h787).c) ?_
 cases H
 exact Rt dR
end Go.Rf.T
