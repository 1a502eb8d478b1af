/- A curve's key is written, and read, by the program as by the document, and is as long, for scalars of up to 200 bytes and bytes of up to 500. -/
import Derived.Test.YtdombjceoocnhaaGreatDoorTSec1Tells2
set_option linter.unusedSectionVars false
set_option linter.unusedSimpArgs false
set_option linter.unusedVariables false
namespace Go.Proofs.YtdombjceoocnhaaGreatDoor.Pure
open Go Go.RowKit Go.Rf Go.Rf.T
def yj.f (k:Nat) (a0:ByteArray):Option (List (Nat × Nat)):=(bH.f k a0 ([]:List af) ([]:List (Nat × Nat)) ([]:List Int)).bind fun ZB=>(if ZB.1=0 then (some ZB.2.2.2.2.1) else (some ([]:List (Nat × Nat))))
def xY.f (k:Nat) (a0:ByteArray):Option (List Int × List Int):=(oH.f k a0).bind fun SH=>(if SH.2.2.2.2.1=0 then (some (SH.2.2.1,SH.2.2.2.1)) else (some (([]:List Int),([]:List Int))))
def He.l0:Nat→ByteArray→List ByteArray→Int→Int→Int→Option (List ByteArray × Int × Int)
 | 0,_,_,_,_,_=>none
 | k+1,x0,x2,x4,x1000,ah=>if x4 < (x0.size:Int) then (if 0≤x4 then (if x4≤(x0.size:Int) then ((bA.f k (x0.extract (x4:Int).toNat x0.size)).bind fun jg=>(if jg.2.2.2.2.2=0 then (if jg.2.2.2.1 > (wrap64 ((wrap64 ((x0.size:Int) - x4)) - jg.2.2.2.2.1)) then (some (([]:List ByteArray),5,x4)) else ((jV.f x0 x4 (wrap64 (jg.2.2.2.2.1+jg.2.2.2.1))).bind fun xy=>(if x2.length < 8796093022208 then (He.l0 k x0 (x2++[xy]) (wrap64 (x4+(wrap64 (jg.2.2.2.2.1+jg.2.2.2.1)))) x1000 ah) else (none)))) else (some (([]:List ByteArray),jg.2.2.2.2.2,x4)))) else (none)) else (none)) else (some (x2,x1000,ah))
def He.f (k:Nat) (a0:ByteArray):Option (List ByteArray × Int × Int):=if (a0.size:Int) > 65535 then (some (([]:List ByteArray),4,0)) else (He.l0 k a0 ([]:List ByteArray) 0 0 0)
def GR.l0:Nat→ByteArray→List ByteArray→Int→Option (List ByteArray × Int × Int)
 | 0,_,_,_=>none
 | k+1,x0,x4,x5=>if x5 < (x0.size:Int) then (if 0≤x5 then (if x5≤(x0.size:Int) then ((gN.f k (x0.extract (x5:Int).toNat x0.size)).bind fun oh=>(if oh.2.2.2.2.2=0 then (if (wrap64 ((wrap64 (x5+oh.2.2.2.2.1))+oh.2.2.2.1)) > (x0.size:Int) then ((gM.f 5 x5).bind fun ZC=>(some (([]:List ByteArray),ZC.1,ZC.2))) else (if x5≤(wrap64 ((wrap64 (x5+oh.2.2.2.2.1))+oh.2.2.2.1)) then (if (wrap64 ((wrap64 (x5+oh.2.2.2.2.1))+oh.2.2.2.1))≤(x0.size:Int) then (if x4.length < 8796093022208 then (GR.l0 k x0 (x4++[x0.extract (x5:Int).toNat ((wrap64 ((wrap64 (x5+oh.2.2.2.2.1))+oh.2.2.2.1)):Int).toNat]) (wrap64 ((wrap64 (x5+oh.2.2.2.2.1))+oh.2.2.2.1))) else (none)) else (none)) else (none))) else ((gM.f oh.2.2.2.2.2 x5).bind fun ZE=>(some (([]:List ByteArray),ZE.1,ZE.2))))) else (none)) else (none)) else (some (x4,0,0))
def GR.f (k:Nat) (a0:ByteArray):Option (List ByteArray × Int × Int):=if (a0.size:Int) > 65535 then ((gM.f 4 0).bind fun gK=>(some (([]:List ByteArray),gK.1,gK.2))) else (GR.l0 k a0 ([]:List ByteArray) 0)
def BQ.f (k:Nat) (l0:List af):Option (Int):=(bR.f k l0).bind fun amF=>(some amF)
mutual
def xZ.l0:Nat→List af→Int→Int→Int→Option (Int)
 | 0,_,_,_,_=>none
 | k+1,x0,x1,x5,x6=>if 0≤x1 then (if x1 < (x0.length:Int) then (if x6 < (((aa x0 x1).f4).length:Int) then (if 0≤x6 then ((xZ.f k x0 (rd ((aa x0 x1).f4) x6)).bind fun ZF=>(if ZF > x5 then (xZ.l0 k x0 x1 ZF (wrap64 (x6+1))) else (xZ.l0 k x0 x1 x5 (wrap64 (x6+1))))) else (none)) else (some (wrap64 (x5+1)))) else (none)) else (none)
def xZ.f:Nat→List af→Int→Option (Int)
 | 0,_,_=>none
 | k+1,l0,a1=>xZ.l0 k l0 a1 0 0
end
def VI (d:Ieee.Datum) (n:Nat):Prop:=∃ k:Nat,k≤1074∧d=.number false (n*2 ^ k) (-(k:Int))
theorem log2_lt {n k:Nat} (h0:0 < n) (h:n < 2 ^ k):n.log2 < k:=(Nat.log2_lt (by omega)).2 h
theorem UT {n:Nat} (h0:0 < n) (k:Nat):(n*2 ^ k).log2=n.log2+k:=by
 induction k with
 | zero=>simp
 | succ k ih =>
  have hp:0 < n*2 ^ k:=Nat.mul_pos h0 (Nat.two_pow_pos k)
  rw [Nat.pow_succ,← Nat.mul_assoc,Nat.mul_comm _ 2,Nat.log2_two_mul (by omega),ih]
  omega
theorem H5 (way:Ieee.Toward) (m d q:Nat) (h:m=q*2 ^ d) (hd:m=0∨d≤m.log2+2):way.cut false m d=q:=by
 have hr:∀ g:Nat,0 < g→m % g=0→way.cut false m d=m / (1 <<< min d (m.log2+2))→m / g=q→(1 <<< min d (m.log2+2))=g→way.cut false m d=q:=fun g _ _ h1 h2 h3=>by rw [h1,h3,h2]
 have key:m / (1 <<< min d (m.log2+2))=q∧m % (1 <<< min d (m.log2+2))=0:=by
  rw [Nat.one_shiftLeft]
  rcases hd with rfl | hd
  ·have:q=0:=by
    rcases Nat.mul_eq_zero.1 h.symm with h | h
    ·exact h
    ·have:=Nat.two_pow_pos d;omega
   subst this
   simp
  ·rw [Nat.min_eq_left hd,h]
   exact ⟨Nat.mul_div_cancel _ (Nat.two_pow_pos d),Nat.mul_mod_left _ _⟩
 have hg:0 < 1 <<< min d (m.log2+2):=by rw [Nat.one_shiftLeft];exact Nat.two_pow_pos _
 unfold Ieee.Toward.cut
 simp only [key.1,key.2]
 cases way
 ·have h1:decide (1 <<< min d (m.log2+2) < 2*0)=false:=decide_eq_false (by omega)
  have h2:((1 <<< min d (m.log2+2)) == 2*0)=false:=beq_eq_false_iff_ne.2 (by omega)
  simp [h2]
 all_goals simp
theorem UU (n k:Nat) (h0:0 < n) (h:n < 2 ^ 53):Ieee.double.nearest false (n*2 ^ k) (-(k:Int))=(n.log2+1022)*2 ^ 52+n*2 ^ (52 - n.log2):=by
 have he:=log2_lt h0 h
 have hl:=UT h0 k
 have hm:¬ n*2 ^ k=0:=by have:=Nat.mul_pos h0 (Nat.two_pow_pos k);omega
 have hlast:max (-(k:Int)+((n*2 ^ k).log2:Int) - (Ieee.double.fractionBits:Int)) Ieee.double.leastPlace=(n.log2:Int) - 52:=by
  rw [hl,show Ieee.double.leastPlace = -1074 from rfl,show ((Ieee.double.fractionBits:Nat):Int)=52 from rfl]
  omega
 have hkept:Ieee.Toward.even.cut false ((n*2 ^ k) <<< (-(k:Int) - ((n.log2:Int) - 52)).toNat) (((n.log2:Int) - 52) - -(k:Int)).toNat=n*2 ^ (52 - n.log2):=by
  rw [Nat.shiftLeft_eq]
  by_cases hk:k≤52 - n.log2
  ·rw [show (-(k:Int) - ((n.log2:Int) - 52)).toNat=52 - n.log2 - k by omega,show (((n.log2:Int) - 52) - -(k:Int)).toNat=0 by omega]
   refine H5 _ _ _ _ ?_ (Or.inr (by omega))
   rw [Nat.mul_assoc,← Nat.pow_add,Nat.pow_zero,Nat.mul_one]
   congr 2
   omega
  ·rw [show (-(k:Int) - ((n.log2:Int) - 52)).toNat=0 by omega,show (((n.log2:Int) - 52) - -(k:Int)).toNat=k - (52 - n.log2) by omega,Nat.pow_zero,Nat.mul_one]
   refine H5 _ _ _ _ ?_ (Or.inr (by omega))
   rw [Nat.mul_assoc,← Nat.pow_add]
   congr 2
   omega
 unfold Ieee.Format.nearest
 rw [if_neg hm]
 dsimp only
 rw [hlast,hkept]
 have hb:Ieee.double.binade=2 ^ 52:=rfl
 have hi:Ieee.double.infRung=2047*2 ^ 52:=rfl
 have hlt:n*2 ^ (52 - n.log2) < 2 ^ 53:=by
  have h1:n < 2 ^ (n.log2+1):=Nat.lt_log2_self
  have h2:=Nat.mul_lt_mul_of_pos_right h1 (Nat.two_pow_pos (52 - n.log2))
  rwa [← Nat.pow_add,show n.log2+1+(52 - n.log2)=53 by omega] at h2
 rw [show (((n.log2:Int) - 52) - Ieee.double.leastPlace).toNat=n.log2+1022 by rw [show Ieee.double.leastPlace = -1074 from rfl];omega,hb,hi]
 unfold Ieee.Format.word
 rw [if_neg (by decide),Nat.min_eq_left (by omega)]
theorem afh (n:Nat) (h0:0 < n) (h:n < 2 ^ 53):Ieee.double.read ((n.log2+1022)*2 ^ 52+n*2 ^ (52 - n.log2))=.number false (n*2 ^ (52 - n.log2)) (-((52 - n.log2:Nat):Int)):=by
 have he:=log2_lt h0 h
 have hlt:n*2 ^ (52 - n.log2) < 2 ^ 53:=by
  have h1:n < 2 ^ (n.log2+1):=Nat.lt_log2_self
  have h2:=Nat.mul_lt_mul_of_pos_right h1 (Nat.two_pow_pos (52 - n.log2))
  rwa [← Nat.pow_add,show n.log2+1+(52 - n.log2)=53 by omega] at h2
 have hge:2 ^ 52≤n*2 ^ (52 - n.log2):=by
  have h1:2 ^ n.log2≤n:=Nat.log2_self_le (by omega)
  have h2:=Nat.mul_le_mul_right (2 ^ (52 - n.log2)) h1
  rwa [← Nat.pow_add,show n.log2+(52 - n.log2)=52 by omega] at h2
 generalize hx:n*2 ^ (52 - n.log2)=x at hlt hge
 have hw:Ieee.double.signWeight=2 ^ 63:=rfl
 have hb:Ieee.double.binade=2 ^ 52:=rfl
 have hi:Ieee.double.infRung=2047*2 ^ 52:=rfl
 unfold Ieee.Format.read
 rw [hw,hb,hi]
 have e1:((n.log2+1022)*2 ^ 52+x) / 2 ^ 63=0:=Nat.div_eq_of_lt (by omega)
 have e2:((n.log2+1022)*2 ^ 52+x) % 2 ^ 63=(n.log2+1022)*2 ^ 52+x:=Nat.mod_eq_of_lt (by omega)
 rw [e1,e2]
 dsimp only
 rw [if_neg (by omega),if_pos (by omega)]
 have e3:((n.log2+1022)*2 ^ 52+x) % 2 ^ 52=x - 2 ^ 52:=by omega
 have e4:((n.log2+1022)*2 ^ 52+x) / 2 ^ 52=n.log2+1023:=by omega
 rw [e3,e4,show Ieee.double.leastPlace = -1074 from rfl]
 rw [show (0 % 2 == 1)=false from rfl,show 2 ^ 52+(x - 2 ^ 52)=x by omega]
 exact congrArg (Ieee.Datum.number false x) (by omega)
theorem afi (n:Nat):floatOfInt .f64 (n:Int)=Ieee.double.nearest false n 0:=by
 show Ieee.double.nearest (decide ((n:Int) < 0)) (n:Int).natAbs 0=_
 rw [decide_eq_false (by omega),Int.natAbs_natCast]
theorem WI (n:Nat) (h0:0 < n) (h:n < 2 ^ 53):floatOfInt .f64 (n:Int)=(n.log2+1022)*2 ^ 52+n*2 ^ (52 - n.log2):=by
 have:=UU n 0 h0 h
 rw [Nat.pow_zero,Nat.mul_one] at this
 rw [afi,← this]
 rfl
theorem zN (n:Nat) (h:n < 2 ^ 53):VI (FloatKind.f64.format.read (floatOfInt .f64 (n:Int))) n:=by
 show VI (Ieee.double.read _) n
 by_cases h0:n=0
 ·subst h0
  exact ⟨1074,Nat.le_refl _,by kernel_rfl⟩
 ·rw [WI n (by omega) h,afh n (by omega) h]
  exact ⟨52 - n.log2,by omega,rfl⟩
theorem yl (m up:Nat):Ieee.signed false m up=((m*2 ^ up:Nat):Int):=by
 unfold Ieee.signed
 rw [if_neg (by decide),Nat.shiftLeft_eq]
theorem Vi (a b:Nat) (h:a+b < 2 ^ 53):floatBits .add .f64 (floatOfInt .f64 (a:Int)) (floatOfInt .f64 (b:Int))=some (floatOfInt .f64 ((a+b:Nat):Int)):=by
 obtain ⟨k,hk,ha⟩:=zN a (by omega)
 obtain ⟨j,hj,hb⟩:=zN b (by omega)
 show ((FloatKind.f64.format.read _).sum (FloatKind.f64.format.read _)).map FloatKind.f64.format.write=_
 rw [ha,hb]
 unfold Ieee.Datum.sum
 dsimp only
 rw [yl,yl]
 have hmin:min (-(k:Int)) (-(j:Int)) = -((max k j:Nat):Int):=by omega
 rw [hmin]
 have e1:a*2 ^ k*2 ^ (-(k:Int) - -((max k j:Nat):Int)).toNat=a*2 ^ max k j:=by
  rw [Nat.mul_assoc,← Nat.pow_add]
  congr 2
  omega
 have e2:b*2 ^ j*2 ^ (-(j:Int) - -((max k j:Nat):Int)).toNat=b*2 ^ max k j:=by
  rw [Nat.mul_assoc,← Nat.pow_add]
  congr 2
  omega
 rw [e1,e2,← Int.natCast_add,← Nat.add_mul,Int.natAbs_natCast,Option.map_some]
 have hs:(if (((a+b)*2 ^ max k j:Nat):Int)=0 then (false && false) else decide ((((a+b)*2 ^ max k j:Nat):Int) < 0))=false:=by
  split
  ·rfl
  ·exact decide_eq_false (by omega)
 rw [hs]
 show some (Ieee.double.nearest false _ _)=_
 congr 1
 by_cases h0:a+b=0
 ·rw [h0,Nat.zero_mul]
  unfold Ieee.Format.nearest
  rw [if_pos rfl]
  kernel_rfl
 ·rw [UU (a+b) _ (by omega) h,WI (a+b) (by omega) h]
theorem IV (a b:Nat) (ha:a < 2 ^ 53) (hb:b < 2 ^ 53):FloatKind.f64.format.order (floatOfInt .f64 (a:Int)) (floatOfInt .f64 (b:Int))=some (compare a b):=by
 obtain ⟨k,hk,ha⟩:=zN a ha
 obtain ⟨j,hj,hb⟩:=zN b hb
 show (FloatKind.f64.format.read _).order (FloatKind.f64.format.read _)=_
 rw [ha,hb]
 unfold Ieee.Datum.order
 dsimp only
 rw [yl,yl]
 have hmin:min (-(k:Int)) (-(j:Int)) = -((max k j:Nat):Int):=by omega
 rw [hmin]
 have e1:a*2 ^ k*2 ^ (-(k:Int) - -((max k j:Nat):Int)).toNat=a*2 ^ max k j:=by
  rw [Nat.mul_assoc,← Nat.pow_add]
  congr 2
  omega
 have e2:b*2 ^ j*2 ^ (-(j:Int) - -((max k j:Nat):Int)).toNat=b*2 ^ max k j:=by
  rw [Nat.mul_assoc,← Nat.pow_add]
  congr 2
  omega
 rw [e1,e2]
 congr 1
 have hp:=Nat.two_pow_pos (max k j)
 rcases Nat.lt_trichotomy a b with h | h | h
 ·have:=Nat.mul_lt_mul_of_pos_right h hp
  rw [Nat.compare_eq_lt.2 h]
  exact Int.compare_eq_lt.2 (by omega)
 ·subst h
  rw [Nat.compare_eq_eq.2 rfl]
  exact Int.compare_eq_eq.2 rfl
 ·have:=Nat.mul_lt_mul_of_pos_right h hp
  rw [Nat.compare_eq_gt.2 h]
  exact Int.compare_eq_gt.2 (by omega)
theorem VV (n:Nat) (h:n < 2 ^ 53):floatToIntVal .f64 (floatOfInt .f64 (n:Int)) .i64=some (n:Int):=by
 obtain ⟨k,hk,hd⟩:=zN n h
 unfold floatToIntVal
 rw [show FloatKind.f64.decode (floatOfInt .f64 (n:Int))=FloatKind.f64.format.read (floatOfInt .f64 (n:Int)) from rfl,hd]
 unfold Ieee.Datum.toInt Ieee.Datum.integral
 dsimp only
 rw [show (-(k:Int)).toNat=0 by omega,show (- -(k:Int)).toNat=k by omega,Nat.shiftLeft_zero]
 have hc:Ieee.Toward.zero.cut false (n*2 ^ k) k=n:=by
  refine H5 _ _ _ _ rfl ?_
  by_cases h0:n=0
  ·exact Or.inl (by rw [h0,Nat.zero_mul])
  ·exact Or.inr (by rw [UT (by omega)];omega)
 rw [hc,yl,Nat.pow_zero,Nat.mul_one]
 have h1:IntKind.i64.min = -9223372036854775808:=rfl
 have h2:IntKind.i64.max=9223372036854775807:=rfl
 rw [if_pos ⟨by omega,by omega⟩]
def fl (n:Nat):Nat:=floatOfInt .f64 (n:Int)
theorem Yc {x:Int} (h:0≤x):floatOfInt .f64 x=fl x.toNat:=by
 unfold fl
 rw [Int.toNat_of_nonneg h]
theorem WJ:fl 0=0:=rfl
theorem JN {a b:Nat} (h:a+b < 2 ^ 53):sQ (fl a) (fl b)=true:=by unfold sQ fl;rw [Vi a b h];rfl
theorem Jo {a b:Nat} (h:a+b < 2 ^ 53):nW (fl a) (fl b)=fl (a+b):=by unfold nW fl;rw [Vi a b h];rfl
theorem JO {a b:Nat} (ha:a < 2 ^ 53) (hb:b < 2 ^ 53):mI (fl a) (fl b)=decide (a=b):=by
 unfold mI fl
 rw [IV a b ha hb]
 rcases Nat.lt_trichotomy a b with h | h | h
 ·rw [Nat.compare_eq_lt.2 h,decide_eq_false (by omega)];rfl
 ·rw [Nat.compare_eq_eq.2 h,decide_eq_true h];rfl
 ·rw [Nat.compare_eq_gt.2 h,decide_eq_false (by omega)];rfl
theorem aga {a b:Nat} (ha:a < 2 ^ 53) (hb:b < 2 ^ 53):Bo (fl a) (fl b)=decide (a < b):=by
 unfold Bo fl
 rw [IV a b ha hb]
 rcases Nat.lt_trichotomy a b with h | h | h
 ·rw [Nat.compare_eq_lt.2 h,decide_eq_true (by omega)];rfl
 ·rw [Nat.compare_eq_eq.2 h,decide_eq_false (by omega)];rfl
 ·rw [Nat.compare_eq_gt.2 h,decide_eq_false (by omega)];rfl
theorem agb {a b:Nat} (ha:a < 2 ^ 53) (hb:b < 2 ^ 53):Bq (fl a) (fl b)=decide (b < a):=by
 unfold Bq fl
 rw [IV a b ha hb]
 rcases Nat.lt_trichotomy a b with h | h | h
 ·rw [Nat.compare_eq_lt.2 h,decide_eq_false (by omega)];rfl
 ·rw [Nat.compare_eq_eq.2 h,decide_eq_false (by omega)];rfl
 ·rw [Nat.compare_eq_gt.2 h,decide_eq_true (by omega)];rfl
theorem Xu {a b:Nat} (ha:a < 2 ^ 53) (hb:b < 2 ^ 53):xL (fl a) (fl b)=decide (a≤b):=by
 unfold xL
 rw [aga ha hb,JO ha hb]
 by_cases h:a≤b
 ·rw [decide_eq_true h]
  rcases Nat.lt_or_eq_of_le h with h | h<;>simp [h]
 ·rw [decide_eq_false h,decide_eq_false (by omega),decide_eq_false (by omega)];rfl
theorem agc {a b:Nat} (ha:a < 2 ^ 53) (hb:b < 2 ^ 53):xM (fl a) (fl b)=decide (b≤a):=by
 unfold xM
 rw [agb ha hb,JO ha hb]
 by_cases h:b≤a
 ·rw [decide_eq_true h]
  rcases Nat.lt_or_eq_of_le h with h | h<;>simp [h]
 ·rw [decide_eq_false h,decide_eq_false (by omega),decide_eq_false (by omega)];rfl
theorem Cy {a:Nat} (h:a < 2 ^ 53):uR (fl a)=true:=by unfold uR fl;rw [VV a h];rfl
theorem Cz {a:Nat} (h:a < 2 ^ 53):fint (fl a)=(a:Int):=by unfold fint fl;rw [VV a h];rfl
def iX (l:List Int):Int:=l.foldl (fun n b=>n*256+b) 0
theorem Vj (l:List Int) (x:Int):iX (l++[x])=iX l*256+x:=by simp [iX]
theorem ac9 {l:List Int} (i:Nat) (h:i < l.length):iX (l.take (i+1))=iX (l.take i)*256+l[i]:=by
 rw [List.take_succ_eq_append_getElem h,Vj]
theorem afj (n:Nat):∀ l:List Int,aG l→l.length≤n→0≤iX l∧iX l < 256 ^ n:=by
 induction n with
 | zero=>intro l h hn;obtain rfl:=List.eq_nil_of_length_eq_zero (Nat.le_zero.1 hn);simp [iX]
 | succ n ih =>
  intro l h hn
  have hp:(0:Int) < 256 ^ n:=Int.pow_pos (by decide)
  by_cases e:l=[]
  ·subst e
   rw [Int.pow_succ]
   simp only [iX,List.foldl_nil]
   omega
  ·obtain ⟨m,x,rfl⟩:∃ m x,l=m++[x]:=⟨l.dropLast,l.getLast e,(List.dropLast_concat_getLast e).symm⟩
   have h1:=ih m (fun y hy=>h y (List.mem_append_left _ hy)) (by simp at hn;omega)
   have h2:=h x (by simp)
   rw [Vj,Int.pow_succ]
   omega
theorem VW (l:List Int) (h:aG l) (hn:l.length≤7):0≤iX l∧iX l < 72057594037927936:=afj 7 l h hn
theorem aaR (l:List Int) (hl:aG l) (h8:l.length≤8) (d:Nat):∀ i:Nat,i≤l.length→l.length - i=d →
 Ev (fun k=>jd.l0 k (strOfNums l) (iX (l.take i)) (i:Int)) (iX l,true):=by
 induction d with
 | zero =>
  intro i hi hd
  obtain rfl:i=l.length:=by omega
  refine Ev.step (f:=fun _=>some (iX l,true)) (fun k=>?_) (Ev.now _)
  simp only [jd.l0]
  rw [dL,if_neg (by omega),List.take_length]
 | succ d ih =>
  intro i hi hd
  have hlt:i < l.length:=by omega
  refine Ev.step (fun k=>?_) (ih (i+1) (by omega) (by omega))
  have hb:=hl.get i hlt
  have hg:=VW (l.take i) (hl.take i) (by rw [List.length_take];omega)
  simp only [jd.l0]
  rw [dL,if_pos (by omega),if_pos (by omega),je hl i hlt,wu64 (x:=iX (l.take i)*256) (by omega) (by omega),wu64 (x:=l[i]) (by omega) (by omega),aO (by omega) (by omega),wu64 (by omega) (by omega),ac9 i hlt]
  simp only [Int.natCast_add,Int.natCast_one]
theorem aa1 (l:List Int) (hl:aG l) (h1:1≤l.length) (h8:l.length≤8):Ev (fun k=>jd.f k (strOfNums l)) (iX l,true):=by
 have h:=aaR l hl h8 _ 0 (by omega) rfl
 refine Ev.congr (f:=fun k=>jd.j0 k (strOfNums l) false) (fun k=>?_) ?_
 ·simp only [jd.f]
  rw [dL,if_neg (by omega),decide_eq_false (by omega)]
 ·refine Ev.step (fun k=>?_) h
  simp only [jd.j0]
  rw [if_neg (by decide)]
  rfl
def eO (n:Int):Nat→List Int
 | 0=>[]
 | w+1=>(n / 256 ^ w % 256) :: eO n w
theorem vW (n:Int) (w:Nat):aG (eO n w):=by
 induction w with
 | zero=>exact aG.nil
 | succ w ih=>exact aG.cons (by omega) (by omega) ih
theorem GU (n:Int) (w:Nat):(eO n w).length=w:=by
 induction w with
 | zero=>rfl
 | succ w ih=>simp [eO,ih]
theorem abq (n:Int) (w:Nat) (h:w≤8):(Cw n).drop (8 - w)=eO n w:=by
 have:w=0∨w=1∨w=2∨w=3∨w=4∨w=5∨w=6∨w=7∨w=8:=by omega
 rcases this with rfl | rfl | rfl | rfl | rfl | rfl | rfl | rfl | rfl<;>simp [Cw,eO]
theorem aa2 (n:Int) (w:Int):iU.f n w=some (strOfNums (if 1≤w∧w≤8 then eO n w.toNat else [])):=by
 unfold iU.f
 by_cases h1:w < 1
 ·rw [if_pos h1,if_neg (by omega)];rfl
 ·by_cases h2:w > 8
  ·rw [if_neg h1,if_pos h2,if_neg (by omega)];rfl
  ·rw [if_neg h1,if_neg h2,if_pos (by omega),abq n w.toNat (by omega)]
theorem aaS (n:Int) (h0:0≤n) (hn:n < 18446744073709551616) (w:Nat) (hw:w≤8) (d:Nat):∀ i:Nat,i≤w→w - i=d →
 Ev (fun k=>fF.l0 k (n / 256 ^ i) (w:Int) (strOfNums (eO n i)) (i:Int)) (strOfNums (eO n w)):=by
 induction d with
 | zero =>
  intro i hi hd
  obtain rfl:i=w:=by omega
  refine Ev.step (f:=fun _=>some _) (fun k=>?_) (Ev.now _)
  simp only [fF.l0]
  rw [if_neg (by omega)]
 | succ d ih =>
  intro i hi hd
  refine Ev.step (fun k=>?_) (ih (i+1) (by omega) (by omega))
  have hq0:0≤n / 256 ^ i:=Int.ediv_nonneg h0 (Int.le_of_lt (Int.pow_pos (by decide)))
  have hq1:n / 256 ^ i≤n:=Int.ediv_le_self _ h0
  have hs:n / 256 ^ (i+1)=n / 256 ^ i / 256:=by rw [Int.pow_succ,Int.ediv_ediv_of_nonneg (Int.le_of_lt (Int.pow_pos (by decide)))]
  simp only [fF.l0]
  rw [if_pos (by omega)]
  rw [ek,ek,GU,if_pos (by simp;omega),Int.tmod_eq_emod_of_nonneg hq0,Int.tdiv_eq_ediv_of_nonneg hq0,wu64 (by omega) (by omega),aO (by omega) (by omega),lI,hs]
  simp only [eO,Int.natCast_add,Int.natCast_one,List.singleton_append,Int.emod_emod_of_dvd _ (Int.dvd_refl 256)]
theorem GH (n:Int) (h0:0≤n) (hn:n < 18446744073709551616) (w:Int):Ev (fun k=>fF.f k n w) (strOfNums (if 1≤w∧w≤8 then eO n w.toNat else [])):=by
 by_cases h:1≤w∧w≤8
 ·rw [if_pos h]
  obtain ⟨m,rfl⟩:=Int.eq_ofNat_of_zero_le (show 0≤w by omega)
  have hl:=aaS n h0 hn m (by omega) m 0 (by omega) rfl
  refine Ev.congr (f:=fun k=>fF.j0 k n (m:Int) false) (fun k=>?_) ?_
  ·simp only [fF.f]
   rw [if_neg (by omega),decide_eq_false (by omega)]
  ·refine Ev.step (fun k=>?_) hl
   simp only [fF.j0]
   rw [if_neg (by decide)]
   simp [eO,ad4]
 ·rw [if_neg h]
  refine Ev.congr (f:=fun k=>fF.j0 k n w true) (fun k=>?_) ?_
  ·simp only [fF.f]
   by_cases h1:w < 1
   ·rw [if_pos h1]
   ·rw [if_neg h1,decide_eq_true (by omega)]
  ·refine Ev.step (f:=fun _=>some _) (fun k=>?_) (Ev.now _)
   simp only [fF.j0]
   simp only [if_true]
   rfl
def SI (l:List Int) (a n:Int):List Int:=if a < 0∨(l.length:Int)≤a∨n < 1 then [] else (l.drop a.toNat).take n.toNat
theorem aa3 (l:List Int) (a n:Int) (hl:l.length≤140737488355328) (ha:a≤9223372036854775807) (hn:n≤9223372036854775807):jV.f (strOfNums l) a n=some (strOfNums (SI l a n)):=by
 unfold jV.f SI
 rw [dL]
 by_cases h1:a < 0
 ·rw [if_pos h1,if_pos (.inl h1)];rfl
 ·by_cases h2:(l.length:Int)≤a
  ·rw [if_neg h1,if_pos h2,if_pos (.inr (.inl h2))];rfl
  ·by_cases h3:n < 1
   ·rw [if_neg h1,if_neg h2,if_pos h3,if_pos (.inr (.inr h3))];rfl
   ·have e:wrap64 (a+mn n (wrap64 ((l.length:Int) - a)))=a+mn n ((l.length:Int) - a):=by
     rw [aO (x:=(l.length:Int) - a) (by omega) (by omega)]
     unfold mn
     split<;>exact aO (by omega) (by omega)
    have e0:1≤mn n ((l.length:Int) - a)∧mn n ((l.length:Int) - a)≤(l.length:Int) - a:=by unfold mn;split<;>omega
    rw [if_neg h1,if_neg h2,if_neg h3,if_pos (by omega),e,if_pos (by omega),if_pos (by omega),if_neg (by omega),oC]
    congr 2
    have e2:(a+mn n ((l.length:Int) - a)).toNat - a.toNat=(mn n ((l.length:Int) - a)).toNat:=by omega
    rw [e2]
    by_cases hc:n≤(l.length:Int) - a
    ·rw [show mn n ((l.length:Int) - a)=n by unfold mn;split<;>omega]
    ·rw [show mn n ((l.length:Int) - a)=(l.length:Int) - a by unfold mn;split<;>omega,List.take_of_length_le (by rw [List.length_drop];omega),List.take_of_length_le (by rw [List.length_drop];omega)]
def fB (b:Int):List Int:=if b < 128 then [b] else if b < 16384 then [128+b / 128,b % 128] else [128+b / 16384,128+b / 128 % 128,b % 128]
def di (a b:Int) (c:Bool):List Int:=if b < 31 then [64*a+(if c then 32 else 0)+b] else (64*a+(if c then 32 else 0)+31) :: fB b
def dm (n:Int):List Int:=if n < 128 then [n] else if n < 256 then [129,n] else [130,n / 256,n % 256]
theorem rY {n:Int} (g:n < 128):dm n=[n]:=if_pos g
theorem zO {n:Int} (g:¬ n < 128) (g2:n < 256):dm n=[129,n]:=by rw [dm,if_neg g,if_pos g2]
theorem zP {n:Int} (g:¬ n < 128) (g2:¬ n < 256):dm n=[130,n / 256,n % 256]:=by rw [dm,if_neg g,if_neg g2]
theorem ada:((List.range 8).all fun k=>(List.range 32).all fun b=>decide (Go.bits .or .u8 (32*(k:Int)) (b:Int)=32*(k:Int)+(b:Int)))=true:=by kernel_rfl
theorem Yd {k b:Int} (h0:0≤k) (h1:k < 8) (h2:0≤b) (h3:b < 32):Go.bits .or .u8 (32*k) b=32*k+b:=by
 have h:=List.all_eq_true.1 (List.all_eq_true.1 ada k.toNat (List.mem_range.2 (by omega))) b.toNat (List.mem_range.2 (by omega))
 rw [Int.toNat_of_nonneg h0,Int.toNat_of_nonneg h2] at h
 exact of_decide_eq_true h
theorem abY:((List.range 4).all fun a=>decide (Go.bits .or .u8 ((wrap64 ((a:Int)*64)) % 256) 32=64*(a:Int)+32))=true:=by kernel_rfl
theorem or_cons {a:Int} (h0:0≤a) (h1:a < 4):Go.bits .or .u8 ((wrap64 (a*64)) % 256) 32=64*a+32:=by
 have h:=List.all_eq_true.1 abY a.toNat (List.mem_range.2 (by omega))
 rw [Int.toNat_of_nonneg h0] at h
 exact of_decide_eq_true h
theorem acs:((List.range 128).all fun x=>decide ((Go.bits .or .i64 (x:Int) 128) % 256=128+(x:Int)))=true:=by kernel_rfl
theorem agd {x:Int} (h0:0≤x) (h1:x < 128):(Go.bits .or .i64 x 128) % 256=128+x:=by
 have h:=List.all_eq_true.1 acs x.toNat (List.mem_range.2 (by omega))
 rw [Int.toNat_of_nonneg h0] at h
 exact of_decide_eq_true h
theorem and7 {n:Int} (h0:0≤n) (h1:n < 9223372036854775808):Go.bits .and .i64 n 127=n % 128 :=
 bits_mask .i64 63 (by decide) (fun n h0 h1=>by rw [IntKind.wrap_i64];omega) 7 (by decide) n h0 (by simpa using h1)
theorem afk:((List.range 128).all fun x=>decide (Go.bits .and .u8 (128+(x:Int)) 127=(x:Int)))=true:=by kernel_rfl
theorem lo7 {x:Int} (h0:0≤x) (h1:x < 128):Go.bits .and .u8 (128+x) 127=x:=by
 have h:=List.all_eq_true.1 afk x.toNat (List.mem_range.2 (by omega))
 rw [Int.toNat_of_nonneg h0] at h
 exact of_decide_eq_true h
theorem Ml (b:Int):shr .i64 b 14=b / 16384:=rfl
theorem SK (b:Int):shr .i64 b 7=b / 128:=rfl
theorem SN (b:Int):shr .i64 b 0=b:=by show b / 1=b;omega
theorem VX (x4:List Int) (a b:Int) (c:Bool) (n:Int) (hx:x4.length≤100) (h0:0≤n) (h1:n≤65535):Ev (fun k=>eY.j2 k x4 n) (strOfNums (x4++dm n),0):=by
 refine Ev.step (fun k=>by rw [eY.j2]) ?_
 by_cases g:n < 128
 ·rw [rY g]
  refine Ev.ae g (Ev.ae (by omega) ((Ev.now _).eq ?_))
  rw [show n % 256=n by omega]
 refine Ev.ak g ?_
 by_cases g2:n < 256
 ·rw [zO g g2]
  refine Ev.ae g2 (Ev.ae (by omega) ((Ev.now _).eq ?_))
  rw [show n % 256=n by omega]
 rw [zP g g2]
 refine Ev.ak g2 (Ev.ae (by omega) ((Ev.now _).eq ?_))
 rw [show n / 256 % 256=n / 256 by omega]
theorem afl (s:List Int) (x y:Int):(s++[x]).set (s.length:Int).toNat y=s++[y]:=by
 rw [Int.toNat_natCast]
 simp
theorem age (s:List Int) (x:Int):rd (s++[x]) (s.length:Int)=x:=by
 rw [jJ s.length (by simp)]
 simp
theorem H6 (s:List Int) (x a b:Int) (c:Bool) (n:Int) (hs:s.length≤50) (x0:0≤x) (x1:x < 128) (h0:0≤n) (h1:n≤65535):Ev (fun k=>eY.l0 k (s++[128+x]) (-7) b n) (strOfNums (s++[x]++dm n),0):=by
 refine Ev.step (fun k=>by rw [eY.l0]) ?_
 have hl:((s++[128+x]).length:Int)=(s.length:Int)+1:=by simp
 rw [hl,aO (x:=(s.length:Int)+1 - 1) (by omega) (by omega),show (s.length:Int)+1 - 1=(s.length:Int) by omega,age,afl,lo7 x0 x1]
 exact Ev.ak (by omega) (Ev.ae (by omega) (Ev.ae (by omega) (VX _ a b c n (by simp;omega) h0 h1)))
theorem vT (s:List Int) (t a b:Int) (c:Bool) (n v:Int) (hs:s.length≤50) (t0:0≤t) (t1:t≤14) (hv:shr .i64 b t=v) (v0:0 < v) (v1:v < 9223372036854775808) {r:ByteArray × Int}
 (h:Ev (fun k=>eY.l0 k (s++[128+v % 128]) (t - 7) b n) r):Ev (fun k=>eY.l0 k s t b n) r:=by
 refine Ev.step (fun k=>by rw [eY.l0]) ?_
 rw [hv,aO (x:=t - 7) (by omega) (by omega),and7 (by omega) v1,agd (by omega) (by omega)]
 exact Ev.ae (by omega) (Ev.ae (by omega) (Ev.ak (by omega) (Ev.ae (by omega) h)))
theorem H7 (s:List Int) (t a b:Int) (c:Bool) (n:Int) (t0:0≤t) (t1:t≤14) (hv:shr .i64 b t=0) {r:ByteArray × Int}
 (h:Ev (fun k=>eY.l0 k s (t - 7) b n) r):Ev (fun k=>eY.l0 k s t b n) r:=by
 refine Ev.step (fun k=>by rw [eY.l0]) ?_
 rw [hv,aO (x:=t - 7) (by omega) (by omega)]
 exact Ev.ae (by omega) (Ev.ae (by omega) (Ev.ae rfl h))
theorem aeb (s:List Int) (a b:Int) (c:Bool) (n:Int) (hs:s.length≤10) (b0:31≤b) (b1:b≤2097151) (h0:0≤n) (h1:n≤65535):Ev (fun k=>eY.l0 k s 14 b n) (strOfNums (s++fB b++dm n),0):=by
 unfold fB
 by_cases g:b < 128
 ·rw [if_pos g]
  refine H7 s 14 a b c n (by omega) (by omega) (by rw [Ml];omega) (H7 s _ a b c n (by omega) (by omega) (by show shr .i64 b 7=0;rw [SK];omega) (vT s _ a b c n b (by omega) (by omega) (by omega) (SN b) (by omega) (by omega) ?_))
  rw [show b % 128=b by omega]
  exact H6 s b a b c n (by omega) (by omega) (by omega) h0 h1
 rw [if_neg g]
 by_cases g2:b < 16384
 ·rw [if_pos g2]
  refine H7 s 14 a b c n (by omega) (by omega) (by rw [Ml];omega) (vT s _ a b c n (b / 128) (by omega) (by omega) (by omega) (SK b) (by omega) (by omega) (vT _ _ a b c n b (by simp;omega) (by omega) (by omega) (SN b) (by omega) (by omega) ?_))
  have:=H6 (s++[128+b / 128 % 128]) (b % 128) a b c n (by simp;omega) (by omega) (by omega) h0 h1
  rw [show b / 128 % 128=b / 128 by omega] at this ⊢
  simpa using this
 rw [if_neg g2]
 refine vT s 14 a b c n (b / 16384) (by omega) (by omega) (by omega) (Ml b) (by omega) (by omega) (vT _ _ a b c n (b / 128) (by simp;omega) (by omega) (by omega) (SK b) (by omega) (by omega) (vT _ _ a b c n b (by simp;omega) (by omega) (by omega) (SN b) (by omega) (by omega) ?_))
 have:=H6 (s++[128+b / 16384 % 128]++[128+b / 128 % 128]) (b % 128) a b c n (by simp;omega) (by omega) (by omega) h0 h1
 rw [show b / 16384 % 128=b / 16384 by omega] at this ⊢
 simpa using this
theorem WK (a b:Int) (c:Bool) (n:Int) (a0:0≤a) (a1:a≤3) (b0:0≤b) (b1:b≤2097151) (h0:0≤n):Ev (fun k=>eY.f k a b c n) (if n≤65535 then (strOfNums (di a b c++dm n),0) else (⟨#[]⟩,1)):=by
 have hm:tH.f a b c n=some (decide (n≤65535)):=by
  rw [tH.f,if_pos (by unfold mn;split<;>split<;>omega),if_pos a1,if_pos b1]
 refine Ev.congr (fun k=>by rw [eY.f]) ?_
 refine Ev.bU hm ?_
 by_cases h1:n≤65535
 case neg =>
  rw [decide_eq_false h1,if_neg h1]
  exact Ev.ak (by simp) (Ev.now _)
 rw [decide_eq_true h1,if_pos h1]
 refine Ev.ae rfl ?_
 have key:∀ kk:Int,(∃ q:Int,0≤q∧q < 8∧kk=32*q)→Ev (fun k=>eY.j0 k (List.replicate 0 0:List Int) kk b n) (strOfNums ((if b < 31 then [kk+b] else (kk+31) :: fB b)++dm n),0):=by
  rintro kk ⟨q,q0,q1,rfl⟩
  refine Ev.step (fun k=>by rw [eY.j0]) ?_
  by_cases g:b < 31
  ·rw [show (if b < 31 then [32*q+b] else (32*q+31) :: fB b)=[32*q+b] from if_pos g,show b % 256=b by omega,Yd (b:=b) q0 q1 b0 (by omega)]
   exact Ev.ae g (Ev.ae (by decide) (VX [32*q+b] a b c n (by simp) h0 h1))
  ·rw [show (if b < 31 then [32*q+b] else (32*q+31) :: fB b)=(32*q+31) :: fB b from if_neg g,Yd (b:=31) q0 q1 (by omega) (by omega)]
   exact Ev.ak g (Ev.ae (by decide) (aeb [32*q+31] a b c n (by simp) (by omega) b1 h0 h1))
 unfold di
 cases c with
 | true =>
  refine Ev.ae rfl ?_
  rw [or_cons a0 (by omega)]
  exact key _ ⟨2*a+1,by omega,by omega,by omega⟩
 | false =>
  refine Ev.ak (by simp) ?_
  rw [show wrap64 (a*64) % 256=64*a+0 by rw [aO (by omega) (by omega)];omega]
  exact key _ ⟨2*a,by omega,by omega,by omega⟩
theorem afm (b:Int) (b0:31≤b) (b1:b≤2097151):Ev (fun k=>jC.f k b) (strOfNums (fB b)):=by
 have hend:∀ (l:List Int),Ev (fun k=>jC.l0 k 0 (strOfNums l)) (strOfNums l):=by
  intro l
  refine Ev.step (fun k=>by rw [jC.l0]) ?_
  exact Ev.ak (by omega) (Ev.now _)
 have hone:∀ (x:Int) (l:List Int) (r:ByteArray),0 < x→x≤2097151→l.length≤10→Ev (fun k=>jC.l0 k (x / 128) (strOfNums ((128+x % 128) :: l))) r→Ev (fun k=>jC.l0 k x (strOfNums l)) r:=by
  intro x l r x0 x1 hl h
  refine Ev.step (fun k=>by rw [jC.l0]) ?_
  rw [Int.tmod_eq_emod_of_nonneg (by omega),Int.tdiv_eq_ediv_of_nonneg (by omega),aO (x:=x / 128) (by omega) (by omega),aO (x:=128+x % 128) (by omega) (by omega),show (128+x % 128) % 256=128+x % 128 by omega]
  refine Ev.ae (by omega) (Ev.ae (by rw [ek,ek];simp;omega) ?_)
  rw [lI,List.singleton_append]
  exact h
 refine Ev.congr (fun k=>by rw [jC.f]) ?_
 rw [Int.tmod_eq_emod_of_nonneg (by omega),Int.tdiv_eq_ediv_of_nonneg (by omega),aO (x:=b / 128) (by omega) (by omega),show b % 128 % 256=b % 128 by omega]
 unfold fB
 by_cases g:b < 128
 ·rw [if_pos g,show b / 128=0 by omega,show b % 128=b by omega]
  exact hend _
 rw [if_neg g]
 by_cases g2:b < 16384
 ·rw [if_pos g2]
  refine hone (b / 128) _ _ (by omega) (by omega) (by simp) ?_
  rw [show b / 128 / 128=0 by omega,show b / 128 % 128=b / 128 by omega]
  exact hend _
 rw [if_neg g2]
 refine hone (b / 128) _ _ (by omega) (by omega) (by simp) (hone _ _ _ (by omega) (by omega) (by simp) ?_)
 rw [show b / 128 / 128 / 128=0 by omega,show b / 128 / 128 % 128=b / 16384 by omega]
 exact hend _
theorem WL (x5:List Int) (n:Int) (hx:x5.length≤100) (h0:0≤n) (h1:n≤65535):Ev (fun k=>gJ.j1 k (strOfNums x5) n) (strOfNums (x5++dm n),0):=by
 refine Ev.step (fun k=>by rw [gJ.j1]) ?_
 by_cases g:n < 128
 ·rw [rY g]
  refine Ev.ae g (Ev.ae (by rw [ek,ek];simp;omega) ((Ev.now _).eq ?_))
  rw [lI,show n % 256=n by omega]
 refine Ev.ak g ?_
 have e:∀ (z:Int) (zs:ByteArray),zs=strOfNums [z]→strOfNums x5++zs=strOfNums (x5++[z]):=by
  intro z zs h
  rw [h,lI]
 by_cases g2:n < 256
 ·rw [zO g g2]
  have hp:Ev (fun k=>fF.f k (IntKind.u64.wrap n) 1) (strOfNums [n]):=by
   rw [wu64 (by omega) (by omega)]
   refine (GH n (by omega) (by omega) 1).eq ?_
   rw [if_pos (by omega)]
   show strOfNums [n / 256 ^ 0 % 256]=_
   rw [show (256:Int) ^ 0=1 from rfl,show n / 1 % 256=n by omega]
  refine Ev.ae g2 (Ev.ae (by rw [ek];omega) (Ev.bind hp ?_))
  rw [e 129 (⟨#[129]⟩:ByteArray) rfl]
  refine Ev.ae (by rw [ek,ek];simp;omega) ((Ev.now _).eq ?_)
  rw [lI,List.append_assoc,List.singleton_append]
 rw [zP g g2]
 have hp:Ev (fun k=>fF.f k (IntKind.u64.wrap n) 2) (strOfNums [n / 256,n % 256]):=by
  rw [wu64 (by omega) (by omega)]
  refine (GH n (by omega) (by omega) 2).eq ?_
  rw [if_pos (by omega)]
  show strOfNums [n / 256 ^ 1 % 256,n / 256 ^ 0 % 256]=_
  rw [show (256:Int) ^ 0=1 from rfl,show (256:Int) ^ 1=256 from rfl,show n / 256 % 256=n / 256 by omega,show n / 1 % 256=n % 256 by omega]
 refine Ev.ak g2 (Ev.ae (by rw [ek];omega) (Ev.bind hp ?_))
 rw [e 130 (⟨#[130]⟩:ByteArray) rfl]
 refine Ev.ae (by rw [ek,ek];simp;omega) ((Ev.now _).eq ?_)
 rw [lI,List.append_assoc,List.singleton_append]
theorem GV (a b:Int) (c:Bool) (n:Int) (a0:0≤a) (a1:a≤3) (b0:0≤b) (b1:b≤2097151) (h0:0≤n):Ev (fun k=>gJ.f k a b c n) (if n≤65535 then (strOfNums (di a b c++dm n),0) else (⟨#[]⟩,1)):=by
 have hm:uj.f a b c n=some (decide (n≤65535)):=by
  rw [uj.f,if_pos a0,if_pos (by omega),if_pos b0,if_pos b1,if_pos h0]
 refine Ev.congr (fun k=>by rw [gJ.f]) ?_
 refine Ev.bU hm ?_
 by_cases h1:n≤65535
 case neg =>
  rw [decide_eq_false h1,if_neg h1]
  exact Ev.ak (by simp) (Ev.now _)
 rw [decide_eq_true h1,if_pos h1]
 refine Ev.ae rfl ?_
 have key:∀ kk:Int,0≤kk→kk < 256 - 31→Ev (fun k=>gJ.j0 k kk b n) (strOfNums ((if b < 31 then [kk+b] else (kk+31) :: fB b)++dm n),0):=by
  intro kk k0 k1
  refine Ev.step (fun k=>by rw [gJ.j0]) ?_
  by_cases g:b < 31
  ·rw [show (if b < 31 then [kk+b] else (kk+31) :: fB b)=[kk+b] from if_pos g,aO (x:=kk+b) (by omega) (by omega),show (kk+b) % 256=kk+b by omega]
   exact Ev.ae g (WL [kk+b] n (by simp) h0 h1)
  ·rw [show (if b < 31 then [kk+b] else (kk+31) :: fB b)=(kk+31) :: fB b from if_neg g,aO (x:=kk+31) (by omega) (by omega),show (kk+31) % 256=kk+31 by omega]
   have hl:(fB b).length≤3:=by unfold fB;split;simp;split<;>simp
   refine Ev.ak g (Ev.bind (afm b (by omega) b1) (Ev.ae (by rw [ek,ek];simp;omega) ?_))
   rw [lI,List.singleton_append]
   exact WL _ n (by simp;omega) h0 h1
 unfold di
 cases c with
 | true =>
  refine Ev.ae rfl ?_
  rw [aO (x:=64*a) (by omega) (by omega),aO (x:=64*a+32) (by omega) (by omega)]
  exact key _ (by omega) (by omega)
 | false =>
  refine Ev.ak (by simp) ?_
  rw [aO (x:=64*a) (by omega) (by omega)]
  refine (key (64*a) (by omega) (by omega)).eq ?_
  rw [show (if (false=true) then (32:Int) else 0)=0 from rfl,Int.add_zero]
abbrev Hd:=Int × Int × Bool × Int × Int × Int
def noH (code:Int):Hd:=(0,0,false,0,0,code)
def jv (a b:Int) (c:Bool) (n:Int):List Int→Hd
 | []=>noH 5
 | y :: m=>if y=128 then noH 5 else if y > 130 then noH 4 else if y < 128 then (a,b,c,y,n+1,0)
  else if y=129 then (match m with
   | z :: _=>if z < 128 then noH 5 else (a,b,c,z,n+2,0)
   | []=>noH 5)
  else match m with
   | z :: w :: _=>if z=0 then noH 5 else (a,b,c,256*z+w,n+3,0)
   | _=>noH 5
def qL (a:Int) (c:Bool):List Int→Hd
 | []=>noH 5
 | x :: m=>if x=128 then noH 5 else if x < 128 then (if x < 31 then noH 5 else jv a x c 2 m)
  else match m with
   | []=>noH 5
   | y :: m=>if y < 128 then jv a (128*(x % 128)+y) c 3 m
    else match m with
     | []=>noH 5
     | z :: m=>if z < 128 then jv a (128*(128*(x % 128)+y % 128)+z) c 4 m else noH 5
def ko:List Int→Hd
 | []=>noH 5
 | x :: m=>if x % 32 < 31 then jv (x / 64) (x % 32) (x / 32 % 2 == 1) 1 m else qL (x / 64) (x / 32 % 2 == 1) m
theorem qX (a b:Int) (c:Bool) (n y:Int) (m:List Int):jv a b c n (y :: m)=if y=128 then noH 5 else if y > 130 then noH 4 else if y < 128 then (a,b,c,y,n+1,0)
 else if y=129 then (match m with
  | z :: _=>if z < 128 then noH 5 else (a,b,c,z,n+2,0)
  | []=>noH 5)
 else match m with
  | z :: w :: _=>if z=0 then noH 5 else (a,b,c,256*z+w,n+3,0)
  | _=>noH 5:=rfl
theorem lQ (a:Int) (c:Bool) (x:Int) (m:List Int):qL a c (x :: m)=if x=128 then noH 5 else if x < 128 then (if x < 31 then noH 5 else jv a x c 2 m)
 else match m with
  | []=>noH 5
  | y :: m=>if y < 128 then jv a (128*(x % 128)+y) c 3 m
   else match m with
    | []=>noH 5
    | z :: m=>if z < 128 then jv a (128*(128*(x % 128)+y % 128)+z) c 4 m else noH 5:=rfl
theorem drop_cons {l m:List Int} {i:Nat} {y:Int} (h:l.drop i=y :: m):i < l.length∧l.drop (i+1)=m∧∀ hi:i < l.length,l[i]=y:=by
 have hi:i < l.length:=by
  by_cases e:i < l.length
  ·exact e
  ·rw [List.drop_eq_nil_of_le (by omega)] at h;cases h
 rw [List.drop_eq_getElem_cons hi] at h
 exact ⟨hi,(List.cons.inj h).2,fun _=>(List.cons.inj h).1⟩
theorem uq {l m:List Int} (hl:aG l) {i:Nat} {y:Int} (h:l.drop i=y :: m):bt (strOfNums l) (i:Int)=y∧0≤y∧y < 256:=by
 obtain ⟨h1,_,h3⟩:=drop_cons h
 have:=hl.get i h1
 rw [je hl i h1,h3 h1]
 rw [h3 h1] at this
 exact ⟨rfl,this⟩
theorem adb:((List.range 256).all fun x=>decide (Go.bits .and .u8 (x:Int) 31=(x:Int) % 32))=true:=by kernel_rfl
theorem aip {x:Int} (h0:0≤x) (h1:x < 256):Go.bits .and .u8 x 31=x % 32:=by
 obtain ⟨n,rfl⟩:=Int.eq_ofNat_of_zero_le h0
 exact of_decide_eq_true (List.all_eq_true.1 adb n (List.mem_range.2 (by omega)))
theorem ade:((List.range 256).all fun x=>(Go.bits .and .u8 (x:Int) 32 != 0) == ((x:Int) / 32 % 2 == 1))=true:=by kernel_rfl
theorem aiq {x:Int} (h0:0≤x) (h1:x < 256):(Go.bits .and .u8 x 32 != 0)=(x / 32 % 2 == 1):=by
 obtain ⟨n,rfl⟩:=Int.eq_ofNat_of_zero_le h0
 exact eq_of_beq (List.all_eq_true.1 ade n (List.mem_range.2 (by omega)))
theorem adf:((List.range 256).all fun x=>decide (Go.bits .and .u8 (x:Int) 127=(x:Int) % 128))=true:=by kernel_rfl
theorem Ye {x:Int} (h0:0≤x) (h1:x < 256):Go.bits .and .u8 x 127=x % 128:=by
 obtain ⟨n,rfl⟩:=Int.eq_ofNat_of_zero_le h0
 exact of_decide_eq_true (List.all_eq_true.1 adf n (List.mem_range.2 (by omega)))
theorem WM (i:Nat) {x y:Int} (hx0:0≤x) (hx:x % 2 ^ i=0) (hx1:x < 4611686018427387904) (hy0:0≤y) (hy:y < 2 ^ i) (hi:i≤62):Go.bits .or .i64 x y=x+y:=by
 refine bits_join .i64 63 (by decide) (fun n h0 h1=>wrap_small n h0 (by simpa using h1)) i x y hx0 hx (by show x < 2 ^ 63;omega) hy0 hy ?_
 have:(2:Int) ^ i≤2 ^ 62:=by exact_mod_cast Nat.pow_le_pow_right (by decide) hi
 omega
theorem or7 {x y:Int} (h0:0≤x) (h1:x < 30000000) (h2:0≤y) (h3:y < 128):Go.bits .or .i64 (wrap64 (x*128)) y=128*x+y:=by
 rw [aO (x:=x*128) (by omega) (by omega),WM 7 (by omega) (by omega) (by omega) h2 h3 (by decide)]
 omega
theorem or8 {x y:Int} (h0:0≤x) (h1:x < 30000000) (h2:0≤y) (h3:y < 256):Go.bits .or .i64 (wrap64 (x*256)) y=256*x+y:=by
 rw [aO (x:=x*256) (by omega) (by omega),WM 8 (by omega) (by omega) (by omega) h2 h3 (by decide)]
 omega
theorem ru (c:Int):Ev (fun k=>bA.fH k c) (noH c):=Ev.step (f:=fun _=>some (noH c)) (fun k=>rfl) (Ev.now _)
theorem afn:bA.j1=bA.j5:=by
 funext k;cases k<;>rfl
theorem WN:bA.j8=bA.j5:=by
 funext k;cases k<;>rfl
theorem Vk (l:List Int) (hl:aG l) (hs:l.length≤140737488355328) (i:Nat) (a b:Int) (c:Bool) (d:Int) (h1:1≤d) (h2:d≤2) (hi:(i:Int)+d≤(l.length:Int)) :
 Ev (fun k=>bA.l0 k (strOfNums l) (i:Int) d 5 d 0 a b c 0) (if d=1 then (match l.drop i with
  | z :: _=>if z < 128 then noH 5 else (a,b,c,z,(i:Int)+1,0)
  | []=>noH 5) else match l.drop i with
  | z :: w :: _=>if z=0 then noH 5 else (a,b,c,256*z+w,(i:Int)+2,0)
  | _=>noH 5):=by
 have hlt:i < l.length:=by omega
 have hdr:l.drop i=l[i] :: l.drop (i+1):=List.drop_eq_getElem_cons hlt
 have hb:=hl.get i hlt
 refine Ev.step (fun k=>by rw [bA.l0]) ?_
 rw [dL]
 refine Ev.ae (by omega) (Ev.ae (by omega) (Ev.ae (by omega) ?_))
 rw [je hl i hlt,aO (x:=l[i]) (by omega) (by omega),or8 (by omega) (by omega) (by omega) (by omega),aO (x:=(i:Int)+1) (by omega) (by omega),show wrap64 (0+1)=1 by unfold wrap64;decide,hdr,show 256*0+l[i]=l[i] by omega]
 rcases (by omega:d=1∨d=2) with rfl | rfl
 ·refine Ev.step (fun k=>by rw [bA.l0]) ?_
  refine Ev.ak (by omega) ?_
  rw [show wrap64 (wrap64 (8*1) - 8)=0 by unfold wrap64;decide,show shl .i64 1 0=1 by decide,if_pos rfl]
  by_cases g:l[i] < 128
  ·by_cases g1:l[i]≥1
   ·exact Ev.ae (by decide) (Ev.ae g1 (Ev.ak (by omega) ((Ev.now _).eq (by simp only;rw [if_pos g];rfl))))
   ·exact Ev.ae (by decide) (Ev.ak g1 ((Ev.now _).eq (by simp only;rw [if_pos g];rfl)))
  ·exact Ev.ae (by decide) (Ev.ae (by omega) (Ev.ae (by omega) ((Ev.now _).eq (by simp only;rw [if_neg g]))))
 ·have hlt2:i+1 < l.length:=by omega
  have amG:l.drop (i+1)=l[i+1] :: l.drop (i+1+1):=List.drop_eq_getElem_cons hlt2
  have hb2:=hl.get (i+1) hlt2
  refine Ev.step (fun k=>by rw [bA.l0]) ?_
  rw [dL]
  refine Ev.ae (by omega) (Ev.ae (by omega) (Ev.ae (by omega) ?_))
  rw [show (i:Int)+1=((i+1:Nat):Int) by omega,je hl (i+1) hlt2,aO (x:=l[i+1]) (by omega) (by omega),or8 (by omega) (by omega) (by omega) (by omega),aO (x:=((i+1:Nat):Int)+1) (by omega) (by omega),show wrap64 (1+1)=2 by unfold wrap64;decide,amG]
  refine Ev.step (fun k=>by rw [bA.l0]) ?_
  refine Ev.ak (by omega) ?_
  rw [show wrap64 (wrap64 (8*2) - 8)=8 by unfold wrap64;decide,show shl .i64 1 8=256 by decide,if_neg (show ¬ (2:Int)=1 by decide)]
  by_cases g:l[i]=0
  ·exact Ev.ae (by decide) (Ev.ak (by omega) ((Ev.now _).eq (by simp only;rw [if_pos g];rfl)))
  ·exact Ev.ae (by decide) (Ev.ae (by omega) (Ev.ae (by omega) ((Ev.now _).eq (by simp only;rw [if_neg g,show ((i+1:Nat):Int)+1=(i:Int)+2 by omega]))))
theorem BS (l:List Int) (hl:aG l) (hs:l.length≤140737488355328) (i:Nat) (a b:Int) (c:Bool) (e:Bool) (he:e=true↔(l.length≤i∨∃ m,l.drop i=128 :: m)) :
 Ev (fun k=>bA.j5 k (strOfNums l) (i:Int) 5 e a b c 0) (jv a b c (i:Int) (l.drop i)):=by
 refine Ev.step (fun k=>by rw [bA.j5]) ?_
 cases e with
 | true =>
  refine Ev.ae rfl ((ru 5).eq ?_)
  rcases he.1 rfl with h | ⟨m,h⟩
  ·rw [List.drop_eq_nil_of_le h];rfl
  ·rw [h,qX,if_pos rfl]
 | false =>
  refine Ev.ak (by decide) ?_
  have hlt:i < l.length:=by
   by_cases h:i < l.length
   ·exact h
   ·exact absurd (he.2 (.inl (by omega))) (by decide)
  have hdr:l.drop i=l[i] :: l.drop (i+1):=List.drop_eq_getElem_cons hlt
  have hb:=hl.get i hlt
  have h128:l[i]≠128:=fun h=>absurd (he.2 (.inr ⟨_,by rw [hdr,h]⟩)) (by decide)
  rw [dL,je hl i hlt,hdr,Ye (x:=l[i]) (by omega) (by omega),aO (x:=(i:Int)+1) (by omega) (by omega),aO (x:=l[i]) (by omega) (by omega),aO (x:=l[i] % 128) (by omega) (by omega),aO (x:=(i:Int)+1+l[i] % 128) (by omega) (by omega)]
  refine Ev.ae (by omega) (Ev.ae (by omega) ?_)
  rw [qX,if_neg h128]
  by_cases g1:l[i] > 130
  ·rw [if_pos g1];exact Ev.ae g1 (ru 4)
  rw [if_neg g1]
  refine Ev.ak g1 ?_
  by_cases g2:l[i] < 128
  ·rw [if_pos g2];exact Ev.ae g2 (Ev.now _)
  rw [if_neg g2]
  refine Ev.ak g2 ?_
  rcases (by omega:l[i]=129∨l[i]=130) with h | h
  ·rw [if_pos h,h,show (129:Int) % 128=1 from rfl]
   by_cases g3:(i:Int)+1+1 > (l.length:Int)
   ·refine Ev.ae g3 ((ru 5).eq ?_)
    rw [List.drop_eq_nil_of_le (by omega)]
   ·refine Ev.ak g3 ((Vk l hl hs (i+1) a b c 1 (by omega) (by omega) (by omega)).eq ?_)
    rw [if_pos rfl,show ((i+1:Nat):Int)+1=(i:Int)+2 by omega]
  ·rw [if_neg (by omega),h,show (130:Int) % 128=2 from rfl]
   by_cases g3:(i:Int)+1+2 > (l.length:Int)
   ·refine Ev.ae g3 ((ru 5).eq ?_)
    have hlen:(l.drop (i+1)).length≤1:=by rw [List.length_drop];omega
    match l.drop (i+1),hlen with
    | [],_=>rfl
    | [z],_=>rfl
    | z :: w :: m,h=>simp at h
   ·refine Ev.ak g3 ((Vk l hl hs (i+1) a b c 2 (by omega) (by omega) (by omega)).eq ?_)
    rw [if_neg (by decide),show ((i+1:Nat):Int)+2=(i:Int)+3 by omega]
theorem JP {l:List Int} (hl:aG l) {i:Nat} (hlt:i < l.length):(bt (strOfNums l) (i:Int) == 128)=true↔(l.length≤i∨∃ m,l.drop i=128 :: m):=by
 rw [je hl i hlt,beq_iff_eq]
 constructor
 ·intro h;exact .inr ⟨_,by rw [List.drop_eq_getElem_cons hlt,h]⟩
 ·rintro (h | ⟨m,h⟩)
  ·omega
  ·exact (drop_cons h).2.2 hlt
theorem aec (l:List Int) (hl:aG l) (hs:l.length≤140737488355328) (i:Nat) (a b:Int) (c:Bool):Ev (fun k=>bA.ik k (strOfNums l) (i:Int) 5 a b c 0) (jv a b c (i:Int) (l.drop i)):=by
 refine Ev.step (fun k=>by rw [bA.ik]) ?_
 rw [dL]
 by_cases g:(i:Int)≥(l.length:Int)
 ·exact Ev.ae g (BS l hl hs i a b c true ⟨fun _=>.inl (by omega),fun _=>rfl⟩)
 ·exact Ev.ak g (Ev.ae (by omega) (Ev.ae (by omega) (BS l hl hs i a b c _ (JP hl (by omega)))))
theorem adg (J:Nat→ByteArray→Int→Int→Bool→Int→Int→Bool→Int→Option Hd) (hJ:J=bA.j5) (l:List Int) (hl:aG l) (hs:l.length≤140737488355328) (i:Nat) (hi:i≤l.length) (a b:Int) (c:Bool) :
 Ev (fun k=>if b < 31 then bA.fH k 5 else if (i:Int)≥(l.length:Int) then J k (strOfNums l) (i:Int) 5 true a b c 0 else if 0≤(i:Int) then (if (i:Int) < (l.length:Int) then J k (strOfNums l) (i:Int) 5 (bt (strOfNums l) (i:Int) == 128) a b c 0 else none) else none) (if b < 31 then noH 5 else jv a b c (i:Int) (l.drop i)):=by
 subst hJ
 refine Ev.ite (fun _=>ru 5) fun _=>?_
 by_cases g:(i:Int)≥(l.length:Int)
 ·exact Ev.ae g (BS l hl hs i a b c true ⟨fun _=>.inl (by omega),fun _=>rfl⟩)
 ·exact Ev.ak g (Ev.ae (by omega) (Ev.ae (by omega) (BS l hl hs i a b c _ (JP hl (by omega)))))
def ve (a:Int) (c:Bool) (b:Int):Nat→Int→List Int→Hd
 | 0,_,_=>noH 5
 | f+1,n,[]=>noH 5
 | f+1,n,y :: m=>if y < 128 then (if 128*b+y < 31 then noH 5 else jv a (128*b+y) c (n+1) m) else ve a c (128*b+y % 128) f (n+1) m
theorem aed (l:List Int) (hl:aG l) (hs:l.length≤140737488355328) (a:Int) (c:Bool):∀ (f i:Nat) (b:Int),f+i=4→1≤i→0≤b→b < 30000000 / 128 ^ f→(∀ (e:Bool),(e=true↔(l.length≤i∨i=4∨(i=1∧∃ m,l.drop i=128 :: m))) →
 Ev (fun k=>bA.j7 k (strOfNums l) (i:Int) ((i:Int) - 1) 5 e a b c 0) (if e=true then noH 5 else ve a c b f (i:Int) (l.drop i))):=by
 intro f
 induction f with
 | zero =>
  intro i b hf h1 b0 b1 e he
  rw [he.2 (.inr (.inl (by omega)))]
  exact Ev.step (fun k=>by rw [bA.j7]) (Ev.ae rfl (ru 5))
 | succ f ih =>
  intro i b hf h1 b0 b1 e he
  refine Ev.step (fun k=>by rw [bA.j7]) ?_
  cases e with
  | true=>exact Ev.ae rfl (ru 5)
  | false =>
   have hlt:i < l.length:=by
    by_cases h:i < l.length
    ·exact h
    ·exact absurd (he.2 (.inl (by omega))) (by decide)
   have hdr:l.drop i=l[i] :: l.drop (i+1):=List.drop_eq_getElem_cons hlt
   have hb:=hl.get i hlt
   have hp:(128:Int) ^ f≤128 ^ 3:=by
    have:f≤3:=by omega
    exact_mod_cast Nat.pow_le_pow_right (by decide) this
   have hp0:(0:Int) < 128 ^ f:=Int.pow_pos (by decide)
   have hbb:128*b+127 < 30000000 / 128 ^ f:=by
    rw [Int.pow_succ] at b1
    have h3:f=0∨f=1∨f=2:=by omega
    rcases h3 with rfl | rfl | rfl<;>simp at b1 ⊢<;>omega
   have hb3:b < 30000000:=Int.lt_of_lt_of_le b1 (Int.ediv_le_self _ (by decide))
   have e1:wrap64 (wrap64 ((i:Int)+1) - 1)=(i:Int):=by rw [aO (x:=(i:Int)+1) (by omega) (by omega),aO (by omega) (by omega)];omega
   rw [e1,dL,je hl i hlt,Ye (x:=l[i]) (by omega) (by omega),aO (x:=(i:Int)+1) (by omega) (by omega),aO (x:=l[i] % 128) (by omega) (by omega),or7 b0 (by omega) (by omega) (by omega),aO (x:=(i:Int) - 1+1) (by omega) (by omega)]
   refine Ev.ak (by decide) (Ev.ae (by omega) (Ev.ae (by omega) (Ev.ae (by omega) (Ev.ae (by omega) ?_))))
   rw [if_neg (by decide),hdr,ve]
   by_cases g:l[i]≥128
   ·rw [if_neg (by omega)]
    refine Ev.ae g (Ev.step (fun k=>by rw [bA.AB]) ?_)
    rw [dL,show (i:Int)+1=((i+1:Nat):Int) by omega,show (i:Int) - 1+1=((i+1:Nat):Int) - 1 by omega]
    have hih:=ih (i+1) (128*b+l[i] % 128) (by omega) (by omega) (by omega) (by omega)
    by_cases g1:((i+1:Nat):Int)≥(l.length:Int)
    ·refine Ev.ae g1 ((hih true ⟨fun _=>.inl (by omega),fun _=>rfl⟩).eq ?_)
     rw [if_pos rfl,List.drop_eq_nil_of_le (by omega)]
     cases f<;>rfl
    refine Ev.ak g1 ?_
    by_cases g2:i=3
    ·refine Ev.ae (by omega) ((hih true ⟨fun _=>.inr (.inl (by omega)),fun _=>rfl⟩).eq ?_)
     obtain rfl:f=0:=by omega
     rfl
    refine Ev.ak (by omega) (Ev.ak (by omega) ((hih false (Iff.intro (fun h=>by cases h) (fun h=>by omega))).eq ?_))
    rw [if_neg (by decide)]
   ·rw [if_pos (by omega)]
    refine Ev.ak g ?_
    rw [show l[i] % 128=l[i] by omega,show (i:Int)+1=((i+1:Nat):Int) by omega]
    exact adg _ WN l hl hs (i+1) (by omega) a _ c
theorem afo:bA.j0=bA.j7:=by
 funext k
 cases k with
 | zero=>rfl
 | succ k=>funext x0 x6 x7 x8 e a b c n;rw [bA.j0,bA.j7,afn,WN]
theorem afp (a:Int) (c:Bool) (l:List Int) (hl:aG l) (h:∀ m,l≠128 :: m):ve a c 0 3 1 l=qL a c l:=by
 match l,hl,h with
 | [],_,_=>rfl
 | x :: m,hl,h =>
  have hx:=hl.head
  have hx2:x≠128:=fun e=>h m (by rw [e])
  rw [ve,lQ,if_neg hx2]
  by_cases g:x < 128
  ·rw [if_pos g,if_pos g,show 128*0+x=x by omega]
   rfl
  ·rw [if_neg g,if_neg g,show 128*0+x % 128=x % 128 by omega]
   match m,hl.tail with
   | [],_=>rfl
   | y :: m,hl =>
    have hy:=hl.head
    simp only [ve]
    by_cases g2:y < 128
    ·rw [if_pos g2,if_pos g2,if_neg (by omega)]
     rfl
    ·rw [if_neg g2,if_neg g2]
     match m,hl.tail with
     | [],_=>rfl
     | z :: m,hl =>
      have hz:=hl.head
      simp only [ve]
      by_cases g3:z < 128
      ·rw [if_pos g3,if_pos g3,if_neg (by omega)]
       rfl
      ·rw [if_neg g3,if_neg g3]
theorem afq (l:List Int) (hl:aG l) (hs:l.length≤140737488355328):Ev (fun k=>bA.f k (strOfNums l)) (ko l):=by
 refine Ev.congr (fun k=>by rw [bA.f]) ?_
 match l,hl,hs with
 | [],_,_=>exact Ev.ae ((iR []).2 rfl) (ru 5)
 | x :: m,hl,hs =>
  have hx:=hl.head
  have hb:bt (strOfNums (x :: m)) 0=x:=(uq hl (i:=0) (List.drop_zero ..)).1
  refine Ev.ak (fun h=>by rw [iR] at h;cases h) ?_
  rw [dL,hb,aip hx.1 hx.2,aiq hx.1 hx.2,aO (x:=x % 32) (by omega) (by omega),aO (x:=x / 64) (by omega) (by omega)]
  refine Ev.ae (by simp only [List.length_cons];omega) ?_
  rw [ko]
  by_cases g:x % 32 < 31
  ·rw [if_pos g]
   exact Ev.ae g (aec (x :: m) hl hs 1 _ _ _)
  ·rw [if_neg g]
   refine Ev.ak g ?_
   rw [afo]
   have key:=aed (x :: m) hl hs (x / 64) (x / 32 % 2 == 1) 3 1 0 rfl (by omega) (by omega) (by decide)
   by_cases g1:(1:Int)≥((x :: m).length:Int)
   ·refine Ev.ae g1 ((key true ⟨fun _=>.inl (by omega),fun _=>rfl⟩).eq ?_)
    have:m=[]:=List.eq_nil_of_length_eq_zero (by simp at g1;omega)
    subst this
    rfl
   refine Ev.ak g1 (Ev.ae (by omega) ?_)
   have hlt:1 < (x :: m).length:=by omega
   have hq:=JP hl hlt
   refine (key (bt (strOfNums (x :: m)) (1:Int) == 128) ⟨fun h=>?_,fun h=>?_⟩).eq ?_
   ·rcases hq.1 h with h | h
    ·omega
    ·exact .inr (.inr ⟨rfl,h⟩)
   ·rcases h with h | h | h
    ·omega
    ·omega
    ·exact hq.2 (.inr h.2)
   ·show (if (bt (strOfNums (x :: m)) ((1:Nat):Int) == 128)=true then _ else _)=_
    by_cases h:(bt (strOfNums (x :: m)) ((1:Nat):Int) == 128)=true
    ·rw [if_pos h]
     obtain ⟨w,hw⟩:=(hq.1 h).resolve_left (by omega)
     have hw:m=128 :: w:=hw
     rw [hw,lQ,if_pos rfl]
    ·rw [if_neg h]
     exact afp _ _ m hl.tail fun w hw=>h (hq.2 (.inr ⟨w,hw⟩))
def F8 (a:Int) (c:Bool):List Int→Int × Int × Bool × Int × Int
 | []=>(0,0,false,0,0)
 | x :: m=>if x < 128 then (a,x,c,0,2)
  else match m with
   | []=>(0,0,false,0,0)
   | y :: m=>if y < 128 then (a,128*(x % 128)+y,c,0,3)
    else match m with
     | []=>(0,0,false,0,0)
     | z :: m=>if z < 128 then (a,128*(128*(x % 128)+y % 128)+z,c,0,4) else (0,0,false,0,0)
theorem Vl (a:Int) (c:Bool) (x:Int) (m:List Int):F8 a c (x :: m)=if x < 128 then ((a,x,c,0,2):Int × Int × Bool × Int × Int)
 else match m with
  | []=>(0,0,false,0,0)
  | y :: m=>if y < 128 then (a,128*(x % 128)+y,c,0,3)
   else match m with
    | []=>(0,0,false,0,0)
    | z :: m=>if z < 128 then (a,128*(128*(x % 128)+y % 128)+z,c,0,4) else ((0,0,false,0,0):Int × Int × Bool × Int × Int):=rfl
theorem VY (s:ByteArray) (i:Int) (h:¬ (i < (s.size:Int)∧i < 4)) (a b:Int) (c:Bool):Ev (fun k=>gU.l0 k s i a b c 0) (0,0,false,0,0):=by
 refine Ev.step (fun k=>by rw [gU.l0]) ?_
 have hj:∀ e:Bool,e=false→Ev (fun k=>gU.j1 k s i e a b c 0) (0,0,false,0,0):=fun e he=>Ev.step (fun k=>by rw [gU.j1]) (Ev.ak (by simp [he]) (Ev.now _))
 by_cases g:i < (s.size:Int)
 ·exact Ev.ae g (hj _ (decide_eq_false (fun h4=>h ⟨g,h4⟩)))
 ·exact Ev.ak g (hj _ rfl)
theorem H8 {l m:List Int} (hl:aG l) (i:Nat) (hi:i < 4) (a b:Int) (c:Bool) (b0:0≤b) (b1:b < 30000000) (x:Int) (hd:l.drop i=x :: m) {r:Int × Int × Bool × Int × Int}
 (hr:if x < 128 then r=(a,128*b+x,c,0,(i:Int)+1) else Ev (fun k=>gU.l0 k (strOfNums l) ((i:Int)+1) a (128*b+x % 128) c 0) r):Ev (fun k=>gU.l0 k (strOfNums l) (i:Int) a b c 0) r:=by
 obtain ⟨hb,x0,x1⟩:=uq hl hd
 have hlt:=(drop_cons hd).1
 refine Ev.step (fun k=>by rw [gU.l0]) ?_
 rw [dL,decide_eq_true (by omega)]
 refine Ev.ae (by omega) (Ev.step (fun k=>by rw [gU.j1]) ?_)
 rw [dL,hb,aO (x:=x) (by omega) (by omega),aO (x:=128*b) (by omega) (by omega),Int.tmod_eq_emod_of_nonneg x0,aO (x:=128*b+x % 128) (by omega) (by omega),aO (x:=(i:Int)+1) (by omega) (by omega)]
 refine Ev.ae rfl (Ev.ae (by omega) (Ev.ae (by omega) ?_))
 by_cases g:x < 128
 ·rw [if_pos g] at hr
  rw [hr]
  exact Ev.ae g ((Ev.now _).eq (by rw [show x % 128=x by omega]))
 ·rw [if_neg g] at hr
  exact Ev.ak g hr
theorem afr (l:List Int) (hl:aG l) (x:Int) (m:List Int) (h:l=x :: m) (a:Int) (c:Bool):Ev (fun k=>gU.l0 k (strOfNums l) 1 a 0 c 0) (F8 a c m):=by
 have hend:∀ (i:Nat) (b:Int),l.drop i=[]→Ev (fun k=>gU.l0 k (strOfNums l) (i:Int) a b c 0) (0,0,false,0,0):=by
  intro i b hd
  refine VY _ _ (fun hh=>?_) _ _ _
  rw [dL] at hh
  have:=congrArg List.length hd
  rw [List.length_drop,List.length_nil] at this
  omega
 have hd1:l.drop 1=m:=by rw [h];rfl
 match m,hd1 with
 | [],hd1=>exact hend 1 0 hd1
 | y :: m,hd1 =>
  have hy:=(uq hl hd1).2
  refine H8 hl 1 (by omega) a 0 c (by omega) (by omega) y hd1 ?_
  rw [Vl]
  by_cases g:y < 128
  ·rw [if_pos g,if_pos g,show 128*0+y=y by omega];rfl
  rw [if_neg g,if_neg g,show 128*0+y % 128=y % 128 by omega]
  have hd2:l.drop 2=m:=(drop_cons hd1).2.1
  match m,hd2 with
  | [],hd2=>exact hend 2 _ hd2
  | z :: m,hd2 =>
   have hz:=(uq hl hd2).2
   refine H8 hl 2 (by omega) a (y % 128) c (by omega) (by omega) z hd2 ?_
   dsimp only
   by_cases g2:z < 128
   ·rw [if_pos g2,if_pos g2];rfl
   rw [if_neg g2,if_neg g2]
   have hd3:l.drop 3=m:=(drop_cons hd2).2.1
   match m,hd3 with
   | [],hd3=>exact hend 3 _ hd3
   | w :: m,hd3 =>
    have hw:=(uq hl hd3).2
    refine H8 hl 3 (by omega) a (128*(y % 128)+z % 128) c (by omega) (by omega) w hd3 ?_
    dsimp only
    by_cases g3:w < 128
    ·rw [if_pos g3,if_pos g3];rfl
    ·rw [if_neg g3,if_neg g3]
     exact VY _ _ (fun hh=>by omega) _ _ _
theorem acu (x:Int) (m:List Int) (hl:aG (x :: m)):Ev (fun k=>gU.f k (strOfNums (x :: m))) (if x % 32 < 31 then (x / 64,x % 32,x / 32 % 2 == 1,0,1) else F8 (x / 64) (x / 32 % 2 == 1) m):=by
 have hx:=hl.head
 have hb:bt (strOfNums (x :: m)) 0=x:=(uq hl (i:=0) (List.drop_zero ..)).1
 refine Ev.congr (fun k=>by rw [gU.f]) ?_
 refine Ev.ak (fun h=>by rw [iR] at h;cases h) ?_
 rw [dL,hb,aO (x:=x) (by omega) (by omega),Int.tmod_eq_emod_of_nonneg hx.1,Int.tdiv_eq_ediv_of_nonneg hx.1,Int.tdiv_eq_ediv_of_nonneg hx.1,aO (x:=x / 64) (by omega) (by omega),aO (x:=x / 32) (by omega) (by omega),Int.tmod_eq_emod_of_nonneg (by omega)]
 refine Ev.ae (by simp only [List.length_cons];omega) (Ev.ite (fun _=>Ev.now _) fun _=>?_)
 exact afr _ hl x m rfl _ _
theorem acv (x:Int) (m:List Int) (hl:aG (x :: m)) (hx:x % 32=31):(∀ r,F8 (x / 64) (x / 32 % 2 == 1) m=r→r.2.2.2.2=0∧(∀ c,qL (x / 64) c m=noH 5) ∨
 (∃ (b:Int) (n:Nat),r=(x / 64,b,x / 32 % 2 == 1,0,(n:Int))∧2≤n∧n≤4∧n≤(x :: m).length∧0≤b∧b≤2097151 ∧
  (di (x / 64) b (x / 32 % 2 == 1)=(x :: m).take n∧(∀ c,qL (x / 64) c m=jv (x / 64) b c (n:Int) ((x :: m).drop n))∨di (x / 64) b (x / 32 % 2 == 1)≠(x :: m).take n∧∀ c,qL (x / 64) c m=noH 5))):=by
 rintro r rfl
 have hx0:=hl.head
 have JH:64*(x / 64)+(if (x / 32 % 2 == 1)=true then (32:Int) else 0)+31=x:=by
  by_cases g:x / 32 % 2=1
  ·rw [if_pos (beq_iff_eq.2 g)];omega
  ·rw [if_neg (by rw [beq_iff_eq];exact g)];omega
 have hid:∀ b:Int,di (x / 64) b (x / 32 % 2 == 1)=if b < 31 then [x - 31+b] else x :: fB b:=by
  intro b
  unfold di
  rw [JH]
  congr 1
  rw [show 64*(x / 64)+(if (x / 32 % 2 == 1)=true then (32:Int) else 0)=x - 31 by omega]
 match m,hl.tail with
 | [],_=>exact .inl ⟨rfl,fun _=>rfl⟩
 | y :: m,hm =>
  have hy:=hm.head
  rw [Vl]
  by_cases g:y < 128
  ·rw [if_pos g]
   refine .inr ⟨y,2,rfl,by omega,by omega,by simp,by omega,by omega,?_⟩
   rw [hid]
   by_cases g1:y < 31
   ·rw [if_pos g1]
    refine .inr ⟨fun h=>by simp at h,fun c=>?_⟩
    rw [lQ,if_neg (by omega),if_pos g,if_pos g1]
   ·rw [if_neg g1]
    refine .inl ⟨by rw [fB,if_pos g];rfl,fun c=>?_⟩
    rw [lQ,if_neg (by omega),if_pos g,if_neg g1]
    rfl
  rw [if_neg g]
  match m,hm.tail with
  | [],_ =>
   refine .inl ⟨rfl,fun c=>?_⟩
   rw [lQ]
   by_cases g9:y=128
   ·rw [if_pos g9]
   ·rw [if_neg g9,if_neg g]
  | z :: m,hm =>
   have hz:=hm.head
   dsimp only
   by_cases g2:z < 128
   ·rw [if_pos g2]
    refine .inr ⟨128*(y % 128)+z,3,rfl,by omega,by omega,by simp,by omega,by omega,?_⟩
    rw [hid]
    by_cases g3:y=128
    ·refine .inr ⟨fun h=>?_,fun c=>by rw [lQ,if_pos g3]⟩
     have h:=congrArg List.length h
     unfold fB at h
     rw [g3,if_pos (show 128*(128 % 128)+z < (128:Int) by omega)] at h
     split at h<;>simp at h
    ·refine .inl ⟨?_,fun c=>?_⟩
     ·rw [if_neg (by omega),fB,if_neg (by omega),if_pos (by omega),show 128+(128*(y % 128)+z) / 128=y by omega,show (128*(y % 128)+z) % 128=z by omega]
      rfl
     ·rw [lQ,if_neg g3,if_neg g]
      dsimp only
      rw [if_pos g2]
      rfl
   rw [if_neg g2]
   match m,hm.tail with
   | [],_ =>
    refine .inl ⟨rfl,fun c=>?_⟩
    rw [lQ]
    by_cases g9:y=128
    ·rw [if_pos g9]
    ·rw [if_neg g9,if_neg g]
     dsimp only
     rw [if_neg g2]
   | w :: m,hm =>
    have hw:=hm.head
    dsimp only
    by_cases g3:w < 128
    ·rw [if_pos g3]
     refine .inr ⟨128*(128*(y % 128)+z % 128)+w,4,rfl,by omega,by omega,by simp,by omega,by omega,?_⟩
     rw [hid]
     by_cases g4:y=128
     ·refine .inr ⟨fun h=>?_,fun c=>by rw [lQ,if_pos g4]⟩
      have h:=congrArg List.length h
      unfold fB at h
      rw [g4] at h
      split at h
      ·simp at h
      ·split at h
       ·simp at h
       ·rw [if_pos (by omega)] at h
        simp at h
     ·refine .inl ⟨?_,fun c=>?_⟩
      ·rw [if_neg (by omega),fB,if_neg (by omega),if_neg (by omega),show 128+(128*(128*(y % 128)+z % 128)+w) / 16384=y by omega,show 128+(128*(128*(y % 128)+z % 128)+w) / 128 % 128=z by omega,show (128*(128*(y % 128)+z % 128)+w) % 128=w by omega]
       rfl
      ·rw [lQ,if_neg g4,if_neg g]
       dsimp only
       rw [if_neg g2,if_pos g3]
       rfl
    ·rw [if_neg g3]
     refine .inl ⟨rfl,fun c=>?_⟩
     rw [lQ]
     by_cases g9:y=128
     ·rw [if_pos g9]
     ·rw [if_neg g9,if_neg g]
      dsimp only
      rw [if_neg g2,if_neg g3]
theorem aee {l p:List Int} {n:Nat} (h:p=l.take n) (hn:n≤l.length) (q:List Int) (d:Nat):p++q=l.take (n+d)↔q=(l.drop n).take d:=by
 rw [h,List.take_add]
 exact List.append_right_inj _
theorem WO (a b:Int) (c:Bool):(di a b c).length≤4:=by
 unfold di fB
 split
 ·exact Nat.le_of_ble_eq_true rfl
 ·rw [List.length_cons]
  split
  ·exact Nat.le_of_ble_eq_true rfl
  ·split<;>exact Nat.le_of_ble_eq_true rfl
theorem UW (l:List Int) (hl:aG l) (hs:l.length≤140737488355328) (n:Nat) (hn:n≤l.length) (a b:Int) (c:Bool) (a0:0≤a) (a1:a≤3) (b0:0≤b) (b1:b≤2097151) (hid:di a b c=l.take n) (e:Bool) (he:e=true↔(l.length≤n∨∃ m,l.drop n=128 :: m)) :
 Ev (fun k=>gN.j0 k (strOfNums l) (n:Int) e a b c) (jv a b c (n:Int) (l.drop n)):=by
 refine Ev.step (fun k=>by rw [gN.j0]) ?_
 cases e with
 | true =>
  refine Ev.ae rfl ((Ev.now _).eq ?_)
  rcases he.1 rfl with h | ⟨m,h⟩
  ·rw [List.drop_eq_nil_of_le h];rfl
  ·rw [h,qX,if_pos rfl];rfl
 | false =>
  refine Ev.ak (by decide) ?_
  have hlt:n < l.length:=by
   by_cases h:n < l.length
   ·exact h
   ·exact absurd (he.2 (.inl (by omega))) (by decide)
  obtain ⟨y,m,hdr⟩:∃ y m,l.drop n=y :: m:=⟨_,_,List.drop_eq_getElem_cons hlt⟩
  obtain ⟨hb,y0,y1⟩:=uq hl hdr
  have hm:l.drop (n+1)=m:=(drop_cons hdr).2.1
  have h128:y≠128:=fun h=>absurd (he.2 (.inr ⟨m,by rw [hdr,h]⟩)) (by decide)
  rw [dL,hb,hdr,qX,if_neg h128]
  refine Ev.ae (by omega) (Ev.ae (by omega) ?_)
  by_cases g1:y > 130
  ·rw [if_pos g1];exact Ev.ae g1 (Ev.now _)
  rw [if_neg g1]
  refine Ev.ak g1 ?_
  have SQ:(di a b c).length=n:=by rw [hid,List.length_take];omega
  have hn4:n≤4:=by
   rw [← SQ];exact WO a b c
  have again:∀ (v:Int) (d:Nat),0≤v→v≤65535→1≤d→(d:Int)≤3→n+d≤l.length →
   Ev (fun k=>gJ.f k a b c v) (strOfNums (di a b c++dm v),0)∧Ev (fun _=>if (strOfNums (di a b c++dm v)).toList=((strOfNums l).extract 0 ((n+d:Nat):Int).toNat).toList then some (a,b,c,v,((strOfNums (di a b c++dm v)).size:Int),(0:Int)) else some (0,0,false,0,0,5))
    (if dm v=(l.drop n).take d then (a,b,c,v,((n+d:Nat):Int),0) else noH 5):=by
   intro v d v0 v1 d1 d3 hd
   have he:=GV a b c v a0 a1 b0 b1 v0
   rw [if_pos v1] at he
   refine ⟨he,?_⟩
   have hok:aG (di a b c++dm v):=by
    refine aG.append (by rw [hid];exact hl.take n) ?_
    unfold dm
    split
    ·exact aG.one (by omega) (by omega)
    ·split
     ·exact aG.cons (by omega) (by omega) (aG.one (by omega) (by omega))
     ·exact aG.cons (by omega) (by omega) (aG.cons (by omega) (by omega) (aG.one (by omega) (by omega)))
   have heq:(strOfNums (di a b c++dm v)).toList=((strOfNums l).extract 0 ((n+d:Nat):Int).toNat).toList↔dm v=(l.drop n).take d:=by
    rw [oC,List.drop_zero,Nat.sub_zero,Int.toNat_natCast,qV hok (hl.take _)]
    exact aee hid hn _ _
   by_cases g:dm v=(l.drop n).take d
   ·rw [if_pos g]
    refine Ev.ae (heq.2 g) ((Ev.now _).eq ?_)
    rw [dL,List.length_append,SQ,g,List.length_take,List.length_drop,show n+min d (l.length - n)=n+d by omega]
   ·rw [if_neg g]
    exact Ev.ak (fun h=>g (heq.1 h)) (Ev.now _)
  by_cases g2:y > 128
  ·
   refine Ev.ae g2 (Ev.step (fun k=>by rw [gN.j1]) ?_)
   rw [hb,aO (x:=y) (by omega) (by omega),aO (x:=y - 128) (by omega) (by omega),aO (x:=(n:Int)+1) (by omega) (by omega),aO (x:=(n:Int)+1+(y - 128)) (by omega) (by omega),if_neg (by omega)]
   obtain ⟨d,hd,d1,d2⟩:∃ d:Nat,y - 128=(d:Int)∧1≤d∧d≤2:=⟨(y - 128).toNat,by omega,by omega,by omega⟩
   rw [hd,dL]
   by_cases g3:(n:Int)+1+(d:Int) > (l.length:Int)
   ·refine Ev.ae g3 ((Ev.now _).eq ?_)
    have hlen:m.length < d:=by rw [← hm,List.length_drop];omega
    match m,hlen with
    | [],_=>split<;>rfl
    | [z],h =>
     rw [if_neg (by simp at h;omega)]
     rfl
    | z :: w :: m,h=>simp at h;omega
   refine Ev.ak g3 (Ev.ae (by omega) (Ev.ae (by omega) (Ev.ae (by omega) (Ev.ae (by omega) (Ev.ae (by omega) (Ev.ae (by omega) ?_))))))
   have vE:d≤m.length:=by rw [← hm,List.length_drop];omega
   rw [show ((n:Int)+1).toNat=n+1 by omega,show ((n:Int)+1+(d:Int)).toNat=n+1+d by omega,oC,hm,show n+1+d - (n+1)=d by omega]
   have hmo:aG m:=by rw [← hm];exact hl.drop _
   refine Ev.bind (aa1 (m.take d) (hmo.take d) (by rw [List.length_take];omega) (by rw [List.length_take];omega)) ?_
   have hg:=VW (m.take d) (hmo.take d) (by rw [List.length_take];omega)
   rw [aO (x:=(iX (m.take d),true).1) (by show -9223372036854775808≤iX (m.take d);omega) (by show iX (m.take d)≤_;omega)]
   dsimp only
   have hcast:(n:Int)+1+(d:Int)=((n+(d+1):Nat):Int):=by omega
   rw [hcast]
   rcases (by omega:d=1∨d=2) with rfl | rfl
   ·match m,vE,hmo with
    | z :: m,_,hmo =>
     have hz:=hmo.head
     have hget:iX ((z :: m).take 1)=z:=by simp [iX]
     rw [hget]
     have ag:=again z 2 (by omega) (by omega) (by omega) (by omega) (by omega)
     refine Ev.bind ag.1 (Ev.ae (by omega) (ag.2.eq ?_))
     rw [if_pos (show y=129 by omega),hdr]
     show (if dm z=[y,z] then _ else _)=if z < 128 then noH 5 else (a,b,c,z,(n:Int)+2,0)
     by_cases g4:z < 128
     ·rw [if_pos g4,rY g4,if_neg (by simp)]
     ·rw [if_neg g4,zO g4 (by omega),if_pos (by rw [show y=129 by omega])]
      rfl
   ·match m,vE,hmo with
    | z :: w :: m,_,hmo =>
     have hz:=hmo.head
     have hw:=hmo.tail.head
     have hget:iX ((z :: w :: m).take 2)=256*z+w:=by simp [iX];omega
     rw [hget]
     have ag:=again (256*z+w) 3 (by omega) (by omega) (by omega) (by omega) (by omega)
     refine Ev.bind ag.1 (Ev.ae (by omega) (ag.2.eq ?_))
     rw [if_neg (show ¬ y=129 by omega),hdr]
     show (if dm (256*z+w)=[y,z,w] then _ else _)=if z=0 then noH 5 else (a,b,c,256*z+w,(n:Int)+3,0)
     by_cases g4:z=0
     ·rw [if_pos g4,if_neg]
      intro h
      have h:=congrArg List.length h
      unfold dm at h
      rw [g4] at h
      split at h
      ·simp at h
      ·rw [if_pos (by omega)] at h
       simp at h
     ·rw [if_neg g4,zP (by omega) (by omega),if_pos (by rw [show y=130 by omega,show (256*z+w) / 256=z by omega,show (256*z+w) % 256=w by omega])]
      rfl
    | [z],h,_=>simp at h
  ·
   refine Ev.ak g2 (Ev.step (fun k=>by rw [gN.j1]) ?_)
   rw [hb,aO (x:=y) (by omega) (by omega),aO (x:=(n:Int)+1) (by omega) (by omega),aO (x:=(n:Int)+1+0) (by omega) (by omega),dL,if_pos (show y < 128 by omega)]
   refine Ev.ak (by omega) (Ev.ae (by omega) (Ev.ae (by omega) (Ev.ak (by omega) ?_)))
   rw [show (n:Int)+1+0=((n+1:Nat):Int) by omega]
   have ag:=again y 1 (by omega) (by omega) (by omega) (by omega) (by omega)
   refine Ev.bind ag.1 (Ev.ae (by omega) (Ev.ae (by omega) (ag.2.eq ?_)))
   rw [hdr]
   show (if dm y=[y] then _ else _)=_
   rw [rY (by omega),if_pos rfl]
   rfl
theorem abr (l:List Int) (hl:aG l) (hs:l.length≤140737488355328):Ev (fun k=>gN.f k (strOfNums l)) (ko l):=by
 refine Ev.congr (fun k=>by rw [gN.f]) ?_
 match l,hl,hs with
 | [],_,_ =>
  refine Ev.bind (a:=(0,0,false,0,0)) (Ev.congr (fun k=>by rw [gU.f]) (Ev.ae ((iR []).2 rfl) (Ev.now _))) (Ev.ae rfl (Ev.now _))
 | x :: m,hl,hs =>
  have hx:=hl.head
  refine Ev.bind (acu x m hl) ?_
  have key:∀ (a b:Int) (c:Bool) (n:Nat),1≤n→n≤(x :: m).length→0≤a→a≤3→0≤b→b≤2097151→∀ R,(di a b c=(x :: m).take n∧R=jv a b c (n:Int) ((x :: m).drop n)∨di a b c≠(x :: m).take n∧R=noH 5) →
   Ev (fun k=>if ((a,b,c,0,(n:Int)):Int × Int × Bool × Int × Int).2.2.2.2=0 then some (0,0,false,0,0,5) else (gJ.f k a b c 0).bind fun Bf=>if 0≤wrap64 ((Bf.1.size:Int) - 1) then (if wrap64 ((Bf.1.size:Int) - 1)≤(Bf.1.size:Int) then (if 0≤(n:Int) then (if (n:Int)≤((strOfNums (x :: m)).size:Int) then (if (Bf.1.extract 0 (wrap64 ((Bf.1.size:Int) - 1)).toNat).toList=((strOfNums (x :: m)).extract 0 (n:Int).toNat).toList then (if (n:Int)=((strOfNums (x :: m)).size:Int) then gN.j0 k (strOfNums (x :: m)) (n:Int) true a b c else if (n:Int) < ((strOfNums (x :: m)).size:Int) then gN.j0 k (strOfNums (x :: m)) (n:Int) (bt (strOfNums (x :: m)) (n:Int) == 128) a b c else none) else gN.j0 k (strOfNums (x :: m)) (n:Int) true a b c) else none) else none) else none) else none) R:=by
   intro a b c n n1 n2 a0 a1 b0 b1 R hR
   refine Ev.ak (by show ¬ (n:Int)=0;omega) ?_
   have he:=GV a b c 0 a0 a1 b0 b1 (by omega)
   rw [if_pos (by decide)] at he
   refine Ev.bind he ?_
   have hlen:((di a b c++dm 0).length:Int)=((di a b c).length:Int)+1:=by rw [List.length_append,rY (by decide)];simp
   have SQ:=WO a b c
   dsimp only
   rw [dL,dL,hlen,aO (by omega) (by omega),show ((di a b c).length:Int)+1 - 1=((di a b c).length:Int) by omega]
   refine Ev.ae (by omega) (Ev.ae (by omega) (Ev.ae (by omega) (Ev.ae (by omega) ?_)))
   rw [oC,oC,List.drop_zero,List.drop_zero,Nat.sub_zero,Nat.sub_zero,Int.toNat_natCast,Int.toNat_natCast,List.take_left]
   have amH:aG (di a b c):=by
    unfold di
    have hk:0≤64*a+(if c=true then (32:Int) else 0)∧64*a+(if c=true then (32:Int) else 0)≤224:=by split<;>omega
    split
    ·exact aG.one (by omega) (by omega)
    ·refine aG.cons (by omega) (by omega) ?_
     unfold fB
     split
     ·exact aG.one (by omega) (by omega)
     ·split
      ·exact aG.cons (by omega) (by omega) (aG.one (by omega) (by omega))
      ·exact aG.cons (by omega) (by omega) (aG.cons (by omega) (by omega) (aG.one (by omega) (by omega)))
   have heq:=qV amH (hl.take n)
   have hbad:Ev (fun k=>gN.j0 k (strOfNums (x :: m)) (n:Int) true a b c) (noH 5):=Ev.step (f:=fun _=>some (noH 5)) (fun k=>by rw [gN.j0,if_pos rfl];rfl) (Ev.now _)
   rcases hR with ⟨hid,rfl⟩ | ⟨hid,rfl⟩
   ·refine Ev.ae (heq.2 hid) ?_
    by_cases g:(n:Int)=((x :: m).length:Int)
    ·exact Ev.ae g (UW _ hl hs n n2 a b c a0 a1 b0 b1 hid true ⟨fun _=>.inl (by omega),fun _=>rfl⟩)
    ·refine Ev.ak g (Ev.ae (by omega) (UW _ hl hs n n2 a b c a0 a1 b0 b1 hid _ ?_))
     have hlt:n < (x :: m).length:=by omega
     rw [je hl n hlt,beq_iff_eq]
     constructor
     ·intro h;exact .inr ⟨_,by rw [List.drop_eq_getElem_cons hlt,h]⟩
     ·rintro (h | ⟨w,h⟩)
      ·omega
      ·exact (drop_cons h).2.2 hlt
   ·exact Ev.ak (fun h=>hid (heq.1 h)) hbad
  rw [ko]
  by_cases g:x % 32 < 31
  ·rw [if_pos g,if_pos g]
   refine key (x / 64) (x % 32) (x / 32 % 2 == 1) 1 (by omega) (by simp) (by omega) (by omega) (by omega) (by omega) _ (.inl ⟨?_,rfl⟩)
   unfold di
   rw [if_pos g]
   by_cases h:x / 32 % 2=1
   ·rw [if_pos (beq_iff_eq.2 h),show 64*(x / 64)+32+x % 32=x by omega];rfl
   ·rw [if_neg (by rw [beq_iff_eq];exact h),show 64*(x / 64)+0+x % 32=x by omega];rfl
  ·rw [if_neg g,if_neg g]
   rcases acv x m hl (by omega) _ rfl with ⟨h1,h2⟩ | ⟨b,n,h1,n2,n4,hn,b0,b1,h2⟩
   ·rw [h2]
    exact Ev.ae h1 (Ev.now _)
   ·rw [h1]
    refine key (x / 64) b (x / 32 % 2 == 1) n (by omega) hn (by omega) (by omega) b0 b1 _ ?_
    rcases h2 with ⟨h3,h4⟩ | ⟨h3,h4⟩
    ·exact .inl ⟨h3,h4 _⟩
    ·exact .inr ⟨h3,h4 _⟩
def nO:List Int→Bool
 | []=>false
 | [_]=>true
 | x :: y :: _=>!(decide (x=0) && decide (y < 128)) && !(decide (x=255) && decide (128≤y))
theorem GI (x y:Int) (r:List Int):nO (x :: y :: r)=(!(decide (x=0) && decide (y < 128)) && !(decide (x=255) && decide (128≤y))):=rfl
theorem acw (i:Nat) {x y:Int} (hx0:0≤x) (hx:x % 2 ^ i=0) (hx1:x < 9223372036854775808) (hy0:0≤y) (hy:y < 2 ^ i) (hi:i≤63):Go.bits .or .i64 x y=x+y:=by
 refine bits_join .i64 63 (by decide) (fun n h0 h1=>by rw [IntKind.wrap_i64];omega) i x y hx0 hx (by simpa using hx1) hy0 hy ?_
 have:(2:Int) ^ i≤2 ^ 63:=by exact_mod_cast Nat.pow_le_pow_right (by decide) hi
 omega
theorem BK (l:List Int) (hl:aG l):oD.f (strOfNums l)=some (nO l):=by
 unfold oD.f
 rw [dL]
 match l,hl with
 | [],_=>rw [if_pos ((iR []).2 rfl)];rfl
 | [x],_=>rw [if_neg (by rw [iR];simp),if_pos (by simp)];rfl
 | x :: y :: r,hl =>
  have h0:=hl.head
  have h1:=hl.tail.head
  have e0:bt (strOfNums (x :: y :: r)) 0=x:=je hl 0 (by simp)
  have e1:bt (strOfNums (x :: y :: r)) 1=y:=je hl 1 (by simp)
  rw [e0,e1,if_neg (by rw [iR];simp),if_neg (by simp;omega),if_pos (by simp;omega),if_pos (by simp;omega),aO (x:=x) (by omega) (by omega),aO (by omega) (by omega),aO (by omega) (by omega),acw 1 (by omega) (by omega) (by omega) (by omega) (by omega) (by decide)]
  rw [GI]
  by_cases c:x*2+y / 128=0
  ·rw [if_pos c,decide_eq_true (by omega:x=0),decide_eq_true (by omega:y < 128)];rfl
  ·rw [if_neg c]
   congr 1
   have h3:(decide (x=0) && decide (y < 128))=false:=by
    rw [← Bool.not_eq_true,Bool.and_eq_true,decide_eq_true_iff,decide_eq_true_iff];omega
   rw [h3]
   by_cases d:x*2+y / 128=511
   ·rw [d,decide_eq_true (by omega:x=255),decide_eq_true (by omega:128≤y)];rfl
   ·have h4:(decide (x=255) && decide (128≤y))=false:=by
     rw [← Bool.not_eq_true,Bool.and_eq_true,decide_eq_true_iff,decide_eq_true_iff];omega
    rw [h4]
    simpa using d
theorem aef {l:List Int} (h:nO l=true):l≠[]:=by
 rintro rfl
 cases h
theorem aaT (l:List Int) (hl:aG l):tV.f (strOfNums l)=some (nO l):=by
 unfold tV.f
 rw [dL]
 match l,hl with
 | [],_=>rw [if_pos ((iR []).2 rfl)];rfl
 | [x],_=>rw [if_neg (by rw [iR];simp),if_pos (by simp)];rfl
 | x :: y :: r,hl =>
  have h0:=hl.head
  have h1:=hl.tail.head
  have e0:bt (strOfNums (x :: y :: r)) 0=x:=je hl 0 (by simp)
  have e1:bt (strOfNums (x :: y :: r)) 1=y:=je hl 1 (by simp)
  rw [e0,e1,if_neg (by rw [iR];simp),if_neg (by simp;omega),if_pos (by simp;omega)]
  rw [GI]
  by_cases hx:x=0
  ·rw [if_pos hx,if_pos (by simp;omega),decide_eq_true hx,decide_eq_false (by omega:¬ x=255)]
   by_cases hy:y < 128
   ·rw [if_pos hy,decide_eq_true hy];rfl
   ·rw [if_neg hy,if_neg (by omega),decide_eq_false hy];rfl
  ·rw [if_neg hx,decide_eq_false hx]
   by_cases hx2:x=255
   ·rw [if_pos hx2,if_pos (by simp;omega),decide_eq_true hx2]
    by_cases hy:y < 128
    ·rw [decide_eq_true hy,decide_eq_false (by omega:¬ 128≤y)];rfl
    ·rw [decide_eq_false hy,decide_eq_true (by omega:128≤y)];rfl
   ·rw [if_neg hx2,decide_eq_false hx2];rfl
def sg (x:Int):Int:=(x+128) % 256 - 128
theorem Mm {x:Int} (h0:0≤x) (h1:x < 256) : -128≤sg x∧sg x < 128:=by unfold sg;omega
def iI (l:List Int):Int:=l.tail.foldl (fun n b=>n*256+b) (sg (l.headD 0))
theorem H9 (l:List Int) (x:Int) (h:l≠[]):iI (l++[x])=iI l*256+x:=by
 cases l with
 | nil=>exact absurd rfl h
 | cons a r=>simp [iI]
theorem WQ {l:List Int} (i:Nat) (h1:1≤i) (h:i≤l.length):l.take i≠[]:=by
 intro e
 have:=congrArg List.length e
 rw [List.length_take,List.length_nil] at this
 omega
theorem adh {l:List Int} (i:Nat) (h1:1≤i) (h:i < l.length):iI (l.take (i+1))=iI (l.take i)*256+l[i]:=by
 rw [List.take_succ_eq_append_getElem h,H9 _ _ (WQ i h1 (by omega))]
theorem WR (n:Nat):∀ l:List Int,aG l→l≠[]→l.length≤n+1→-(128*256 ^ n)≤iI l∧iI l < 128*256 ^ n:=by
 induction n with
 | zero =>
  intro l hl h0 hn
  match l,hl,h0,hn with
  | [x],hl,_,_ =>
   have h1:=hl.head
   have h2:=Mm h1.1 h1.2
   rw [show iI [x]=sg x from rfl,Int.pow_zero]
   omega
  | _ :: _ :: _,_,_,hn=>simp at hn
 | succ n ih =>
  intro l hl h0 hn
  have hp:(0:Int) < 256 ^ n:=Int.pow_pos (by decide)
  obtain ⟨m,x,rfl⟩:∃ m x,l=m++[x]:=⟨l.dropLast,l.getLast h0,(List.dropLast_concat_getLast h0).symm⟩
  have h2:=hl x (by simp)
  rw [Int.pow_succ]
  by_cases hm:m=[]
  ·subst hm
   have h3:=Mm h2.1 h2.2
   rw [List.nil_append,show iI [x]=sg x from rfl]
   omega
  ·have h1:=ih m (fun y hy=>hl y (List.mem_append_left _ hy)) hm (by simp at hn;omega)
   rw [H9 _ _ hm]
   omega
theorem agf {x y:Int} (hx:x % 256=0) (hx0 : -9223372036854775808≤x) (hx1:x≤9223372036854775807) (hy0:0≤y) (hy:y < 256):Go.bits .or .i64 x y=x+y:=by
 obtain ⟨b,rfl⟩:=Int.eq_ofNat_of_zero_le hy0
 obtain ⟨a,ha⟩:=Int.eq_ofNat_of_zero_le (show 0≤x % 18446744073709551616 by omega)
 have e1:(BitVec.ofInt IntKind.i64.bits x).toNat=a:=by
  rw [BitVec.toNat_ofInt]
  show (x % ((2 ^ 64:Nat):Int)).toNat=a
  rw [show ((2 ^ 64:Nat):Int)=18446744073709551616 by rfl,ha,Int.toNat_natCast]
 have e2:(BitVec.ofInt IntKind.i64.bits (b:Int)).toNat=b:=by
  rw [BitVec.ofInt_natCast,BitVec.toNat_ofNat]
  exact Nat.mod_eq_of_lt (by show b < 2 ^ 64;omega)
 have e3:a ||| b=a+b:=by
  have hd:a % 256=0:=by omega
  have hq:a=2 ^ 8*(a / 2 ^ 8):=by
   have:=Nat.div_add_mod a 256
   omega
  rw [hq,← Nat.two_pow_add_eq_or_of_lt (show b < 2 ^ 8 by omega) (a / 2 ^ 8)]
 unfold bits
 simp only [BitVec.toNat_or,e1,e2,e3]
 rw [IntKind.wrap_i64]
 omega
theorem air {x:Int} (h0:0≤x) (h1:x < 256):IntKind.i8.wrap x=sg x:=by
 unfold sg
 simp [IntKind.wrap,IntKind.bits,IntKind.signed]
 split<;>omega
theorem aeg {l:List Int} (h:0 < l.length):iI (l.take 1)=sg l[0]:=by
 cases l with
 | nil=>simp at h
 | cons x r=>rfl
theorem aaE (l:List Int) (hl:aG l) (h8:l.length≤8) (d:Nat):∀ i:Nat,1≤i→i≤l.length→l.length - i=d →
 Ev (fun k=>iT.l0 k (strOfNums l) (iI (l.take i)) (i:Int)) (iI l,true):=by
 induction d with
 | zero =>
  intro i h1 hi hd
  obtain rfl:i=l.length:=by omega
  refine Ev.step (fun k=>by rw [iT.l0]) ?_
  rw [dL,List.take_length]
  exact Ev.ak (by omega) (Ev.now _)
 | succ d ih =>
  intro i h1 hi hd
  have hlt:i < l.length:=by omega
  have hb:=hl.get i hlt
  have hg:=WR 6 (l.take i) (hl.take i) (WQ i h1 (by omega)) (by rw [List.length_take];omega)
  refine Ev.step (fun k=>by rw [iT.l0]) ?_
  rw [dL,je hl i hlt,aO (x:=l[i]) (by omega) (by omega),aO (x:=iI (l.take i)*256) (by omega) (by omega),aO (by omega) (by omega),agf (by omega) (by omega) (by omega) (by omega) (by omega),← adh i h1 hlt]
  exact Ev.ae (by omega) (Ev.ae (by omega) (ih (i+1) (by omega) (by omega) (by omega)))
def sO (l:List Int):Int × Bool:=if l.length≤8∧nO l=true then (iI l,true) else (0,false)
theorem acx {l:List Int} (h:nO l=true):0 < l.length:=by
 cases l with
 | nil=>simp [nO] at h
 | cons _ _=>simp
theorem aaI (l:List Int) (hl:aG l):Ev (fun k=>iT.f k (strOfNums l)) (sO l):=by
 have no:Ev (fun k=>iT.j0 k (strOfNums l) true) (0,false):=by
  refine Ev.step (fun k=>by rw [iT.j0]) ?_
  exact Ev.ae rfl (Ev.now _)
 unfold iT.f sO
 rw [dL]
 by_cases h8:l.length≤8
 ·refine Ev.ak (by omega) (Ev.bU (BK l hl) ?_)
  by_cases hr:nO l=true
  ·rw [if_pos ⟨h8,hr⟩,hr]
   have hp:=acx hr
   refine Ev.step (fun k=>by rw [iT.j0]) ?_
   rw [dL]
   refine Ev.ak (by decide) (Ev.ae (by omega) ?_)
   have h0:=hl.get 0 hp
   have hs:=Mm h0.1 h0.2
   have e0:bt (strOfNums l) 0=l[0]:=je hl 0 hp
   rw [e0,air h0.1 h0.2,aO (by omega) (by omega),← aeg hp]
   exact aaE l hl h8 _ 1 (by omega) (by omega) rfl
  ·rw [if_neg (fun h=>hr h.2)]
   rw [Bool.not_eq_true] at hr
   rw [hr]
   exact no
 ·rw [if_neg (fun h=>h8 h.1)]
  exact Ev.ae (by omega) no
def fits (n:Int) (w:Nat):Prop:=-(128*256 ^ (w - 1))≤n∧n < 128*256 ^ (w - 1)
instance (n:Int) (w:Nat):Decidable (fits n w):=by unfold fits;infer_instance
def wid (n:Int):Nat:=if fits n 1 then 1 else if fits n 2 then 2 else if fits n 3 then 3 else if fits n 4 then 4 else if fits n 5 then 5 else if fits n 6 then 6 else if fits n 7 then 7 else 8
theorem adi (n:Int) (w:Nat) (hw:w≤8):eO (n % 18446744073709551616) w=eO n w:=by
 have:w=0∨w=1∨w=2∨w=3∨w=4∨w=5∨w=6∨w=7∨w=8:=by omega
 rcases this with rfl | rfl | rfl | rfl | rfl | rfl | rfl | rfl | rfl<;>simp only [eO,List.cons.injEq,and_true,Int.reducePow]<;>omega
theorem adj {a b:Nat} (h:a≤b):(256:Int) ^ a≤256 ^ b:=by
 have h2:=Nat.pow_le_pow_right (n:=256) (by decide) h
 have h3:((256 ^ a:Nat):Int)≤((256 ^ b:Nat):Int):=Int.ofNat_le.2 h2
 rw [Int.natCast_pow,Int.natCast_pow] at h3
 exact h3
theorem WS (n:Int) (w v:Nat) (hw:w≤v) (h:fits n w):fits n v:=by
 unfold fits at h ⊢
 have:=adj (show w - 1≤v - 1 by omega)
 omega
theorem JQ (n:Int) (w:Nat) (h1:1≤w) (h8:w≤8) (hf:fits n w∨w=8) (hn:w=1∨¬ fits n (w - 1)):wid n=w:=by
 have no:∀ v,v < w→1≤v→¬ fits n v:=by
  intro v hv hv1 sP
  rcases hn with rfl | hn
  ·omega
  ·exact hn (WS n v (w - 1) (by omega) sP)
 have:w=1∨w=2∨w=3∨w=4∨w=5∨w=6∨w=7∨w=8:=by omega
 unfold wid
 rcases this with rfl | rfl | rfl | rfl | rfl | rfl | rfl | rfl
 ·rw [if_pos (hf.resolve_right (by decide))]
 ·rw [if_neg (no 1 (by decide) (by decide)),if_pos (hf.resolve_right (by decide))]
 ·rw [if_neg (no 1 (by decide) (by decide)),if_neg (no 2 (by decide) (by decide)),if_pos (hf.resolve_right (by decide))]
 ·rw [if_neg (no 1 (by decide) (by decide)),if_neg (no 2 (by decide) (by decide)),if_neg (no 3 (by decide) (by decide)),if_pos (hf.resolve_right (by decide))]
 ·rw [if_neg (no 1 (by decide) (by decide)),if_neg (no 2 (by decide) (by decide)),if_neg (no 3 (by decide) (by decide)),if_neg (no 4 (by decide) (by decide)),if_pos (hf.resolve_right (by decide))]
 ·rw [if_neg (no 1 (by decide) (by decide)),if_neg (no 2 (by decide) (by decide)),if_neg (no 3 (by decide) (by decide)),if_neg (no 4 (by decide) (by decide)),if_neg (no 5 (by decide) (by decide)),if_pos (hf.resolve_right (by decide))]
 ·rw [if_neg (no 1 (by decide) (by decide)),if_neg (no 2 (by decide) (by decide)),if_neg (no 3 (by decide) (by decide)),if_neg (no 4 (by decide) (by decide)),if_neg (no 5 (by decide) (by decide)),if_neg (no 6 (by decide) (by decide)),if_pos (hf.resolve_right (by decide))]
 ·rw [if_neg (no 1 (by decide) (by decide)),if_neg (no 2 (by decide) (by decide)),if_neg (no 3 (by decide) (by decide)),if_neg (no 4 (by decide) (by decide)),if_neg (no 5 (by decide) (by decide)),if_neg (no 6 (by decide) (by decide)),if_neg (no 7 (by decide) (by decide))]
theorem UX (n:Int) (w:Nat) (h1:2≤w) (h8:w≤8) (hf:fits n w):nO (eO n w) = !decide (fits n (w - 1)):=by
 have key:∀ (x y:Int) (r:List Int) (p:Prop) [Decidable p],((x=0∧y < 128∨x=255∧128≤y)↔p)→nO (x :: y :: r) = !decide p:=by
  intro x y r p _ h
  rw [GI]
  by_cases hp:p
  ·rw [decide_eq_true hp]
   rcases h.2 hp with ⟨h1,h2⟩ | ⟨h1,h2⟩
   ·rw [decide_eq_true h1,decide_eq_true h2];rfl
   ·rw [decide_eq_true h1,decide_eq_true h2];simp
  ·rw [decide_eq_false hp]
   have h2:¬ (x=0∧y < 128):=fun q=>hp (h.1 (.inl q))
   have h3:¬ (x=255∧128≤y):=fun q=>hp (h.1 (.inr q))
   have e2:(decide (x=0) && decide (y < 128))=false:=by rw [← Bool.not_eq_true,Bool.and_eq_true,decide_eq_true_iff,decide_eq_true_iff];exact h2
   have e3:(decide (x=255) && decide (128≤y))=false:=by rw [← Bool.not_eq_true,Bool.and_eq_true,decide_eq_true_iff,decide_eq_true_iff];exact h3
   rw [e2,e3];rfl
 have:w=2∨w=3∨w=4∨w=5∨w=6∨w=7∨w=8:=by omega
 rcases this with rfl | rfl | rfl | rfl | rfl | rfl | rfl<;>simp only [eO]<;>refine key _ _ _ _ ?_<;>simp only [fits,Nat.reduceSub,Int.reducePow,Int.reduceMul,Int.reduceNeg] at hf ⊢<;>omega
theorem aaF (n:Int) (w:Nat):1≤w→w≤8→fits n w→Ev (fun k=>lH.l0 k (strOfNums (eO n w))) (strOfNums (eO n (wid n))):=by
 induction w with
 | zero=>intro h;omega
 | succ w ih =>
  intro h1 h8 hf
  refine Ev.step (fun k=>by rw [lH.l0]) ?_
  rw [dL,ek,GU]
  by_cases hw:w=0
  ·subst hw
   rw [JQ n 1 (by omega) (by omega) (.inl hf) (.inl rfl)]
   exact Ev.ak (by omega) (Ev.now _)
  ·refine Ev.ae (by omega) (Ev.bU (BK _ (vW n _)) ?_)
   rw [UX n (w+1) (by omega) h8 hf]
   by_cases hg:fits n (w+1 - 1)
   ·rw [decide_eq_true hg]
    refine Ev.ak (by decide) (Ev.ae (by omega) ?_)
    rw [oC]
    simp only [eO,List.drop_succ_cons,List.drop_zero,Nat.add_sub_cancel]
    rw [List.take_of_length_le (by rw [GU];omega)]
    exact ih (by omega) (by omega) hg
   ·rw [decide_eq_false hg,JQ n (w+1) (by omega) h8 (.inl hf) (.inr hg)]
    exact Ev.ae rfl (Ev.now _)
theorem ais {n:Int} (h0 : -9223372036854775808≤n) (h1:n≤9223372036854775807):fits n 8:=by
 unfold fits
 simp only [Nat.reduceSub,Int.reducePow,Int.reduceMul,Int.reduceNeg]
 omega
theorem aaJ (n:Int) (h0 : -9223372036854775808≤n) (h1:n≤9223372036854775807):Ev (fun k=>lH.f k n) (strOfNums (eO n (wid n))):=by
 unfold lH.f
 refine Ev.bU (aa2 _ 8) ?_
 rw [if_pos (by decide),ad5,show (8:Int).toNat=8 by rfl,adi n 8 (by decide)]
 exact aaF n 8 (by decide) (by decide) (ais h0 h1)
theorem adk (v x:Int) (h0:0≤x) (h1:x < 256) (w:Nat):eO (v*256+x) (w+1)=eO v w++[x]:=by
 induction w with
 | zero=>simp only [eO,Int.pow_zero,Int.ediv_one,List.nil_append,List.cons.injEq,and_true];omega
 | succ w ih =>
  have e:(v*256+x) / 256 ^ (w+1)=v / 256 ^ w:=by
   rw [Int.pow_succ,Int.mul_comm (256 ^ w) 256,← Int.ediv_ediv_of_nonneg (by decide)]
   congr 1
   omega
  rw [eO,ih,e,eO,List.cons_append]
theorem adl (n:Nat):∀ l:List Int,aG l→l≠[]→l.length=n+1→eO (iI l) (n+1)=l:=by
 induction n with
 | zero =>
  intro l hl h0 hn
  match l,hl,h0,hn with
  | [x],hl,_,_ =>
   have h1:=hl.head
   rw [show iI [x]=sg x from rfl]
   simp only [eO,Int.pow_zero,Int.ediv_one,List.cons.injEq,and_true,sg]
   omega
  | _ :: _ :: _,_,_,hn=>simp at hn
 | succ n ih =>
  intro l hl h0 hn
  obtain ⟨m,x,rfl⟩:∃ m x,l=m++[x]:=⟨l.dropLast,l.getLast h0,(List.dropLast_concat_getLast h0).symm⟩
  have h2:=hl x (by simp)
  have hm:m≠[]:=by rintro rfl;simp at hn
  rw [H9 _ _ hm,adk _ _ h2.1 h2.2,ih m (fun y hy=>hl y (List.mem_append_left _ hy)) hm (by simp at hn;omega)]
theorem afs (l:List Int) (hl:aG l) (h8:l.length≤8) (hr:nO l=true):eO (iI l) (wid (iI l))=l∧-9223372036854775808≤iI l∧iI l≤9223372036854775807:=by
 have h0:=aef hr
 have hp:=List.length_pos_iff.2 h0
 obtain ⟨n,hn⟩:∃ n,l.length=n+1:=⟨l.length - 1,by omega⟩
 have hlow:=adl n l hl h0 hn
 have hbd:=WR n l hl h0 (by omega)
 have hf:fits (iI l) (n+1):=hbd
 have hfull:=WS _ _ 8 (by omega) hf
 unfold fits at hfull
 simp only [Nat.reduceSub,Int.reducePow,Int.reduceMul,Int.reduceNeg] at hfull
 refine ⟨?_,by omega,by omega⟩
 have hw:n+1=1∨¬ fits (iI l) (n+1 - 1):=by
  by_cases hn0:n=0
  ·exact .inl (by omega)
  ·refine .inr (fun hg=>?_)
   have:=UX (iI l) (n+1) (by omega) (by omega) hf
   rw [hlow,hr,decide_eq_true hg] at this
   cases this
 rw [JQ (iI l) (n+1) (by omega) (by omega) (.inl hf) hw]
 exact hlow
def qE (x:Int):Bool:=decide (0≤x∧x≤2147483647)
def fU:List Int→Bool
 | a :: b :: r=>decide (r.length≤18) && (decide (0≤a∧a≤2) && (decide (0≤b∧b≤if a < 2 then 39 else 2147483567) && r.all qE))
 | _=>false
theorem aaU (l:List Int) (h2:2≤l.length) (hs:l.length≤1000) (d:Nat):∀ i:Nat,2≤i→i≤l.length→l.length - i=d →
 Ev (fun k=>fP.l0 k l l (l.length:Int) (i:Int)) ((l.drop i).all qE):=by
 induction d with
 | zero =>
  intro i _ hi hd
  refine Ev.step (fun k=>by rw [fP.l0]) ?_
  refine Ev.ak (by omega) ?_
  rw [List.drop_eq_nil_of_le (by omega)]
  exact Ev.now _
 | succ d ih =>
  intro i hi2 hi hd
  have hlt:i < l.length:=by omega
  refine Ev.step (fun k=>by rw [fP.l0]) ?_
  refine Ev.ae (by omega) ?_
  refine Ev.ae (by omega) ?_
  refine Ev.ae (by omega) ?_
  rw [jJ i hlt,List.drop_eq_getElem_cons hlt,List.all_cons]
  by_cases h0:l[i] < 0
  ·refine Ev.ae h0 ((Ev.now _).eq ?_)
   have:qE l[i]=false:=decide_eq_false (by omega)
   rw [this,Bool.false_and]
  refine Ev.ak h0 ?_
  refine Ev.bU (a:=2147483647) (by unfold rf.f;rw [if_neg (by omega),if_pos (by omega)]) ?_
  by_cases h1:l[i] > 2147483647
  ·refine Ev.ae h1 ((Ev.now _).eq ?_)
   have:qE l[i]=false:=decide_eq_false (by omega)
   rw [this,Bool.false_and]
  ·refine Ev.ak h1 ?_
   have:qE l[i]=true:=decide_eq_true (by omega)
   rw [this,Bool.true_and,aO (by omega) (by omega)]
   exact ih (i+1) (by omega) (by omega) (by omega)
theorem GJ (l:List Int) (hs:l.length≤1000000):Ev (fun k=>fP.f k l) (fU l):=by
 have hno:Ev (fun k=>fP.j0 k l true) false:=by
  refine Ev.step (fun k=>by rw [fP.j0]) ?_
  exact Ev.ae rfl (Ev.now _)
 refine Ev.congr (fun k=>by rw [fP.f]) ?_
 match l,hno with
 | [],hno=>exact Ev.ae (by decide) hno
 | [a],hno=>exact Ev.ae (by simp) hno
 | a :: b :: r,hno =>
  refine Ev.ak (by simp<;>omega) ?_
  by_cases h20:r.length≤18
  ·rw [decide_eq_false (by simp<;>omega)]
   refine Ev.step (fun k=>by rw [fP.j0]) ?_
   refine Ev.ak (by simp) ?_
   have hlen:(a :: b :: r).length=r.length+2:=rfl
   rw [fU,decide_eq_true h20,Bool.true_and]
   have hl:=aaU (a :: b :: r) (by omega) (by omega) _ 2 (by omega) (by omega) rfl
   refine Ev.step (fun k=>by rw [fP.l0]) ?_
   refine Ev.ae (by omega) ?_
   refine Ev.ae (by omega) ?_
   refine Ev.ae (by omega) ?_
   rw [show rd (a :: b :: r) 0=a from rfl]
   by_cases ha:a < 0
   ·refine Ev.ae ha ((Ev.now _).eq ?_)
    rw [decide_eq_false (show ¬ (0≤a∧a≤2) by omega),Bool.false_and]
   refine Ev.ak ha ?_
   refine Ev.bU (a:=2) (by unfold rf.f;rw [if_pos rfl]) ?_
   by_cases ha2:a > 2
   ·refine Ev.ae ha2 ((Ev.now _).eq ?_)
    rw [decide_eq_false (show ¬ (0≤a∧a≤2) by omega),Bool.false_and]
   refine Ev.ak ha2 ?_
   rw [decide_eq_true (show 0≤a∧a≤2 by omega),Bool.true_and,show wrap64 (0+1)=1 from aO (by decide) (by decide)]
   refine Ev.step (fun k=>by rw [fP.l0]) ?_
   refine Ev.ae (by omega) ?_
   refine Ev.ae (by omega) ?_
   refine Ev.ae (by omega) ?_
   rw [show rd (a :: b :: r) 1=b from rfl]
   by_cases hb:b < 0
   ·refine Ev.ae hb ((Ev.now _).eq ?_)
    rw [decide_eq_false (show ¬ (0≤b∧b≤if a < 2 then 39 else 2147483567) by omega),Bool.false_and]
   refine Ev.ak hb ?_
   refine Ev.bU (a:=if a < 2 then 39 else 2147483567) (by
    unfold rf.f
    rw [if_neg (by decide),if_neg (by decide),if_pos (by omega),show rd (a :: b :: r) 0=a from rfl]
    split<;>rfl) ?_
   by_cases hb2:b > if a < 2 then 39 else 2147483567
   ·refine Ev.ae hb2 ((Ev.now _).eq ?_)
    rw [decide_eq_false (show ¬ (0≤b∧b≤if a < 2 then 39 else 2147483567) by omega),Bool.false_and]
   refine Ev.ak hb2 ?_
   rw [decide_eq_true (show 0≤b∧b≤if a < 2 then 39 else 2147483567 by omega),Bool.true_and,show wrap64 (1+1)=2 from aO (by decide) (by decide)]
   exact hl
  ·rw [decide_eq_true (by simp<;>omega)]
   refine hno.eq ?_
   rw [fU,decide_eq_false h20,Bool.false_and]
theorem vO {arcs:List Int} (h:fU arcs=true):∃ a b r,arcs=a :: b :: r∧r.length≤18∧0≤a∧a≤2∧0≤b∧(a < 2→b≤39)∧b≤2147483567∧∀ x∈r,0≤x∧x≤2147483647:=by
 match arcs,h with
 | [],h=>simp [fU] at h
 | [a],h=>simp [fU] at h
 | a :: b :: r,h =>
  rw [fU] at h
  simp only [Bool.and_eq_true,decide_eq_true_eq,List.all_eq_true] at h
  obtain ⟨h1,h2,h3,h4⟩:=h
  refine ⟨a,b,r,rfl,h1,h2.1,h2.2,h3.1,fun h=>by have:=h3.2;rw [if_pos h] at this;exact this,by have:=h3.2;split at this<;>omega,fun x hx=>of_decide_eq_true (h4 x hx)⟩
theorem aaG (l:List Int) (h2:2≤l.length) (hs:l.length≤1000) (d:Nat):∀ i:Nat,2≤i→i≤l.length→l.length - i=d →
 Ev (fun k=>gQ.l0 k l (i:Int)) ((l.drop i).all qE):=by
 induction d with
 | zero =>
  intro i _ hi hd
  refine Ev.step (fun k=>by rw [gQ.l0]) ?_
  refine Ev.ak (by omega) ?_
  rw [List.drop_eq_nil_of_le (by omega)]
  exact Ev.now _
 | succ d ih =>
  intro i hi2 hi hd
  have hlt:i < l.length:=by omega
  refine Ev.step (fun k=>by rw [gQ.l0]) ?_
  refine Ev.ae (by omega) ?_
  refine Ev.ak (by omega) ?_
  refine Ev.ae (by omega) ?_
  rw [jJ i hlt,List.drop_eq_getElem_cons hlt,List.all_cons]
  by_cases h0:l[i] < 0
  ·refine Ev.ae h0 ((Ev.now _).eq ?_)
   have:qE l[i]=false:=decide_eq_false (by omega)
   rw [this,Bool.false_and]
  refine Ev.ak h0 ?_
  by_cases h1:l[i] > 2147483647
  ·refine Ev.ae h1 ((Ev.now _).eq ?_)
   have:qE l[i]=false:=decide_eq_false (by omega)
   rw [this,Bool.false_and]
  ·refine Ev.ak h1 ?_
   have:qE l[i]=true:=decide_eq_true (by omega)
   rw [this,Bool.true_and,aO (by omega) (by omega)]
   exact ih (i+1) (by omega) (by omega) (by omega)
theorem aaV (l:List Int) (hs:l.length≤1000000):Ev (fun k=>gQ.f k l) (fU l):=by
 have hno:Ev (fun k=>gQ.j0 k l true) false:=by
  refine Ev.step (fun k=>by rw [gQ.j0]) ?_
  exact Ev.ae rfl (Ev.now _)
 refine Ev.congr (fun k=>by rw [gQ.f]) ?_
 match l,hno with
 | [],hno=>exact Ev.ae (by decide) hno
 | [a],hno=>exact Ev.ae (by simp) hno
 | a :: b :: r,hno =>
  refine Ev.ak (by simp<;>omega) ?_
  by_cases h20:r.length≤18
  ·refine Ev.ak (by simp<;>omega) ?_
   have hlen:(a :: b :: r).length=r.length+2:=rfl
   rw [fU,decide_eq_true h20,Bool.true_and]
   have hl:=aaG (a :: b :: r) (by omega) (by omega) _ 2 (by omega) (by omega) rfl
   refine Ev.ae (by omega) ?_
   rw [show rd (a :: b :: r) 0=a from rfl]
   by_cases ha:a < 0
   ·refine Ev.ae ha (hno.eq ?_)
    rw [decide_eq_false (show ¬ (0≤a∧a≤2) by omega),Bool.false_and]
   refine Ev.ak ha ?_
   by_cases ha2:a > 2
   ·rw [decide_eq_true ha2]
    refine hno.eq ?_
    rw [decide_eq_false (show ¬ (0≤a∧a≤2) by omega),Bool.false_and]
   rw [decide_eq_false ha2,decide_eq_true (show 0≤a∧a≤2 by omega),Bool.true_and]
   refine Ev.step (fun k=>by rw [gQ.j0]) ?_
   refine Ev.ak (by simp) ?_
   refine Ev.step (fun k=>by rw [gQ.l0]) ?_
   refine Ev.ae (by omega) ?_
   refine Ev.ae rfl ?_
   refine Ev.ae (by omega) ?_
   rw [show rd (a :: b :: r) 1=b from rfl,show rd (a :: b :: r) 0=a from rfl]
   by_cases h2:a < 2
   ·refine Ev.ae h2 ?_
    refine Ev.ae (by decide) ?_
    rw [if_pos h2]
    by_cases hb:b < 0
    ·refine Ev.ae hb ((Ev.now _).eq ?_)
     rw [decide_eq_false (show ¬ (0≤b∧b≤39) by omega),Bool.false_and]
    refine Ev.ak hb ?_
    by_cases hb2:b > 39
    ·refine Ev.ae hb2 ((Ev.now _).eq ?_)
     rw [decide_eq_false (show ¬ (0≤b∧b≤39) by omega),Bool.false_and]
    refine Ev.ak hb2 ?_
    rw [decide_eq_true (show 0≤b∧b≤39 by omega),Bool.true_and,show wrap64 (1+1)=2 from aO (by decide) (by decide)]
    exact hl
   ·refine Ev.ak h2 ?_
    refine Ev.ae (by decide) ?_
    rw [if_neg h2]
    by_cases hb:b < 0
    ·refine Ev.ae hb ((Ev.now _).eq ?_)
     rw [decide_eq_false (show ¬ (0≤b∧b≤2147483567) by omega),Bool.false_and]
    refine Ev.ak hb ?_
    by_cases hb2:b > 2147483567
    ·refine Ev.ae hb2 ((Ev.now _).eq ?_)
     rw [decide_eq_false (show ¬ (0≤b∧b≤2147483567) by omega),Bool.false_and]
    refine Ev.ak hb2 ?_
    rw [decide_eq_true (show 0≤b∧b≤2147483567 by omega),Bool.true_and,show wrap64 (1+1)=2 from aO (by decide) (by decide)]
    exact hl
  ·refine Ev.ae (by simp<;>omega) ?_
   refine hno.eq ?_
   rw [fU,decide_eq_false h20,Bool.false_and]
def hi (m:Nat):List Int:=if h:m=0 then [] else hi (m / 128)++[128+((m % 128:Nat):Int)]
termination_by m
decreasing_by omega
def lD (m:Nat):List Int:=hi (m / 128)++[((m % 128:Nat):Int)]
theorem nM:hi 0=[]:=by rw [hi];simp
theorem rG {m:Nat} (h:m≠0):hi m=hi (m / 128)++[128+((m % 128:Nat):Int)]:=by rw [hi];simp [h]
theorem aft (n:Nat) (b:Nat) (hb:128≤b) (hb2:b < 256) (h:n*128+b % 128≠0):hi (n*128+b % 128)=hi n++[(b:Int)]:=by
 rw [rG h,show (n*128+b % 128) / 128=n by omega,show (n*128+b % 128) % 128=b % 128 by omega]
 congr 2
 omega
theorem aeh (n:Nat) (b:Nat) (hb:b < 128):lD (n*128+b % 128)=hi n++[(b:Int)]:=by
 rw [lD,show (n*128+b % 128) / 128=n by omega,show (n*128+b % 128) % 128=b by omega]
def fG:List Int→List Int→Int→Bool→List Int × Bool
 | [],out,_,begun=>(out,!begun && decide (0 < out.length∧out.length < 20))
 | b :: l,out,n,begun=>if (begun=false∧b=128)∨n > 2147483647 then ([],false) else if b≥128 then fG l out (n*128+b % 128) true else fG l (out++[n*128+b % 128]) 0 false
theorem acy:((List.range 256).all fun x=>decide (Go.bits .and .u8 (x:Int) 127=(x:Int) % 128))=true:=by kernel_rfl
theorem agh {x:Int} (h0:0≤x) (h1:x < 256):Go.bits .and .u8 x 127=x % 128:=by
 have h:=List.all_eq_true.1 acy x.toNat (List.mem_range.2 (by omega))
 rw [Int.toNat_of_nonneg h0] at h
 exact of_decide_eq_true h
theorem acz (i:Nat) {x y:Int} (hx0:0≤x) (hx:x % 2 ^ i=0) (hx1:x < 9223372036854775808) (hy0:0≤y) (hy:y < 2 ^ i) (hi:i≤63):Go.bits .or .i64 x y=x+y:=by
 refine bits_join .i64 63 (by decide) (fun n h0 h1=>by rw [IntKind.wrap_i64];omega) i x y hx0 hx (by simpa using hx1) hy0 hy ?_
 have:(2:Int) ^ i≤2 ^ 63:=by exact_mod_cast Nat.pow_le_pow_right (by decide) hi
 omega
theorem adm (l:List Int) (hl:aG l) (hs:l.length≤1000000) (d:Nat):∀ (i:Nat) (out:List Int) (n:Int) (begun:Bool),i≤l.length→l.length - i=d→out.length≤i→0≤n→n≤274877907071 →
 Ev (fun k=>iq.l0 k (strOfNums l) out n begun (l.length:Int) (i:Int)) (fG (l.drop i) out n begun):=by
 induction d with
 | zero =>
  intro i out n begun hi hd ho _ _
  refine Ev.step (fun k=>by rw [iq.l0]) ?_
  refine Ev.ak (by omega) ?_
  rw [List.drop_eq_nil_of_le (by omega),fG]
  cases begun with
  | true=>exact Ev.ae rfl (Ev.now _)
  | false =>
   refine Ev.ak (by simp) ?_
   by_cases h0:(out.length:Int) > 0
   ·refine Ev.ae h0 ((Ev.now _).eq ?_)
    have:(decide ((out.length:Int) < 20))=decide (0 < out.length∧out.length < 20):=decide_eq_decide.2 (by omega)
    rw [this];rfl
   ·refine Ev.ak h0 ((Ev.now _).eq ?_)
    have:decide (0 < out.length∧out.length < 20)=false:=decide_eq_false (by omega)
    rw [this];rfl
 | succ d ih =>
  intro i out n begun hi hd ho hn0 hn
  have hlt:i < l.length:=by omega
  have hb:=hl.get i hlt
  have hbt:=je hl i hlt
  rw [List.drop_eq_getElem_cons hlt,fG]
  have hno:Ev (fun k=>iq.j1 k (strOfNums l) out n (i:Int) (l.length:Int) (i:Int) true) ([],false):=by
   refine Ev.step (fun k=>by rw [iq.j1]) ?_
   exact Ev.ae rfl (Ev.now _)
  have ZG:¬ n > 2147483647→Ev (fun k=>iq.j1 k (strOfNums l) out n (i:Int) (l.length:Int) (i:Int) false) (if l[i]≥128 then fG (l.drop (i+1)) out (n*128+l[i] % 128) true else fG (l.drop (i+1)) (out++[n*128+l[i] % 128]) 0 false):=by
   intro hm
   refine Ev.step (fun k=>by rw [iq.j1]) ?_
   refine Ev.ak (by simp) ?_
   rw [dL,hbt,agh hb.1 hb.2,aO (x:=n*128) (by omega) (by omega),aO (x:=l[i] % 128) (by omega) (by omega),aO (x:=(i:Int)+1) (by omega) (by omega),
    acz 7 (by omega) (by omega) (by omega) (by omega) (by omega) (by decide)]
   refine Ev.ae (by omega) ?_
   refine Ev.ae (by omega) ?_
   by_cases h:l[i]≥128
   ·refine Ev.ae h ?_
    rw [if_pos h,decide_eq_true h]
    exact ih (i+1) out _ true (by omega) (by omega) (by omega) (by omega) (by omega)
   ·refine Ev.ak h ?_
    refine Ev.ae (by omega) ?_
    rw [if_neg h,decide_eq_false h]
    exact ih (i+1) _ 0 false (by omega) (by omega) (by simp;omega) (by omega) (by omega)
  refine Ev.step (fun k=>by rw [iq.l0]) ?_
  refine Ev.ae (by omega) ?_
  cases begun with
  | true =>
   refine Ev.ae rfl ?_
   by_cases hm:n > 2147483647
   ·rw [decide_eq_true hm,if_pos (Or.inr hm)]
    exact hno
   ·rw [decide_eq_false hm,if_neg (by simp;omega)]
    exact ZG hm
  | false =>
   refine Ev.ak (by simp) ?_
   rw [dL,hbt]
   refine Ev.ae (by omega) ?_
   refine Ev.ae (by omega) ?_
   by_cases h128:l[i]=128
   ·refine Ev.ae h128 ?_
    rw [if_pos (Or.inl ⟨rfl,h128⟩)]
    exact hno
   ·refine Ev.ak h128 ?_
    by_cases hm:n > 2147483647
    ·rw [decide_eq_true hm,if_pos (Or.inr hm)]
     exact hno
    ·rw [decide_eq_false hm,if_neg (by simp [h128];omega)]
     exact ZG hm
theorem afu (l:List Int) (hl:aG l) (hs:l.length≤1000000):Ev (fun k=>iq.f k (strOfNums l)) (fG l [] 0 false):=by
 refine Ev.congr (fun k=>by rw [iq.f,dL]) ?_
 exact adm l hl hs _ 0 [] 0 false (by omega) rfl (by simp) (by decide) (by decide)
def fI:List Int→List Int
 | []=>[]
 | m :: r=>lD m.toNat++fI r
theorem acA:∀ (l:List Int) (out:List Int) (n:Nat) (begun:Bool) (res:List Int),aG l→begun=decide (n≠0)→fG l out n begun=(res,true) →
 ∃ ms:List Int,res=out++ms∧hi n++l=fI ms∧∀ m∈ms,0≤m:=by
 intro l
 induction l with
 | nil =>
  intro out n begun res _ hb h
  rw [fG] at h
  simp only [Prod.mk.injEq,Bool.and_eq_true,Bool.not_eq_true'] at h
  obtain ⟨rfl,h1,_⟩:=h
  rw [h1] at hb
  have hn:n=0:=by
   have:=of_decide_eq_false hb.symm
   omega
  subst hn
  exact ⟨[],by simp,by rw [nM];rfl,by simp⟩
 | cons b l ih =>
  intro out n begun res hl hb h
  have hbd:=hl.head
  obtain ⟨c,rfl⟩:∃ c:Nat,b=(c:Int):=⟨b.toNat,by omega⟩
  rw [fG] at h
  split at h
  ·simp at h
  ·rename_i hno
   have e:(n:Int)*128+(c:Int) % 128=((n*128+c % 128:Nat):Int):=by omega
   rw [e] at h
   split at h
   ·rename_i h128
    have hz:n*128+c % 128≠0:=by
     intro hz
     apply hno
     left
     have hn:n=0:=by omega
     rw [hb,hn]
     exact ⟨rfl,by omega⟩
    obtain ⟨ms,e1,e2,e3⟩:=ih out (n*128+c % 128) true res hl.tail (decide_eq_true hz).symm h
    refine ⟨ms,e1,?_,e3⟩
    rw [← e2,aft n c (by omega) (by omega) hz]
    simp
   ·rename_i h128
    obtain ⟨ms,e1,e2,e3⟩:=ih (out++[((n*128+c % 128:Nat):Int)]) 0 false res hl.tail (by simp) h
    refine ⟨((n*128+c % 128:Nat):Int) :: ms,by rw [e1];simp,?_,?_⟩
    ·rw [fI,← e2,nM,Int.toNat_natCast,aeh n c (by omega)]
     simp
    ·intro m hm
     rcases List.mem_cons.1 hm with rfl | hm
     ·omega
     ·exact e3 m hm
theorem afv (m:Nat) (r out:List Int) (hm:m≤2147483647):fG (hi m++r) out 0 false=fG r out (m:Int) (decide (m≠0)):=by
 induction m using Nat.strongRecOn generalizing r with
 | _ m ih =>
  by_cases h:m=0
  ·subst h
   rw [nM]
   rfl
  ·rw [rG h,List.append_assoc,ih (m / 128) (by omega) _ (by omega),List.singleton_append,fG,if_neg,if_pos (by omega)]
   ·rw [show (((m / 128:Nat):Int)*128+(128+((m % 128:Nat):Int)) % 128)=(m:Int) by omega]
    simp [h]
   ·simp only [decide_eq_false_iff_not,not_or]
    omega
theorem aei (m:Nat) (r out:List Int) (hm:m≤2147483647):fG (lD m++r) out 0 false=fG r (out++[(m:Int)]) 0 false:=by
 rw [lD,List.append_assoc,afv _ _ _ (by omega),List.singleton_append,fG,if_neg,if_neg (by omega)]
 ·rw [show (((m / 128:Nat):Int)*128+((m % 128:Nat):Int) % 128)=(m:Int) by omega]
 ·simp only [decide_eq_false_iff_not,not_or]
  omega
theorem Vm:∀ (ms:List Int) (out:List Int),(∀ m∈ms,0≤m∧m≤2147483647)→fG (fI ms) out 0 false=(out++ms,decide (0 < (out++ms).length∧(out++ms).length < 20))
 | [],out,_=>by rw [fI,fG];simp
 | m :: ms,out,h=>by
  have h1:=h m (by simp)
  rw [fI,aei _ _ _ (by omega),Vm ms _ (fun x hx=>h x (List.mem_cons_of_mem _ hx)),Int.toNat_of_nonneg h1.1]
  simp
def numsOf:List Int→List Int
 | a :: b :: r=>(40*a+b) :: r
 | _=>[]
def DR (l arcs:List Int):Prop:=fU arcs=true∧l=fI (numsOf arcs)
theorem WT {a b:Int} (ha0:0≤a) (ha:a≤2) (hb0:0≤b) (hb:a < 2→b≤39):mn 2 ((40*a+b) / 40)=a:=by
 unfold mn
 split<;>omega
def uy:List Int→List Int
 | m :: r=>mn 2 (m / 40) :: (m - 40*mn 2 (m / 40)) :: r
 | []=>[]
def gG (l:List Int):List Int × Bool:=if (fG l [] 0 false).2=true then (if fU (uy (fG l [] 0 false).1)=true then (uy (fG l [] 0 false).1,true) else ([],false)) else ([],false)
theorem ait {m:Int} (h0:0≤m):0≤mn 2 (m / 40)∧mn 2 (m / 40)≤2∧40*mn 2 (m / 40)≤m:=by
 unfold mn
 split<;>omega
theorem Jp:∀ (l:List Int) (out:List Int) (n:Int) (begun:Bool),aG l→0≤n→n≤274877907071→(∀ m∈out,0≤m∧m≤274877907071)→∀ m∈(fG l out n begun).1,0≤m∧m≤274877907071
 | [],out,n,begun,_,_,_,h=>by rw [fG];exact h
 | b :: l,out,n,begun,hl,h0,h1,h=>by
  have hb:=hl.head
  rw [fG]
  split
  ·intro m hm;cases hm
  ·split
   ·exact Jp l out _ true hl.tail (by omega) (by omega) h
   ·refine Jp l _ 0 false hl.tail (by decide) (by decide) ?_
    intro m hm
    rcases List.mem_append.1 hm with hm | hm
    ·exact h m hm
    ·obtain rfl:=List.mem_singleton.1 hm
     omega
theorem IW:∀ (l:List Int) (out:List Int) (n:Int) (begun:Bool) (res:List Int),fG l out n begun=(res,true)→0 < res.length∧res.length < 20
 | [],out,n,begun,res,h=>by
  rw [fG] at h
  simp only [Prod.mk.injEq,Bool.and_eq_true,decide_eq_true_eq] at h
  obtain ⟨rfl,_,h⟩:=h
  exact h
 | b :: l,out,n,begun,res,h=>by
  rw [fG] at h
  split at h
  ·simp at h
  ·split at h
   ·exact IW l _ _ _ res h
   ·exact IW l _ _ _ res h
theorem GG (l:List Int) (hl:aG l) (hs:l.length≤1000000):Ev (fun k=>qg.f k (strOfNums l)) (gG l):=by
 refine Ev.congr (fun k=>by rw [qg.f]) ?_
 refine Ev.bind (afu l hl (by omega)) ?_
 unfold gG
 by_cases h:(fG l [] 0 false).2=true
 ·refine Ev.ae h ?_
  rw [if_pos h]
  have hbd:=Jp l [] 0 false hl (by decide) (by decide) (by simp)
  have hlen:0 < (fG l [] 0 false).1.length∧(fG l [] 0 false).1.length < 20:=by
   exact IW l [] 0 false _ (by rw [Prod.ext_iff];exact ⟨rfl,h⟩)
  generalize (fG l [] 0 false).1=ms at *
  match ms,hlen with
  | m :: r,hlen =>
   have hm:=hbd m (by simp)
   have hq:=ait hm.1
   have ht:Int.tdiv m 40=m / 40:=Int.tdiv_eq_ediv_of_nonneg hm.1
   refine Ev.ae (by simp<;>omega) ?_
   rw [show rd (m :: r) 0=m from rfl,ht,aO (x:=m / 40) (by omega) (by omega),aO (x:=40*mn 2 (m / 40)) (by omega) (by omega),aO (x:=m - 40*mn 2 (m / 40)) (by omega) (by omega)]
   refine Ev.bU rfl ?_
   refine Ev.ae (by simp<;>omega) ?_
   refine Ev.bU rfl ?_
   refine Ev.ae (by simp at hlen ⊢;omega) ?_
   refine Ev.bU rfl ?_
   refine Ev.bind (GJ _ (by simp at hlen ⊢;omega)) ?_
   rw [show ([mn 2 (m / 40),m - 40*mn 2 (m / 40)]:List Int)++(m :: r).drop 1=uy (m :: r) from rfl]
   by_cases hr:fU (uy (m :: r))=true
   ·exact Ev.ae hr ((Ev.now _).eq (if_pos hr).symm)
   ·exact Ev.ak hr ((Ev.now _).eq (if_neg hr).symm)
 ·refine Ev.ak h ?_
  rw [if_neg h]
  exact Ev.now _
theorem acB {l arcs:List Int} (hl:aG l) (h:gG l=(arcs,true)):DR l arcs:=by
 unfold gG at h
 split at h
 ·rename_i h1
  split at h
  ·rename_i h2
   simp only [Prod.mk.injEq,and_true] at h
   subst h
   refine ⟨h2,?_⟩
   obtain ⟨ms,e1,e2,e3⟩:=acA l [] 0 false (fG l [] 0 false).1 hl rfl (by rw [Prod.ext_iff];exact ⟨rfl,h1⟩)
   rw [nM,List.nil_append] at e2
   rw [List.nil_append] at e1
   rw [e1] at h2 ⊢
   rw [e2]
   match ms,h2 with
   | m :: r,h2 =>
    rw [uy,numsOf]
    congr 2
    omega
   | [],h2=>rfl
  ·simp at h
 ·simp at h
theorem Ui {l arcs:List Int} (h:DR l arcs):gG l=(arcs,true):=by
 obtain ⟨hr,rfl⟩:=h
 obtain ⟨a,b,r,rfl,h18,ha0,ha,hb0,F9,hb,hx⟩:=vO hr
 have hn:fG (fI (numsOf (a :: b :: r))) [] 0 false=(numsOf (a :: b :: r),true):=by
  rw [numsOf,Vm]
  ·rw [List.nil_append]
   congr 1
   exact decide_eq_true (by simp;omega)
  ·intro m hm
   rcases List.mem_cons.1 hm with rfl | hm
   ·omega
   ·exact hx m hm
 have he:uy (numsOf (a :: b :: r))=a :: b :: r:=by
  rw [numsOf,uy,WT ha0 ha hb0 F9]
  congr 2
  omega
 unfold gG
 rw [hn]
 simp only [if_true]
 rw [he,if_pos hr]
theorem vX:∀ (ms:List Int),aG (fI ms)
 | []=>aG.nil
 | m :: r=>by
  rw [fI]
  have hh:∀ n:Nat,aG (hi n):=by
   intro n
   induction n using Nat.strongRecOn with
   | _ n ih =>
    by_cases h:n=0
    ·subst h;rw [nM];exact aG.nil
    ·rw [rG h]
     exact (ih _ (by omega)).append (aG.one (by omega) (by omega))
  exact ((hh _).append (aG.one (by omega) (by omega))).append (vX r)
theorem abZ (n:Nat) (hn:n≤4294967296):∀ (m:Nat) (s:List Int),m≤n→s.length+m≤9223372036854775000→Ev (fun k=>kV.l0 k (m:Int) (strOfNums s)) (strOfNums (hi m++s)):=by
 intro m
 induction m using Nat.strongRecOn with
 | _ m ih =>
  intro s hm hs
  refine Ev.step (fun k=>by rw [kV.l0]) ?_
  by_cases h:m=0
  ·subst h
   refine Ev.ak (by decide) ?_
   rw [nM]
   exact Ev.now _
  ·refine Ev.ae (by omega) ?_
   have ht:Int.tmod (m:Int) 128=((m % 128:Nat):Int):=by
    rw [Int.tmod_eq_emod_of_nonneg (by omega)];omega
   have hd:Int.tdiv (m:Int) 128=((m / 128:Nat):Int):=by
    rw [Int.tdiv_eq_ediv_of_nonneg (by omega)];omega
   rw [ht,hd,aO (by omega) (by omega),aO (by omega) (by omega),show (128+((m % 128:Nat):Int)) % 256=128+((m % 128:Nat):Int) by omega]
   refine Ev.bU rfl ?_
   rw [lI,ek,ek]
   refine Ev.ae (by simp;omega) ?_
   refine (ih (m / 128) (by omega) _ (by omega) (by simp;omega)).eq ?_
   rw [rG h,List.append_assoc]
theorem Vn (m:Nat) (h:m≤4294967296):Ev (fun k=>kV.f k (m:Int)) (strOfNums (lD m)):=by
 refine Ev.congr (fun k=>by rw [kV.f]) ?_
 have ht:Int.tmod (m:Int) 128=((m % 128:Nat):Int):=by
  rw [Int.tmod_eq_emod_of_nonneg (by omega)];omega
 have hd:Int.tdiv (m:Int) 128=((m / 128:Nat):Int):=by
  rw [Int.tdiv_eq_ediv_of_nonneg (by omega)];omega
 rw [ht,hd,aO (by omega) (by omega),show ((m % 128:Nat):Int) % 256=((m % 128:Nat):Int) by omega]
 exact abZ (m / 128) (by omega) (m / 128) _ (by omega) (by simp;omega)
theorem adn (m:Nat):(hi m).length≤m:=by
 induction m using Nat.strongRecOn with
 | _ m ih =>
  by_cases h:m=0
  ·subst h;rw [nM];simp
  ·rw [rG h]
   have:=ih (m / 128) (by omega)
   simp
   omega
theorem UY (m:Nat):(lD m).length≤m+1:=by
 have:=adn (m / 128)
 rw [lD]
 simp
 omega
theorem aej (arcs:List Int) (h:∀ x∈arcs,0≤x∧x≤2147483647) (hs:arcs.length≤1000) (d:Nat):∀ (i:Nat) (s:List Int),i≤arcs.length→arcs.length - i=d→s.length≤4294967297*(i+1) →
 Ev (fun k=>kC.l0 k arcs (strOfNums s) (i:Int)) (strOfNums (s++fI (arcs.drop i)),true):=by
 induction d with
 | zero =>
  intro i s hi hd _
  refine Ev.step (fun k=>by rw [kC.l0]) ?_
  refine Ev.ak (by omega) ?_
  rw [List.drop_eq_nil_of_le (by omega),fI,List.append_nil]
  exact Ev.now _
 | succ d ih =>
  intro i s hi hd hsz
  have hlt:i < arcs.length:=by omega
  have hx:=h _ (List.getElem_mem hlt)
  refine Ev.step (fun k=>by rw [kC.l0]) ?_
  refine Ev.ae (by omega) ?_
  refine Ev.ae (by omega) ?_
  rw [jJ i hlt]
  have hdg:=Vn arcs[i].toNat (by omega)
  rw [Int.toNat_of_nonneg hx.1] at hdg
  refine Ev.bind hdg ?_
  have hdl:=UY arcs[i].toNat
  rw [ek,ek,lI]
  refine Ev.ae (by omega) ?_
  rw [aO (by omega) (by omega)]
  refine (ih (i+1) _ (by omega) (by omega) (by simp;omega)).eq ?_
  rw [List.drop_eq_getElem_cons hlt,fI,List.append_assoc]
theorem Uc (arcs:List Int) (hs:arcs.length≤1000):Ev (fun k=>kC.f k arcs) (if fU arcs=true then (strOfNums (fI (numsOf arcs)),true) else (⟨#[]⟩,false)):=by
 refine Ev.congr (fun k=>by rw [kC.f]) ?_
 refine Ev.bind (aaV arcs (by omega)) ?_
 by_cases hr:fU arcs=true
 ·refine Ev.ae hr ?_
  rw [if_pos hr]
  obtain ⟨a,b,r,rfl,h18,ha0,ha,hb0,F9,hb,hx⟩:=vO hr
  refine Ev.ae (by simp<;>omega) ?_
  refine Ev.ae (by simp<;>omega) ?_
  rw [show rd (a :: b :: r) 0=a from rfl,show rd (a :: b :: r) 1=b from rfl,aO (x:=40*a) (by omega) (by omega),aO (x:=40*a+b) (by omega) (by omega)]
  have hdg:=Vn (40*a+b).toNat (by omega)
  rw [Int.toNat_of_nonneg (by omega)] at hdg
  refine Ev.bind hdg ?_
  have hdl:=UY (40*a+b).toNat
  refine (aej (a :: b :: r) ?_ (by simp;omega) _ 2 _ (by simp) rfl (by omega)).eq ?_
  ·intro x hm
   rcases List.mem_cons.1 hm with rfl | hm
   ·omega
   rcases List.mem_cons.1 hm with rfl | hm
   ·omega
   ·exact hx x hm
  ·rw [numsOf,fI]
   rfl
 ·refine Ev.ak hr ?_
  rw [if_neg hr]
  exact Ev.now _
def iJ:List Int→List Int→Int→Option (List Int)
 | [],out,_=>some out
 | b :: l,out,n=>if out.length < 21 then (if 128*n+b % 128 > 4294967296 then none else if b > 127 then iJ l out (128*n+b % 128) else iJ l (if out=[] then [mn 2 ((128*n+b % 128) / 40),(128*n+b % 128) - 40*mn 2 ((128*n+b % 128) / 40)] else out++[128*n+b % 128]) 0) else some out
theorem Uj (l out:List Int) (hl:aG l) (ho:out.length≤22) (n i:Int):Ev (fun k=>gI.j1 k (strOfNums l) out n i false) (if fU out=true∧fI (numsOf out)=l then (out,true) else ([],false)):=by
 refine Ev.step (fun k=>by rw [gI.j1]) ?_
 refine Ev.ak (by simp) ?_
 refine Ev.bind (Uc out (by omega)) ?_
 by_cases hr:fU out=true
 ·rw [if_pos hr]
  refine Ev.ae rfl ?_
  by_cases he:fI (numsOf out)=l
  ·refine Ev.ae ((qV (vX _) hl).2 he) ((Ev.now _).eq ?_)
   rw [if_pos ⟨hr,he⟩]
  ·refine Ev.ak (fun e=>he ((qV (vX _) hl).1 e)) ((Ev.now _).eq ?_)
   rw [if_neg (fun h=>he h.2)]
 ·rw [if_neg hr]
  refine Ev.ak (by simp) ((Ev.now _).eq ?_)
  rw [if_neg (fun h=>hr h.1)]
def mG (l:List Int):Option (List Int)→List Int × Bool
 | none=>([],false)
 | some out=>if fU out=true∧fI (numsOf out)=l then (out,true) else ([],false)
theorem aaW (l:List Int) (hl:aG l) (hs:l.length≤1000000) (d:Nat):∀ (i:Nat) (out:List Int) (n:Int),i≤l.length→l.length - i=d→out.length≤22→0≤n→n≤4294967296 →
 Ev (fun k=>gI.l0 k (strOfNums l) out n (i:Int)) (mG l (iJ (l.drop i) out n)):=by
 induction d with
 | zero =>
  intro i out n hi hd ho _ _
  refine Ev.step (fun k=>by rw [gI.l0,dL]) ?_
  refine Ev.ak (by omega) ?_
  rw [List.drop_eq_nil_of_le (by omega),iJ]
  exact Uj l out hl ho n i
 | succ d ih =>
  intro i out n hi hd ho hn0 hn
  have hlt:i < l.length:=by omega
  have hb:=hl.get i hlt
  have hbt:=je hl i hlt
  rw [List.drop_eq_getElem_cons hlt,iJ]
  refine Ev.step (fun k=>by rw [gI.l0,dL]) ?_
  refine Ev.ae (by omega) ?_
  by_cases h21:out.length < 21
  ·rw [if_pos h21,decide_eq_true (by omega)]
   have ht:Int.tmod l[i] 128=l[i] % 128:=Int.tmod_eq_emod_of_nonneg hb.1
   refine Ev.step (fun k=>by rw [gI.j1,dL,hbt]) ?_
   refine Ev.ae rfl ?_
   refine Ev.ae (by omega) ?_
   refine Ev.ae (by omega) ?_
   rw [aO (x:=l[i]) (by omega) (by omega),ht,aO (x:=128*n) (by omega) (by omega),aO (x:=128*n+l[i] % 128) (by omega) (by omega),aO (x:=(i:Int)+1) (by omega) (by omega)]
   by_cases hbig:128*n+l[i] % 128 > 4294967296
   ·refine Ev.ae hbig ?_
    rw [if_pos hbig]
    exact Ev.now _
   refine Ev.ak hbig ?_
   rw [if_neg hbig]
   obtain ⟨v,hv⟩:∃ v,128*n+l[i] % 128=v:=⟨_,rfl⟩
   rw [hv] at hbig ⊢
   have hv0:0≤v:=by omega
   by_cases h127:l[i] > 127
   ·refine Ev.ae h127 ?_
    rw [if_pos h127]
    exact ih (i+1) out v (by omega) (by omega) ho hv0 (by omega)
   refine Ev.ak h127 ?_
   rw [if_neg h127]
   have hq:Int.tdiv v 40=v / 40:=Int.tdiv_eq_ediv_of_nonneg hv0
   rw [hq,aO (x:=v / 40) (by omega) (by omega)]
   by_cases he:out=[]
   ·subst he
    refine Ev.ae rfl ?_
    rw [if_pos rfl]
    by_cases h2:v / 40 > 2
    ·refine Ev.ae h2 ?_
     refine Ev.ae (by decide) ?_
     refine Ev.bU rfl ?_
     refine Ev.ae (by simp) ?_
     rw [aO (x:=v - 80) (by omega) (by omega)]
     refine (ih (i+1) _ 0 (by omega) (by omega) (by simp) (by decide) (by decide)).eq ?_
     have:mn 2 (v / 40)=2:=by unfold mn;split<;>omega
     rw [this]
     rfl
    ·refine Ev.ak h2 ?_
     refine Ev.ae (by decide) ?_
     refine Ev.bU rfl ?_
     refine Ev.ae (by simp) ?_
     rw [aO (x:=40*(v / 40)) (by omega) (by omega),aO (x:=v - 40*(v / 40)) (by omega) (by omega)]
     refine (ih (i+1) _ 0 (by omega) (by omega) (by simp) (by decide) (by decide)).eq ?_
     have:mn 2 (v / 40)=v / 40:=by unfold mn;split<;>omega
     rw [this]
     rfl
   ·refine Ev.ak (fun e=>he (List.eq_nil_of_length_eq_zero (by omega))) ?_
    rw [if_neg he]
    refine Ev.ae (by omega) ?_
    exact ih (i+1) _ 0 (by omega) (by omega) (by simp;omega) (by decide) (by decide)
  ·rw [if_neg h21,decide_eq_false (by omega)]
   exact Uj l out hl ho n i
theorem Ud (l:List Int) (hl:aG l) (hs:l.length≤1000000):Ev (fun k=>gI.f k (strOfNums l)) (mG l (iJ l [] 0)):=by
 refine Ev.congr (fun k=>by rw [gI.f]) ?_
 exact aaW l hl hs _ 0 [] 0 (by omega) rfl (by simp) (by decide) (by decide)
theorem afw (m:Nat) (r out:List Int) (ho:out.length < 21) (hm:m≤4294967296):iJ (hi m++r) out 0=iJ r out (m:Int):=by
 induction m using Nat.strongRecOn generalizing r with
 | _ m ih =>
  by_cases h:m=0
  ·subst h
   rw [nM]
   rfl
  ·rw [rG h,List.append_assoc,ih (m / 128) (by omega) _ (by omega),List.singleton_append,iJ,if_pos ho,if_neg (by omega),if_pos (by omega)]
   rw [show (128*((m / 128:Nat):Int)+(128+((m % 128:Nat):Int)) % 128)=(m:Int) by omega]
theorem VZ (m:Nat) (r out:List Int) (ho:out.length < 21) (hm:m≤4294967296):iJ (lD m++r) out 0=iJ r (if out=[] then [mn 2 ((m:Int) / 40),(m:Int) - 40*mn 2 ((m:Int) / 40)] else out++[(m:Int)]) 0:=by
 rw [lD,List.append_assoc,afw _ _ _ ho (by omega),List.singleton_append,iJ,if_pos ho,if_neg (by omega),if_neg (by omega)]
 rw [show (128*((m / 128:Nat):Int)+((m % 128:Nat):Int) % 128)=(m:Int) by omega]
theorem Vo:∀ (ms out:List Int),out≠[]→out.length+ms.length≤20→(∀ x∈ms,0≤x∧x≤4294967296)→iJ (fI ms) out 0=some (out++ms)
 | [],out,_,_,_=>by rw [fI,iJ,List.append_nil]
 | m :: ms,out,hn,hs,h=>by
  have h1:=h m (by simp)
  simp only [List.length_cons] at hs
  rw [fI,VZ _ _ _ (by omega) (by omega),if_neg hn,Vo ms _ (by simp) (by simp;omega) (fun x hx=>h x (List.mem_cons_of_mem _ hx)),Int.toNat_of_nonneg h1.1]
  simp
theorem acC {l arcs:List Int} (h:mG l (iJ l [] 0)=(arcs,true)):DR l arcs:=by
 revert h
 cases iJ l [] 0 with
 | none=>intro h;simp [mG] at h
 | some out =>
  intro h
  rw [mG] at h
  split at h
  ·rename_i hh
   simp only [Prod.mk.injEq,and_true] at h
   subst h
   exact ⟨hh.1,hh.2.symm⟩
  ·simp at h
theorem aa4 {l arcs:List Int} (h:DR l arcs):mG l (iJ l [] 0)=(arcs,true):=by
 obtain ⟨hr,rfl⟩:=h
 obtain ⟨a,b,r,rfl,h18,ha0,ha,hb0,F9,hb,hx⟩:=vO hr
 have e:iJ (fI (numsOf (a :: b :: r))) [] 0=some (a :: b :: r):=by
  rw [numsOf,fI,VZ _ _ _ (by decide) (by omega),if_pos rfl,Int.toNat_of_nonneg (by omega),WT ha0 ha hb0 F9,Vo _ _ (by simp) (by simp;omega) (fun x hm=>by have:=hx x hm;omega)]
  simp
  omega
 rw [e,mG,if_pos ⟨hr,rfl⟩]
theorem WU (l:List Int) (hl:aG l):mG l (iJ l [] 0)=gG l:=by
 have two:∀ p:List Int × Bool,(p.2=false→p.1=[])→p.2=false→p=([],false):=fun p h h2=>by rw [← h h2,← h2]
 have ha:(gG l).2=false→(gG l).1=[]:=by
  unfold gG
  split
  ·split
   ·intro h;simp at h
   ·intro _;rfl
  ·intro _;rfl
 have he:(mG l (iJ l [] 0)).2=false→(mG l (iJ l [] 0)).1=[]:=by
  cases iJ l [] 0 with
  | none=>intro _;rfl
  | some out =>
   rw [mG]
   split
   ·intro h;simp at h
   ·intro _;rfl
 cases h1:(gG l).2 with
 | true=>rw [aa4 (acB hl (show gG l=((gG l).1,true) from by rw [← h1]))];rw [← h1]
 | false =>
  cases h2:(mG l (iJ l [] 0)).2 with
  | true =>
   have h3:=Ui (acC (l:=l) (show mG l (iJ l [] 0)=((mG l (iJ l [] 0)).1,true) from by rw [← h2]))
   rw [h3] at h1
   cases h1
  | false=>rw [two _ ha h1,two _ he h2]
theorem WV {n:Int} (h0:0≤n) (h1:n < 9223372036854775808):Go.bits .and .i64 n 127=n % 128 :=
 bits_mask .i64 63 (by decide) (fun n h0 h1=>by rw [IntKind.wrap_i64];omega) 7 (by decide) n h0 (by simpa using h1)
theorem aiu {x:Int} (h0:0≤x) (h1:x < 128):Go.bits .or .u8 x 128=128+x:=by
 have h:((List.range 128).all fun x=>decide (Go.bits .or .u8 (x:Int) 128=128+(x:Int)))=true:=by kernel_rfl
 have:=List.all_eq_true.1 h x.toNat (List.mem_range.2 (by omega))
 have:=of_decide_eq_true this
 rw [Int.toNat_of_nonneg h0] at this
 exact this
theorem or0 {x:Int} (h0:0≤x) (h1:x < 128):Go.bits .or .u8 x 0=x:=by
 have h:((List.range 128).all fun x=>decide (Go.bits .or .u8 (x:Int) 0=(x:Int)))=true:=by kernel_rfl
 have:=List.all_eq_true.1 h x.toNat (List.mem_range.2 (by omega))
 have:=of_decide_eq_true this
 rw [Int.toNat_of_nonneg h0] at this
 exact this
theorem afx (m:Nat) (h:m≠0) (hm:m < 9223372036854775808):Ev (fun k=>kM k (m:Int) 128) (hi m).reverse:=by
 induction m using Nat.strongRecOn with
 | ind m ih =>
  refine Ev.step (fun k=>by rw [kM]) ?_
  rw [WV (by omega) (by omega),show ((m:Int) % 128) % 256=(m:Int) % 128 by omega,aiu (by omega) (by omega),rG h]
  by_cases h0:m / 128=0
  ·refine Ev.ae (by omega) ((Ev.now _).eq ?_)
   rw [h0,nM]
   simp
  ·refine Ev.ak (by omega) ?_
   have:=ih (m / 128) (by omega) h0 (by omega)
   rw [show ((m:Int) / 128)=((m / 128:Nat):Int) by omega]
   refine Ev.bind this ((Ev.now _).eq ?_)
   simp
theorem aek (m:Nat) (hm:m < 9223372036854775808):Ev (fun k=>kM k (m:Int) 0) (lD m).reverse:=by
 refine Ev.step (fun k=>by rw [kM]) ?_
 rw [WV (by omega) (by omega),show ((m:Int) % 128) % 256=(m:Int) % 128 by omega,or0 (by omega) (by omega),lD]
 by_cases h0:m / 128=0
 ·refine Ev.ae (by omega) ((Ev.now _).eq ?_)
  rw [h0,nM]
  simp
 ·refine Ev.ak (by omega) ?_
  have:=afx (m / 128) h0 (by omega)
  rw [show ((m:Int) / 128)=((m / 128:Nat):Int) by omega]
  refine Ev.bind this ((Ev.now _).eq ?_)
  simp
theorem V3:∀ (j m:Nat),m < 128 ^ j→(hi m).length≤j
 | 0,m,h=>by
  obtain rfl:m=0:=by simpa using h
  simp [nM]
 | j+1,m,h=>by
  by_cases h0:m=0
  ·subst h0;simp [nM]
  ·rw [rG h0,List.length_append]
   have:=V3 j (m / 128) (by rw [Nat.pow_succ] at h;omega)
   simp
   omega
theorem Vp (m:Nat) (h:m < 4294967296):(lD m).length≤6:=by
 have:=V3 5 (m / 128) (by omega)
 rw [lD,List.length_append]
 simp
 omega
theorem WW:∀ (xs:List Int),(∀ x∈xs,0≤x∧x < 4294967296)→Ev (fun k=>oO k xs) (xs.flatMap fun x=>(lD x.toNat).reverse)
 | [],_=>Ev.now _
 | x :: xs,h=>by
  have hx:=h x (List.mem_cons_self ..)
  have h1:=aek x.toNat (by omega)
  rw [Int.toNat_of_nonneg hx.1] at h1
  refine Ev.congr (fun k=>by rw [oO]) ?_
  refine Ev.bind h1 ?_
  refine Ev.ae (by have:=Vp x.toNat (by omega);rw [List.length_reverse];omega) ?_
  refine Ev.bind (WW xs (fun y hy=>h y (List.mem_cons_of_mem _ hy))) ((Ev.now _).eq ?_)
  simp
theorem V4:∀ (xs:List Int),(xs.reverse.flatMap fun x=>(lD x.toNat).reverse).reverse=fI xs
 | []=>rfl
 | x :: xs=>by
  rw [List.reverse_cons,List.flatMap_append,List.reverse_append,V4 xs,fI]
  simp
theorem UZ:∀ (xs:List Int),(∀ x∈xs,0≤x∧x < 4294967296)→(fI xs).length≤6*xs.length
 | [],_=>by simp [fI]
 | x :: xs,h=>by
  have:=UZ xs (fun y hy=>h y (List.mem_cons_of_mem _ hy))
  have h1:=h x (List.mem_cons_self ..)
  have h2:=Vp x.toNat (by omega)
  rw [fI,List.length_append,List.length_cons]
  omega
theorem aa5 (arcs:List Int) (hs:arcs.length≤1000):Ev (fun k=>lJ.f k arcs) (if fU arcs=true then (strOfNums (fI (numsOf arcs)),true) else (⟨#[]⟩,false)):=by
 refine Ev.congr (fun k=>by rw [lJ.f]) ?_
 refine Ev.bind (GJ arcs (by omega)) ?_
 by_cases hr:fU arcs=true
 case neg=>rw [if_neg hr];exact Ev.ak hr (Ev.now _)
 rw [if_pos hr]
 refine Ev.ae hr ?_
 obtain ⟨a,b,r,rfl,h18,ha0,ha2,hb0,hb1,hb2,hall⟩:=vO hr
 refine Ev.ae ⟨by simp,hs⟩ ?_
 have hn:Jn (a :: b :: r)=numsOf (a :: b :: r):=by
  unfold Jn numsOf
  rw [show rd (a :: b :: r) 0=a from rfl,show rd (a :: b :: r) 1=b from rfl,aO (x:=40*a) (by omega) (by omega),aO (by omega) (by omega)]
  rfl
 rw [hn]
 have hbd:∀ x∈numsOf (a :: b :: r),0≤x∧x < 4294967296:=by
  intro x hx
  unfold numsOf at hx
  rcases List.mem_cons.1 hx with rfl | hx
  ·omega
  ·have:=hall x hx;omega
 have hlen:=UZ _ hbd
 have hl2:(numsOf (a :: b :: r)).length=r.length+1:=by simp [numsOf]
 refine Ev.bind (WW _ (fun x hx=>hbd x (List.mem_reverse.1 hx))) ?_
 have hrev:=V4 (numsOf (a :: b :: r))
 rw [hrev]
 exact Ev.now _
def num (v:Int):List Int:=(Lib.itoa v).map fun b=>(b.toNat:Int)
def dec (u:Nat):List Int:=(Lib.decDigits u).map fun b=>(b.toNat:Int)
theorem abt (l:List UInt8):(⟨l.toArray⟩:ByteArray)=strOfNums (l.map fun b=>(b.toNat:Int)):=by
 have:=qb ⟨l.toArray⟩
 unfold bytesOf at this
 exact this.symm
theorem WX (v:Int):(⟨(Lib.itoa v).toArray⟩:ByteArray)=strOfNums (num v):=abt _
theorem dec_lt {u:Nat} (h:u < 10):dec u=[48+(u:Int)]:=by
 unfold dec
 rw [Lib.decDigits,dif_pos h]
 simp [UInt8.toNat_ofNat']
 omega
theorem JR {u:Nat} (h:¬ u < 10):dec u=dec (u / 10)++[48+((u % 10:Nat):Int)]:=by
 unfold dec
 rw [Lib.decDigits,dif_neg h,List.map_append]
 simp [UInt8.toNat_ofNat']
 omega
theorem Jq {v:Int} (h:0≤v):num v=dec v.toNat:=by unfold num dec Lib.itoa;rw [if_neg (by omega)]
theorem Jr {v:Int} (h:v < 0):num v=45 :: dec v.natAbs:=by unfold num dec Lib.itoa;rw [if_pos h];rfl
theorem BU:∀ (u:Nat),∀ x∈dec u,48≤x∧x≤57:=by
 intro u
 induction u using Nat.strongRecOn with
 | ind u ih =>
  by_cases h:u < 10
  ·rw [dec_lt h]
   intro x hx
   rw [List.mem_singleton] at hx
   omega
  ·rw [JR h]
   intro x hx
   rcases List.mem_append.1 hx with h1 | h1
   ·exact ih (u / 10) (by omega) x h1
   ·rw [List.mem_singleton] at h1
    omega
theorem Xv (u:Nat):aG (dec u):=fun x hx=>by have:=BU u x hx;omega
theorem agi (u:Nat):dec u≠[]:=by
 by_cases h:u < 10
 ·rw [dec_lt h];simp
 ·rw [JR h];simp
theorem Js:∀ (k u:Nat),1≤k→u < 10 ^ k→(dec u).length≤k
 | 0,_,h,_=>by omega
 | k+1,u,_,h=>by
  by_cases h0:u < 10
  ·rw [dec_lt h0];simp
  ·rw [JR h0,List.length_append]
   rw [Nat.pow_succ] at h
   have hk:1≤k:=by
    rcases Nat.eq_zero_or_pos k with rfl | hk
    ·simp at h;omega
    ·exact hk
   have:=Js k (u / 10) hk (by omega)
   simp
   omega
theorem Xw (v:Int):aG (num v):=by
 by_cases h:0≤v
 ·rw [Jq h];exact Xv _
 ·rw [Jr (by omega)];exact aG.cons (by omega) (by omega) (Xv _)
theorem afy (v:Int) (h0 : -9223372036854775808≤v) (h1:v≤9223372036854775807):(num v).length≤20∧1≤(num v).length:=by
 have hne:=agi
 by_cases h:0≤v
 ·rw [Jq h]
  have:=Js 19 v.toNat (by omega) (by omega)
  have:=List.length_pos_iff.2 (hne v.toNat)
  omega
 ·rw [Jr (by omega),List.length_cons]
  have:=Js 19 v.natAbs (by omega) (by omega)
  omega
theorem ael (v:Int):∀ x∈num v,x≠46:=by
 intro x hx
 by_cases h:0≤v
 ·rw [Jq h] at hx
  have:=BU _ x hx
  omega
 ·rw [Jr (by omega)] at hx
  rcases List.mem_cons.1 hx with rfl | hx
  ·decide
  ·have:=BU _ x hx
   omega
theorem Um:∀ (a b:List UInt8) (acc:Nat),Lib.parseUint10 acc (a++b)=(match Lib.parseUint10 acc a with
 | .ok m=>Lib.parseUint10 m b
 | .syntax=>.syntax
 | .range=>.range)
 | [],b,acc=>rfl
 | c :: a,b,acc=>by
  rw [List.cons_append,Lib.parseUint10,Lib.parseUint10]
  split
  ·split
   ·rfl
   ·split
    ·rfl
    ·exact Um a b _
  ·rfl
theorem Vq (u:Nat) (h:u < 18446744073709551616):Lib.parseUint10 0 (Lib.decDigits u)=.ok u:=by
 induction u using Nat.strongRecOn with
 | ind u ih =>
  have step:∀ (m d:Nat),d < 10→m*10+d < 18446744073709551616→Lib.parseUint10 m [UInt8.ofNat (48+d)]=.ok (m*10+d):=fun m d hd hm=>by
   rw [Lib.parseUint10,show (UInt8.ofNat (48+d)).toNat=48+d by simp [UInt8.toNat_ofNat'];omega,if_pos (by omega),if_neg (by omega),if_neg (by omega),Lib.parseUint10]
   congr 1
   omega
  rw [Lib.decDigits]
  by_cases h10:u < 10
  ·rw [dif_pos h10,step 0 u h10 (by omega)]
   congr 1
   omega
  ·rw [dif_neg h10,Um,ih (u / 10) (by omega) (by omega)]
   simp only
   rw [step (u / 10) (u % 10) (by omega) (by omega)]
   congr 1
   omega
theorem Ue (u:Nat):∃ c r,Lib.decDigits u=c :: r∧48≤c.toNat∧c.toNat≤57:=by
 cases hd:Lib.decDigits u with
 | nil=>have:=Lib.decDigits_length u;rw [hd] at this;have:=Lib.nDigits_pos u;simp at *;omega
 | cons c r =>
  have:=BU u (c.toNat:Int) (by unfold dec;rw [hd];simp)
  exact ⟨c,r,rfl,by omega,by omega⟩
theorem ado {v:Int} (h0 : -9223372036854775808≤v) (h1:v≤9223372036854775807):Lib.atoiAll (Lib.itoa v)=.ok v:=by
 unfold Lib.itoa
 by_cases hv:v < 0
 ·rw [if_pos hv,Lib.atoiAll_minus,Lib.parseMag]
  obtain ⟨c,r,e,_,_⟩:=Ue v.natAbs
  rw [if_neg (by rw [e];simp),Vq _ (by omega),Lib.signed,if_neg (by omega)]
  congr 1
  omega
 ·rw [if_neg hv]
  obtain ⟨c,r,e,h2,h3⟩:=Ue v.toNat
  rw [e,Lib.atoiAll_plain c r (by omega) (by omega),← e,Lib.parseMag,if_neg (by rw [e];simp),Vq _ (by omega),Lib.signless,if_neg (by omega)]
  congr 1
  omega
theorem adp {v:Int} (h0 : -9223372036854775808≤v) (h1:v≤9223372036854775807):fZ.of (strOfNums (num v))=(v,true):=by
 rw [← WX]
 unfold fZ.of
 rw [show (⟨(Lib.itoa v).toArray⟩:ByteArray).data.toList=Lib.itoa v from rfl,ado h0 h1]
 simp
def iO:List (List Int)→List Int
 | []=>[]
 | [x]=>x
 | x :: y :: r=>x++46 :: iO (y :: r)
theorem U0 (x:List Int) {r:List (List Int)} (h:r≠[]):iO (x :: r)=x++46 :: iO r:=by
 cases r with
 | nil=>exact absurd rfl h
 | cons y r=>rw [iO]
theorem Vr (m:Nat):∀ (xs:List (List Int)),(∀ x∈xs,x.length≤m)→(iO xs).length≤(m+1)*xs.length
 | [],_=>by simp [iO]
 | [x],h=>by have:=h x (by simp);simp [iO];omega
 | x :: y :: r,h=>by
  have h1:=h x (by simp)
  have h2:=Vr m (y :: r) (fun z hz=>h z (List.mem_cons_of_mem _ hz))
  rw [iO,List.length_append,List.length_cons,List.length_cons (a:=x),Nat.mul_succ]
  omega
theorem V5:∀ (xs:List (List Int)),(⟨(Lib.join (xs.map fun x=>(strOfNums x).data.toList) [46]).toArray⟩:ByteArray)=strOfNums (iO xs)
 | []=>rfl
 | [x]=>by
  rw [List.map_cons,List.map_nil,Lib.join_one,iO]
 | x :: y :: r=>by
  have ih:=V5 (y :: r)
  have e:Lib.join ((x :: y :: r).map fun x=>(strOfNums x).data.toList) [46]=(strOfNums x).data.toList++[46]++Lib.join ((y :: r).map fun x=>(strOfNums x).data.toList) [46]:=by
   unfold Lib.join List.intercalate
   simp only [List.map_cons,List.intersperse_cons_cons,List.flatten_cons,List.append_assoc]
  rw [e,iO,show x++46 :: iO (y :: r)=(x++[46])++iO (y :: r) by simp,← lI,← lI,← ih]
  apply ByteArray.ext
  apply Array.toList_inj.1
  rw [Gx,Gx]
  rfl
theorem aa6 (arcs:List Int) (hb:∀ x∈arcs,0≤x∧x≤2147483647) (hs:arcs.length≤20) (d:Nat):∀ i:Nat,i≤arcs.length→arcs.length - i=d →
 Ev (fun k=>lS.l0 k ((arcs.take i).map (fun x=>strOfNums (num x))++List.replicate (arcs.length - i) (⟨#[]⟩:ByteArray)) arcs (arcs.length:Int) (i:Int)) (strOfNums (iO (arcs.map num))):=by
 induction d with
 | zero =>
  intro i hi hd
  refine Ev.step (fun k=>by rw [lS.l0]) ?_
  refine Ev.ak (by omega) ?_
  rw [List.take_of_length_le (by omega),hd,List.replicate_zero,List.append_nil]
  have hl:=Vr 20 (arcs.map num) (fun x hx=>by
   obtain ⟨v,hv,rfl⟩:=List.mem_map.1 hx
   have:=hb v hv
   exact (afy v (by omega) (by omega)).1)
  rw [List.length_map] at hl
  have hj:=V5 (arcs.map num)
  rw [List.map_map] at hj
  have hsz:=congrArg ByteArray.size hj
  rw [strOfNums_size] at hsz
  have e:strings_Join.f (arcs.map fun x=>strOfNums (num x)) (⟨#[46]⟩:ByteArray)=some (strOfNums (iO (arcs.map num))):=by
   unfold strings_Join.f
   rw [List.map_map,if_pos (by simp;omega),if_pos,← hj]
   ·rfl
   ·have h2:(⟨(Lib.join (arcs.map ((fun x=>(strOfNums x).data.toList) ∘ num)) [46]).toArray⟩:ByteArray).size=(Lib.join (arcs.map ((fun x=>(strOfNums x).data.toList) ∘ num)) [46]).length:=by
     show (Lib.join (arcs.map ((fun x=>(strOfNums x).data.toList) ∘ num)) [46]).toArray.size=_
     simp
    rw [h2] at hsz
    show (Lib.join (arcs.map ((fun x=>(strOfNums x).data.toList) ∘ num)) [46]).length≤_
    omega
  exact Ev.bU e (Ev.now _)
 | succ d ih =>
  intro i hi hd
  have hlt:i < arcs.length:=by omega
  have hv:=hb arcs[i] (List.getElem_mem hlt)
  refine Ev.step (fun k=>by rw [lS.l0]) ?_
  rw [jJ i hlt,aO (x:=(i:Int)+1) (by omega) (by omega)]
  have e:oG.f arcs[i]=some (strOfNums (num arcs[i])):=by
   unfold oG.f strconv_Itoa.f
   rw [if_pos ⟨by omega,by omega⟩,Option.bind_some,WX]
  refine Ev.ae (by omega) (Ev.ae (by omega) (Ev.ae (by omega) (Ev.bU e (Ev.ae (by simp;omega) ?_))))
  have:=ih (i+1) (by omega) (by omega)
  refine Ev.congr (fun k=>?_) this
  congr 1
  rw [Int.toNat_natCast,List.set_append_right _ _ (by simp;omega),List.length_map,List.length_take,Nat.min_eq_left (by omega),Nat.sub_self]
  obtain ⟨m,hm⟩:∃ m,arcs.length - i=m+1:=⟨arcs.length - i - 1,by omega⟩
  rw [hm,List.replicate_succ,List.set_cons_zero,show arcs.length - (i+1)=m by omega,List.take_succ_eq_append_getElem hlt,List.map_append,List.map_cons,List.map_nil,List.append_assoc]
  rfl
theorem V6 {arcs:List Int} (h:fU arcs=true):arcs.length≤20∧2≤arcs.length∧∀ x∈arcs,0≤x∧x≤2147483647:=by
 obtain ⟨a,b,r,rfl,h18,ha0,ha2,hb0,hb1,hb2,hall⟩:=vO h
 refine ⟨by simp;omega,by simp,fun x hx=>?_⟩
 rcases List.mem_cons.1 hx with rfl | hx
 ·omega
 ·rcases List.mem_cons.1 hx with rfl | hx
  ·omega
  ·exact hall x hx
theorem ab0 (arcs:List Int) (hs:arcs.length≤1000000):Ev (fun k=>lS.f k arcs) (if fU arcs=true then strOfNums (iO (arcs.map num)) else ⟨#[]⟩):=by
 refine Ev.congr (fun k=>by rw [lS.f]) ?_
 refine Ev.bind (GJ arcs hs) ?_
 by_cases hr:fU arcs=true
 ·rw [if_pos hr]
  have hb:=V6 hr
  refine Ev.ae hr (Ev.ae (by omega) (Ev.ae (by rw [Int.toNat_natCast];omega) ?_))
  have:=aa6 arcs hb.2.2 hb.1 _ 0 (by omega) rfl
  simpa using this
 ·rw [if_neg hr]
  exact Ev.ak hr (Ev.now _)
def BG (p:List Int):Int × Bool:=fZ.of (strOfNums p)
def oM:List Int→List (List Int)
 | []=>[[]]
 | b :: r=>if b=46 then [] :: oM r else match oM r with
  | []=>[[b]]
  | p :: ps=>(b :: p) :: ps
def SS (ps:List (List Int)):List Int × Bool:=if (ps.all fun p=>(BG p).2)=true then (if fU (ps.map fun p=>(BG p).1)=true then (ps.map fun p=>(BG p).1,true) else ([],false)) else ([],false)
theorem U1:∀ (p r:List Int),(∀ x∈p,x≠46)→oM (p++46 :: r)=p :: oM r
 | [],r,_=>by rw [List.nil_append,oM,if_pos rfl]
 | b :: p,r,h=>by rw [List.cons_append,oM,if_neg (h b (by simp)),U1 p r (fun x hx=>h x (List.mem_cons_of_mem _ hx))]
theorem Vs:∀ (p:List Int),(∀ x∈p,x≠46)→oM p=[p]
 | [],_=>rfl
 | b :: p,h=>by rw [oM,if_neg (h b (by simp)),Vs p (fun x hx=>h x (List.mem_cons_of_mem _ hx))]
theorem UC:∀ (ps:List (List Int)),ps≠[]→(∀ p∈ps,∀ x∈p,x≠46)→oM (iO ps)=ps
 | [],h,_=>absurd rfl h
 | [p],_,h=>Vs p (h p (by simp))
 | p :: q :: r,_,h=>by
  rw [U0 p (by simp),U1 p _ (h p (by simp)),UC (q :: r) (by simp) (fun z hz=>h z (List.mem_cons_of_mem _ hz))]
theorem Ia {a:List Int} (h:fU a=true):SS (oM (iO (a.map num)))=(a,true):=by
 have hb:=V6 h
 rw [UC _ (by intro e;rw [List.map_eq_nil_iff] at e;subst e;simp at hb) (fun p hp=>by obtain ⟨v,_,rfl⟩:=List.mem_map.1 hp;exact ael v)]
 have e:∀ x∈a,BG (num x)=(x,true):=fun x hx=>by
  have:=hb.2.2 x hx
  exact adp (by omega) (by omega)
 have e1:(a.map num).map (fun p=>(BG p).1)=a:=by
  rw [List.map_map]
  conv=>rhs;rw [← List.map_id a]
  exact List.map_congr_left (fun x hx=>by simp [e x hx])
 unfold SS
 rw [if_pos,e1,if_pos h]
 rw [List.all_map,List.all_eq_true]
 intro x hx
 simp [e x hx]
theorem IX (a:List Int):aG (iO (a.map num)):=by
 induction a with
 | nil=>exact aG.nil
 | cons v r ih =>
  cases r with
  | nil=>exact Xw v
  | cons w r=>rw [List.map_cons,U0 _ (by simp)];exact (Xw v).append (aG.cons (by decide) (by decide) ih)
def oJ (b:Int) (m:List Int):Bool:=decide (0≤b∧b≤7∧(m=[]→b=0)∧m.getLastD 0 % 2 ^ b.toNat=0)
def qa:List Int→ByteArray × Int × Bool
 | []=>(⟨#[]⟩,0,false)
 | b :: m=>if oJ b m=true then (strOfNums m,b,true) else (⟨#[]⟩,0,false)
theorem aem:((List.range 8).all fun b=>(List.range 256).all fun x=>decide (Go.bits .and .u8 (x:Int) (((shl .u8 1 (b:Int)) - 1) % 256)=0) == decide ((x:Int) % 2 ^ b=0))=true:=by kernel_rfl
theorem Jt {b x:Int} (hb0:0≤b) (hb:b≤7) (hx0:0≤x) (hx:x < 256):Go.bits .and .u8 x (((shl .u8 1 b) - 1) % 256)=0↔x % 2 ^ b.toNat=0:=by
 have h:=List.all_eq_true.1 (List.all_eq_true.1 aem b.toNat (List.mem_range.2 (by omega))) x.toNat (List.mem_range.2 (by omega))
 rw [Int.toNat_of_nonneg hb0,Int.toNat_of_nonneg hx0] at h
 exact decide_eq_decide.1 (eq_of_beq h)
theorem Ib (a:ByteArray):Ev (fun k=>jU.j0 k a true) (⟨#[]⟩,0,false):=by
 refine Ev.step (fun k=>by rw [jU.j0]) ?_
 exact Ev.ae rfl (Ev.now _)
theorem Xx (b:Int) (m:List Int) (hl:aG (b :: m)) (hs:m.length≤140737488355328) (hb:b≤7) (hm:m=[]→b=0):Ev (fun k=>jU.j0 k (strOfNums (b :: m)) false) (qa (b :: m)):=by
 have hbd:=hl.head
 refine Ev.step (fun k=>by rw [jU.j0]) ?_
 refine Ev.ak (by simp) ?_
 rw [show wrap64 (((strOfNums (b :: m)).size:Int) - 1)=(m.length:Int) from by rw [ek,aO (by simp) (by simp<;>omega)];simp]
 rw [show bt (strOfNums (b :: m)) 0=b from je hl 0 (by simp),dL]
 refine Ev.ae (by omega) ?_
 refine Ev.ae (by simp<;>omega) ?_
 refine Ev.ae (by simp<;>omega) ?_
 refine Ev.ae hbd.1 ?_
 have hx:(strOfNums (b :: m)).extract 1 (strOfNums (b :: m)).size=strOfNums m:=by
  rw [oC,ek]
  simp
 rw [hx,aO (x:=b) (by omega) (by omega)]
 by_cases h:m=[]
 ·subst h
  obtain rfl:=hm rfl
  rw [show bt (strOfNums [0]) (([]:List Int).length:Int)=0 from je hl 0 (by simp)]
  refine Ev.ae ((Jt (by decide) (by decide) (by decide) (by decide)).2 (by decide)) ?_
  refine Ev.ae (by simp) ?_
  exact (Ev.now _).eq (by simp [qa,oJ])
 ·obtain ⟨i,x,rfl⟩:∃ i x,m=i++[x]:=⟨m.dropLast,m.getLast h,(List.dropLast_concat_getLast h).symm⟩
  have hxo:=hl x (by simp)
  have hg:bt (strOfNums (b :: (i++[x]))) ((i++[x]).length:Int)=x:=by
   rw [je hl (i++[x]).length (by simp)]
   simp
  rw [hg]
  by_cases hz:x % 2 ^ b.toNat=0
  ·refine Ev.ae ((Jt hbd.1 hb hxo.1 hxo.2).2 hz) ?_
   refine Ev.ae (by simp<;>omega) ?_
   refine (Ev.now _).eq ?_
   rw [qa,if_pos]
   simp [oJ,hbd.1,hb,hz]
  ·refine Ev.ak (fun e=>hz ((Jt hbd.1 hb hxo.1 hxo.2).1 e)) ?_
   refine Ev.ae (by simp<;>omega) ?_
   refine (Ev.now _).eq ?_
   rw [qa,if_neg]
   simp [oJ,hz]
theorem adq (l:List Int) (hl:aG l) (hs:l.length≤140737488355328):Ev (fun k=>jU.f k (strOfNums l)) (qa l):=by
 refine Ev.congr (fun k=>by rw [jU.f]) ?_
 cases l with
 | nil=>exact Ev.ae ((iR _).2 rfl) (Ib _)
 | cons b m =>
  have hbd:=hl.head
  refine Ev.ak (fun e=>by have:=(iR _).1 e;cases this) ?_
  refine Ev.ae (by rw [dL];simp<;>omega) ?_
  rw [show bt (strOfNums (b :: m)) 0=b from je hl 0 (by simp)]
  simp only [List.length_cons] at hs
  by_cases h7:b > 7
  ·refine Ev.ae h7 ?_
   refine (Ib _).eq ?_
   rw [qa,if_neg]
   simp only [oJ,decide_eq_true_eq]
   omega
  refine Ev.ak h7 ?_
  by_cases h0:b > 0
  ·refine Ev.ae h0 ?_
   by_cases hm:m=[]
   ·subst hm
    rw [show (((strOfNums [b]).size:Int) == 1)=true from by rw [dL];rfl]
    refine (Ib _).eq ?_
    rw [qa,if_neg]
    intro hh
    have hh:=of_decide_eq_true hh
    have:=hh.2.2.1 rfl
    omega
   ·rw [show (((strOfNums (b :: m)).size:Int) == 1)=false from by
     rw [dL]
     have:m.length≠0:=fun e=>hm (List.eq_nil_of_length_eq_zero e)
     exact beq_eq_false_iff_ne.2 (by simp<;>omega)]
    exact Xx b m hl (by omega) (by omega) (fun e=>absurd e hm)
  ·refine Ev.ak h0 ?_
   exact Xx b m hl (by omega) (by omega) (fun _=>by omega)
def pW (m:List Int) (a:Int):ByteArray × Bool:=if oJ a m=true then (strOfNums (a :: m),true) else (⟨#[]⟩,false)
def jT (n b0 b1 b2 b3:Nat):Nat :=
 if b0 < 128 then 1
 else if 192≤b0∧b0 < 224 then (if 2≤n∧128≤b1∧b1≤191∧128≤(b0 - 192)*64+(b1 - 128) then 2 else 0)
 else if 224≤b0∧b0 < 240 then (if 3≤n∧128≤b1∧b1≤191∧128≤b2∧b2≤191∧2048≤((b0 - 224)*64+(b1 - 128))*64+(b2 - 128)∧¬ (55295 < ((b0 - 224)*64+(b1 - 128))*64+(b2 - 128)∧((b0 - 224)*64+(b1 - 128))*64+(b2 - 128) < 57344) then 3 else 0)
 else if 240≤b0∧b0 < 248 then (if 4≤n∧128≤b1∧b1≤191∧128≤b2∧b2≤191∧128≤b3∧b3≤191∧65536≤(((b0 - 240)*64+(b1 - 128))*64+(b2 - 128))*64+(b3 - 128)∧(((b0 - 240)*64+(b1 - 128))*64+(b2 - 128))*64+(b3 - 128)≤1114111 then 4 else 0)
 else 0
theorem adr (n b0 b1 b2 b3:Nat) (h0:b0 < 256) (h1:b1 < 256) (h2:b2 < 256) (h3:b3 < 256) :
 if jT n b0 b1 b2 b3=0 then Lib.decodeN n b0 b1 b2 b3=(65533,1) else ((Lib.decodeN n b0 b1 b2 b3).2=jT n b0 b1 b2 b3∧¬ ((Lib.decodeN n b0 b1 b2 b3).1=65533∧(Lib.decodeN n b0 b1 b2 b3).2=1)):=by
 unfold Lib.decodeN jT
 by_cases c0:b0 < 128
 ·simp [c0]
  omega
 by_cases c1:b0 < 192
 ·have e1:¬ (b0 / 32=6):=by omega
  have e2:¬ (b0 / 16=14):=by omega
  have e3:¬ (b0 / 8=30):=by omega
  have f1:¬ (192≤b0∧b0 < 224):=by omega
  have f2:¬ (224≤b0∧b0 < 240):=by omega
  have f3:¬ (240≤b0∧b0 < 248):=by omega
  simp [c0,e1,e2,e3,f1,f2,f3]
 by_cases c2:b0 < 224
 ·have e1:b0 / 32=6:=by omega
  have e2:¬ (b0 / 16=14):=by omega
  have e3:¬ (b0 / 8=30):=by omega
  have f1:192≤b0∧b0 < 224:=by omega
  simp only [c0,e1,e2,e3,f1,if_false,true_and,false_and,if_true,and_self]
  repeat' split
  all_goals first | omega | (simp<;>omega) | simp
 by_cases c3:b0 < 240
 ·have e1:¬ (b0 / 32=6):=by omega
  have e2:b0 / 16=14:=by omega
  have e3:¬ (b0 / 8=30):=by omega
  have f1:¬ (192≤b0∧b0 < 224):=by omega
  have f2:224≤b0∧b0 < 240:=by omega
  simp only [c0,e1,e2,e3,f1,f2,if_false,true_and,false_and,if_true,and_self]
  repeat' split
  all_goals first | omega | (simp<;>omega) | simp
 by_cases c4:b0 < 248
 ·have e1:¬ (b0 / 32=6):=by omega
  have e2:¬ (b0 / 16=14):=by omega
  have e3:b0 / 8=30:=by omega
  have f1:¬ (192≤b0∧b0 < 224):=by omega
  have f2:¬ (224≤b0∧b0 < 240):=by omega
  have f3:240≤b0∧b0 < 248:=by omega
  simp only [c0,e1,e2,e3,f1,f2,f3,if_false,true_and,false_and,if_true,and_self]
  repeat' split
  all_goals first | omega | (simp<;>omega) | simp
 ·have e1:¬ (b0 / 32=6):=by omega
  have e2:¬ (b0 / 16=14):=by omega
  have e3:¬ (b0 / 8=30):=by omega
  have f1:¬ (192≤b0∧b0 < 224):=by omega
  have f2:¬ (224≤b0∧b0 < 240):=by omega
  have f3:¬ (240≤b0∧b0 < 248):=by omega
  simp [c0,e1,e2,e3,f1,f2,f3]
def oq (l:List UInt8):Nat:=jT l.length (l.getD 0 0).toNat (l.getD 1 0).toNat (l.getD 2 0).toNat (l.getD 3 0).toNat
theorem qF (x:UInt8):x.toNat < 256:=x.toNat_lt
theorem acD (l:List UInt8):if oq l=0 then Lib.decodeL l=(65533,1) else ((Lib.decodeL l).2=oq l∧¬ ((Lib.decodeL l).1=65533∧(Lib.decodeL l).2=1)):=by
 rw [Lib.decodeL_N]
 exact adr _ _ _ _ _ (qF _) (qF _) (qF _) (qF _)
theorem agj (l:List UInt8) (h:l≠[]):oq l≤l.length:=by
 have h0:1≤l.length:=by cases l with | nil=>exact absurd rfl h | cons=>simp
 unfold oq jT
 repeat' split
 all_goals omega
theorem acE (n:Nat) (l:List UInt8):Lib.validGoD (n+1) l=if l=[] then true else if oq l=0 then false else Lib.validGoD n (l.drop (oq l)):=by
 have h:=acD l
 rw [Lib.validGoD]
 by_cases hn:l=[]
 ·rw [if_pos hn,if_pos hn]
 ·rw [if_neg hn,if_neg hn]
  by_cases hp:oq l=0
  ·rw [if_pos hp] at h
   rw [if_pos hp,h]
   rfl
  ·rw [if_neg hp] at h
   rw [if_neg hp,if_neg h.2,h.1]
def nu:List UInt8:=[65,66,67,68,69,70,71,72,73,74,75,76,77,78,79,80,81,82,83,84,85,86,87,88,89,90,97,98,99,100,101,102,103,104,105,106,107,108,109,110,111,112,113,114,115,116,117,118,119,120,121,122,48,49,50,51,52,53,54,55,56,57,32,39,40,41,43,44,45,46,47,58,61,63]
def oZ (b:UInt8):Bool:=nu.contains b
def qG (x:Nat):Bool:=!(decide (x < 128) && oZ (UInt8.ofNat x))
theorem aen:((List.range 256).all fun x=>decide (x < 128) || !oZ (UInt8.ofNat x))=true:=by kernel_rfl
theorem aeo (k:Nat):((List.range 128).all fun x=>il.f (k+8) (x:Int) == some (qG x))=true:=by kernel_rfl
theorem Vt:∀ (l:List UInt8) (c:UInt8),(∀ b∈l,b.toNat < 128)→128≤c.toNat→Lib.indexByte l c = -1
 | [],_,_,_=>rfl
 | b :: l,c,h,hc=>by
  have hb:=h b (by simp)
  have e:(b == c)=false:=beq_eq_false_iff_ne.2 (fun e=>by subst e;omega)
  have ih:=Vt l c (fun x hx=>h x (List.mem_cons_of_mem _ hx)) hc
  simp [Lib.indexByte,e,ih]
theorem ads:((List.range 12).all fun i=>decide (bt (⟨#[32,39,40,41,43,44,45,46,47,58,61,63]⟩:ByteArray) (i:Int) < 128))=true:=by kernel_rfl
theorem index_none (x:Int) (h:128≤x):Ev (fun k=>dZ.f k (⟨#[32,39,40,41,43,44,45,46,47,58,61,63]⟩:ByteArray) x) (-1):=by
 refine Ev.congr (fun k=>by rw [dZ.f]) ?_
 refine Ev.ae (by omega) ?_
 rw [decide_eq_false (by omega:¬ x < 128)]
 refine Ev.step (fun k=>by rw [dZ.j0]) ?_
 refine Ev.ak (by decide) ?_
 by_cases e:x=65533
 ·exact Ev.ae e (Ev.from_ 14 fun k=>by kernel_rfl)
 refine Ev.ak e ?_
 have hval:∃ b,Ev (fun k=>utf8_ValidRune.f k x) b∧(b=true→Utf8.valid x=true):=by
  by_cases h1:x < 55296
  ·refine ⟨true,Ev.congr (fun k=>by rw [utf8_ValidRune.f,if_pos (by omega),decide_eq_true h1]) (Ev.step (fun k=>by rw [utf8_ValidRune.j0]) (Ev.ae rfl (Ev.now _))),fun _=>?_⟩
   simp only [Utf8.valid,Bool.or_eq_true,Bool.and_eq_true,decide_eq_true_eq]
   omega
  ·by_cases h2:57343 < x
   ·by_cases h3:x≤1114111
    ·refine ⟨true,Ev.congr (fun k=>by rw [utf8_ValidRune.f,if_pos (by omega),decide_eq_false h1]) (Ev.step (fun k=>by rw [utf8_ValidRune.j0]) (Ev.ak (by decide) (Ev.ae h2 (Ev.ae h3 (Ev.now _))))),fun _=>?_⟩
     simp only [Utf8.valid,Bool.or_eq_true,Bool.and_eq_true,decide_eq_true_eq]
     omega
    ·exact ⟨false,Ev.congr (fun k=>by rw [utf8_ValidRune.f,if_pos (by omega),decide_eq_false h1]) (Ev.step (fun k=>by rw [utf8_ValidRune.j0]) (Ev.ak (by decide) (Ev.ae h2 (Ev.ak h3 (Ev.now _))))),fun h=>by cases h⟩
   ·exact ⟨false,Ev.congr (fun k=>by rw [utf8_ValidRune.f,if_pos (by omega),decide_eq_false h1]) (Ev.step (fun k=>by rw [utf8_ValidRune.j0]) (Ev.ak (by decide) (Ev.ak h2 (Ev.now _)))),fun h=>by cases h⟩
 obtain ⟨b,hb,hv⟩:=hval
 refine Ev.bind hb ?_
 cases b with
 | false=>exact Ev.ak (by decide) (Ev.now _)
 | true =>
  refine Ev.ae rfl ?_
  obtain ⟨h2,h4,hl⟩:=encode_facts x (hv rfl) h
  generalize Utf8.encode x=s at h2 h4 hl
  have hlast:=hl (by omega)
  rw [aO (x:=(s.size:Int) - 1) (by omega) (by omega)]
  have hbt:bt s ((s.size:Int) - 1)=((s[s.size - 1]'(by omega)).toNat:Int):=by
   unfold bt
   have e:((s.size:Int) - 1).toNat=s.size - 1:=by omega
   simp only [e]
   rw [dif_pos (by omega)]
  have ho:bt (⟨#[32,39,40,41,43,44,45,46,47,58,61,63]⟩:ByteArray) ((s.size:Int) - 1) < 128:=by
   have:=List.all_eq_true.1 ads (s.size - 1) (List.mem_range.2 (by omega))
   rw [show (((s.size - 1:Nat)):Int)=(s.size:Int) - 1 by omega] at this
   exact of_decide_eq_true this
  have hsz:((⟨#[32,39,40,41,43,44,45,46,47,58,61,63]⟩:ByteArray).size:Int)=12:=rfl
  refine Ev.step (fun k=>by rw [dZ.l1]) ?_
  refine Ev.ae (by omega) (Ev.ae (by omega) (Ev.ae (by omega) (Ev.ae (by omega) (Ev.ak (by omega) ?_))))
  rw [aO (x:=(s.size:Int) - 1+1) (by omega) (by omega)]
  refine Ev.ae (by omega) (Ev.ae (by omega) ?_)
  refine Ev.bU (a:=-1) ?_ (Ev.ae (by decide) (Ev.now _))
  unfold strings_IndexByte.f
  congr 1
  refine Vt _ _ ?_ ?_
  ·intro b hb
   rw [Lib.extract_data] at hb
   have hb:=List.mem_of_mem_drop (List.mem_of_mem_take hb)
   have hall:∀ b∈(⟨#[32,39,40,41,43,44,45,46,47,58,61,63]⟩:ByteArray).data.toList,b.toNat < 128:=by decide
   exact hall b hb
  ·rw [hbt]
   simpa using hlast
theorem afz (x:Nat):Ev (fun k=>il.f k (x:Int)) (qG x):=by
 by_cases h:x < 128
 ·refine Ev.from_ 8 fun k=>?_
  exact eq_of_beq (List.all_eq_true.1 (aeo k) x (List.mem_range.2 h))
 ·have hn:qG x=true:=by unfold qG;rw [decide_eq_false h];rfl
  rw [hn]
  refine Ev.congr (fun k=>by rw [il.f]) ?_
  refine Ev.ae (by omega) ?_
  rw [decide_eq_false (by omega:¬ (x:Int)≤90)]
  refine Ev.step (fun k=>by rw [il.j0]) ?_
  refine Ev.ak (by decide) (Ev.ae (by omega) ?_)
  rw [decide_eq_false (by omega:¬ (x:Int)≤122)]
  refine Ev.step (fun k=>by rw [il.j1]) ?_
  refine Ev.ak (by decide) (Ev.ae (by omega) (Ev.ak (by omega) ?_))
  refine Ev.bind (a:=false) (Ev.congr (fun k=>by rw [qQ.f]) (Ev.bind (index_none x (by omega)) (Ev.now _))) (Ev.now _)
theorem abu (n b0 b1 b2 b3:Nat) (h:128≤b0):128≤(Lib.decodeN n b0 b1 b2 b3).1:=by
 unfold Lib.decodeN
 repeat' split
 all_goals first | omega | (simp<;>omega)
theorem afA (h:Int→Option Bool) (s:ByteArray) (hh:∀ pos,pos < s.size→h ((Utf8.decode s pos).1:Int)=some (qG (Utf8.decode s pos).1)):∀ (f pos:Nat),s.size - pos≤f →
 ∃ r,Ev (fun k=>strings_indexFunc.l0 k h true s pos) r∧decide (r≥0) = !(s.data.toList.drop pos).all oZ:=by
 intro f
 have hlen:s.data.toList.length=s.size:=Array.length_toList
 have stop:∀ pos,¬ pos < s.size→∃ r,Ev (fun k=>strings_indexFunc.l0 k h true s pos) r∧decide (r≥0) = !(s.data.toList.drop pos).all oZ:=by
  intro pos hp
  refine ⟨-1,Ev.step (fun k=>by rw [strings_indexFunc.l0]) (Ev.ak hp (Ev.now _)),?_⟩
  rw [List.drop_eq_nil_of_le (by omega)]
  rfl
 induction f with
 | zero=>intro pos hp;exact stop pos (by omega)
 | succ f ih =>
  intro pos hd
  by_cases hp:pos < s.size
  case neg=>exact stop pos hp
  have hlt:pos < s.data.toList.length:=by omega
  have hdr:s.data.toList.drop pos=s.data.toList[pos] :: s.data.toList.drop (pos+1):=List.drop_eq_getElem_cons hlt
  have hb:(s.data.toList[pos]).toNat < 256:=qF _
  have hdec:(s.data.toList[pos]).toNat < 128∧Utf8.decode s pos=((s.data.toList[pos]).toNat,1)∨128≤(s.data.toList[pos]).toNat∧128≤(Utf8.decode s pos).1:=by
   rw [← Lib.decodeL_drop,hdr,Lib.decodeL_N]
   simp only [List.getD_cons_zero]
   by_cases h128:(s.data.toList[pos]).toNat < 128
   ·rw [Lib.decodeN_ascii _ _ _ _ _ h128]
    exact .inl ⟨h128,rfl⟩
   ·exact .inr ⟨by omega,abu _ _ _ _ _ (by omega)⟩
  have key:∀ b,qG (Utf8.decode s pos).1=b→(b=false→(Utf8.decode s pos).2=1)→oZ s.data.toList[pos] = !b→∃ r,Ev (fun k=>strings_indexFunc.l0 k h true s pos) r∧decide (r≥0) = !(s.data.toList.drop pos).all oZ:=by
   intro b hn h1 hpb
   rw [hdr,List.all_cons,hpb]
   cases b with
   | true =>
    refine ⟨(pos:Int),Ev.step (fun k=>by rw [strings_indexFunc.l0]) (Ev.ae hp (Ev.bU ((hh pos hp).trans (congrArg some hn)) (Ev.ae rfl (Ev.now _)))),?_⟩
    simp
   | false =>
    obtain ⟨r,hr,hr2⟩:=ih (pos+1) (by omega)
    refine ⟨r,Ev.step (fun k=>by rw [strings_indexFunc.l0]) (Ev.ae hp (Ev.bU ((hh pos hp).trans (congrArg some hn)) (Ev.ak (c:=(false == true)=true) (by decide) ?_))),by rw [hr2];simp⟩
    rw [h1 rfl]
    exact hr
  rcases hdec with ⟨h1,h2⟩ | ⟨h1,h2⟩
  ·refine key (!oZ s.data.toList[pos]) ?_ (fun _=>by rw [h2]) (by simp)
   rw [h2,qG,decide_eq_true h1,Bool.true_and,UInt8.ofNat_toNat]
  ·refine key true ?_ (fun h=>by cases h) ?_
   ·rw [qG,decide_eq_false (by omega)];rfl
   ·have:=List.all_eq_true.1 aen (s.data.toList[pos]).toNat (List.mem_range.2 hb)
    rw [UInt8.ofNat_toNat,decide_eq_false (by omega),Bool.false_or] at this
    simpa using this
theorem abv (a:ByteArray):Ev (fun k=>vK.f k a) (a.data.toList.all oZ):=by
 obtain ⟨K,hK⟩:=Ev.all (g:=fun i k=>il.f k ((Utf8.decode a i).1:Int)) (r:=fun i=>qG (Utf8.decode a i).1) a.size fun i _=>afz _
 obtain ⟨r,⟨L,hL⟩,hr⟩:=afA (fun z0=>il.f K z0) a (fun pos hp=>hK K (Nat.le_refl K) pos hp) a.size 0 (by omega)
 have hr:=hr
 rw [List.drop_zero] at hr
 have step:∀ k,K≤k→∀ n pos,a.size - pos≤n→∀ j,strings_indexFunc.l0 j (fun z0=>il.f k z0) true a pos=strings_indexFunc.l0 j (fun z0=>il.f K z0) true a pos:=by
  intro k hk n
  induction n with
  | zero =>
   intro pos hp j
   cases j with
   | zero=>rfl
   | succ j=>rw [strings_indexFunc.l0,strings_indexFunc.l0,if_neg (by omega),if_neg (by omega)]
  | succ n ih =>
   intro pos hp j
   cases j with
   | zero=>rfl
   | succ j =>
    rw [strings_indexFunc.l0,strings_indexFunc.l0]
    by_cases hq:pos < a.size
    ·rw [if_pos hq,if_pos hq]
     have e1:=hK k hk pos hq
     have e2:=hK K (Nat.le_refl K) pos hq
     rw [e1,e2]
     simp only [Option.bind_some]
     split
     ·rfl
     ·refine ih _ ?_ j
      have:1≤(Utf8.decode a pos).2:=by
       unfold Utf8.decode
       dsimp only
       repeat' split
       all_goals simp
      omega
    ·rw [if_neg hq,if_neg hq]
 refine ⟨max K L,fun k hk=>?_⟩
 have h0:strings_indexFunc.l0 k (fun z0=>il.f K z0) true a 0=some r:=hL k (by omega)
 show (strings_ContainsFunc.f k a (fun z0=>il.f k z0)).bind _=_
 unfold strings_ContainsFunc.f strings_IndexFunc.f strings_indexFunc.f
 rw [step k (by omega) a.size 0 (by omega) k,h0]
 simp only [Option.bind_some]
 rw [hr,Bool.not_not]
theorem agk (a:ByteArray) (h:a.size≤9223372036854775807):ug.f a=some (Lib.validD a.data.toList):=by
 unfold ug.f utf8_ValidString.f
 rw [if_pos h]
 rfl
theorem aep (a:Int) (h0:0≤a) (h7:a≤7):Ev (fun k=>fF.f k (IntKind.u64.wrap a) 1) (strOfNums [a]):=by
 rw [wu64 h0 (by omega)]
 refine (GH a h0 (by omega) 1).eq ?_
 rw [if_pos (by decide)]
 congr 1
 simp only [eO,show (1:Int).toNat=1 from rfl]
 simp<;>omega
theorem aa7 (m:List Int) (hm:aG m) (hs:m.length < 140737488355328) (a:Nat) (h7:a≤7) (h0:m=[]→a=0) (d:Nat):∀ i:Nat,i≤a→a - i=d →
 Ev (fun k=>iw.l0 k (strOfNums m) (a:Int) (2 ^ i) (i:Int)) (pW m a):=by
 have ZH:∀ i:Nat,i≤7→(0:Int) < 2 ^ i∧(2:Int) ^ i≤128:=by
  intro i hi
  rcases (by omega:i=0∨i=1∨i=2∨i=3∨i=4∨i=5∨i=6∨i=7) with rfl | rfl | rfl | rfl | rfl | rfl | rfl | rfl<;>decide
 have hput:=aep (a:Int) (by omega) (by omega)
 induction d with
 | zero =>
  intro i hi hd
  obtain rfl:i=a:=by omega
  refine Ev.step (fun k=>by rw [iw.l0]) ?_
  refine Ev.ak (by omega) ?_
  by_cases hn:m=[]
  ·obtain rfl:=h0 hn
   subst hn
   refine Ev.ae ((iR _).2 rfl) ?_
   refine Ev.bind hput ?_
   rw [lI,ek,ek]
   refine Ev.ae (by simp) ?_
   exact (Ev.now _).eq (by simp [pW,oJ])
  ·obtain ⟨q,x,rfl⟩:∃ i x,m=i++[x]:=⟨m.dropLast,m.getLast hn,(List.dropLast_concat_getLast hn).symm⟩
   have hx:=hm x (by simp)
   have hp:=ZH i h7
   have hs2:q.length < 140737488355328:=by simp at hs;omega
   rw [show wrap64 (((strOfNums (q++[x])).size:Int) - 1)=(q.length:Int) from by rw [ek,aO (by simp<;>omega) (by simp<;>omega)];simp<;>omega]
   rw [show bt (strOfNums (q++[x])) (q.length:Int)=x from by rw [je hm q.length (by simp)];simp]
   rw [aO (x:=x) (by omega) (by omega),dL]
   refine Ev.ak (fun e=>hn ((iR _).1 e)) ?_
   refine Ev.ae (by omega) ?_
   refine Ev.ae (by simp<;>omega) ?_
   refine Ev.ak (by omega) ?_
   have ht:Int.tmod x (2 ^ i)=x % 2 ^ i:=Int.tmod_eq_emod_of_nonneg hx.1
   rw [ht]
   by_cases hz:x % 2 ^ i=0
   ·refine Ev.ae hz ?_
    refine Ev.bind hput ?_
    rw [lI,ek,ek]
    refine Ev.ae (by simp at hs ⊢<;>omega) ?_
    refine (Ev.now _).eq ?_
    rw [pW,if_pos]
    ·rfl
    ·simp [oJ,hz];omega
   ·refine Ev.ak hz ?_
    refine (Ev.now _).eq ?_
    rw [pW,if_neg]
    simp [oJ,hz]
 | succ d ih =>
  intro i hi hd
  refine Ev.step (fun k=>by rw [iw.l0]) ?_
  refine Ev.ae (by omega) ?_
  have hp:=ZH i (by omega)
  rw [aO (x:=2*2 ^ i) (by omega) (by omega),aO (by omega) (by omega),show (2:Int)*2 ^ i=2 ^ (i+1) by rw [Int.pow_succ];omega]
  exact ih (i+1) (by omega) (by omega)
theorem ab1 (m:List Int) (hm:aG m) (hs:m.length < 140737488355328) (a:Int):Ev (fun k=>iw.f k (strOfNums m) a) (pW m a):=by
 have hno:oJ a m=false→Ev (fun k=>iw.j0 k (strOfNums m) a true) (pW m a):=by
  intro h
  refine Ev.step (fun k=>by rw [iw.j0]) ?_
  refine Ev.ae rfl ?_
  exact (Ev.now _).eq (by rw [pW,if_neg (by simp [h])])
 refine Ev.congr (fun k=>by rw [iw.f]) ?_
 by_cases h0:a < 0
 ·exact Ev.ae h0 (hno (decide_eq_false (by omega)))
 refine Ev.ak h0 ?_
 by_cases h7:a > 7
 ·exact Ev.ae h7 (hno (decide_eq_false (by omega)))
 refine Ev.ak h7 ?_
 obtain ⟨n,rfl⟩:∃ n:Nat,a=(n:Int):=⟨a.toNat,by omega⟩
 have hgo:(m=[]→n=0)→Ev (fun k=>iw.j0 k (strOfNums m) (n:Int) false) (pW m n):=by
  intro h
  refine Ev.step (fun k=>by rw [iw.j0]) ?_
  refine Ev.ak (by simp) ?_
  exact aa7 m hm hs n (by omega) h _ 0 (by omega) rfl
 by_cases hn:m=[]
 ·refine Ev.ae ((iR _).2 hn) ?_
  by_cases hz:n=0
  ·rw [show ((n:Int) != 0)=false by subst hz;rfl]
   exact hgo (fun _=>hz)
  ·rw [show ((n:Int) != 0)=true from bne_iff_ne.2 (by omega)]
   refine hno (decide_eq_false ?_)
   rintro ⟨_,_,h,_⟩
   have:=h hn
   omega
 ·refine Ev.ak (fun e=>hn ((iR _).1 e)) ?_
  exact hgo (fun e=>absurd e hn)
theorem aa8 (l:List Int) (hl:aG l) (hs:l.length < 140737488355328):Ev (fun k=>tO.f k (strOfNums l)) (qa l):=by
 refine Ev.congr (fun k=>by rw [tO.f]) ?_
 cases l with
 | nil=>exact Ev.ae ((iR _).2 rfl) (Ev.now _)
 | cons b m =>
  have hbd:=hl.head
  simp only [List.length_cons] at hs
  refine Ev.ak (fun e=>by have:=(iR _).1 e;cases this) ?_
  rw [show bt (strOfNums (b :: m)) 0=b from je hl 0 (by simp),aO (x:=b) (by omega) (by omega)]
  have hx:(strOfNums (b :: m)).extract 1 (strOfNums (b :: m)).size=strOfNums m:=by
   rw [oC,ek]
   simp
  rw [hx,dL]
  refine Ev.ae (by simp<;>omega) ?_
  refine Ev.ae (by simp<;>omega) ?_
  refine Ev.bind (ab1 m hl.tail (by omega) b) ?_
  by_cases hk:oJ b m=true
  ·rw [pW,if_pos hk,qa,if_pos hk]
   exact Ev.ae rfl (Ev.now _)
  ·rw [pW,if_neg hk,qa,if_neg hk]
   exact Ev.ak (by simp) (Ev.now _)
theorem zQ (s:ByteArray) (i:Nat) (h:i < s.size):bt s (i:Int)=((s.data.toList.getD i 0).toNat:Int):=by
 have hl:i < s.data.toList.length:=by rw [Array.length_toList];exact h
 unfold bt
 rw [dif_pos (by simpa using h)]
 rw [List.getD_eq_getElem?_getD,List.getElem?_eq_getElem hl]
 rfl
theorem Ic (s:ByteArray) (n more least i:Int) (h:¬ i≤more) (hm:0≤more∧more≤3):Ev (fun k=>bG.l0 k s n more least i) (if n < least∨n > 1114111∨(n > 55295∧n < 57344) then 0 else more+1):=by
 refine Ev.step (fun k=>by rw [bG.l0]) ?_
 refine Ev.ak h ?_
 rw [aO (x:=more+1) (by omega) (by omega)]
 by_cases c1:n < least
 ·exact Ev.ae c1 ((Ev.now _).eq (by rw [if_pos (Or.inl c1)]))
 refine Ev.ak c1 ?_
 by_cases c2:n > 1114111
 ·exact Ev.ae c2 ((Ev.now _).eq (by rw [if_pos (Or.inr (Or.inl c2))]))
 refine Ev.ak c2 ?_
 by_cases c3:n > 55295
 ·refine Ev.ae c3 ?_
  by_cases c4:n < 57344
  ·exact Ev.ae c4 ((Ev.now _).eq (by rw [if_pos (Or.inr (Or.inr ⟨c3,c4⟩))]))
  ·exact Ev.ak c4 ((Ev.now _).eq (by rw [if_neg (by omega)]))
 ·exact Ev.ak c3 ((Ev.now _).eq (by rw [if_neg (by omega)]))
theorem Ie (s:ByteArray) (n more least:Int) (i:Nat) (h:(i:Int)≤more) (hs:i < s.size) (hb:¬ (128≤(s.data.toList.getD i 0).toNat∧(s.data.toList.getD i 0).toNat≤191)) :
 Ev (fun k=>bG.l0 k s n more least (i:Int)) 0:=by
 refine Ev.step (fun k=>by rw [bG.l0]) ?_
 refine Ev.ae h ?_
 refine Ev.ae (by omega) ?_
 refine Ev.ae (by omega) ?_
 rw [zQ s i hs]
 by_cases c:((s.data.toList.getD i 0).toNat:Int) < 128
 ·exact Ev.ae c (Ev.now _)
 ·exact Ev.ak c (Ev.ae (by omega) (Ev.now _))
theorem Hf (s:ByteArray) (n more least:Int) (i:Nat) (r:Int) (h:(i:Int)≤more) (hm:more≤3) (hs:i < s.size) (hb:128≤(s.data.toList.getD i 0).toNat∧(s.data.toList.getD i 0).toNat≤191) (hn:0≤n∧n≤2000000)
 (k:Ev (fun k=>bG.l0 k s (64*n+((s.data.toList.getD i 0).toNat:Int) - 128) more least ((i+1:Nat):Int)) r) :
 Ev (fun k=>bG.l0 k s n more least (i:Int)) r:=by
 refine Ev.step (fun k=>by rw [bG.l0]) ?_
 refine Ev.ae h ?_
 refine Ev.ae (by omega) ?_
 refine Ev.ae (by omega) ?_
 rw [zQ s i hs]
 refine Ev.ak (by omega) ?_
 refine Ev.ak (by omega) ?_
 rw [aO (x:=64*n) (by omega) (by omega),aO (x:=((s.data.toList.getD i 0).toNat:Int)) (by omega) (by omega),aO (x:=64*n+_) (by omega) (by omega),aO (x:=64*n+_ - 128) (by omega) (by omega),aO (x:=(i:Int)+1) (by omega) (by omega)]
 exact k
theorem IY (s:ByteArray) (n more least:Int) (r:Int) (hs:s.size≤140737488355328) (h1:1≤more) (hr:(s.size:Int)≤more→r=0) (k:more < (s.size:Int)→Ev (fun k=>bG.l0 k s n more least 1) r) :
 Ev (fun k=>bG.j5 k s n more least) r:=by
 refine Ev.step (fun k=>by rw [bG.j5]) ?_
 refine Ev.ak (by omega) ?_
 refine Ev.step (fun k=>by rw [bG.j6]) ?_
 by_cases c:(s.size:Int)≤more
 ·refine Ev.ae (decide_eq_true c) ?_
  rw [hr c]
  exact Ev.now _
 ·refine Ev.ak (by simp [c]) ?_
  exact k (by omega)
theorem acF (s:ByteArray):Ev (fun k=>bG.j5 k s 0 0 0) 0:=by
 refine Ev.step (fun k=>by rw [bG.j5]) ?_
 refine Ev.ae rfl ?_
 refine Ev.step (fun k=>by rw [bG.j6]) ?_
 exact Ev.ae rfl (Ev.now _)
theorem aeq (s:ByteArray) (h0:0 < s.size) (hs:s.size≤140737488355328):Ev (fun k=>bG.f k s) ((oq s.data.toList:Nat):Int):=by
 have hl:s.data.toList.length=s.size:=Array.length_toList
 unfold oq
 rw [hl]
 have g1:=zQ s 0 h0
 have u0:=qF (s.data.toList.getD 0 0)
 have u1:=qF (s.data.toList.getD 1 0)
 have u2:=qF (s.data.toList.getD 2 0)
 have u3:=qF (s.data.toList.getD 3 0)
 have n1:=fun n more least r=>Hf s n more least 1 r
 have n2:=fun n more least r=>Hf s n more least 2 r
 have n3:=fun n more least r=>Hf s n more least 3 r
 have d1:=fun n more least=>Ie s n more least 1
 have d2:=fun n more least=>Ie s n more least 2
 have d3:=fun n more least=>Ie s n more least 3
 generalize (s.data.toList.getD 0 0).toNat=b0 at *
 generalize (s.data.toList.getD 1 0).toNat=b1 at *
 generalize (s.data.toList.getD 2 0).toNat=b2 at *
 generalize (s.data.toList.getD 3 0).toNat=b3 at *
 refine Ev.congr (fun k=>by rw [bG.f]) ?_
 refine Ev.ae (by omega) ?_
 rw [show bt s 0=(b0:Int) from g1,aO (x:=(b0:Int)) (by omega) (by omega)]
 by_cases c0:b0 < 128
 ·refine Ev.ae (by omega) ?_
  exact (Ev.now _).eq (by simp [jT,c0])
 refine Ev.ak (by omega) ?_
 have Mo:∀ n more least r,Ev (fun k=>bG.j5 k s n more least) r→¬ (240≤b0∧b0 < 248)→Ev (fun k=>bG.j3 k s (b0:Int) n more least) r:=by
  intro n more least r k hk
  refine Ev.step (fun k=>by rw [bG.j3]) ?_
  by_cases c:(b0:Int)≥240
  ·refine Ev.ae c ?_
   rw [decide_eq_false (by omega)]
   refine Ev.step (fun k=>by rw [bG.j4]) ?_
   exact Ev.ak (by simp) k
  ·refine Ev.ak c ?_
   refine Ev.step (fun k=>by rw [bG.j4]) ?_
   exact Ev.ak (by simp) k
 have Mq:∀ n more least r,Ev (fun k=>bG.j3 k s (b0:Int) n more least) r→¬ (224≤b0∧b0 < 240)→Ev (fun k=>bG.j1 k s (b0:Int) n more least) r:=by
  intro n more least r k hk
  refine Ev.step (fun k=>by rw [bG.j1]) ?_
  by_cases c:(b0:Int)≥224
  ·refine Ev.ae c ?_
   rw [decide_eq_false (by omega)]
   refine Ev.step (fun k=>by rw [bG.j2]) ?_
   exact Ev.ak (by simp) k
  ·refine Ev.ak c ?_
   refine Ev.step (fun k=>by rw [bG.j2]) ?_
   exact Ev.ak (by simp) k
 have Mr:∀ r,Ev (fun k=>bG.j1 k s (b0:Int) 0 0 0) r→¬ (192≤b0∧b0 < 224)→Ev (fun k=>if (b0:Int)≥192 then (bG.j0 k s (b0:Int) 0 0 0 (decide ((b0:Int) < 224))) else (bG.j0 k s (b0:Int) 0 0 0 false)) r:=by
  intro r k hk
  by_cases c:(b0:Int)≥192
  ·refine Ev.ae c ?_
   rw [decide_eq_false (by omega)]
   refine Ev.step (fun k=>by rw [bG.j0]) ?_
   exact Ev.ak (by simp) k
  ·refine Ev.ak c ?_
   refine Ev.step (fun k=>by rw [bG.j0]) ?_
   exact Ev.ak (by simp) k
 by_cases c1:192≤b0∧b0 < 224
 ·refine Ev.ae (by omega) ?_
  rw [decide_eq_true (by omega)]
  refine Ev.step (fun k=>by rw [bG.j0]) ?_
  refine Ev.ae rfl ?_
  rw [aO (by omega) (by omega)]
  refine Mq _ _ _ _ (Mo _ _ _ _ ?_ (by omega)) (by omega)
  refine IY s _ _ _ _ hs (by decide) (fun h=>?_) (fun h=>?_)
  ·unfold jT;rw [if_neg c0,if_pos c1,if_neg (by omega)];rfl
  ·by_cases k1:128≤b1∧b1≤191
   ·refine n1 _ _ _ _ (by decide) (by decide) (by omega) k1 (by omega) ?_
    refine (Ic s _ _ _ _ (by decide) (by decide)).eq ?_
    unfold jT
    rw [if_neg c0,if_pos c1]
    by_cases q:2≤s.size∧128≤b1∧b1≤191∧128≤(b0 - 192)*64+(b1 - 128)
    ·rw [if_pos q,if_neg (by omega)];rfl
    ·rw [if_neg q,if_pos (by omega)];rfl
   ·refine (d1 _ _ _ (by decide) (by omega) k1).eq ?_
    unfold jT;rw [if_neg c0,if_pos c1,if_neg (by omega)];rfl
 by_cases c2:224≤b0∧b0 < 240
 ·refine Mr _ ?_ (by omega)
  refine Ev.step (fun k=>by rw [bG.j1]) ?_
  refine Ev.ae (by omega) ?_
  rw [decide_eq_true (by omega)]
  refine Ev.step (fun k=>by rw [bG.j2]) ?_
  refine Ev.ae rfl ?_
  rw [aO (by omega) (by omega)]
  refine Mo _ _ _ _ ?_ (by omega)
  refine IY s _ _ _ _ hs (by decide) (fun h=>?_) (fun h=>?_)
  ·unfold jT;rw [if_neg c0,if_neg c1,if_pos c2,if_neg (by omega)];rfl
  ·by_cases k1:128≤b1∧b1≤191
   ·refine n1 _ _ _ _ (by decide) (by decide) (by omega) k1 (by omega) ?_
    by_cases k2:128≤b2∧b2≤191
    ·refine n2 _ _ _ _ (by decide) (by decide) (by omega) k2 (by omega) ?_
     refine (Ic s _ _ _ _ (by decide) (by decide)).eq ?_
     unfold jT
     rw [if_neg c0,if_neg c1,if_pos c2]
     split
     ·rw [if_neg (by omega)];rfl
     ·rw [if_pos (by omega)];rfl
    ·refine (d2 _ _ _ (by decide) (by omega) k2).eq ?_
     unfold jT;rw [if_neg c0,if_neg c1,if_pos c2,if_neg (by omega)];rfl
   ·refine (d1 _ _ _ (by decide) (by omega) k1).eq ?_
    unfold jT;rw [if_neg c0,if_neg c1,if_pos c2,if_neg (by omega)];rfl
 by_cases c3:240≤b0∧b0 < 248
 ·refine Mr _ ?_ (by omega)
  refine Mq _ _ _ _ ?_ (by omega)
  refine Ev.step (fun k=>by rw [bG.j3]) ?_
  refine Ev.ae (by omega) ?_
  rw [decide_eq_true (by omega)]
  refine Ev.step (fun k=>by rw [bG.j4]) ?_
  refine Ev.ae rfl ?_
  rw [aO (by omega) (by omega)]
  refine IY s _ _ _ _ hs (by decide) (fun h=>?_) (fun h=>?_)
  ·unfold jT;rw [if_neg c0,if_neg c1,if_neg c2,if_pos c3,if_neg (by omega)];rfl
  ·by_cases k1:128≤b1∧b1≤191
   ·refine n1 _ _ _ _ (by decide) (by decide) (by omega) k1 (by omega) ?_
    by_cases k2:128≤b2∧b2≤191
    ·refine n2 _ _ _ _ (by decide) (by decide) (by omega) k2 (by omega) ?_
     by_cases k3:128≤b3∧b3≤191
     ·refine n3 _ _ _ _ (by decide) (by decide) (by omega) k3 (by omega) ?_
      refine (Ic s _ _ _ _ (by decide) (by decide)).eq ?_
      unfold jT
      rw [if_neg c0,if_neg c1,if_neg c2,if_pos c3]
      split
      ·rw [if_neg (by omega)];rfl
      ·rw [if_pos (by omega)];rfl
     ·refine (d3 _ _ _ (by decide) (by omega) k3).eq ?_
      unfold jT;rw [if_neg c0,if_neg c1,if_neg c2,if_pos c3,if_neg (by omega)];rfl
    ·refine (d2 _ _ _ (by decide) (by omega) k2).eq ?_
     unfold jT;rw [if_neg c0,if_neg c1,if_neg c2,if_pos c3,if_neg (by omega)];rfl
   ·refine (d1 _ _ _ (by decide) (by omega) k1).eq ?_
    unfold jT;rw [if_neg c0,if_neg c1,if_neg c2,if_pos c3,if_neg (by omega)];rfl
 ·refine Mr _ ?_ (by omega)
  refine Mq _ _ _ _ ?_ (by omega)
  refine Mo _ _ _ _ ?_ (by omega)
  refine (acF s).eq ?_
  unfold jT;rw [if_neg c0,if_neg c1,if_neg c2,if_neg c3];rfl
theorem extract_drop (s:ByteArray) (i:Nat):(s.extract i s.size).data.toList=s.data.toList.drop i:=by
 rw [ByteArray.data_extract,Array.toList_extract]
 rw [List.extract_eq_take_drop]
 refine List.take_of_length_le ?_
 rw [List.length_drop,Array.length_toList]
 exact Nat.le_refl _
theorem abw:∀ (n:Nat) (s:ByteArray),s.size≤n→s.size≤140737488355328→Ev (fun k=>lT.l0 k s) (Lib.validGoD n s.data.toList):=by
 intro n
 induction n with
 | zero =>
  intro s h _
  refine Ev.step (fun k=>by rw [lT.l0]) ?_
  exact Ev.ak (by omega) ((Ev.now _).eq rfl)
 | succ n ih =>
  intro s h hs
  have hl:s.data.toList.length=s.size:=Array.length_toList
  refine Ev.step (fun k=>by rw [lT.l0]) ?_
  rw [acE]
  by_cases h0:s.size=0
  ·refine Ev.ak (by omega) ?_
   rw [if_pos (List.eq_nil_of_length_eq_zero (by omega))]
   exact Ev.now _
  ·refine Ev.ae (by omega) ?_
   have hne:s.data.toList≠[]:=fun e=>by rw [e] at hl;exact h0 hl.symm
   rw [if_neg hne]
   refine Ev.bind (aeq s (by omega) hs) ?_
   by_cases hp:oq s.data.toList=0
   ·rw [if_pos hp]
    exact Ev.ae (by omega) (Ev.now _)
   ·have hle:=agj _ hne
    rw [if_neg hp]
    refine Ev.ak (by omega) ?_
    refine Ev.ae (by omega) ?_
    refine Ev.ae (by omega) ?_
    rw [← extract_drop]
    simp only [Int.toNat_natCast]
    have hz:(s.extract (oq s.data.toList) s.size).size≤s.size - oq s.data.toList:=by simp
    exact ih _ (by omega) (by omega)
theorem acG (s:ByteArray) (h:s.size≤140737488355328):Ev (fun k=>lT.f k s) (Lib.validD s.data.toList):=by
 refine Ev.congr (fun k=>by rw [lT.f]) ?_
 refine (abw s.size s (Nat.le_refl _) h).eq ?_
 unfold Lib.validD
 rw [Array.length_toList]
 rfl
theorem agl (b:UInt8):oZ b=nu.contains b:=rfl
theorem adt (s:ByteArray) (j:Nat) (hj:j < s.size) (R:Bool) (k:Ev (fun k=>iF.l0 k s (wrap64 ((j:Int)+1))) R) (d:Nat):∀ (i:Nat) (f:Bool),i≤74→74 - i=d →
 Ev (fun k=>iF.l1 k s (j:Int) f (i:Int)) ((f || (nu.drop i).contains (s.data.toList.getD j 0)) && R):=by
 induction d with
 | zero =>
  intro i f hi hd
  obtain rfl:i=74:=by omega
  refine Ev.step (fun k=>by rw [iF.l1]) ?_
  refine Ev.ak (by decide) ?_
  rw [show nu.drop 74=[] from rfl]
  cases f with
  | true=>exact Ev.ae rfl (k.eq (by simp))
  | false=>exact Ev.ak (by simp) ((Ev.now _).eq (by simp))
 | succ d ih =>
  intro i f hi hd
  have hlt:i < nu.length:=by have:nu.length=74:=rfl;omega
  refine Ev.step (fun k=>by rw [iF.l1]) ?_
  refine Ev.ae (by omega) ?_
  refine Ev.ae (by omega) ?_
  refine Ev.ae (by omega) ?_
  refine Ev.ae (by omega) ?_
  rw [zQ s j hj,zQ (⟨#[65,66,67,68,69,70,71,72,73,74,75,76,77,78,79,80,81,82,83,84,85,86,87,88,89,90,97,98,99,100,101,102,103,104,105,106,107,108,109,110,111,112,113,114,115,116,117,118,119,120,121,122,48,49,50,51,52,53,54,55,56,57,32,39,40,41,43,44,45,46,47,58,61,63]⟩:ByteArray) i (show i < 74 by omega),aO (x:=(i:Int)+1) (by omega) (by omega)]
  have hd2:nu.drop i=nu.getD i 0 :: nu.drop (i+1):=by
   rw [List.drop_eq_getElem_cons hlt,List.getD_eq_getElem?_getD,List.getElem?_eq_getElem hlt]
   rfl
  rw [hd2,List.contains_cons]
  change Ev (fun k=>if ((nu.getD i 0).toNat:Int)=((s.data.toList.getD j 0).toNat:Int) then _ else _) _
  by_cases e:((nu.getD i 0).toNat:Int)=((s.data.toList.getD j 0).toNat:Int)
  ·refine Ev.ae e ?_
   have e2:(s.data.toList.getD j 0 == nu.getD i 0)=true:=beq_iff_eq.2 (UInt8.toNat_inj.1 (by omega))
   refine (ih (i+1) true (by omega) (by omega)).eq ?_
   rw [e2]
   simp
  ·refine Ev.ak e ?_
   have e2:(s.data.toList.getD j 0 == nu.getD i 0)=false:=beq_eq_false_iff_ne.2 (fun h=>e (by rw [h]))
   refine (ih (i+1) f (by omega) (by omega)).eq ?_
   rw [e2]
   simp
theorem ab2 (s:ByteArray) (hs:s.size≤140737488355328) (d:Nat):∀ j:Nat,j≤s.size→s.size - j=d→Ev (fun k=>iF.l0 k s (j:Int)) ((s.data.toList.drop j).all oZ):=by
 have hl:s.data.toList.length=s.size:=Array.length_toList
 induction d with
 | zero =>
  intro j hj hd
  refine Ev.step (fun k=>by rw [iF.l0]) ?_
  refine Ev.ak (by omega) ?_
  rw [List.drop_eq_nil_of_le (by omega)]
  exact Ev.now _
 | succ d ih =>
  intro j hj hd
  refine Ev.step (fun k=>by rw [iF.l0]) ?_
  refine Ev.ae (by omega) ?_
  have hlt:j < s.data.toList.length:=by omega
  have hd2:s.data.toList.drop j=s.data.toList.getD j 0 :: s.data.toList.drop (j+1):=by
   rw [List.drop_eq_getElem_cons hlt,List.getD_eq_getElem?_getD,List.getElem?_eq_getElem hlt]
   rfl
  have hn:=ih (j+1) (by omega) (by omega)
  refine (adt s j (by omega) _ (by rw [aO (by omega) (by omega)];exact hn) _ 0 false (by omega) rfl).eq ?_
  rw [hd2,List.all_cons,agl]
  simp
theorem adu (s:ByteArray) (hs:s.size≤140737488355328):Ev (fun k=>iF.f k s) (s.data.toList.all oZ):=by
 refine Ev.congr (fun k=>by rw [iF.f]) ?_
 exact ab2 s hs _ 0 (by omega) rfl
theorem Gy (a0:Int) (l:List Int) (hl:aG l) (ha:l.length≤65535):∃ t,Ev (fun k=>jE.f k a0 (strOfNums l)) t∧Ev (fun k=>mh.f k a0 (strOfNums l)) t:=by
 have hsz:(strOfNums l).size≤65535:=by rw [strOfNums_size];exact ha
 have hu:∃ t,(tK.f (strOfNums l)).bind (fun p=>some p.2)=some t∧(tN.f (strOfNums l)).bind (fun p=>some p.2)=some t:=by
  unfold tK.f tN.f
  by_cases e:(strOfNums l).toList=([255]:List UInt8)
  ·rw [if_pos e,if_pos e];exact ⟨_,rfl,rfl⟩
  ·rw [if_neg e,if_neg e];exact ⟨_,rfl,rfl⟩
 have e1:∀ k,jE.f k a0 (strOfNums l)=_:=fun k=>by rw [jE.f]
 have e2:∀ k,mh.f k a0 (strOfNums l)=_:=fun k=>by rw [mh.f]
 by_cases h1:a0=1
 ·obtain ⟨t,t1,t2⟩:=hu
  exact ⟨t,Ev.congr e1 (Ev.ae h1 (Ev.const t1)),Ev.congr e2 (Ev.ae h1 (Ev.const t2))⟩
 by_cases h2:a0=2
 ·exact ⟨_,Ev.congr e1 (Ev.ak h1 (Ev.ae h2 (Ev.bU (BK l hl) (Ev.now _)))),Ev.congr e2 (Ev.ak h1 (Ev.ae h2 (Ev.bU (aaT l hl) (Ev.now _))))⟩
 by_cases h3:a0=3
 ·exact ⟨_,Ev.congr e1 (Ev.ak h1 (Ev.ak h2 (Ev.ae h3 (Ev.bind (adq l hl (by omega)) (Ev.now _))))),Ev.congr e2 (Ev.ak h1 (Ev.ak h2 (Ev.ae h3 (Ev.bind (aa8 l hl (by omega)) (Ev.now _)))))⟩
 by_cases h4:a0=4
 ·exact ⟨_,Ev.congr e1 (Ev.ak h1 (Ev.ak h2 (Ev.ak h3 (Ev.ae h4 (Ev.now _))))),Ev.congr e2 (Ev.ak h1 (Ev.ak h2 (Ev.ak h3 (Ev.ae h4 (Ev.now _)))))⟩
 by_cases h5:a0=5
 ·exact ⟨_,Ev.congr e1 (Ev.ak h1 (Ev.ak h2 (Ev.ak h3 (Ev.ak h4 (Ev.ae h5 (Ev.now _)))))),Ev.congr e2 (Ev.ak h1 (Ev.ak h2 (Ev.ak h3 (Ev.ak h4 (Ev.ae h5 (Ev.now _))))))⟩
 by_cases h6:a0=6
 ·exact ⟨_,Ev.congr e1 (Ev.ak h1 (Ev.ak h2 (Ev.ak h3 (Ev.ak h4 (Ev.ak h5 (Ev.ae h6 (Ev.bind (GG l hl (by omega)) (Ev.now _)))))))),Ev.congr e2 (Ev.ak h1 (Ev.ak h2 (Ev.ak h3 (Ev.ak h4 (Ev.ak h5 (Ev.ae h6 (Ev.bind ((Ud l hl (by omega)).eq (WU l hl)) (Ev.now _))))))))⟩
 by_cases h7:a0=12
 ·exact ⟨_,Ev.congr e1 (Ev.ak h1 (Ev.ak h2 (Ev.ak h3 (Ev.ak h4 (Ev.ak h5 (Ev.ak h6 (Ev.ae h7 (Ev.bU (agk _ (by omega)) (Ev.now _))))))))),Ev.congr e2 (Ev.ak h1 (Ev.ak h2 (Ev.ak h3 (Ev.ak h4 (Ev.ak h5 (Ev.ak h6 (Ev.ae h7 (Ev.bind (acG _ (by omega)) (Ev.now _)))))))))⟩
 by_cases h8:a0=19
 ·exact ⟨_,Ev.congr e1 (Ev.ak h1 (Ev.ak h2 (Ev.ak h3 (Ev.ak h4 (Ev.ak h5 (Ev.ak h6 (Ev.ak h7 (Ev.ae h8 (Ev.bind (abv _) (Ev.now _)))))))))),Ev.congr e2 (Ev.ak h1 (Ev.ak h2 (Ev.ak h3 (Ev.ak h4 (Ev.ak h5 (Ev.ak h6 (Ev.ak h7 (Ev.ae h8 (Ev.bind (adu _ (by omega)) (Ev.now _))))))))))⟩
 ·exact ⟨_,Ev.congr e1 (Ev.ak h1 (Ev.ak h2 (Ev.ak h3 (Ev.ak h4 (Ev.ak h5 (Ev.ak h6 (Ev.ak h7 (Ev.ak h8 (Ev.now _))))))))),Ev.congr e2 (Ev.ak h1 (Ev.ak h2 (Ev.ak h3 (Ev.ak h4 (Ev.ak h5 (Ev.ak h6 (Ev.ak h7 (Ev.ak h8 (Ev.now _)))))))))⟩
theorem agm:fl 65552=4679241112349573120:=by kernel_rfl
theorem Uk (n:Nat) (h:n≤65552):nG.f (fl n)=some true:=by
 unfold nG.f
 rw [show xM (fl n) 0=true by rw [← WJ,agc (by omega) (by omega)];exact decide_eq_true (by omega),if_pos rfl,← agm,Xu (by omega) (by omega),decide_eq_true h,if_pos rfl,Cy (by omega),if_pos rfl,Cz (by omega)]
 show some (mI (fl n) (fl n))=_
 rw [JO (by omega) (by omega),decide_eq_true rfl]
theorem ab3 (a b:Nat) (ha:a≤65552) (hb:b≤65552):uh.f (fl a,fl b)=some (decide (a≤b)):=by
 unfold uh.f
 rw [Uk a ha]
 simp only [Option.bind_some,if_true]
 rw [Uk b hb]
 simp only [Option.bind_some,if_true]
 rw [Xu (by omega) (by omega)]
theorem Un (a b:Nat) (ha:a≤b) (hb:b≤65552):ql.f (fl a,fl b)=some (fl a,fl b):=by
 unfold ql.f
 rw [ab3 a b (by omega) hb,decide_eq_true ha]
 simp only [Option.bind_some,if_true]
 rw [← WJ,JN (by omega),if_pos rfl,JN (by omega),if_pos rfl,Jo (by omega),Jo (by omega),Nat.add_zero,Nat.add_zero]
theorem acH (a b:Nat) (ha:a≤b) (hb:b≤65552):pM.f (a:Int) (b:Int)=some (fl a,fl b):=by
 unfold pM.f
 rw [if_neg (by unfold mn;split<;>omega),if_neg (by unfold mx;split<;>omega)]
 have:=Un a b ha hb
 unfold fl at this
 rw [this]
 rfl
theorem acI (a b:Nat) (ha:a≤b) (hb:b≤65552):uo.f (fl a,fl b)=some (b:Int):=by
 unfold uo.f
 rw [Un a b ha hb]
 simp only [Option.bind_some]
 rw [Cy (by omega),if_pos rfl,Cz (by omega)]
def dP (F To:List Int):List (Nat × Nat):=List.zipWith (fun a b=>(fl a.toNat,fl b.toNat)) F To
theorem Hg (F To:List Int) (h:F.length=To.length):(dP F To).length=F.length:=by rw [dP,List.length_zipWith];omega
theorem aer (F To:List Int) (h:F.length=To.length) (a b:Nat):dP F To++[(fl a,fl b)]=dP (F++[(a:Int)]) (To++[(b:Int)]):=by
 rw [dP,dP,List.zipWith_append h]
 rfl
theorem afB (F To:List Int) (h:F.length=To.length) (i:Nat) (hi:i < F.length):iH ((0,0):Nat × Nat) (dP F To) (i:Int)=(fl (F.getD i 0).toNat,fl (To.getD i 0).toNat):=by
 rw [Cj _ i (by rw [Hg F To h];exact hi)]
 simp only [dP,List.getElem_zipWith]
 rw [List.getD_eq_getElem?_getD,List.getD_eq_getElem?_getD,List.getElem?_eq_getElem hi,List.getElem?_eq_getElem (by omega)]
 rfl
def iz (O:List Nat):List Int:=O.map fun o:Nat=>(o:Int)
theorem mV (O:List Nat):(iz O).length=O.length:=List.length_map _
theorem WY (O:List Nat) (o:Nat):iz (O++[o])=iz O++[(o:Int)]:=by rw [iz,List.map_append];rfl
def kQ (l To:List Int) (O:List Nat):Int:=match O.getLast? with
 | none=>l.length
 | some o=>To.getD o 0
def nd (a b:Int) (c:Bool) (d:ByteArray) (ks:List Int):af:=⟨a,b,c,d,ks⟩
def Bg (T:List af) (i:Nat) (me:Int):List af:=T.set i ⟨(aa T i).f0,(aa T i).f1,(aa T i).f2,(aa T i).f3,(aa T i).f4++[me]⟩
def upd (T:List af) (O:List Nat):List af:=match O.getLast? with
 | none=>T
 | some o=>Bg T o T.length
theorem tX (T:List af) (O:List Nat):(upd T O).length=T.length:=by
 unfold upd Bg
 split
 ·rfl
 ·rw [List.length_set]
structure Sp (l F To:List Int) (n:Nat):Prop where
 f:F.length=n
 t:To.length=n
 bd:∀ i,i < n→0≤F.getD i 0∧F.getD i 0≤To.getD i 0∧To.getD i 0≤l.length
theorem Hl {α:Type} (l m:List α) (d:α) (i:Nat) (h:i < l.length):(l++m).getD i d=l.getD i d:=by
 rw [List.getD_eq_getElem?_getD,List.getD_eq_getElem?_getD,List.getElem?_append_left h]
theorem vP {α:Type} (l m:List α) (x d:α):(l++x :: m).getD l.length d=x:=by
 rw [List.getD_eq_getElem?_getD,List.getElem?_append_right (Nat.le_refl _),Nat.sub_self]
 rfl
theorem Sp.snoc {l F To:List Int} {n:Nat} (h:Sp l F To n) (a b:Nat) (h1:a≤b) (h2:b≤l.length):Sp l (F++[(a:Int)]) (To++[(b:Int)]) (n+1):=by
 refine ⟨by rw [List.length_append,h.f];rfl,by rw [List.length_append,h.t];rfl,fun i hi=>?_⟩
 by_cases g:i < n
 ·rw [Hl _ _ _ _ (by rw [h.f];exact g),Hl _ _ _ _ (by rw [h.t];exact g)]
  exact h.bd i g
 ·obtain rfl:i=n:=by omega
  have e1:=vP F [] (a:Int) 0
  have e2:=vP To [] (b:Int) 0
  rw [h.f] at e1
  rw [h.t] at e2
  rw [e1,e2]
  omega
theorem Ju (l:List Int) (hs:l.length≤65535) (T:List af) (F To:List Int) (O:List Nat) (n:Nat) (h:Sp l F To n) (hO:∀ o∈O,o < n) (ho:O.length≤16) :
 ou.f (strOfNums l) T (dP F To) (iz O)=some (kQ l To O):=by
 unfold ou.f kQ
 rw [mV]
 rcases List.eq_nil_or_concat O with rfl | ⟨Q,o,rfl⟩
 ·rw [if_pos (show (([]:List Nat).length:Int)=0 from rfl),dL];rfl
 ·have hlen:(Q++[o]).length=Q.length+1:=by simp
  have hlast:rd (iz (Q++[o])) (Q.length:Int)=(o:Int):=by
   rw [jJ _ (by rw [mV];simp)]
   simp [iz]
  have hon:o < n:=hO o (by simp)
  obtain ⟨h1,h2,h3⟩:=h.bd o hon
  simp only [List.concat_eq_append] at *
  rw [hlen,show wrap64 (((Q.length+1:Nat):Int) - 1)=(Q.length:Int) by rw [aO (by omega) (by omega)];omega,if_neg (by omega),if_pos (by omega),if_pos (by omega),hlast,if_pos (by omega),Hg F To (by rw [h.f,h.t]),if_pos (by rw [h.f];omega),afB F To (by rw [h.f,h.t]) o (by rw [h.f];exact hon),acI _ _ (by omega) (by omega)]
  simp only [Option.bind_some,List.getLast?_append,List.getLast?_singleton,Option.some_or]
  rw [Int.toNat_of_nonneg (by omega)]
theorem Uf (l:List Int) (hs:l.length≤65535) (T:List af) (F To:List Int) (O:List Nat) (me n:Nat) (h:Sp l F To n) (hO:∀ o∈O,o < n) (ho:O.length < 16) (hm:me < n) (at_:Int) (he:To.getD me 0=at_) {R:Bool × ByteArray × List af × List (Nat × Nat) × List Int}
 (k:Ev (fun k=>iK.l0 k at_ (strOfNums l) T (dP F To) (iz O)) R):Ev (fun k=>iK.l0 k at_ (strOfNums l) T (dP F To) (iz (O++[me]))) R:=by
 refine Ev.step (fun k=>by rw [iK.l0]) ?_
 have hend:=Ju l hs T F To (O++[me]) n h (fun o hh=>by rcases List.mem_append.1 hh with hh | hh;exact hO o hh;simp at hh;omega) (by simp;omega)
 have hlen:(iz (O++[me])).length=O.length+1:=by rw [mV];simp
 have he2:kQ l To (O++[me])=at_:=by simp only [kQ,List.getLast?_append,List.getLast?_singleton,Option.some_or];exact he
 rw [hlen,show wrap64 (((O.length+1:Nat):Int) - 1)=(O.length:Int) by rw [aO (by omega) (by omega)];omega]
 refine Ev.ae (by omega) (Ev.bU hend (Ev.ae he2 (Ev.ae (by omega) (Ev.ae (by omega) ?_))))
 rw [Int.toNat_natCast,WY,List.take_left' (mV O)]
 exact k
theorem BL (l:List Int) (hs:l.length≤65535) (T:List af) (F To:List Int) (O:List Nat) (n:Nat) (h:Sp l F To n) (hO:∀ o∈O,o < n) (ho:O.length≤16) (at_:Int) (he:O=[]∨kQ l To O≠at_) :
 Ev (fun k=>iK.l0 k at_ (strOfNums l) T (dP F To) (iz O)) (decide (O=[]),strOfNums l,T,dP F To,iz O):=by
 refine Ev.step (fun k=>by rw [iK.l0]) ?_
 have hb:(((iz O).length:Int) == 0)=decide (O=[]):=by
  cases O with
  | nil=>rfl
  | cons o O=>rw [decide_eq_false (by simp),beq_eq_false_iff_ne,mV];simp;omega
 rw [hb]
 by_cases g:O=[]
 ·exact Ev.ak (by rw [g];decide) (Ev.now _)
 ·have:0 < O.length:=List.length_pos_iff.2 g
  refine Ev.ae (by rw [mV];omega) (Ev.bU (Ju l hs T F To O n h hO ho) (Ev.ak (he.resolve_left g) (Ev.now _)))
theorem Jv (l:List Int) (hs:l.length≤65535) (T:List af) (F To:List Int) (O:List Nat) (me n:Nat) (h:Sp l F To n) (hO:∀ o∈O,o < n) (ho:O.length < 16) (hm:me < n) (at_:Int) (he:To.getD me 0=at_) {R:Int × Int × ByteArray × List af × List (Nat × Nat) × List Int}
 (k:Ev (fun k=>bH.j3 k at_ 0 (strOfNums l) T (dP F To) (iz O)) R):Ev (fun k=>bH.j3 k at_ 0 (strOfNums l) T (dP F To) (iz (O++[me]))) R:=by
 obtain ⟨K,hK⟩:=k
 have hc:∃ c,Ev (fun k=>iK.l0 k at_ (strOfNums l) T (dP F To) (iz O)) c:=by
  have go:∀ (m:Nat) (O:List Nat),O.length=m→(∀ o∈O,o < n)→O.length < 16→∃ c,Ev (fun k=>iK.l0 k at_ (strOfNums l) T (dP F To) (iz O)) c:=by
   intro m
   induction m with
   | zero=>intro O hm hO ho;exact ⟨_,BL l hs T F To O n h hO (by omega) at_ (.inl (List.eq_nil_of_length_eq_zero hm))⟩
   | succ m ih =>
    intro O hm hO ho
    by_cases g:O=[]∨kQ l To O≠at_
    ·exact ⟨_,BL l hs T F To O n h hO (by omega) at_ g⟩
    ·rcases List.eq_nil_or_concat O with rfl | ⟨Q,o,rfl⟩
     ·exact absurd (.inl rfl) g
     ·have g:=Decidable.of_not_not fun h=>g (.inr h)
      simp only [List.concat_eq_append] at *
      simp at hm
      have hQ:∀ q∈Q,q < n:=fun q hq=>hO q (by simp [hq])
      obtain ⟨c,hc⟩:=ih Q (by omega) hQ (by simp at ho;omega)
      exact ⟨c,Uf l hs T F To Q o n h hQ (by simp at ho;omega) (hO o (by simp)) at_ (by simpa [kQ] using g) hc⟩
  exact go _ O rfl hO ho
 obtain ⟨c,hc⟩:=hc
 obtain ⟨L,hL⟩:=Uf l hs T F To O me n h hO ho hm at_ he hc
 obtain ⟨L',hL'⟩:=hc
 refine ⟨K+L+L'+1,fun k hk=>?_⟩
 have h1:=hK k (by omega)
 cases k with
 | zero=>omega
 | succ k =>
  dsimp only at h1 ⊢
  rw [bH.j3] at h1 ⊢
  unfold iK.f at h1 ⊢
  have e1:iK.l0 k at_ (strOfNums l) T (dP F To) (iz (O++[me]))=some c:=hL k (by omega)
  have e2:iK.l0 k at_ (strOfNums l) T (dP F To) (iz O)=some c:=hL' k (by omega)
  rw [e1]
  rw [e2] at h1
  exact h1
theorem V7 (l:List Int) (hs:l.length≤65535) (T:List af) (F To:List Int) (O:List Nat) (n:Nat) (h:Sp l F To n) (hO:∀ o∈O,o < n) (ho:O.length≤16) (at_:Int) (hne:O≠[]) (he:kQ l To O≠at_) {R:Int × Int × ByteArray × List af × List (Nat × Nat) × List Int}
 (k:Ev (fun k=>bH.ik k at_ (strOfNums l) T (dP F To) (iz O)) R):Ev (fun k=>bH.j3 k at_ 0 (strOfNums l) T (dP F To) (iz O)) R:=by
 refine Ev.step (fun k=>by rw [bH.j3]) ?_
 refine Ev.bind (Ev.congr (fun k=>by rw [iK.f]) (BL l hs T F To O n h hO ho at_ (.inr he))) ?_
 refine Ev.ak (by rw [decide_eq_false hne];exact Bool.false_ne_true) k
theorem V8 (l:List Int) (hs:l.length≤65535) (T:List af) (F To:List Int) (n:Nat) (h:Sp l F To n) (at_:Nat) (ha:at_≤l.length) :
 Ev (fun k=>bH.j3 k (at_:Int) 0 (strOfNums l) T (dP F To) (iz [])) (if at_ < l.length then (5,(at_:Int),strOfNums l,T,dP F To,[]) else (0,0,strOfNums l,T,dP F To,[])):=by
 refine Ev.step (fun k=>by rw [bH.j3]) ?_
 refine Ev.bind (Ev.congr (fun k=>by rw [iK.f]) (BL l hs T F To [] n h (fun o h=>by cases h) (by decide) _ (.inl rfl))) ?_
 refine Ev.ae rfl ?_
 dsimp only
 rw [dL]
 by_cases g:at_ < l.length
 ·rw [if_pos g];exact Ev.ae (by omega) (Ev.now _)
 ·rw [if_neg g];exact Ev.ak (by omega) (Ev.ae rfl (Ev.now _))
abbrev Nd:=af
theorem rdT (T:List Nd) (i:Nat):aa T (i:Int)=T.getD i z55:=rfl
theorem agn (s:ByteArray) (T:List Nd) (sp:List (Nat × Nat)) (O:List Nat) (a b:Int) (c:Bool) (v:Int) (d:ByteArray) (x:Nat × Nat) (h1:T.length < 1000) (h2:sp.length < 1000) (h3:O.length < 16) (hO:∀ o∈O,o < T.length) (hk:∀ y∈T,y.f4.length≤T.length) :
 pg.f s T sp (iz O) a b c v d x=some (upd T O++[nd a b c (if c=true then ⟨#[]⟩ else d) []],sp++[x],iz (if c=true then O++[T.length] else O)):=by
 unfold pg.f
 rw [mV]
 rcases List.eq_nil_or_concat O with rfl | ⟨Q,o,rfl⟩
 ·rw [if_neg (by simp)]
  cases c with
  | true=>rw [if_pos rfl,if_pos (by simp),if_pos (by omega),if_pos (by omega)];rfl
  | false=>rw [if_neg (by decide),if_pos (by omega),if_pos (by omega)];rfl
 ·simp only [List.concat_eq_append] at *
  have hlen:(Q++[o]).length=Q.length+1:=by simp
  have hlast:rd (iz (Q++[o])) (Q.length:Int)=(o:Int):=by
   rw [jJ _ (by rw [mV];simp)]
   simp [iz]
  have hon:o < T.length:=hO o (by simp)
  have hx:(aa T (o:Int)).f4.length≤T.length:=by
   rw [rdT,List.getD_eq_getElem?_getD,List.getElem?_eq_getElem hon]
   exact hk _ (List.getElem_mem hon)
  have hu:upd T (Q++[o])=Bg T o T.length:=by simp [upd]
  rw [hlen,show wrap64 (((Q.length+1:Nat):Int) - 1)=(Q.length:Int) by rw [aO (by omega) (by omega)];omega,if_pos (by omega),if_pos (by omega),if_pos (by omega),hlast,if_pos (by omega),if_pos (by omega),if_pos (by omega)]
  have hal:(Bg T o T.length).length=T.length:=by rw [← hu,tX]
  have hset:(T.set (o:Int).toNat (⟨(aa T o).f0,(aa T o).f1,(aa T o).f2,(aa T o).f3,(aa T o).f4++[(T.length:Int)]⟩:Nd))=Bg T o T.length:=rfl
  rw [hset,hu]
  simp only [Option.bind_some]
  rw [hal]
  have hz:iz (Q++[o])++[(T.length:Int)]=iz (Q++[o]++[T.length]):=(WY _ _).symm
  cases c with
  | true=>rw [if_pos rfl,if_pos (by omega),if_pos (by omega),if_pos (by omega),hz];rfl
  | false=>rw [if_neg (by decide),if_pos (by omega),if_pos (by omega)];rfl
def LB (a b:Int) (c:Bool) (n:Int) (m:List Int) (r:Hd):Prop:=r=noH 5∨r=noH 4∨∃ v j:Nat,r=(a,b,c,(v:Int),n+(j:Int),0)∧1≤j∧j≤m.length∧v≤65535∧m.take j=dm v
theorem CB (a b:Int) (c:Bool) (n:Int) (m:List Int) (hm:aG m):LB a b c n m (jv a b c n m):=by
 match m,hm with
 | [],_=>exact .inl rfl
 | y :: m,hm =>
  have hy:=hm.head
  rw [qX]
  split
  ·exact .inl rfl
  ·split
   ·exact .inr (.inl rfl)
   ·split
    ·refine .inr (.inr ⟨y.toNat,1,?_,by omega,by simp,by omega,?_⟩)
     ·rw [Int.toNat_of_nonneg hy.1];rfl
     ·rw [Int.toNat_of_nonneg hy.1,rY (by omega)];rfl
    ·split
     ·match m,hm.tail with
      | [],_=>exact .inl rfl
      | z :: m,hm =>
       have hz:=hm.head
       dsimp only
       split
       ·exact .inl rfl
       ·refine .inr (.inr ⟨z.toNat,2,?_,by omega,by simp,by omega,?_⟩)
        ·rw [Int.toNat_of_nonneg hz.1];rfl
        ·rw [Int.toNat_of_nonneg hz.1,zO (by omega) (by omega),show y=129 by omega];rfl
     ·match m,hm.tail with
      | [],_=>exact .inl rfl
      | [z],_=>exact .inl rfl
      | z :: w :: m,hm =>
       have hz:=hm.head
       have hw:=hm.tail.head
       dsimp only
       split
       ·exact .inl rfl
       ·refine .inr (.inr ⟨(256*z+w).toNat,3,?_,by omega,by simp,by omega,?_⟩)
        ·rw [Int.toNat_of_nonneg (by omega)];rfl
        ·rw [Int.toNat_of_nonneg (by omega),zP (by omega) (by omega),show y=130 by omega,show (256*z+w) / 256=z by omega,show (256*z+w) % 256=w by omega];rfl
def HB (l:List Int) (r:Hd):Prop:=r=noH 5∨r=noH 4∨∃ (a b:Int) (c:Bool) (v n:Nat),r=(a,b,c,(v:Int),(n:Int),0)∧2≤n∧0≤a∧a≤3∧0≤b∧b≤2097151∧v≤65535∧n≤l.length∧l.take n=di a b c++dm v
theorem HB.of {l m:List Int} (pre:List Int) {a b:Int} {c:Bool} (i:Nat) {r:Hd} (e:l=pre++m) (hp:pre=di a b c) (hi:pre.length=i) (i1:1≤i) (a0:0≤a) (a1:a≤3) (b0:0≤b) (b1:b≤2097151) (h:LB a b c (i:Int) m r):HB l r:=by
 rcases h with h | h | ⟨v,j,h,j1,j2,v1,ht⟩
 ·exact .inl h
 ·exact .inr (.inl h)
 ·refine .inr (.inr ⟨a,b,c,v,i+j,by rw [h];rfl,by omega,a0,a1,b0,b1,v1,by rw [e,List.length_append];omega,?_⟩)
  rw [e,← hi,List.take_length_add_append,ht,hp]
theorem aes (x:Int) (h0:0≤x) (h1:x < 256):64*(x / 64)+(if (x / 32 % 2 == 1)=true then 32 else 0)+x % 32=x:=by
 by_cases g:x / 32 % 2=1
 ·rw [if_pos (beq_iff_eq.2 g)];omega
 ·rw [if_neg (by rw [beq_iff_eq];exact g)];omega
theorem aet (l:List Int) (hl:aG l):HB l (ko l):=by
 match l,hl with
 | [],_=>exact .inl rfl
 | x :: m,hl =>
  have hx:=hl.head
  have hb:=aes x hx.1 (by omega)
  rw [ko]
  split
  ·exact HB.of [x] 1 rfl (by rw [di,if_pos (by omega),hb]) rfl (by omega) (by omega) (by omega) (by omega) (by omega) (CB _ _ _ _ _ hl.tail)
  ·have hid:∀ b:Int,31≤b→di (x / 64) b (x / 32 % 2 == 1)=x :: fB b:=by
    intro b h
    rw [di,if_neg (by omega)]
    congr 1
    rw [← show x % 32=31 by omega,hb]
   match m,hl.tail with
   | [],_=>exact .inl rfl
   | y :: m,hm =>
    have hy:=hm.head
    rw [lQ]
    split
    ·exact .inl rfl
    ·split
     ·split
      ·exact .inl rfl
      ·exact HB.of [x,y] 2 rfl (by rw [hid _ (by omega),fB,if_pos (by omega)]) rfl (by omega) (by omega) (by omega) (by omega) (by omega) (CB _ _ _ _ _ hm.tail)
     ·match m,hm.tail with
      | [],_=>exact .inl rfl
      | z :: m,hm =>
       have hz:=hm.head
       dsimp only
       split
       ·exact HB.of [x,y,z] 3 rfl (by rw [hid _ (by omega),fB,if_neg (by omega),if_pos (by omega)];congr 2;omega;congr 1;omega) rfl (by omega) (by omega) (by omega) (by omega) (by omega) (CB _ _ _ _ _ hm.tail)
       ·match m,hm.tail with
        | [],_=>exact .inl rfl
        | w :: m,hm =>
         have hw:=hm.head
         dsimp only
         split
         ·exact HB.of [x,y,z,w] 4 rfl (by rw [hid _ (by omega),fB,if_neg (by omega),if_neg (by omega)];congr 2;omega;congr 1;omega;congr 1;omega) rfl (by omega) (by omega) (by omega) (by omega) (by omega) (CB _ _ _ _ _ hm.tail)
         ·exact .inl rfl
theorem BV (a b:Int) (c:Bool) (n:Int) (v:Int) (v0:0≤v) (v1:v≤65535) (r:List Int):jv a b c n (dm v++r)=(a,b,c,v,n+((dm v).length:Int),0):=by
 by_cases g:v < 128
 ·rw [rY g]
  show jv a b c n (v :: r)=_
  rw [qX,if_neg (by omega),if_neg (by omega),if_pos g];rfl
 by_cases g2:v < 256
 ·rw [zO g g2]
  show jv a b c n (129 :: v :: r)=_
  rw [qX,if_neg (by omega),if_neg (by omega),if_neg (by omega),if_pos rfl]
  dsimp only
  rw [if_neg g];rfl
 ·rw [zP g g2]
  show jv a b c n (130 :: v / 256 :: v % 256 :: r)=_
  rw [qX,if_neg (by omega),if_neg (by omega),if_neg (by omega),if_neg (by omega)]
  dsimp only
  rw [if_neg (by omega),show 256*(v / 256)+v % 256=v by omega];rfl
theorem acJ (a b:Int) (c:Bool) (v:Int) (a0:0≤a) (a1:a≤3) (b0:0≤b) (b1:b≤2097151) (v0:0≤v) (v1:v≤65535) (r:List Int):ko (di a b c++dm v++r)=(a,b,c,v,((di a b c++dm v).length:Int),0):=by
 have hc:∀ x:Int,0≤x→x < 32→(64*a+(if c=true then 32 else 0)+x) / 64=a∧(64*a+(if c=true then 32 else 0)+x) % 32=x∧((64*a+(if c=true then 32 else 0)+x) / 32 % 2 == 1)=c:=by
  intro x h0 h1
  cases c with
  | true=>rw [if_pos rfl];exact ⟨by omega,by omega,beq_iff_eq.2 (by omega)⟩
  | false=>rw [if_neg (by decide)];exact ⟨by omega,by omega,beq_eq_false_iff_ne.2 (by omega)⟩
 rw [List.append_assoc,List.length_append]
 by_cases g:b < 31
 ·obtain ⟨h1,h2,h3⟩:=hc b b0 (by omega)
  rw [di,if_pos g]
  show ko ((64*a+(if c=true then 32 else 0)+b) :: (dm v++r))=_
  rw [ko,if_pos (by omega),h1,h2,h3,BV _ _ _ _ _ v0 v1]
  rfl
 ·obtain ⟨h1,h2,h3⟩:=hc 31 (by omega) (by omega)
  rw [di,if_neg g]
  show ko ((64*a+(if c=true then 32 else 0)+31) :: (fB b++(dm v++r)))=_
  rw [ko,if_neg (by omega),h1,h3]
  by_cases g1:b < 128
  ·rw [fB,if_pos g1]
   show qL a c (b :: (dm v++r))=_
   rw [lQ,if_neg (by omega),if_pos g1,if_neg g,BV _ _ _ _ _ v0 v1]
   simp
  by_cases g2:b < 16384
  ·rw [fB,if_neg g1,if_pos g2]
   show qL a c ((128+b / 128) :: b % 128 :: (dm v++r))=_
   rw [lQ,if_neg (by omega),if_neg (by omega)]
   dsimp only
   rw [if_pos (by omega),BV _ _ _ _ _ v0 v1,show 128*((128+b / 128) % 128)+b % 128=b by omega]
   simp
  ·rw [fB,if_neg g1,if_neg g2]
   show qL a c ((128+b / 16384) :: (128+b / 128 % 128) :: b % 128 :: (dm v++r))=_
   rw [lQ,if_neg (by omega),if_neg (by omega)]
   dsimp only
   rw [if_neg (by omega),if_pos (by omega),BV _ _ _ _ _ v0 v1,show 128*(128*((128+b / 16384) % 128)+(128+b / 128 % 128) % 128)+b % 128=b by omega]
   simp
abbrev PR:=Int × Int × ByteArray × List af × List (Nat × Nat) × List Int
abbrev RR:=Int × Int × Int × ByteArray × List af × List Int × List Int
theorem rz (a b:Nat) (h:a+b≤1000000):wrap64 ((a:Int)+(b:Int))=((a+b:Nat):Int):=(aO (x:=(a:Int)+(b:Int)) (by omega) (by omega)).trans (Int.natCast_add a b).symm
def Gw (s:ByteArray) (T:List Nd) (F To:List Int) (p dep x y a b:Int) (c:Bool) (k:Nat):Option RR:=(if a=0 then (if c=true then (if b=16 then (bT.j0 k p dep x y false s T F To a b c) else (bT.j0 k p dep x y (b != 17) s T F To a b c)) else (bT.j0 k p dep x y false s T F To a b c)) else (bT.j0 k p dep x y false s T F To a b c))
def qN (s:ByteArray) (T:List Nd) (F To:List Int) (p dep x y a b:Int) (c:Bool) (k:Nat):Option RR:=if dep > 16 then ((gM.f 6 p).bind fun ZI=>(some ((0:Int),ZI.1,ZI.2,s,T,F,To))) else (if (T.length:Int)≥1000 then ((gM.f 4 p).bind fun ZJ=>(some (0,ZJ.1,ZJ.2,s,T,F,To))) else Gw s T F To p dep x y a b c k)
def vG (s:ByteArray) (T:List Nd) (F To:List Int) (p e dep a b:Int) (c:Bool) (v n code:Int) (k:Nat):Option RR:=if code=0 then (if (wrap64 ((wrap64 (p+n))+v)) > e then ((gM.f 5 p).bind fun ZK=>(some ((0:Int),ZK.1,ZK.2,s,T,F,To))) else qN s T F To p dep (wrap64 (p+n)) (wrap64 ((wrap64 (p+n))+v)) a b c k) else ((gM.f code p).bind fun ZL=>(some (0,ZL.1,ZL.2,s,T,F,To)))
def vH (s:ByteArray) (T:List Nd) (sp:List (Nat × Nat)) (O:List Int) (p x y a b:Int) (c:Bool) (v:Int) (d:ByteArray) (k:Nat):Option PR:=(fO.f k s T sp O a b c v d).bind fun mH=>(if mH.1=0 then ((pM.f p y).bind fun amI=>((pg.f mH.2.1 mH.2.2.1 mH.2.2.2.1 mH.2.2.2.2 a b c v d amI).bind fun xH=>(if c=true then (bH.j3 k x mH.1 mH.2.1 xH.1 xH.2.1 xH.2.2) else (bH.j3 k y mH.1 mH.2.1 xH.1 xH.2.1 xH.2.2)))) else (bH.fH k p mH.1 mH.2.1 mH.2.2.1 mH.2.2.2.1 mH.2.2.2.2))
def vI (s:ByteArray) (T:List Nd) (sp:List (Nat × Nat)) (O:List Int) (p room a b:Int) (c:Bool) (v n code:Int) (k:Nat):Option PR:=if code=0 then (if v > (wrap64 (room - n)) then (bH.fH k p 5 s T sp O) else ((jV.f s (wrap64 (p+n)) v).bind fun amJ=>vH s T sp O p (wrap64 (p+n)) (wrap64 ((wrap64 (p+n))+v)) a b c v amJ k)) else (bH.fH k p code s T sp O)
def dh (l:List Int) (p e:Nat):List Int:=(l.drop p).take (e - p)
theorem pO (l:List Int) (p e:Nat) (he:e≤l.length):(dh l p e).length=e - p:=by rw [dh,List.length_take,List.length_drop];omega
theorem yI {l:List Int} (hl:aG l) (p e:Nat):aG (dh l p e):=(hl.drop _).take _
theorem WZ (l:List Int) (hs:l.length≤65535) (p e:Nat) (hpe:p≤e) (he:e≤l.length):jV.f (strOfNums l) (p:Int) ((e:Int) - (p:Int))=some (strOfNums (dh l p e)):=by
 rw [aa3 l _ _ (by omega) (by omega) (by omega)]
 unfold SI
 split
 ·rename_i hc
  congr 2
  unfold dh
  rcases hc with hc | hc | hc
  ·omega
  ·rw [List.drop_eq_nil_of_le (by omega),List.take_nil]
  ·rw [show e - p=0 by omega];rfl
 ·rw [Int.toNat_natCast,show ((e:Int) - (p:Int)).toNat=e - p by omega];rfl
theorem aeu (l:List Int) (hs:l.length≤65535) (x v:Nat) (he:x+v≤l.length):jV.f (strOfNums l) (x:Int) (v:Int)=some (strOfNums (dh l x (x+v))):=by
 have:=WZ l hs x (x+v) (by omega) he
 rw [show ((x+v:Nat):Int) - (x:Int)=(v:Int) by omega] at this
 exact this
theorem CU (c p:Int) (s:ByteArray) (T:List Nd) (sp:List (Nat × Nat)) (O:List Int) (hc:c≠0):Ev (fun k=>bH.fH k p c s T sp O) (c,p,s,T,sp,O):=by
 refine Ev.step (fun k=>by rw [bH.fH]) ?_
 exact Ev.ak hc (Ev.now _)
theorem Ig (l:List Int) (hl:aG l) (hs:l.length≤65535) (p e:Nat) (hpe:p < e) (he:e≤l.length) (T:List Nd) (F To:List Int) (O:List Nat) (n0:Nat) (hsp:Sp l F To n0) (hO:∀ o∈O,o < n0) (ho:O.length≤16) (hen:kQ l To O=(e:Int)) {R:PR} {a b:Int} {c:Bool} {v n code:Int} (hh:ko (dh l p e)=(a,b,c,v,n,code))
 (h:Ev (vI (strOfNums l) T (dP F To) (iz O) p ((e:Int) - (p:Int)) a b c v n code) R):Ev (fun k=>bH.ik k (p:Int) (strOfNums l) T (dP F To) (iz O)) R:=by
 refine Ev.step (fun k=>by rw [bH.ik]) ?_
 refine Ev.bU (Ju l hs T F To O n0 hsp hO ho) ?_
 rw [hen,aO (x:=(e:Int) - (p:Int)) (by omega) (by omega)]
 refine Ev.bU (WZ l hs p e (by omega) he) ?_
 refine Ev.bind (afq _ (yI hl p e) (by rw [pO l p e he];omega)) ?_
 rw [hh]
 exact h
theorem IZ (l:List Int) (hl:aG l) (hs:l.length≤65535) (p e:Nat) (hpe:p < e) (he:e≤l.length) (dep:Int) (T:List Nd) (F To:List Int) {R:RR} {a b:Int} {c:Bool} {v n code:Int} (hh:ko (dh l p e)=(a,b,c,v,n,code))
 (h:Ev (vG (strOfNums l) T F To p e dep a b c v n code) R):Ev (fun k=>bT.f k (strOfNums l) T F To (p:Int) (e:Int) dep) R:=by
 refine Ev.step (fun k=>by rw [bT.f]) ?_
 refine Ev.ae (by omega) (Ev.ae (by omega) (Ev.ae (by rw [dL];omega) ?_))
 rw [Int.toNat_natCast,Int.toNat_natCast,oC]
 refine Ev.bind (abr _ (yI hl p e) (by have:=pO l p e he;unfold dh at this;omega)) ?_
 rw [show (l.drop p).take (e - p)=dh l p e from rfl,hh]
 exact h
theorem afC (s:ByteArray) (T:List Nd) (sp:List (Nat × Nat)) (O:List Int) (p room a b:Int) (c:Bool) (v n code:Int) (hc:code≠0):Ev (vI s T sp O p room a b c v n code) (code,p,s,T,sp,O):=by
 unfold vI
 exact Ev.ak hc (CU _ _ _ _ _ _ hc)
theorem afD (s:ByteArray) (T:List Nd) (F To:List Int) (p e dep a b:Int) (c:Bool) (v n code:Int) (hc:code≠0):Ev (vG s T F To p e dep a b c v n code) (0,code,p,s,T,F,To):=by
 unfold vG
 exact Ev.ak hc (Ev.now _)
theorem afE (s:ByteArray) (T:List Nd) (sp:List (Nat × Nat)) (O:List Int) (p room a b:Int) (c:Bool) (v n:Int) (h0:0≤room) (h1:room≤65535) (n0:0≤n) (n1:n≤65535) (hv:v > room - n):Ev (vI s T sp O p room a b c v n 0) (5,p,s,T,sp,O):=by
 unfold vI
 refine Ev.ae rfl (Ev.ae ?_ (CU _ _ _ _ _ _ (by decide)))
 rw [aO (x:=room - n) (by omega) (by omega)];exact hv
theorem afF (s:ByteArray) (T:List Nd) (F To:List Int) (p n v:Nat) (e dep a b:Int) (c:Bool) (h:p+n+v≤1000000) (hv:((p+n+v:Nat):Int) > e):Ev (vG s T F To p e dep a b c v n 0) (0,5,(p:Int),s,T,F,To):=by
 unfold vG
 refine Ev.ae rfl (Ev.ae ?_ (Ev.now _))
 rw [rz p n (by omega),rz (p+n) v (by omega)];exact hv
theorem agp (s:ByteArray) (T:List Nd) (sp:List (Nat × Nat)) (O:List Int) (p n v:Nat) (room a b:Int) (c:Bool) (d:ByteArray) (h:p+n+v≤1000000) (h0:0≤room) (h1:room≤65535) (hv:(v:Int)≤room - (n:Int)) (hd:jV.f s ((p+n:Nat):Int) (v:Int)=some d) {R:PR}
 (k:Ev (vH s T sp O p ((p+n:Nat):Int) ((p+n+v:Nat):Int) a b c v d) R):Ev (vI s T sp O p room a b c v n 0) R:=by
 unfold vI
 refine Ev.ae rfl (Ev.ak ?_ ?_)
 ·rw [aO (x:=room - (n:Int)) (by omega) (by omega)];omega
 ·rw [rz p n (by omega),rz (p+n) v (by omega)]
  exact Ev.bU hd k
theorem agq (s:ByteArray) (T:List Nd) (F To:List Int) (p n v:Nat) (e dep a b:Int) (c:Bool) (h:p+n+v≤1000000) (hv:((p+n+v:Nat):Int)≤e) {R:RR}
 (k:Ev (qN s T F To p dep ((p+n:Nat):Int) ((p+n+v:Nat):Int) a b c) R):Ev (vG s T F To p e dep a b c v n 0) R:=by
 unfold vG
 refine Ev.ae rfl (Ev.ak ?_ ?_)
 ·rw [rz p n (by omega),rz (p+n) v (by omega)];omega
 ·rw [rz p n (by omega),rz (p+n) v (by omega)];exact k
def Rt (b:Int) (d:List Int):Prop:=Ev (fun k=>jE.f k b (strOfNums d)) true∧Ev (fun k=>mh.f k b (strOfNums d)) true
def May (a b:Int) (c:Bool) (d:List Int):Prop:=a=0→(c=true→b=16∨b=17)∧(c=false→Rt b d)
theorem afG (p dep x y a b:Int) (c:Bool) (s:ByteArray) (T:List Nd) (F To:List Int):Ev (fun k=>bT.j0 k p dep x y true s T F To a b c) (0,5,p,s,T,F,To):=by
 refine Ev.step (fun k=>by rw [bT.j0]) ?_
 exact Ev.ae rfl (Ev.now _)
theorem afH (p dep x y a b:Int) (c:Bool) (s:ByteArray) (T:List Nd) (F To:List Int):Ev (fun k=>bT.j1 k p dep x y true s T F To a b c) (0,5,p,s,T,F,To):=by
 refine Ev.step (fun k=>by rw [bT.j1]) ?_
 exact Ev.ae rfl (Ev.now _)
theorem I1 (p dep x y a b:Int) (c:Bool) (s:ByteArray) (T:List Nd) (F To:List Int) (h:a≠0∨c=true) {R:RR} (k:Ev (fun k=>bT.j1 k p dep x y false s T F To a b c) R):Ev (fun k=>bT.j0 k p dep x y false s T F To a b c) R:=by
 refine Ev.step (fun k=>by rw [bT.j0]) ?_
 refine Ev.ak (by decide) ?_
 by_cases g:a=0
 ·exact Ev.ae g (Ev.ae (h.resolve_left (fun h=>h g)) k)
 ·exact Ev.ak g k
theorem afI (l:List Int) (p dep b:Int) (x v:Nat) (hx:x+v≤l.length) (T:List Nd) (F To:List Int) (t:Bool) (ht:Ev (fun k=>mh.f k b (strOfNums (dh l x (x+v)))) t) {R:RR} (k:Ev (fun k=>bT.j1 k p dep x ((x+v:Nat):Int) (!t) (strOfNums l) T F To 0 b false) R):Ev (fun k=>bT.j0 k p dep x ((x+v:Nat):Int) false (strOfNums l) T F To 0 b false) R:=by
 refine Ev.step (fun k=>by rw [bT.j0]) ?_
 refine Ev.ak (by decide) (Ev.ae rfl (Ev.ak (by decide) (Ev.ae (by omega) (Ev.ae (by omega) (Ev.ae (by rw [dL];omega) ?_)))))
 rw [Int.toNat_natCast,Int.toNat_natCast,oC]
 exact Ev.bind ht k
theorem W9 (d s:ByteArray) (T:List Nd) (sp:List (Nat × Nat)) (O:List Int) (b:Int) (c:Bool):Ev (fun k=>fO.j0 k d true s T sp O b c) (0,s,T,sp,O):=by
 refine Ev.step (fun k=>by rw [fO.j0]) ?_
 exact Ev.ae rfl (Ev.now _)
theorem afJ (d s:ByteArray) (T:List Nd) (sp:List (Nat × Nat)) (O:List Int) (b:Int):Ev (fun k=>fO.j0 k d false s T sp O b true) (5,s,T,sp,O):=by
 refine Ev.step (fun k=>by rw [fO.j0]) ?_
 exact Ev.ak (by decide) (Ev.ae rfl (Ev.now _))
theorem afK (d s:ByteArray) (T:List Nd) (sp:List (Nat × Nat)) (O:List Int) (b:Int) (t:Bool) (ht:Ev (fun k=>jE.f k b d) t):Ev (fun k=>fO.j0 k d false s T sp O b false) (if t=true then 0 else 5,s,T,sp,O):=by
 refine Ev.step (fun k=>by rw [fO.j0]) ?_
 refine Ev.ak (by decide) (Ev.ak (by decide) (Ev.bind ht ?_))
 cases t with
 | true=>exact Ev.ae rfl (Ev.now _)
 | false=>exact Ev.ak (by decide) (Ev.now _)
theorem Xy (l:List Int) (hl:aG l) (hs:l.length≤65535) (x v:Nat) (hx:x+v≤l.length) (a b:Int) (c:Bool):∃ t:Bool,(t=true↔May a b c (dh l x (x+v))) ∧
 (∀ (p dep:Int) (T:List Nd) (F To:List Int) (R:RR),(if t=true then Ev (fun k=>bT.j1 k p dep x ((x+v:Nat):Int) false (strOfNums l) T F To a b c) R else R=(0,5,p,strOfNums l,T,F,To))→Ev (Gw (strOfNums l) T F To p dep x ((x+v:Nat):Int) a b c) R) ∧
 ∀ (T:List Nd) (sp:List (Nat × Nat)) (O:List Int),T.length < 1000→O.length < 16→Ev (fun k=>fO.f k (strOfNums l) T sp O a b c v (strOfNums (dh l x (x+v)))) (if t=true then 0 else 5,strOfNums l,T,sp,O):=by
 have hp:∀ (T:List Nd) (sp:List (Nat × Nat)) (O:List Int) (R:Int × ByteArray × List Nd × List (Nat × Nat) × List Int),T.length < 1000→O.length < 16→Ev (fun k=>(if a=0 then (if c=true then (if b=16 then (fO.j0 k (strOfNums (dh l x (x+v))) true (strOfNums l) T sp O b c) else (fO.j0 k (strOfNums (dh l x (x+v))) (b == 17) (strOfNums l) T sp O b c)) else (fO.j0 k (strOfNums (dh l x (x+v))) false (strOfNums l) T sp O b c)) else (some (0,(strOfNums l),T,sp,O)))) R →
  Ev (fun k=>fO.f k (strOfNums l) T sp O a b c v (strOfNums (dh l x (x+v)))) R:=by
  intro T sp O R h1 h2 hR
  refine Ev.congr (fun k=>by rw [fO.f]) ?_
  exact Ev.ak (by omega) (Ev.ak (by omega) hR)
 unfold Gw
 by_cases ga:a=0
 case neg =>
  refine ⟨true,⟨fun _ h=>absurd h ga,fun _=>rfl⟩,fun p dep T F To R hR=>Ev.ak ga (I1 _ _ _ _ _ _ _ _ _ _ _ (.inl ga) (by rwa [if_pos rfl] at hR)),fun T sp O h1 h2=>hp T sp O _ h1 h2 (Ev.ak ga (Ev.now _))⟩
 subst ga
 cases c with
 | true =>
  by_cases gb:b=16
  ·exact ⟨true,⟨fun _ _=>⟨fun _=>.inl gb,fun h=>(by cases h)⟩,fun _=>rfl⟩,fun p dep T F To R hR=>Ev.ae rfl (Ev.ae rfl (Ev.ae gb (I1 _ _ _ _ _ _ _ _ _ _ _ (.inr rfl) (by rwa [if_pos rfl] at hR)))),fun T sp O h1 h2=>hp T sp O _ h1 h2 (Ev.ae rfl (Ev.ae rfl (Ev.ae gb (W9 _ _ _ _ _ _ _))))⟩
  by_cases gc:b=17
  ·subst gc
   exact ⟨true,⟨fun _ _=>⟨fun _=>.inr rfl,fun h=>(by cases h)⟩,fun _=>rfl⟩,fun p dep T F To R hR=>Ev.ae rfl (Ev.ae rfl (Ev.ak gb (I1 _ _ _ _ _ _ _ _ _ _ _ (.inr rfl) (by rwa [if_pos rfl] at hR)))),fun T sp O h1 h2=>hp T sp O _ h1 h2 (Ev.ae rfl (Ev.ae rfl (Ev.ak gb (W9 _ _ _ _ _ _ _))))⟩
  ·refine ⟨false,⟨fun h=>(by cases h),fun hM=>absurd ((hM rfl).1 rfl) (fun h=>h.elim gb gc)⟩,fun p dep T F To R hR=>Ev.ae rfl (Ev.ae rfl (Ev.ak gb ?_)),fun T sp O h1 h2=>hp T sp O _ h1 h2 (Ev.ae rfl (Ev.ae rfl (Ev.ak gb ?_)))⟩
   ·rw [if_neg (by decide)] at hR
    subst hR
    rw [show (b != 17)=true from bne_iff_ne.2 gc]
    exact afG _ _ _ _ _ _ _ _ _ _ _
   ·rw [show (b == 17)=false from beq_eq_false_iff_ne.2 gc]
    exact afJ _ _ _ _ _ _
 | false =>
  obtain ⟨t,t1,t2⟩:=Gy b (dh l x (x+v)) (yI hl _ _) (by rw [pO _ _ _ hx];omega)
  refine ⟨t,⟨fun ht _=>⟨fun h=>(by cases h),fun _=>by subst ht;exact ⟨t1,t2⟩⟩,fun hM=>t1.ky ((hM rfl).2 rfl).1⟩,fun p dep T F To R hR=>Ev.ae rfl (Ev.ak (by decide) (afI l p dep b x v hx T F To t t2 ?_)),fun T sp O h1 h2=>hp T sp O _ h1 h2 (Ev.ae rfl (Ev.ak (by decide) (afK _ _ _ _ _ _ t t1)))⟩
  cases t with
  | true=>rwa [if_pos rfl] at hR
  | false =>
   rw [if_neg (by decide)] at hR
   subst hR
   exact afH _ _ _ _ _ _ _ _ _ _ _
theorem aev (s:ByteArray) (T:List Nd) (F To:List Int) (p dep x y a b:Int) (c:Bool) (h:dep > 16):Ev (qN s T F To p dep x y a b c) (0,6,p,s,T,F,To):=by
 unfold qN
 exact Ev.ae h (Ev.now _)
theorem aew (s:ByteArray) (T:List Nd) (F To:List Int) (p dep x y a b:Int) (c:Bool) (h:¬ dep > 16) (h1:(T.length:Int)≥1000):Ev (qN s T F To p dep x y a b c) (0,4,p,s,T,F,To):=by
 unfold qN
 exact Ev.ak h (Ev.ae h1 (Ev.now _))
theorem JS (s:ByteArray) (T:List Nd) (F To:List Int) (p dep x y a b:Int) (c:Bool) (h:¬ dep > 16) (h1:¬ (T.length:Int)≥1000) {R:RR} (k:Ev (Gw s T F To p dep x y a b c) R):Ev (qN s T F To p dep x y a b c) R:=by
 unfold qN
 exact Ev.ak h (Ev.ak h1 k)
theorem Jw (s:ByteArray) (T:List Nd) (sp:List (Nat × Nat)) (O:List Int) (p x y a b:Int) (c:Bool) (v:Int) (d:ByteArray) (code:Int) (hc:code≠0) (h:Ev (fun k=>fO.f k s T sp O a b c v d) (code,s,T,sp,O)):Ev (vH s T sp O p x y a b c v d) (code,p,s,T,sp,O):=by
 unfold vH
 refine Ev.bind h (Ev.ak hc ?_)
 exact CU _ _ _ _ _ _ hc
theorem aex (s:ByteArray) (T:List Nd) (sp:List (Nat × Nat)) (O:List Int) (a b:Int) (c:Bool) (v:Int) (d:ByteArray) (h:O.length≥16):Ev (fun k=>fO.f k s T sp O a b c v d) (6,s,T,sp,O):=by
 refine Ev.congr (fun k=>by rw [fO.f]) ?_
 exact Ev.ae (by omega) (Ev.now _)
theorem aey (s:ByteArray) (T:List Nd) (sp:List (Nat × Nat)) (O:List Int) (a b:Int) (c:Bool) (v:Int) (d:ByteArray) (h:¬ O.length≥16) (h1:T.length≥1000):Ev (fun k=>fO.f k s T sp O a b c v d) (4,s,T,sp,O):=by
 refine Ev.congr (fun k=>by rw [fO.f]) ?_
 exact Ev.ak (by omega) (Ev.ae (by omega) (Ev.now _))
structure Cond (l:List Int) (T:List Nd) (F To:List Int) (O:List Nat) (e dep tl:Nat):Prop where
 t:T.length=tl
 sp:Sp l F To tl
 o:∀ o∈O,o < tl
 k:∀ x∈T,x.f4.length≤tl
 d:O.length=dep
 e:kQ l To O=(e:Int)
theorem Xz (l:List Int) (T:List Nd) (F To:List Int) (O:List Nat) (e dep tl:Nat) (hC:Cond l T F To O e dep tl) (hd:dep < 16) (ht:tl < 1000) (p x y:Nat) (hxy:p≤y) (hy:y≤65535) (a b:Int) (c:Bool) (v:Int) (d:ByteArray) (h:Ev (fun k=>fO.f k (strOfNums l) T (dP F To) (iz O) a b c v d) (0,strOfNums l,T,dP F To,iz O)) {R:PR}
 (k:if c=true then Ev (fun k=>bH.j3 k (x:Int) 0 (strOfNums l) (upd T O++[nd a b c ⟨#[]⟩ []]) (dP (F++[(p:Int)]) (To++[(y:Int)])) (iz (O++[tl]))) R else
  Ev (fun k=>bH.j3 k (y:Int) 0 (strOfNums l) (upd T O++[nd a b c d []]) (dP (F++[(p:Int)]) (To++[(y:Int)])) (iz O)) R):Ev (vH (strOfNums l) T (dP F To) (iz O) p x y a b c v d) R:=by
 unfold vH
 have hFT:F.length=To.length:=by rw [hC.sp.f,hC.sp.t]
 refine Ev.bind h (Ev.ae rfl (Ev.bU (acH p y hxy (by omega)) ?_))
 refine Ev.bU (agn (strOfNums l) T (dP F To) O a b c v d (fl p,fl y) (by have:=hC.t;omega) (by rw [Hg F To hFT,hC.sp.f];omega) (by have:=hC.d;omega) (fun o ho=>by rw [hC.t];exact hC.o o ho) (by rw [hC.t];exact hC.k)) ?_
 rw [aer F To hFT,hC.t]
 cases c with
 | true=>rw [if_pos rfl] at k;exact Ev.ae rfl k
 | false=>rw [if_neg (by decide)] at k;exact Ev.ak (by decide) k
theorem Yf (s:ByteArray) (T:List Nd) (F To:List Int) (p dep x y a b:Int) (c:Bool) (d:ByteArray) (tl:Nat) (hT:T.length=tl) (hF:F.length=tl) (dF:To.length=tl) (ht:tl < 1000) {r:RR}
 (h:if c=true then Ev (fun k=>bT.l0 k dep y (tl:Int) x s (T++[nd a b c d []]) (F++[p]) (To++[y])) r else r=(y,0,0,s,T++[nd a b c d []],F++[p],To++[y])):Ev (fun k=>bT.j2 k p dep x y (T.length:Int) s T F To c a b c d) r:=by
 refine Ev.step (fun k=>by rw [bT.j2]) ?_
 refine Ev.ae (by omega) (Ev.bU rfl (Ev.ae (by omega) (Ev.bU rfl (Ev.ae (by omega) (Ev.bU rfl ?_)))))
 rw [hT]
 cases c with
 | true=>rw [if_pos rfl] at h;exact Ev.ae rfl h
 | false=>rw [if_neg (by decide)] at h;subst h;exact Ev.ak (by decide) (Ev.now _)
theorem Yg (l:List Int) (T:List Nd) (F To:List Int) (p dep a b:Int) (c:Bool) (x v:Nat) (hx:x+v≤l.length) (tl:Nat) (hT:T.length=tl) (hF:F.length=tl) (dF:To.length=tl) (ht:tl < 1000) {r:RR}
 (h:if c=true then Ev (fun k=>bT.l0 k dep ((x+v:Nat):Int) (tl:Int) x (strOfNums l) (T++[nd a b c ⟨#[]⟩ []]) (F++[p]) (To++[((x+v:Nat):Int)])) r else r=(((x+v:Nat):Int),0,0,strOfNums l,T++[nd a b c (strOfNums (dh l x (x+v))) []],F++[p],To++[((x+v:Nat):Int)])):Ev (fun k=>bT.j1 k p dep x ((x+v:Nat):Int) false (strOfNums l) T F To a b c) r:=by
 refine Ev.step (fun k=>by rw [bT.j1]) ?_
 refine Ev.ak (by decide) ?_
 cases c with
 | true=>exact Ev.ae rfl (Yf _ T F To p dep _ _ a b true _ tl hT hF dF ht h)
 | false =>
  refine Ev.ak (by decide) (Ev.ae (by omega) (Ev.ae (by omega) (Ev.ae (by rw [dL];omega) ?_)))
  rw [Int.toNat_natCast,Int.toNat_natCast,oC]
  exact Yf _ T F To p dep _ _ a b false _ tl hT hF dF ht h
inductive anQ
 | bad (c:Int)
 | ok (a b:Int) (c:Bool) (n v:Nat)
def Jy (l:List Int) (p e dep tl:Nat) (code:Int):Prop:=code≠0∧(∀ (T:List Nd) (F To:List Int),T.length=tl→Ev (fun k=>bT.f k (strOfNums l) T F To (p:Int) (e:Int) ((dep:Int)+1)) (0,code,(p:Int),strOfNums l,T,F,To)) ∧
 ∀ (T:List Nd) (F To:List Int) (O:List Nat),Cond l T F To O e dep tl→Ev (fun k=>bH.ik k (p:Int) (strOfNums l) T (dP F To) (iz O)) (code,(p:Int),strOfNums l,T,dP F To,iz O)
structure JU (l:List Int) (p e dep tl:Nat) (a b:Int) (c:Bool) (n v:Nat):Prop where
 n2:2≤n
 fit:p+n+v≤e
 htl:tl < 1000
 Ga:dep < 16
 a0:0≤a
 a1:a≤3
 b0:0≤b
 b1:b≤2097151
 hd:(dh l p e).take n=di a b c++dm v
 may:May a b c (dh l (p+n) (p+n+v))
 ref:∀ (T:List Nd) (F To:List Int) (r:RR),T.length=tl→F.length=tl→To.length=tl→(if c=true then Ev (fun k=>bT.l0 k ((dep:Int)+1) ((p+n+v:Nat):Int) (tl:Int) ((p+n:Nat):Int) (strOfNums l) (T++[nd a b c ⟨#[]⟩ []]) (F++[(p:Int)]) (To++[((p+n+v:Nat):Int)])) r else
  r=(((p+n+v:Nat):Int),0,0,strOfNums l,T++[nd a b c (strOfNums (dh l (p+n) (p+n+v))) []],F++[(p:Int)],To++[((p+n+v:Nat):Int)]))→Ev (fun k=>bT.f k (strOfNums l) T F To (p:Int) (e:Int) ((dep:Int)+1)) r
 prog:∀ (T:List Nd) (F To:List Int) (O:List Nat) (R:PR),Cond l T F To O e dep tl →
  (if c=true then Ev (fun k=>bH.j3 k ((p+n:Nat):Int) 0 (strOfNums l) (upd T O++[nd a b c ⟨#[]⟩ []]) (dP (F++[(p:Int)]) (To++[((p+n+v:Nat):Int)])) (iz (O++[tl]))) R else
   Ev (fun k=>bH.j3 k ((p+n+v:Nat):Int) 0 (strOfNums l) (upd T O++[nd a b c (strOfNums (dh l (p+n) (p+n+v))) []]) (dP (F++[(p:Int)]) (To++[((p+n+v:Nat):Int)])) (iz O)) R) →
  Ev (fun k=>bH.ik k (p:Int) (strOfNums l) T (dP F To) (iz O)) R
theorem Vu (l:List Int) (hl:aG l) (hs:l.length≤65535) (p e:Nat) (hpe:p < e) (he:e≤l.length) (dep tl:Nat) (hd:dep≤16) (code:Int) (hc:code≠0) (hh:ko (dh l p e)=noH code):Jy l p e dep tl code :=
 ⟨hc,fun T F To hT=>IZ l hl (by omega) p e hpe he _ T F To hh (afD _ _ _ _ _ _ _ _ _ _ _ _ _ hc),fun T F To O hC=>Ig l hl (by omega) p e hpe he T F To O tl hC.sp hC.o (by have:=hC.d;omega) hC.e hh (afC _ _ _ _ _ _ _ _ _ _ _ _ hc)⟩
theorem aez (l:List Int) (hl:aG l) (hs:l.length≤65535) (p e:Nat) (hpe:p < e) (he:e≤l.length) (dep tl:Nat) (hd:dep≤16) (a b:Int) (c:Bool) (n v:Nat) (hn:n≤e - p) (hv:v≤65535) (hh:ko (dh l p e)=(a,b,c,(v:Int),(n:Int),0)) (g:p+n+v > e):Jy l p e dep tl 5 :=
 ⟨by decide,fun T F To hT=>IZ l hl (by omega) p e hpe he _ T F To hh (afF _ _ _ _ p n v _ _ _ _ _ (by omega) (by omega)),fun T F To O hC=>Ig l hl (by omega) p e hpe he T F To O tl hC.sp hC.o (by have:=hC.d;omega) hC.e hh (afE _ _ _ _ _ _ _ _ _ _ _ (by omega) (by omega) (by omega) (by omega) (by omega))⟩
theorem yx (l:List Int) (hl:aG l) (hs:l.length≤65535) (p e:Nat) (hpe:p < e) (he:e≤l.length) (dep:Int) (a b:Int) (c:Bool) (n v:Nat) (g:p+n+v≤e) (hh:ko (dh l p e)=(a,b,c,(v:Int),(n:Int),0)) (T:List Nd) (F To:List Int) {R:RR} (k:Ev (qN (strOfNums l) T F To p dep ((p+n:Nat):Int) ((p+n+v:Nat):Int) a b c) R) :
 Ev (fun k=>bT.f k (strOfNums l) T F To (p:Int) (e:Int) dep) R :=
 IZ l hl (by omega) p e hpe he _ T F To hh (agq _ _ _ _ p n v _ _ _ _ _ (by omega) (by omega) k)
theorem ym (l:List Int) (hl:aG l) (hs:l.length≤65535) (p e:Nat) (hpe:p < e) (he:e≤l.length) (dep tl:Nat) (hd:dep≤16) (a b:Int) (c:Bool) (n v:Nat) (g:p+n+v≤e) (hh:ko (dh l p e)=(a,b,c,(v:Int),(n:Int),0)) (T:List Nd) (F To:List Int) (O:List Nat) (hC:Cond l T F To O e dep tl) {R:PR} (k:Ev (vH (strOfNums l) T (dP F To) (iz O) p ((p+n:Nat):Int) ((p+n+v:Nat):Int) a b c v (strOfNums (dh l (p+n) (p+n+v)))) R) :
 Ev (fun k=>bH.ik k (p:Int) (strOfNums l) T (dP F To) (iz O)) R :=
 Ig l hl (by omega) p e hpe he T F To O tl hC.sp hC.o (by have:=hC.d;omega) hC.e hh (agp _ _ _ _ p n v _ _ _ _ _ (by omega) (by omega) (by omega) (by omega) (aeu l (by omega) (p+n) v (by omega)) k)
theorem look (l:List Int) (hl:aG l) (hs:l.length≤65535) (p e:Nat) (hpe:p < e) (he:e≤l.length) (dep tl:Nat) (hd:dep≤16) (ht:tl≤1000):(∃ code,Jy l p e dep tl code)∨∃ a b c n v,JU l p e dep tl a b c n v:=by
 rcases aet _ (yI hl p e) with h | h | ⟨a,b,c,v,n,h,n2,a0,a1,b0,b1,v1,hn,hid⟩
 ·exact .inl ⟨5,Vu l hl hs p e hpe he dep tl hd 5 (by decide) h⟩
 ·exact .inl ⟨4,Vu l hl hs p e hpe he dep tl hd 4 (by decide) h⟩
 rw [pO l p e he] at hn
 by_cases g1:p+n+v > e
 ·exact .inl ⟨5,aez l hl hs p e hpe he dep tl hd a b c n v hn v1 h g1⟩
 have g:p+n+v≤e:=by omega
 by_cases g2:dep=16
 ·exact .inl ⟨6,by decide,fun T F To hT=>yx l hl hs p e hpe he _ a b c n v g h T F To (aev _ _ _ _ _ _ _ _ _ _ _ (by omega)),fun T F To O hC=>ym l hl hs p e hpe he dep tl hd a b c n v g h T F To O hC (Jw _ _ _ _ _ _ _ _ _ _ _ _ _ (by decide) (aex _ _ _ _ _ _ _ _ _ (by rw [mV,hC.d];omega)))⟩
 by_cases g3:tl=1000
 ·exact .inl ⟨4,by decide,fun T F To hT=>yx l hl hs p e hpe he _ a b c n v g h T F To (aew _ _ _ _ _ _ _ _ _ _ _ (by omega) (by omega)),fun T F To O hC=>ym l hl hs p e hpe he dep tl hd a b c n v g h T F To O hC (Jw _ _ _ _ _ _ _ _ _ _ _ _ _ (by decide) (aey _ _ _ _ _ _ _ _ _ (by rw [mV,hC.d];omega) (by rw [hC.t];omega)))⟩
 obtain ⟨t,ht1,ht2,ht3⟩:=Xy l hl hs (p+n) v (by omega) a b c
 cases t with
 | false =>
  refine .inl ⟨5,by decide,fun T F To hT=>yx l hl hs p e hpe he _ a b c n v g h T F To (JS _ _ _ _ _ _ _ _ _ _ _ (by omega) (by omega) (ht2 _ _ _ _ _ _ (by rw [if_neg (by decide)]))),fun T F To O hC=>ym l hl hs p e hpe he dep tl hd a b c n v g h T F To O hC (Jw _ _ _ _ _ _ _ _ _ _ _ _ _ (by decide) (ht3 _ _ _ (by rw [hC.t];omega) (by rw [mV,hC.d];omega)))⟩
 | true =>
  refine .inr ⟨a,b,c,n,v,n2,g,by omega,by omega,a0,a1,b0,b1,hid,ht1.1 rfl,fun T F To r hT hF dF hr=>yx l hl hs p e hpe he _ a b c n v g h T F To (JS _ _ _ _ _ _ _ _ _ _ _ (by omega) (by omega) (ht2 _ _ _ _ _ _ ?_)),fun T F To O R hC hR=>ym l hl hs p e hpe he dep tl hd a b c n v g h T F To O hC (Xz l T F To O e dep tl hC (by omega) (by omega) p (p+n) (p+n+v) (by omega) (by omega) a b c v _ (ht3 _ _ _ (by rw [hC.t];omega) (by rw [mV,hC.d];omega)) hR)⟩
  rw [if_pos rfl]
  exact Yg l T F To p _ a b c (p+n) v (by omega) tl hT hF dF (by omega) hr
theorem acK (l:List Int) (hl:aG l) (hs:l.length≤65535) (p e:Nat) (hpe:p < e) (he:e≤l.length) (dep tl:Nat) (hd:dep < 16) (ht:tl < 1000) (a b:Int) (c:Bool) (n v:Nat) (a0:0≤a) (a1:a≤3) (b0:0≤b) (b1:b≤2097151) (v1:v≤65535)
 (hn:(di a b c++dm (v:Int)).length=n) (n2:2≤n) (hid:(dh l p e).take n=di a b c++dm (v:Int)) (g:p+n+v≤e) (hm:May a b c (dh l (p+n) (p+n+v))):JU l p e dep tl a b c n v:=by
 have h:ko (dh l p e)=(a,b,c,(v:Int),(n:Int),0):=by
  rw [← List.take_append_drop n (dh l p e),hid,acJ a b c (v:Int) a0 a1 b0 b1 (by omega) (by omega),hn]
 obtain ⟨t,ht1,ht2,ht3⟩:=Xy l hl hs (p+n) v (by omega) a b c
 obtain rfl:t=true:=ht1.2 hm
 refine ⟨n2,g,by omega,by omega,a0,a1,b0,b1,hid,hm,fun T F To r hT hF dF hr=>yx l hl hs p e hpe he _ a b c n v g h T F To (JS _ _ _ _ _ _ _ _ _ _ _ (by omega) (by omega) (ht2 _ _ _ _ _ _ ?_)),fun T F To O R hC hR=>ym l hl hs p e hpe he dep tl (by omega) a b c n v g h T F To O hC (Xz l T F To O e dep tl hC (by omega) (by omega) p (p+n) (p+n+v) (by omega) (by omega) a b c v _ (ht3 _ _ _ (by rw [hC.t];omega) (by rw [mV,hC.d];omega)) hR)⟩
 rw [if_pos rfl]
 exact Yg l T F To p _ a b c (p+n) v (by omega) tl hT hF dF (by omega) hr
inductive Fo
 | nil:Fo
 | cons (a b:Int) (c:Bool) (d:List Int) (ks rest:Fo):Fo
namespace Fo
def size:Fo→Nat
 | nil=>0
 | cons _ _ _ _ ks r=>1+ks.size+r.size
def enc:Fo→List Int
 | nil=>[]
 | cons a b c d ks r=>di a b c++dm ((d++ks.enc).length:Int)++(d++ks.enc)++r.enc
def roots:Fo→Nat→List Int
 | nil,_=>[]
 | cons _ _ _ _ ks r,n=>(n:Int) :: r.roots (n+1+ks.size)
def flat:Fo→Nat→List Nd
 | nil,_=>[]
 | cons a b c d ks r,n=>nd a b c (strOfNums d) (ks.roots (n+1)) :: (ks.flat (n+1)++r.flat (n+1+ks.size))
def hd (a b:Int) (c:Bool) (d:List Int) (ks:Fo):Nat:=(di a b c++dm ((d++ks.enc).length:Int)).length
def fe:Fo→Nat→List Int
 | nil,_=>[]
 | cons a b c d ks r,p=>(p:Int) :: (ks.fe (p+hd a b c d ks)++r.fe (p+hd a b c d ks+(d++ks.enc).length))
def eX:Fo→Nat→List Int
 | nil,_=>[]
 | cons a b c d ks r,p=>((p+hd a b c d ks+(d++ks.enc).length:Nat):Int) :: (ks.eX (p+hd a b c d ks)++r.eX (p+hd a b c d ks+(d++ks.enc).length))
def Ok:Fo→Nat→Prop
 | nil,_=>True
 | cons a b c d ks r,dep=>(0≤a∧a≤3∧0≤b∧b≤2097151)∧(d++ks.enc).length≤65535∧dep < 16∧May a b c d∧aG d∧(c=true→d=[])∧(c=false→ks=nil)∧ks.Ok (dep+1)∧r.Ok dep
theorem jG (a b:Int) (c:Bool) (d:List Int) (ks r:Fo):(cons a b c d ks r).enc.length=hd a b c d ks+(d++ks.enc).length+r.enc.length:=by
 rw [enc,List.length_append,List.length_append];rfl
theorem gD:∀ (f:Fo) (n:Nat),(f.flat n).length=f.size
 | nil,_=>rfl
 | cons a b c d ks r,n=>by rw [flat,size,List.length_cons,List.length_append,gD ks,gD r];omega
theorem BX:∀ (f:Fo) (n:Nat),(f.fe n).length=f.size
 | nil,_=>rfl
 | cons a b c d ks r,n=>by rw [fe,size,List.length_cons,List.length_append,BX ks,BX r];omega
theorem CE:∀ (f:Fo) (n:Nat),(f.eX n).length=f.size
 | nil,_=>rfl
 | cons a b c d ks r,n=>by rw [eX,size,List.length_cons,List.length_append,CE ks,CE r];omega
theorem Vv:∀ (f:Fo) (n:Nat),(f.roots n).length≤f.size
 | nil,_=>Nat.le_refl _
 | cons a b c d ks r,n=>by rw [roots,size,List.length_cons];have:=Vv r (n+1+ks.size);omega
theorem qo:∀ (f:Fo) (n:Nat),∀ x∈f.flat n,x.f4.length≤f.size
 | nil,_,x,h=>by cases h
 | cons a b c d ks r,n,x,h=>by
  rw [flat] at h
  rw [size]
  rcases List.mem_cons.1 h with rfl | h
  ·have:=Vv ks (n+1);show (ks.roots (n+1)).length≤_;omega
  ·rcases List.mem_append.1 h with h | h
   ·have:=qo ks _ x h;omega
   ·have:=qo r _ x h;omega
theorem yJ (l:List Int):∀ (f:Fo) (F To:List Int) (n p:Nat),Sp l F To n→p+f.enc.length≤l.length→Sp l (F++f.fe p) (To++f.eX p) (n+f.size)
 | nil,F,To,n,p,h,_=>by rw [fe,eX,size,List.append_nil,List.append_nil];exact h
 | cons a b c d ks r,F,To,n,p,h,hp=>by
  rw [jG] at hp
  have hk:(d++ks.enc).length=d.length+ks.enc.length:=List.length_append
  have h1:=h.snoc p (p+hd a b c d ks+(d++ks.enc).length) (by omega) (by omega)
  have h2:=yJ l ks _ _ _ (p+hd a b c d ks) h1 (by omega)
  have h3:=yJ l r _ _ _ (p+hd a b c d ks+(d++ks.enc).length) h2 (by omega)
  rw [fe,eX,size]
  have e:n+(1+ks.size+r.size)=n+1+ks.size+r.size:=by omega
  rw [e]
  simpa only [List.append_assoc,List.singleton_append,List.cons_append,List.nil_append] using h3
end Fo
def fu (T:List Nd) (i:Nat) (ks:List Int):List Nd:=T.set i ⟨(aa T i).f0,(aa T i).f1,(aa T i).f2,(aa T i).f3,(aa T i).f4++ks⟩
theorem qp (T:List Nd) (i:Nat) (ks:List Int):(fu T i ks).length=T.length:=List.length_set
theorem jZ (T:List Nd) (i:Nat) (h:i < T.length):aa T (i:Int)=T[i]:=by
 rw [rdT,List.getD_eq_getElem?_getD,List.getElem?_eq_getElem h];rfl
theorem Ih (T:List Nd) (i:Nat) (h:i < T.length):fu T i []=T:=by
 unfold fu
 rw [List.append_nil,jZ T i h]
 exact List.set_getElem_self h
theorem Ii (T N:List Nd) (i:Nat) (ks:List Int) (h:i < T.length):fu (T++N) i ks=fu T i ks++N:=by
 unfold fu
 rw [jZ T i h,jZ (T++N) i (by rw [List.length_append];omega),List.getElem_append_left h,List.set_append_left _ _ h]
theorem Ij (T:List Nd) (i:Nat) (a b:List Int) (h:i < T.length):fu (fu T i a) i b=fu T i (a++b):=by
 have h':i < (fu T i a).length:=by rw [qp];exact h
 show (fu T i a).set i ⟨(aa (fu T i a) i).f0,(aa (fu T i a) i).f1,(aa (fu T i a) i).f2,(aa (fu T i a) i).f3,(aa (fu T i a) i).f4++b⟩=_
 rw [jZ _ i h',show (fu T i a)[i]=⟨(aa T i).f0,(aa T i).f1,(aa T i).f2,(aa T i).f3,(aa T i).f4++a⟩ from List.getElem_set_self _]
 unfold fu
 rw [List.set_set,List.append_assoc]
theorem BZ (T:List Nd) (x:Nd) (N:List Nd) (ks:List Int) (tl:Nat) (h:T.length=tl):fu (T++[x]) tl ks=T++[nd x.f0 x.f1 x.f2 x.f3 (x.f4++ks)]:=by
 subst h
 unfold fu
 rw [jZ _ _ (by simp),List.getElem_concat_length rfl]
 rw [List.set_append_right _ _ (Nat.le_refl _),Nat.sub_self]
 rfl
theorem I4 (T:List Nd) (O:List Nat) (me:Nat):upd T (O++[me])=fu T me [(T.length:Int)]:=by
 unfold upd
 rw [List.getLast?_append,List.getLast?_singleton]
 rfl
theorem CF (T:List Nd) (O:List Nat) (n:Nat) (h:∀ x∈T,x.f4.length≤n) (hO:∀ o∈O,o < T.length):∀ x∈upd T O,x.f4.length≤n+1:=by
 rcases List.eq_nil_or_concat O with rfl | ⟨Q,o,rfl⟩
 ·intro x hx;have:=h x hx;omega
 ·rw [List.concat_eq_append] at *
  rw [I4]
  intro x hx
  unfold fu at hx
  rcases List.mem_or_eq_of_mem_set hx with hx | rfl
  ·have:=h x hx;omega
  ·have ho:o < T.length:=hO o (by simp)
   have:=h T[o] (List.getElem_mem ho)
   rw [jZ T o ho]
   show (T[o].f4++[(T.length:Int)]).length≤n+1
   rw [List.length_append];simpa using this
theorem aeA (l To X:List Int) (O:List Nat) (h:∀ o∈O,o < To.length):kQ l (To++X) O=kQ l To O:=by
 rcases List.eq_nil_or_concat O with rfl | ⟨Q,o,rfl⟩
 ·rfl
 ·rw [List.concat_eq_append] at *
  unfold kQ
  rw [List.getLast?_append,List.getLast?_singleton]
  exact Hl To X 0 o (h o (by simp))
theorem Cond.next {l:List Int} {T:List Nd} {F To:List Int} {O:List Nat} {e dep tl:Nat} (h:Cond l T F To O e dep tl) (f:Fo) (p:Nat) (hf:1≤f.size) (hp:p+f.enc.length≤l.length):Cond l (upd T O++f.flat tl) (F++f.fe p) (To++f.eX p) O e dep (tl+f.size) where
 t:=by rw [List.length_append,tX,h.t,f.gD]
 sp:=f.yJ l F To tl p h.sp hp
 o:=fun o ho=>Nat.lt_of_lt_of_le (h.o o ho) (Nat.le_add_right _ _)
 k:=fun x hx=>by
  rcases List.mem_append.1 hx with hx | hx
  ·have:=CF T O tl h.k (by rw [h.t];exact h.o) x hx;omega
  ·have:=f.qo tl x hx;omega
 d:=h.d
 e:=by rw [aeA l To _ O (by rw [h.sp.t];exact h.o)];exact h.e
def SV (l:List Int) (p e dep tl:Nat):Prop :=
 (∃ (code:Int) (q:Nat),code≠0∧q≤l.length∧(∀ (T:List Nd) (F To:List Int),T.length=tl→F.length=tl→To.length=tl→(∀ x∈T,x.f4.length≤tl+1)→∃ T' F' lF,Ev (fun k=>bT.f k (strOfNums l) T F To (p:Int) (e:Int) ((dep:Int)+1)) (0,code,(q:Int),strOfNums l,T',F',lF)) ∧
  ∀ (T:List Nd) (F To:List Int) (O:List Nat),Cond l T F To O e dep tl→∃ T' sp' O',Ev (fun k=>bH.ik k (p:Int) (strOfNums l) T (dP F To) (iz O)) (code,(q:Int),strOfNums l,T',sp',O')) ∨
 ∃ (a b:Int) (c:Bool) (d:List Int) (ks:Fo),p+(Fo.cons a b c d ks .nil).enc.length≤e∧dh l p (p+(Fo.cons a b c d ks .nil).enc.length)=(Fo.cons a b c d ks .nil).enc∧(Fo.cons a b c d ks .nil).Ok dep∧tl+(Fo.cons a b c d ks .nil).size≤1000 ∧
  (∀ (T:List Nd) (F To:List Int),T.length=tl→F.length=tl→To.length=tl→(∀ x∈T,x.f4.length≤tl+1)→Ev (fun k=>bT.f k (strOfNums l) T F To (p:Int) (e:Int) ((dep:Int)+1)) (((p+(Fo.cons a b c d ks .nil).enc.length:Nat):Int),0,0,strOfNums l,T++(Fo.cons a b c d ks .nil).flat tl,F++(Fo.cons a b c d ks .nil).fe p,To++(Fo.cons a b c d ks .nil).eX p)) ∧
  ∀ (T:List Nd) (F To:List Int) (O:List Nat) (R:PR),Cond l T F To O e dep tl→Ev (fun k=>bH.j3 k ((p+(Fo.cons a b c d ks .nil).enc.length:Nat):Int) 0 (strOfNums l) (upd T O++(Fo.cons a b c d ks .nil).flat tl) (dP (F++(Fo.cons a b c d ks .nil).fe p) (To++(Fo.cons a b c d ks .nil).eX p)) (iz O)) R →
   Ev (fun k=>bH.ik k (p:Int) (strOfNums l) T (dP F To) (iz O)) R
def Bh (l:List Int) (p q dep tl:Nat):Prop :=
 (∃ (code:Int) (x:Nat),code≠0∧x≤l.length∧(∀ (T:List Nd) (F To:List Int) (me:Nat),T.length=tl→F.length=tl→To.length=tl→me < tl→(∀ x∈T,x.f4.length≤tl)→∃ T' F' lF,Ev (fun k=>bT.l0 k (dep:Int) (q:Int) (me:Int) (p:Int) (strOfNums l) T F To) (0,code,(x:Int),strOfNums l,T',F',lF)) ∧
  ∀ (T:List Nd) (F To:List Int) (O:List Nat) (me:Nat),Cond l T F To (O++[me]) q dep tl→∃ T' sp' O',Ev (fun k=>bH.j3 k (p:Int) 0 (strOfNums l) T (dP F To) (iz (O++[me]))) (code,(x:Int),strOfNums l,T',sp',O')) ∨
 ∃ f:Fo,p+f.enc.length=q∧dh l p q=f.enc∧f.Ok dep∧tl+f.size≤1000 ∧
  (∀ (T:List Nd) (F To:List Int) (me:Nat),T.length=tl→F.length=tl→To.length=tl→me < tl→(∀ x∈T,x.f4.length≤tl)→Ev (fun k=>bT.l0 k (dep:Int) (q:Int) (me:Int) (p:Int) (strOfNums l) T F To) ((q:Int),0,0,strOfNums l,fu T me (f.roots tl)++f.flat tl,F++f.fe p,To++f.eX p)) ∧
  ∀ (T:List Nd) (F To:List Int) (O:List Nat) (me:Nat) (R:PR),Cond l T F To (O++[me]) q dep tl→Ev (fun k=>bH.j3 k (q:Int) 0 (strOfNums l) (fu T me (f.roots tl)++f.flat tl) (dP (F++f.fe p) (To++f.eX p)) (iz O)) R →
   Ev (fun k=>bH.j3 k (p:Int) 0 (strOfNums l) T (dP F To) (iz (O++[me]))) R
theorem Cond.last {l:List Int} {T:List Nd} {F To:List Int} {O:List Nat} {me q dep tl:Nat} (h:Cond l T F To (O++[me]) q dep tl):me < tl∧(∀ o∈O,o < tl)∧O.length+1=dep∧To.getD me 0=(q:Int):=by
 refine ⟨h.o me (by simp),fun o ho=>h.o o (by simp [ho]),by have:=h.d;simpa using this,?_⟩
 have:=h.e
 unfold kQ at this
 rw [List.getLast?_append,List.getLast?_singleton] at this
 exact this
theorem CG (l:List Int) (p x q:Nat) (h1:p≤x) (h2:x≤q):dh l p q=dh l p x++dh l x q:=by
 unfold dh
 rw [show q - p=(x - p)+(q - x) by omega,List.take_add,List.drop_drop,show p+(x - p)=x by omega]
theorem V9 {T:List Nd} {tl:Nat} (h:∀ x∈T,x.f4.length≤tl+1) {a b:Int} {c:Bool} {d:ByteArray}:∀ x∈T++[nd a b c d []],x.f4.length≤tl+1:=by
 intro x hx
 rcases List.mem_append.1 hx with hx | hx
 ·exact h x hx
 ·simp at hx;rw [hx];show 0≤_;omega
theorem yE {T:List Nd} {tl:Nat} (h:∀ x∈T,x.f4.length≤tl) {me:Nat} (hm:me < T.length) {y:Int}:∀ x∈fu T me [y],x.f4.length≤tl+1:=by
 intro x hx
 unfold fu at hx
 rcases List.mem_or_eq_of_mem_set hx with hx | rfl
 ·have:=h x hx;omega
 ·have:=h T[me] (List.getElem_mem hm)
  rw [jZ T me hm]
  show (T[me].f4++[y]).length≤tl+1
  rw [List.length_append];simpa using this
theorem Wd (l:List Int) (hs:l.length≤65535) (p dep tl:Nat) (hd:dep≤16) (ht:tl≤1000):Bh l p p dep tl:=by
 refine .inr ⟨.nil,rfl,by rw [dh,Nat.sub_self];rfl,trivial,ht,fun T F To me hT hF dF hm hkk=>?_,fun T F To O me R hC k=>?_⟩
 ·refine Ev.step (fun k=>by rw [bT.l0]) ?_
  refine Ev.ak (by omega) ((Ev.now _).eq ?_)
  simp only [Fo.roots,Fo.flat,Fo.fe,Fo.eX,List.append_nil]
  rw [Ih T me (by omega)]
 ·obtain ⟨h1,h2,h3,h4⟩:=hC.last
  simp only [Fo.roots,Fo.flat,Fo.fe,Fo.eX,List.append_nil] at k
  rw [Ih T me (by rw [hC.t];exact h1)] at k
  exact Jv l (by omega) T F To O me tl hC.sp h2 (by omega) h1 (p:Int) h4 k
theorem afL (l:List Int) (hl:aG l) (hs:l.length≤65535) (m:Nat) (hB:∀ p q dep tl:Nat,p≤q→q≤l.length→q - p≤m→dep≤16→tl≤1000→Bh l p q dep tl) (p e dep tl:Nat) (hpe:p < e) (he:e≤l.length) (hm:e - p≤m+1) (hd:dep≤16) (ht:tl≤1000):SV l p e dep tl:=by
 rcases look l hl hs p e hpe he dep tl hd ht with ⟨code,hc,h1,h2⟩ | ⟨a,b,c,n,v,hk⟩
 ·exact .inl ⟨code,p,hc,by omega,fun T F To hT hF dF hkk=>⟨_,_,_,h1 T F To hT⟩,fun T F To O hC=>⟨_,_,_,h2 T F To O hC⟩⟩
 have hn2:=hk.n2
 have hfit:=hk.fit
 have htl:=hk.htl
 have Ga:=hk.Ga
 have hseg:dh l p (p+n)=di a b c++dm (v:Int):=by
  rw [← hk.hd,dh,dh,List.take_take,show p+n - p=n by omega,show min n (e - p)=n by omega]
 have hsl:=pO l (p+n) (p+n+v) (by omega)
 have hlen:(di a b c++dm (v:Int)).length=n:=by rw [← hseg,pO _ _ _ (by omega)];omega
 cases c with
 | false =>
  have e1:(dh l (p+n) (p+n+v)++Fo.nil.enc)=dh l (p+n) (p+n+v):=List.append_nil _
  have e2:(dh l (p+n) (p+n+v)).length=v:=by omega
  have e3:Fo.hd a b false (dh l (p+n) (p+n+v)) .nil=n:=by unfold Fo.hd;rw [e1,e2];exact hlen
  have e4:p+(Fo.cons a b false (dh l (p+n) (p+n+v)) .nil .nil).enc.length=p+n+v:=by rw [Fo.jG,e3,e1,e2];show p+(n+v+0)=_;omega
  refine .inr ⟨a,b,false,dh l (p+n) (p+n+v),.nil,?_,?_,?_,?_,fun T F To hT hF dF hkk=>?_,fun T F To O R hC k=>?_⟩
  ·rw [e4];exact hfit
  ·rw [e4,CG l p (p+n) (p+n+v) (by omega) (by omega),hseg,Fo.enc,e1,e2,Fo.enc,List.append_nil]
  ·exact ⟨⟨hk.a0,hk.a1,hk.b0,hk.b1⟩,by rw [e1,e2];omega,Ga,hk.may,yI hl _ _,fun h=>(by cases h),fun _=>rfl,trivial,trivial⟩
  ·show tl+(1+0+0)≤1000;omega
  ·refine hk.ref T F To _ hT hF dF ?_
   rw [if_neg (by decide),e4]
   simp only [Fo.flat,Fo.fe,Fo.eX,Fo.roots,e1,e2,e3,List.append_nil]
  ·refine hk.prog T F To O R hC ?_
   rw [if_neg (by decide)]
   rw [e4] at k
   simp only [Fo.flat,Fo.fe,Fo.eX,Fo.roots,e1,e2,e3,List.append_nil] at k
   exact k
 | true =>
  rcases hB (p+n) (p+n+v) (dep+1) (tl+1) (by omega) (by omega) (by omega) (by omega) (by omega) with ⟨code,x,hc,hx,h1,h2⟩ | ⟨f,f1,f2,f3,f4,h1,h2⟩
  ·refine .inl ⟨code,x,hc,hx,fun T F To hT hF dF hkk=>?_,fun T F To O hC=>?_⟩
   ·obtain ⟨T',F',lF,hh⟩:=h1 (T++[nd a b true ⟨#[]⟩ []]) (F++[(p:Int)]) (To++[((p+n+v:Nat):Int)]) tl (by simp [hT]) (by simp [hF]) (by simp [dF]) (by omega) (V9 hkk)
    exact ⟨T',F',lF,hk.ref T F To _ hT hF dF (by rw [if_pos rfl];exact hh)⟩
   ·obtain ⟨T',F',lF,hh⟩:=h2 (upd T O++[nd a b true ⟨#[]⟩ []]) (F++[(p:Int)]) (To++[((p+n+v:Nat):Int)]) O tl (by
     have hs1:=hC.sp.snoc p (p+n+v) (by omega) (by omega)
     refine ⟨by rw [List.length_append,tX,hC.t];rfl,hs1,fun o ho=>?_,fun x hx=>?_,by rw [List.length_append,hC.d];rfl,?_⟩
     ·rcases List.mem_append.1 ho with ho | ho
      ·have:=hC.o o ho;omega
      ·simp at ho;omega
     ·rcases List.mem_append.1 hx with hx | hx
      ·exact CF T O tl hC.k (by rw [hC.t];exact hC.o) x hx
      ·simp at hx;rw [hx];show 0≤_;omega
     ·unfold kQ
      rw [List.getLast?_append,List.getLast?_singleton]
      show (To++[((p+n+v:Nat):Int)]).getD tl 0=_
      have:=vP To [] ((p+n+v:Nat):Int) 0
      rw [hC.sp.t] at this
      exact this)
    exact ⟨T',F',lF,hk.prog T F To O _ hC (by rw [if_pos rfl];exact hh)⟩
  ·have e1:f.enc.length=v:=by omega
   have e0:([]++f.enc).length=v:=e1
   have e3:Fo.hd a b true [] f=n:=by unfold Fo.hd;rw [e0];exact hlen
   have e4:p+(Fo.cons a b true [] f .nil).enc.length=p+n+v:=by rw [Fo.jG,e3,e0];show p+(n+v+0)=_;omega
   refine .inr ⟨a,b,true,[],f,?_,?_,?_,?_,fun T F To hT hF dF hkk=>?_,fun T F To O R hC k=>?_⟩
   ·rw [e4];exact hfit
   ·rw [e4,CG l p (p+n) (p+n+v) (by omega) (by omega),hseg,Fo.enc,e0,f2,Fo.enc,List.append_nil];rfl
   ·refine ⟨⟨hk.a0,hk.a1,hk.b0,hk.b1⟩,by rw [e0];omega,Ga,?_,fun x hx=>(by cases hx),fun _=>rfl,fun h=>(by cases h),f3,trivial⟩
    exact fun h=>⟨(hk.may h).1,fun h=>(by cases h)⟩
   ·show tl+(1+f.size+0)≤1000;omega
   ·refine hk.ref T F To _ hT hF dF ?_
    rw [if_pos rfl,e4]
    refine (h1 _ _ _ tl (by simp [hT]) (by simp [hF]) (by simp [dF]) (by omega) (V9 hkk)).eq ?_
    rw [BZ T _ [] _ tl hT]
    simp only [Fo.flat,Fo.fe,Fo.eX,e0,e3,List.append_nil,List.append_assoc,List.singleton_append]
    rfl
   ·refine hk.prog T F To O R hC ?_
    rw [if_pos rfl]
    refine h2 _ _ _ O tl R (by
     have hs1:=hC.sp.snoc p (p+n+v) (by omega) (by omega)
     refine ⟨by rw [List.length_append,tX,hC.t];rfl,hs1,fun o ho=>?_,fun x hx=>?_,by rw [List.length_append,hC.d];rfl,?_⟩
     ·rcases List.mem_append.1 ho with ho | ho
      ·have:=hC.o o ho;omega
      ·simp at ho;omega
     ·rcases List.mem_append.1 hx with hx | hx
      ·exact CF T O tl hC.k (by rw [hC.t];exact hC.o) x hx
      ·simp at hx;rw [hx];show 0≤_;omega
     ·unfold kQ
      rw [List.getLast?_append,List.getLast?_singleton]
      show (To++[((p+n+v:Nat):Int)]).getD tl 0=_
      have:=vP To [] ((p+n+v:Nat):Int) 0
      rw [hC.sp.t] at this
      exact this) ?_
    rw [BZ (upd T O) _ [] _ tl (by rw [tX,hC.t])]
    rw [e4] at k
    simp only [Fo.flat,Fo.fe,Fo.eX,e0,e3,List.append_nil,List.append_assoc,List.singleton_append] at k ⊢
    exact k
theorem afM (l:List Int) (hl:aG l) (hs:l.length≤65535) (m:Nat) (hA:∀ p e dep tl:Nat,p < e→e≤l.length→e - p≤m+1→dep≤16→tl≤1000→SV l p e dep tl)
 (hB:∀ p q dep tl:Nat,p≤q→q≤l.length→q - p≤m→dep≤16→tl≤1000→Bh l p q dep tl) (p q dep tl:Nat) (hpq:p≤q) (hq:q≤l.length) (hm:q - p≤m+1) (hd:dep≤16) (ht:tl≤1000):Bh l p q dep tl:=by
 by_cases g:p=q
 ·subst g;exact Wd l hs p dep tl hd ht
 have ref:∀ (T:List Nd) (F To:List Int) (me:Nat) (t:RR) (R:RR),T.length=tl→me < tl→(∀ x∈T,x.f4.length≤tl)→Ev (fun k=>bT.f k (strOfNums l) (fu T me [(tl:Int)]) F To (p:Int) (q:Int) ((dep:Int)+1)) t→(if t.2.1=0 then Ev (fun k=>bT.l0 k (dep:Int) (q:Int) (me:Int) t.1 t.2.2.2.1 t.2.2.2.2.1 t.2.2.2.2.2.1 t.2.2.2.2.2.2) R else R=(0,t.2.1,t.2.2.1,t.2.2.2.1,t.2.2.2.2.1,t.2.2.2.2.2.1,t.2.2.2.2.2.2)) →
  Ev (fun k=>bT.l0 k (dep:Int) (q:Int) (me:Int) (p:Int) (strOfNums l) T F To) R:=by
  intro T F To me t R hT hme hkk ht hR
  refine Ev.step (fun k=>by rw [bT.l0]) ?_
  refine Ev.ae (by omega) (Ev.ae (by omega) (Ev.ae (by omega) (Ev.ae ?_ ?_)))
  ·rw [jZ T me (by omega)];have:=hkk _ (List.getElem_mem (by omega:me < T.length));omega
  ·rw [aO (x:=(dep:Int)+1) (by omega) (by omega),hT]
   refine Ev.bind ht ?_
   by_cases g:t.2.1=0
   ·rw [if_pos g] at hR;exact Ev.ae g hR
   ·rw [if_neg g] at hR;subst hR;exact Ev.ak g (Ev.now _)
 have hend:∀ (T:List Nd) (F To:List Int) (O:List Nat) (me:Nat),Cond l T F To (O++[me]) q dep tl→∀ R:PR,Ev (fun k=>bH.ik k (p:Int) (strOfNums l) T (dP F To) (iz (O++[me]))) R→Ev (fun k=>bH.j3 k (p:Int) 0 (strOfNums l) T (dP F To) (iz (O++[me]))) R :=
  fun T F To O me hC R hR=>V7 l (by omega) T F To (O++[me]) tl hC.sp hC.o (by have:=hC.d;omega) (p:Int) (by simp) (by rw [hC.e];omega) hR
 rcases hA p q dep tl (by omega) hq hm hd ht with ⟨code,x,hc,hx,h1,h2⟩ | ⟨a,b,c,d,ks,f1,f2,f3,f4,h1,h2⟩
 ·refine .inl ⟨code,x,hc,hx,fun T F To me hT hF dF hme hkk=>?_,fun T F To O me hC=>?_⟩
  ·obtain ⟨T',F',lF,hh⟩:=h1 (fu T me [(tl:Int)]) F To (by rw [qp];exact hT) hF dF (yE hkk (by omega))
   exact ⟨T',F',lF,ref T F To me _ _ hT hme hkk hh (by rw [if_neg hc])⟩
  ·obtain ⟨T',F',lF,hh⟩:=h2 T F To (O++[me]) hC
   exact ⟨T',F',lF,hend T F To O me hC _ hh⟩
 have hsz:(Fo.cons a b c d ks .nil).size=1+ks.size:=rfl
 have hen:=Fo.jG a b c d ks .nil
 have ZM:(Fo.nil.enc).length=0:=rfl
 have hpos:0 < Fo.hd a b c d ks:=by
  unfold Fo.hd
  rw [List.length_append]
  have:0 < (di a b c).length:=by unfold di;split<;>simp
  omega
 generalize hL:(Fo.cons a b c d ks .nil).enc.length=L at *
 rcases hB (p+L) q dep (tl+(1+ks.size)) (by omega) hq (by omega) hd (by omega) with ⟨code,x,hc,hx,g1,g2⟩ | ⟨r,r1,r2,r3,r4,g1,g2⟩
 ·refine .inl ⟨code,x,hc,hx,fun T F To me hT hF dF hme hkk=>?_,fun T F To O me hC=>?_⟩
  ·obtain ⟨T',F',lF,hh⟩:=g1 (fu T me [(tl:Int)]++(Fo.cons a b c d ks .nil).flat tl) (F++(Fo.cons a b c d ks .nil).fe p) (To++(Fo.cons a b c d ks .nil).eX p) me (by rw [List.length_append,qp,Fo.gD,hsz,hT]) (by rw [List.length_append,Fo.BX,hsz,hF]) (by rw [List.length_append,Fo.CE,hsz,dF]) (by omega) (fun x hx=>by
    rcases List.mem_append.1 hx with hx | hx
    ·have:=yE hkk (by omega:me < T.length) x hx;omega
    ·have:=Fo.qo _ _ x hx;omega)
   exact ⟨T',F',lF,ref T F To me _ _ hT hme hkk (h1 (fu T me [(tl:Int)]) F To (by rw [qp];exact hT) hF dF (yE hkk (by omega))) (by rw [if_pos rfl];exact hh)⟩
  ·obtain ⟨T',F',lF,hh⟩:=g2 _ _ _ O me (hsz ▸ hC.next (Fo.cons a b c d ks .nil) p (by omega) (by omega))
   exact ⟨T',F',lF,hend T F To O me hC _ (h2 T F To (O++[me]) _ hC hh)⟩
 have hen':=Fo.jG a b c d ks r
 refine .inr ⟨.cons a b c d ks r,by omega,?_,?_,?_,fun T F To me hT hF dF hme hkk=>?_,fun T F To O me R hC k=>?_⟩
 ·rw [CG l p (p+L) q (by omega) (by omega),f2,r2]
  simp only [Fo.enc,List.append_nil]
 ·obtain ⟨y1,y2,y3,y4,y5,y6,y7,y8,_⟩:=f3
  exact ⟨y1,y2,y3,y4,y5,y6,y7,y8,r3⟩
 ·show tl+(1+ks.size+r.size)≤1000;omega
 ·refine ref T F To me _ _ hT hme hkk (h1 (fu T me [(tl:Int)]) F To (by rw [qp];exact hT) hF dF (yE hkk (by omega))) ?_
  rw [if_pos rfl]
  refine (g1 (fu T me [(tl:Int)]++(Fo.cons a b c d ks .nil).flat tl) (F++(Fo.cons a b c d ks .nil).fe p) (To++(Fo.cons a b c d ks .nil).eX p) me (by rw [List.length_append,qp,Fo.gD,hsz,hT]) (by rw [List.length_append,Fo.BX,hsz,hF]) (by rw [List.length_append,Fo.CE,hsz,dF]) (by omega) (fun x hx=>by
   rcases List.mem_append.1 hx with hx | hx
   ·have:=yE hkk (by omega:me < T.length) x hx;omega
   ·have:=Fo.qo _ _ x hx;omega)).eq ?_
  rw [Ii _ _ _ _ (by rw [qp];omega),Ij _ _ _ _ (by omega)]
  have e1:p+Fo.hd a b c d ks+(d++ks.enc).length=p+L:=by omega
  have e2:tl+(1+ks.size)=tl+1+ks.size:=by omega
  simp only [Fo.flat,Fo.fe,Fo.eX,Fo.roots,List.append_nil,List.append_assoc,List.cons_append,List.nil_append,List.singleton_append,e1,e2]
 ·refine hend T F To O me hC _ (h2 T F To (O++[me]) _ hC (g2 _ _ _ O me _ (hsz ▸ hC.next (Fo.cons a b c d ks .nil) p (by omega) (by omega)) ?_))
  rw [I4,hC.t,Ii _ _ _ _ (by rw [qp,hC.t];exact hC.last.1),Ij _ _ _ _ (by rw [hC.t];exact hC.last.1)]
  have e1:p+Fo.hd a b c d ks+(d++ks.enc).length=p+L:=by omega
  have e2:tl+(1+ks.size)=tl+1+ks.size:=by omega
  simp only [Fo.flat,Fo.fe,Fo.eX,Fo.roots,List.append_nil,List.append_assoc,List.cons_append,List.nil_append,List.singleton_append,e1,e2] at k ⊢
  exact k
theorem Ms (l:List Int) (hl:aG l) (hs:l.length≤65535):∀ m:Nat,(∀ p e dep tl:Nat,p < e→e≤l.length→e - p≤m→dep≤16→tl≤1000→SV l p e dep tl)∧∀ p q dep tl:Nat,p≤q→q≤l.length→q - p≤m→dep≤16→tl≤1000→Bh l p q dep tl
 | 0=>⟨fun p e dep tl h1 h2 h3=>by omega,fun p q dep tl h1 h2 h3 hd ht=>by
  obtain rfl:p=q:=by omega
  exact Wd l hs p dep tl hd ht⟩
 | m+1=>by
  have hA:=afL l hl hs m (Ms l hl hs m).2
  exact ⟨hA,afM l hl hs m hA (Ms l hl hs m).2⟩
theorem agr:bH.j0=bH.j3:=by
 funext k;cases k<;>rfl
theorem Ck (l:List Int) (h0:l≠[]) (hs:l.length≤65535) {R:PR} (h:Ev (fun k=>bH.ik k 0 (strOfNums l) [] [] []) R):Ev (fun k=>bH.f k (strOfNums l) [] [] []) R:=by
 obtain ⟨K,hK⟩:=h
 refine ⟨K,fun k hk=>?_⟩
 have:bH.ik (k+1) 0 (strOfNums l) [] [] []=some R:=hK (k+1) (by omega)
 show bH.f k (strOfNums l) [] [] []=_
 rw [bH.f,if_neg (by rw [iR];exact h0),if_neg (by rw [dL];omega),agr]
 rw [bH.ik] at this
 exact this
theorem CV (l:List Int):Sp l [] [] 0:=⟨rfl,rfl,fun i hi=>by omega⟩
inductive Dec (l:List Int):Prop
 | bad (code:Int) (q:Nat) (hc:code≠0) (hq:q≤l.length) (p1:Ev (fun k=>mg.f k (strOfNums l)) ([],code,(q:Int))) (p2:Ev (fun k=>mO.f k (strOfNums l)) ([],code,(q:Int)))
  (p3:Ev (fun k=>yj.f k (strOfNums l)) []) (p4:Ev (fun k=>xY.f k (strOfNums l)) ([],[]))
 | ok (a b:Int) (c:Bool) (d:List Int) (ks:Fo) (he:l=(Fo.cons a b c d ks .nil).enc) (ho:(Fo.cons a b c d ks .nil).Ok 0) (hz:(Fo.cons a b c d ks .nil).size≤1000)
  (p1:Ev (fun k=>mg.f k (strOfNums l)) ((Fo.cons a b c d ks .nil).flat 0,0,0)) (p2:Ev (fun k=>mO.f k (strOfNums l)) ((Fo.cons a b c d ks .nil).flat 0,0,0))
  (p3:Ev (fun k=>yj.f k (strOfNums l)) (dP ((Fo.cons a b c d ks .nil).fe 0) ((Fo.cons a b c d ks .nil).eX 0))) (p4:Ev (fun k=>xY.f k (strOfNums l)) ((Fo.cons a b c d ks .nil).fe 0,(Fo.cons a b c d ks .nil).eX 0))
theorem Jz {s:ByteArray} {code q:Int} {s':ByteArray} {T:List Nd} {sp:List (Nat × Nat)} {O:List Int} (hc:code≠0) (h:Ev (fun k=>bH.f k s [] [] []) (code,q,s',T,sp,O)):Ev (fun k=>mg.f k s) ([],code,q)∧Ev (fun k=>yj.f k s) [] :=
 ⟨Ev.congr (fun k=>by rw [mg.f]) (Ev.bind h (Ev.ak hc (Ev.now _))),Ev.congr (fun k=>by rw [yj.f]) (Ev.bind h (Ev.ak hc (Ev.now _)))⟩
theorem JA {s:ByteArray} {code q:Int} {s':ByteArray} {T:List Nd} {F To:List Int} (hc:code≠0) (h:Ev (fun k=>oH.f k s) (s',T,F,To,code,q)):Ev (fun k=>mO.f k s) ([],code,q)∧Ev (fun k=>xY.f k s) ([],[]) :=
 ⟨Ev.congr (fun k=>by rw [mO.f]) (Ev.bind h (Ev.ak hc (Ev.now _))),Ev.congr (fun k=>by rw [xY.f]) (Ev.bind h (Ev.ak hc (Ev.now _)))⟩
theorem XA (l:List Int) (hl:aG l) (hs:l.length≤65535):Dec l:=by
 by_cases h0:l=[]
 ·subst h0
  obtain ⟨p1,p3⟩:=Jz (s:=strOfNums []) (q:=0) (code:=3) (by decide) (Ev.congr (fun k=>by rw [bH.f]) (Ev.ae (by rw [iR]) (CU 3 0 _ _ _ _ (by decide))))
  have hw:Ev (fun k=>oH.f k (strOfNums [])) (strOfNums [],[],[],[],3,0):=by
   refine Ev.congr (fun k=>by rw [oH.f]) ?_
   exact Ev.ae (by rw [iR]) (Ev.now _)
  obtain ⟨p2,p4⟩:=JA (by decide) hw
  exact .bad 3 0 (by decide) (Nat.le_refl _) p1 p2 p3 p4
 have hpos:0 < l.length:=List.length_pos_iff.2 h0
 have hC:Cond l [] [] [] [] l.length 0 0:=⟨rfl,CV l,fun o h=>(by cases h),fun x h=>(by cases h),rfl,rfl⟩
 have whole:∀ (t:RR),Ev (fun k=>bT.f k (strOfNums l) [] [] [] 0 (l.length:Int) 1) t→Ev (fun k=>oH.f k (strOfNums l)) (if t.2.1=0 then (if t.1 < (l.length:Int) then (t.2.2.2.1,t.2.2.2.2.1,t.2.2.2.2.2.1,t.2.2.2.2.2.2,5,t.1) else (t.2.2.2.1,t.2.2.2.2.1,t.2.2.2.2.2.1,t.2.2.2.2.2.2,t.2.1,t.2.2.1)) else (t.2.2.2.1,t.2.2.2.2.1,t.2.2.2.2.2.1,t.2.2.2.2.2.2,t.2.1,t.2.2.1)):=by
  intro t ht
  refine Ev.congr (fun k=>by rw [oH.f,dL]) ?_
  refine Ev.ak (by rw [iR];exact h0) (Ev.ak (by omega) (Ev.bind ht ?_))
  exact Ev.ite (fun _=>Ev.ite (fun _=>Ev.now _) (fun _=>Ev.now _)) (fun _=>Ev.now _)
 rcases (Ms l hl hs l.length).1 0 l.length 0 0 hpos (Nat.le_refl _) (by omega) (by omega) (by omega) with ⟨code,q,hc,hq,h1,h2⟩ | ⟨a,b,c,d,ks,f1,f2,f3,f4,h1,h2⟩
 ·obtain ⟨T',F',lF,hh⟩:=h1 [] [] [] rfl rfl rfl (fun x h=>(by cases h))
  obtain ⟨T2,F2,To2,hg⟩:=h2 [] [] [] [] hC
  have hw:=whole _ hh
  rw [if_neg hc] at hw
  obtain ⟨p1,p3⟩:=Jz hc (Ck l h0 (by omega) hg)
  obtain ⟨p2,p4⟩:=JA hc hw
  exact .bad code q hc hq p1 p2 p3 p4
 rw [Nat.zero_add] at f1 f2 h1 h2 f4
 have hh:=whole _ (h1 [] [] [] rfl rfl rfl (fun x h=>(by cases h)))
 have hsp:=Fo.yJ l _ [] [] 0 0 (CV l) (by omega:0+(Fo.cons a b c d ks .nil).enc.length≤l.length)
 rw [Nat.zero_add] at hsp
 have hg:=h2 [] [] [] [] _ hC (V8 l (by omega) _ _ _ _ hsp _ f1)
 rw [if_pos rfl] at hh
 by_cases g:(Fo.cons a b c d ks .nil).enc.length < l.length
 ·rw [if_pos g] at hg
  rw [if_pos (by simpa using g)] at hh
  obtain ⟨p1,p3⟩:=Jz (code:=5) (by decide) (Ck l h0 (by omega) hg)
  obtain ⟨p2,p4⟩:=JA (code:=5) (by decide) hh
  simp only [Nat.zero_add] at p2
  exact .bad 5 _ (by decide) f1 p1 p2 p3 p4
 ·rw [if_neg g] at hg
  rw [if_neg (by simpa using g)] at hh
  have he:(Fo.cons a b c d ks .nil).enc.length=l.length:=by omega
  rw [he] at f2
  have hl':dh l 0 l.length=l:=by rw [dh,List.drop_zero,Nat.sub_zero,List.take_length]
  have r:=Ck l h0 (by omega) hg
  refine .ok a b c d ks (hl'.symm.trans f2) f3 f4 ?_ ?_ ?_ ?_
  ·exact Ev.congr (fun k=>by rw [mg.f]) (Ev.bind r (Ev.ae rfl (Ev.now _)))
  ·exact Ev.congr (fun k=>by rw [mO.f]) (Ev.bind hh (Ev.ae rfl (Ev.now _)))
  ·exact Ev.congr (fun k=>by rw [yj.f]) (Ev.bind r (Ev.ae rfl (Ev.now _)))
  ·exact Ev.congr (fun k=>by rw [xY.f]) (Ev.bind hh (Ev.ae rfl (Ev.now _)))
end Go.Proofs.YtdombjceoocnhaaGreatDoor.Pure
