/- What is written of a curve's key is read as it was, and is as long as Size says; what is read is written so again, for scalars of up to 200 bytes and bytes of up to 500. -/
import Derived.Test.YtdombjceoocnhaaGreatDoorTSec1Back1
set_option linter.unusedSectionVars false
set_option linter.unusedSimpArgs false
set_option linter.unusedVariables false
namespace Go.Proofs.YtdombjceoocnhaaGreatDoor.Pure
open Go Go.RowKit Go.Rf Go.Rf.T
def tlv_Spans.f (k:Nat) (a0:ByteArray):Option (List (Nat × Nat)):=(tlv_reader_read.f k a0 ([]:List S55) ([]:List (Nat × Nat)) ([]:List Int)).bind fun t337=>(if t337.1=0 then (some t337.2.2.2.2.1) else (some ([]:List (Nat × Nat))))
def cr19_faulty.f (a0:Int) (a1:Int):Option (Int × Int):=some (a0,a1)
mutual
def cr15_tag.l0:Nat→ByteArray→Int→Int→Int→Bool→Int→Option (Int × Int × Bool × Int × Int)
 | 0,_,_,_,_,_,_=>none
 | k+1,x0,x6,x2000,x2001,x2002,x2003=>if x6 < (x0.size:Int) then (cr15_tag.j1 k x0 x6 (decide (x6 < 4)) x2000 x2001 x2002 x2003) else (cr15_tag.j1 k x0 x6 false x2000 x2001 x2002 x2003)
def cr15_tag.j1:Nat→ByteArray→Int→Bool→Int→Int→Bool→Int→Option (Int × Int × Bool × Int × Int)
 | 0,_,_,_,_,_,_,_=>none
 | k+1,x0,x6,x34,x2000,x2001,x2002,x2003=>if x34=true then (if 0≤x6 then (if x6 < (x0.size:Int) then (if (bt x0 x6) < 128 then (some (x2000,wrap64 ((wrap64 (128*x2001))+(Int.tmod (wrap64 (bt x0 x6)) 128)),x2002,x2003,wrap64 (x6+1))) else (cr15_tag.l0 k x0 (wrap64 (x6+1)) x2000 (wrap64 ((wrap64 (128*x2001))+(Int.tmod (wrap64 (bt x0 x6)) 128))) x2002 x2003)) else (none)) else (none)) else (some (0,0,false,0,0))
end
def cr15_tag.f (k:Nat) (a0:ByteArray):Option (Int × Int × Bool × Int × Int):=if a0.toList=([]:List UInt8) then (some (0,0,false,0,0)) else (if 0 < (a0.size:Int) then (if (Int.tmod (wrap64 (bt a0 0)) 32) < 31 then (some (wrap64 (Int.tdiv (wrap64 (bt a0 0)) 64),Int.tmod (wrap64 (bt a0 0)) 32,((Int.tmod (wrap64 (Int.tdiv (wrap64 (bt a0 0)) 32)) 2) == 1),0,1)) else (cr15_tag.l0 k a0 1 (wrap64 (Int.tdiv (wrap64 (bt a0 0)) 64)) 0 ((Int.tmod (wrap64 (Int.tdiv (wrap64 (bt a0 0)) 32)) 2) == 1) 0)) else (none))
def cr15_may.f (a0_0:Int) (a0_1:Int) (a0_2:Bool) (a0_3:Int):Option (Bool):=if a0_0≥0 then (if a0_0 < 4 then (if a0_1≥0 then (if a0_1≤2097151 then (if a0_3≥0 then (some (decide (a0_3≤65535))) else (some false)) else (some false)) else (some false)) else (some false)) else (some false)
def cr15_digits.l0:Nat→Int→ByteArray→Option (ByteArray)
 | 0,_,_=>none
 | k+1,x0,x3=>if x0 > 0 then (if (strOfNums ([(wrap64 (128+(Int.tmod x0 128))) % 256]:List Int)).size+x3.size≤9223372036854775807 then (cr15_digits.l0 k (wrap64 (Int.tdiv x0 128)) ((strOfNums ([(wrap64 (128+(Int.tmod x0 128))) % 256]:List Int))++x3)) else (none)) else (some x3)
def cr15_digits.f (k:Nat) (a0:Int):Option (ByteArray):=cr15_digits.l0 k (wrap64 (Int.tdiv a0 128)) (strOfNums ([(Int.tmod a0 128) % 256]:List Int))
def cr01_Put.l0:Nat→Int→Int→ByteArray→Int→Option (ByteArray)
 | 0,_,_,_,_=>none
 | k+1,x0,x1,x5,x6=>if x6 < x1 then (if (strOfNums ([(Int.tmod x0 256) % 256]:List Int)).size+x5.size≤9223372036854775807 then (cr01_Put.l0 k (IntKind.u64.wrap (Int.tdiv x0 256)) x1 ((strOfNums ([(Int.tmod x0 256) % 256]:List Int))++x5) (wrap64 (x6+1))) else (none)) else (some x5)
def cr01_Put.j0:Nat→Int→Int→Bool→Option (ByteArray)
 | 0,_,_,_=>none
 | k+1,x0,x1,x12=>if x12=true then (some (⟨#[]⟩:ByteArray)) else (cr01_Put.l0 k x0 x1 (⟨#[]⟩:ByteArray) 0)
def cr01_Put.f (k:Nat) (a0:Int) (a1:Int):Option (ByteArray):=if a1 < 1 then (cr01_Put.j0 k a0 a1 true) else (cr01_Put.j0 k a0 a1 (decide (a1 > 8)))
def cr15_Encode.j1:Nat→ByteArray→Int→Option (ByteArray × Int)
 | 0,_,_=>none
 | k+1,x5,x1003=>if x1003 < 128 then (if x5.size+(strOfNums ([(x1003) % 256]:List Int)).size≤9223372036854775807 then (some (x5++(strOfNums ([(x1003) % 256]:List Int)),0)) else (none)) else (if x1003 < 256 then (if x5.size+1≤9223372036854775807 then ((cr01_Put.f k (IntKind.u64.wrap (x1003)) 1).bind fun t399=>(if (x5++(⟨#[129]⟩:ByteArray)).size+t399.size≤9223372036854775807 then (some ((x5++(⟨#[129]⟩:ByteArray))++t399,0)) else (none))) else (none)) else (if x5.size+1≤9223372036854775807 then ((cr01_Put.f k (IntKind.u64.wrap (x1003)) 2).bind fun t403=>(if (x5++(⟨#[130]⟩:ByteArray)).size+t403.size≤9223372036854775807 then (some ((x5++(⟨#[130]⟩:ByteArray))++t403,0)) else (none))) else (none)))
def cr15_Encode.j0:Nat→Int→Int→Int→Option (ByteArray × Int)
 | 0,_,_,_=>none
 | k+1,x4,x1001,x1003=>if x1001 < 31 then (cr15_Encode.j1 k (strOfNums ([(wrap64 (x4+x1001)) % 256]:List Int)) x1003) else ((cr15_digits.f k x1001).bind fun t392=>(if (strOfNums ([(wrap64 (x4+31)) % 256]:List Int)).size+t392.size≤9223372036854775807 then (cr15_Encode.j1 k ((strOfNums ([(wrap64 (x4+31)) % 256]:List Int))++t392) x1003) else (none)))
def cr15_Encode.f (k:Nat) (a0_0:Int) (a0_1:Int) (a0_2:Bool) (a0_3:Int):Option (ByteArray × Int):=(cr15_may.f a0_0 a0_1 a0_2 a0_3).bind fun t387=>(if t387=true then (if a0_2=true then (cr15_Encode.j0 k (wrap64 ((wrap64 (64*a0_0))+32)) a0_1 a0_3) else (cr15_Encode.j0 k (wrap64 (64*a0_0)) a0_1 a0_3)) else (some ((⟨#[]⟩:ByteArray),1)))
def cr01_Get.l0:Nat→ByteArray→Int→Int→Option (Int × Bool)
 | 0,_,_,_=>none
 | k+1,x0,x4,x5=>if x5 < (x0.size:Int) then (if 0≤x5 then (cr01_Get.l0 k x0 (IntKind.u64.wrap ((IntKind.u64.wrap (x4*256))+(IntKind.u64.wrap (bt x0 x5)))) (wrap64 (x5+1))) else (none)) else (some (x4,true))
def cr01_Get.j0:Nat→ByteArray→Bool→Option (Int × Bool)
 | 0,_,_=>none
 | k+1,x0,x13=>if x13=true then (some (0,false)) else (cr01_Get.l0 k x0 0 0)
def cr01_Get.f (k:Nat) (a0:ByteArray):Option (Int × Bool):=if (a0.size:Int) < 1 then (cr01_Get.j0 k a0 true) else (cr01_Get.j0 k a0 (decide ((a0.size:Int) > 8)))
def cr15_Decode.j1:Nat→ByteArray→Int→Int→Int→Int→Bool→Option (Int × Int × Bool × Int × Int × Int)
 | 0,_,_,_,_,_,_=>none
 | k+1,x0,x6,x9,x2000,x2001,x2002=>if (wrap64 ((wrap64 (x6+1))+x9)) > (x0.size:Int) then (some (0,0,false,0,0,5)) else (if 0≤x6 then (if x6 < (x0.size:Int) then (if x9 > 0 then (if 0≤(wrap64 (x6+1)) then (if (wrap64 (x6+1))≤(wrap64 ((wrap64 (x6+1))+x9)) then (if (wrap64 ((wrap64 (x6+1))+x9))≤(x0.size:Int) then ((cr01_Get.f k (x0.extract ((wrap64 (x6+1)):Int).toNat ((wrap64 ((wrap64 (x6+1))+x9)):Int).toNat)).bind fun t434=>((cr15_Encode.f k x2000 x2001 x2002 (wrap64 (t434.1))).bind fun t436=>(if 0≤(wrap64 ((wrap64 (x6+1))+x9)) then (if t436.1.toList=(x0.extract 0 ((wrap64 ((wrap64 (x6+1))+x9)):Int).toNat).toList then (some (x2000,x2001,x2002,wrap64 (t434.1),(t436.1.size:Int),0)) else (some (0,0,false,0,0,5))) else (none)))) else (none)) else (none)) else (none)) else ((cr15_Encode.f k x2000 x2001 x2002 (wrap64 (bt x0 x6))).bind fun t440=>(if 0≤(wrap64 ((wrap64 (x6+1))+x9)) then (if (wrap64 ((wrap64 (x6+1))+x9))≤(x0.size:Int) then (if t440.1.toList=(x0.extract 0 ((wrap64 ((wrap64 (x6+1))+x9)):Int).toNat).toList then (some (x2000,x2001,x2002,wrap64 (bt x0 x6),(t440.1.size:Int),0)) else (some (0,0,false,0,0,5))) else (none)) else (none)))) else (none)) else (none))
def cr15_Decode.j0:Nat→ByteArray→Int→Bool→Int→Int→Bool→Option (Int × Int × Bool × Int × Int × Int)
 | 0,_,_,_,_,_,_=>none
 | k+1,x0,x6,x45,x2000,x2001,x2002=>if x45=true then (some (0,0,false,0,0,5)) else (if 0≤x6 then (if x6 < (x0.size:Int) then (if (bt x0 x6) > 130 then (some (0,0,false,0,0,4)) else (if (bt x0 x6) > 128 then (cr15_Decode.j1 k x0 x6 (wrap64 ((wrap64 (bt x0 x6)) - 128)) x2000 x2001 x2002) else (cr15_Decode.j1 k x0 x6 0 x2000 x2001 x2002))) else (none)) else (none))
def cr15_Decode.f (k:Nat) (a0:ByteArray):Option (Int × Int × Bool × Int × Int × Int):=(cr15_tag.f k a0).bind fun t410=>(if t410.2.2.2.2=0 then (some (0,0,false,0,0,5)) else ((cr15_Encode.f k t410.1 t410.2.1 t410.2.2.1 t410.2.2.2.1).bind fun t413=>(if 0≤(wrap64 ((t413.1.size:Int) - 1)) then (if (wrap64 ((t413.1.size:Int) - 1))≤(t413.1.size:Int) then (if 0≤t410.2.2.2.2 then (if t410.2.2.2.2≤(a0.size:Int) then (if (t413.1.extract 0 ((wrap64 ((t413.1.size:Int) - 1)):Int).toNat).toList=(a0.extract 0 (t410.2.2.2.2:Int).toNat).toList then (if t410.2.2.2.2=(a0.size:Int) then (cr15_Decode.j0 k a0 t410.2.2.2.2 true t410.1 t410.2.1 t410.2.2.1) else (if t410.2.2.2.2 < (a0.size:Int) then (cr15_Decode.j0 k a0 t410.2.2.2.2 ((bt a0 t410.2.2.2.2) == 128) t410.1 t410.2.1 t410.2.2.1) else (none))) else (cr15_Decode.j0 k a0 t410.2.2.2.2 true t410.1 t410.2.1 t410.2.2.1)) else (none)) else (none)) else (none)) else (none))))
def cr18_Unbool.f (a0:ByteArray):Option (Bool × Bool):=if a0.toList=([255]:List UInt8) then (some (true,true)) else (some (false,(a0.toList == ([0]:List UInt8))))
def cr16_Right.f (a0:ByteArray):Option (Bool):=if a0.toList=([]:List UInt8) then (some false) else (if (a0.size:Int)=1 then (some true) else (if 0 < (a0.size:Int) then (if (bt a0 0)=0 then (if 1 < (a0.size:Int) then (if (bt a0 1) < 128 then (some false) else (if (bt a0 0)=255 then (some (decide ((bt a0 1) < 128))) else (some true))) else (none)) else (if (bt a0 0)=255 then (if 1 < (a0.size:Int) then (some (decide ((bt a0 1) < 128))) else (none)) else (some true))) else (none)))
def cr18_Bits.l0:Nat→ByteArray→Int→Int→Int→Option (ByteArray × Bool)
 | 0,_,_,_,_=>none
 | k+1,x0,x1,x6,x7=>if x7 < x1 then (cr18_Bits.l0 k x0 x1 (wrap64 (2*x6)) (wrap64 (x7+1))) else (if x0.toList=([]:List UInt8) then ((cr01_Put.f k (IntKind.u64.wrap (x1)) 1).bind fun t461=>(if t461.size+x0.size≤9223372036854775807 then (some (t461++x0,true)) else (none))) else (if 0≤(wrap64 ((x0.size:Int) - 1)) then (if (wrap64 ((x0.size:Int) - 1)) < (x0.size:Int) then (if x6=0 then (none) else (if (Int.tmod (wrap64 (bt x0 (wrap64 ((x0.size:Int) - 1)))) x6)=0 then ((cr01_Put.f k (IntKind.u64.wrap (x1)) 1).bind fun t468=>(if t468.size+x0.size≤9223372036854775807 then (some (t468++x0,true)) else (none))) else (some ((⟨#[]⟩:ByteArray),false)))) else (none)) else (none)))
def cr18_Bits.j0:Nat→ByteArray→Int→Bool→Option (ByteArray × Bool)
 | 0,_,_,_=>none
 | k+1,x0,x1,x21=>if x21=true then (some ((⟨#[]⟩:ByteArray),false)) else (cr18_Bits.l0 k x0 x1 1 0)
def cr18_Bits.f (k:Nat) (a0:ByteArray) (a1:Int):Option (ByteArray × Bool):=if a1 < 0 then (cr18_Bits.j0 k a0 a1 true) else (if a1 > 7 then (cr18_Bits.j0 k a0 a1 true) else (if a0.toList=([]:List UInt8) then (cr18_Bits.j0 k a0 a1 (a1 != 0)) else (cr18_Bits.j0 k a0 a1 false)))
def cr18_Unbits.f (k:Nat) (a0:ByteArray):Option (ByteArray × Int × Bool):=if a0.toList=([]:List UInt8) then (some ((⟨#[]⟩:ByteArray),0,false)) else (if 1≤(a0.size:Int) then (if 0 < (a0.size:Int) then ((cr18_Bits.f k (a0.extract 1 a0.size) (wrap64 (bt a0 0))).bind fun t474=>(if t474.2=true then (some (a0.extract 1 a0.size,wrap64 (bt a0 0),true)) else (some ((⟨#[]⟩:ByteArray),0,false)))) else (none)) else (none))
def cr17_Right.l0:Nat→List Int→Int→Option (Bool)
 | 0,_,_=>none
 | k+1,x0,x3=>if x3 < (x0.length:Int) then (if x3=1 then (if 0 < (x0.length:Int) then (if (rd x0 0) < 2 then (if 0≤x3 then (if (rd x0 x3) < 0 then (some false) else (if (rd x0 x3) > 39 then (some false) else (cr17_Right.l0 k x0 (wrap64 (x3+1))))) else (none)) else (if 0≤x3 then (if (rd x0 x3) < 0 then (some false) else (if (rd x0 x3) > 2147483567 then (some false) else (cr17_Right.l0 k x0 (wrap64 (x3+1))))) else (none))) else (none)) else (if 0≤x3 then (if (rd x0 x3) < 0 then (some false) else (if (rd x0 x3) > 2147483647 then (some false) else (cr17_Right.l0 k x0 (wrap64 (x3+1))))) else (none))) else (some true)
def cr17_Right.j0:Nat→List Int→Bool→Option (Bool)
 | 0,_,_=>none
 | k+1,x0,x24=>if x24=true then (some false) else (cr17_Right.l0 k x0 1)
def cr17_Right.f (k:Nat) (l0:List Int):Option (Bool):=if (l0.length:Int) < 2 then (cr17_Right.j0 k l0 true) else (if (l0.length:Int) > 20 then (cr17_Right.j0 k l0 true) else (if 0 < (l0.length:Int) then (if (rd l0 0) < 0 then (cr17_Right.j0 k l0 true) else (cr17_Right.j0 k l0 (decide ((rd l0 0) > 2)))) else (none)))
def cr17_digits.l0:Nat→Int→ByteArray→Option (ByteArray)
 | 0,_,_=>none
 | k+1,x0,x3=>if x0 > 0 then (if (strOfNums ([(wrap64 (128+(Int.tmod x0 128))) % 256]:List Int)).size+x3.size≤9223372036854775807 then (cr17_digits.l0 k (wrap64 (Int.tdiv x0 128)) ((strOfNums ([(wrap64 (128+(Int.tmod x0 128))) % 256]:List Int))++x3)) else (none)) else (some x3)
def cr17_digits.f (k:Nat) (a0:Int):Option (ByteArray):=cr17_digits.l0 k (wrap64 (Int.tdiv a0 128)) (strOfNums ([(Int.tmod a0 128) % 256]:List Int))
def cr17_Encode.l0:Nat→List Int→ByteArray→Int→Option (ByteArray × Bool)
 | 0,_,_,_=>none
 | k+1,x0,x4,x5=>if x5 < (x0.length:Int) then (if 0≤x5 then ((cr17_digits.f k (rd x0 x5)).bind fun t506=>(if x4.size+t506.size≤9223372036854775807 then (cr17_Encode.l0 k x0 (x4++t506) (wrap64 (x5+1))) else (none))) else (none)) else (some (x4,true))
def cr17_Encode.f (k:Nat) (l0:List Int):Option (ByteArray × Bool):=(cr17_Right.f k l0).bind fun t497=>(if t497=true then (if 0 < (l0.length:Int) then (if 1 < (l0.length:Int) then ((cr17_digits.f k (wrap64 ((wrap64 (40*(rd l0 0)))+(rd l0 1)))).bind fun t502=>(cr17_Encode.l0 k l0 t502 2)) else (none)) else (none)) else (some ((⟨#[]⟩:ByteArray),false)))
mutual
def cr17_Decode.l0:Nat→ByteArray→List Int→Int→Int→Option (List Int × Bool)
 | 0,_,_,_,_=>none
 | k+1,x0,x4,x5,x6=>if x6 < (x0.size:Int) then (cr17_Decode.j1 k x0 x4 x5 x6 (decide ((x4.length:Int) < 21))) else (cr17_Decode.j1 k x0 x4 x5 x6 false)
def cr17_Decode.j1:Nat→ByteArray→List Int→Int→Int→Bool→Option (List Int × Bool)
 | 0,_,_,_,_,_=>none
 | k+1,x0,x4,x5,x6,x18=>if x18=true then (if 0≤x6 then (if x6 < (x0.size:Int) then (if (wrap64 ((wrap64 (128*x5))+(Int.tmod (wrap64 (bt x0 x6)) 128))) > 4294967296 then (some (([]:List Int),false)) else (if (bt x0 x6) > 127 then (cr17_Decode.l0 k x0 x4 (wrap64 ((wrap64 (128*x5))+(Int.tmod (wrap64 (bt x0 x6)) 128))) (wrap64 (x6+1))) else (if (x4.length:Int)=0 then (if (wrap64 (Int.tdiv (wrap64 ((wrap64 (128*x5))+(Int.tmod (wrap64 (bt x0 x6)) 128))) 40)) > 2 then (if x4.length < 17592186044416 then ((some (x4++[2]:List Int)).bind fun y537=>(if y537.length < 17592186044416 then (cr17_Decode.l0 k x0 (y537++[wrap64 ((wrap64 ((wrap64 (128*x5))+(Int.tmod (wrap64 (bt x0 x6)) 128))) - 80)]) 0 (wrap64 (x6+1))) else (none))) else (none)) else (if x4.length < 17592186044416 then ((some (x4++[wrap64 (Int.tdiv (wrap64 ((wrap64 (128*x5))+(Int.tmod (wrap64 (bt x0 x6)) 128))) 40)]:List Int)).bind fun y541=>(if y541.length < 17592186044416 then (cr17_Decode.l0 k x0 (y541++[wrap64 ((wrap64 ((wrap64 (128*x5))+(Int.tmod (wrap64 (bt x0 x6)) 128))) - (wrap64 (40*(wrap64 (Int.tdiv (wrap64 ((wrap64 (128*x5))+(Int.tmod (wrap64 (bt x0 x6)) 128))) 40)))))]) 0 (wrap64 (x6+1))) else (none))) else (none))) else (if x4.length < 17592186044416 then (cr17_Decode.l0 k x0 (x4++[wrap64 ((wrap64 (128*x5))+(Int.tmod (wrap64 (bt x0 x6)) 128))]) 0 (wrap64 (x6+1))) else (none))))) else (none)) else (none)) else ((cr17_Encode.f k x4).bind fun t526=>(if t526.2=true then (if t526.1.toList=x0.toList then (some (x4,true)) else (some (([]:List Int),false))) else (some (([]:List Int),false))))
end
def cr17_Decode.f (k:Nat) (a0:ByteArray):Option (List Int × Bool):=cr17_Decode.l0 k a0 ([]:List Int) 0 0
def cr18_point.l0:Nat→ByteArray→Int→Int→Int→Int→Option (Int)
 | 0,_,_,_,_,_=>none
 | k+1,x0,x4,x5,x6,x7=>if x7≤x5 then (if 0≤x7 then (if x7 < (x0.size:Int) then (if (bt x0 x7) < 128 then (some 0) else (if (bt x0 x7) > 191 then (some 0) else (cr18_point.l0 k x0 (wrap64 ((wrap64 ((wrap64 (64*x4))+(wrap64 (bt x0 x7)))) - 128)) x5 x6 (wrap64 (x7+1))))) else (none)) else (none)) else (if x4 < x6 then (some 0) else (if x4 > 1114111 then (some 0) else (if x4 > 55295 then (if x4 < 57344 then (some 0) else (some (wrap64 (x5+1)))) else (some (wrap64 (x5+1))))))
def cr18_point.j6:Nat→ByteArray→Int→Int→Int→Bool→Option (Int)
 | 0,_,_,_,_,_=>none
 | k+1,x0,x4,x5,x6,x44=>if x44=true then (some 0) else (cr18_point.l0 k x0 x4 x5 x6 1)
def cr18_point.j5:Nat→ByteArray→Int→Int→Int→Option (Int)
 | 0,_,_,_,_=>none
 | k+1,x0,x4,x5,x6=>if x5=0 then (cr18_point.j6 k x0 x4 x5 x6 true) else (cr18_point.j6 k x0 x4 x5 x6 (decide ((x0.size:Int)≤x5)))
def cr18_point.j4:Nat→ByteArray→Int→Int→Int→Int→Bool→Option (Int)
 | 0,_,_,_,_,_,_=>none
 | k+1,x0,x3,x4,x5,x6,x34=>if x34=true then (cr18_point.j5 k x0 (wrap64 (x3 - 240)) 3 65536) else (cr18_point.j5 k x0 x4 x5 x6)
def cr18_point.j3:Nat→ByteArray→Int→Int→Int→Int→Option (Int)
 | 0,_,_,_,_,_=>none
 | k+1,x0,x3,x4,x5,x6=>if x3≥240 then (cr18_point.j4 k x0 x3 x4 x5 x6 (decide (x3 < 248))) else (cr18_point.j4 k x0 x3 x4 x5 x6 false)
def cr18_point.j2:Nat→ByteArray→Int→Int→Int→Int→Bool→Option (Int)
 | 0,_,_,_,_,_,_=>none
 | k+1,x0,x3,x4,x5,x6,x26=>if x26=true then (cr18_point.j3 k x0 x3 (wrap64 (x3 - 224)) 2 2048) else (cr18_point.j3 k x0 x3 x4 x5 x6)
def cr18_point.j1:Nat→ByteArray→Int→Int→Int→Int→Option (Int)
 | 0,_,_,_,_,_=>none
 | k+1,x0,x3,x4,x5,x6=>if x3≥224 then (cr18_point.j2 k x0 x3 x4 x5 x6 (decide (x3 < 240))) else (cr18_point.j2 k x0 x3 x4 x5 x6 false)
def cr18_point.j0:Nat→ByteArray→Int→Int→Int→Int→Bool→Option (Int)
 | 0,_,_,_,_,_,_=>none
 | k+1,x0,x3,x4,x5,x6,x18=>if x18=true then (cr18_point.j1 k x0 x3 (wrap64 (x3 - 192)) 1 128) else (cr18_point.j1 k x0 x3 x4 x5 x6)
def cr18_point.f (k:Nat) (a0:ByteArray):Option (Int):=if 0 < (a0.size:Int) then (if (wrap64 (bt a0 0)) < 128 then (some 1) else (if (wrap64 (bt a0 0))≥192 then (cr18_point.j0 k a0 (wrap64 (bt a0 0)) 0 0 0 (decide ((wrap64 (bt a0 0)) < 224))) else (cr18_point.j0 k a0 (wrap64 (bt a0 0)) 0 0 0 false))) else (none)
def cr18_Utf.l0:Nat→ByteArray→Option (Bool)
 | 0,_=>none
 | k+1,x0=>if (x0.size:Int) > 0 then ((cr18_point.f k x0).bind fun t566=>(if t566=0 then (some false) else (if 0≤t566 then (if t566≤(x0.size:Int) then (cr18_Utf.l0 k (x0.extract (t566:Int).toNat x0.size)) else (none)) else (none)))) else (some true)
def cr18_Utf.f (k:Nat) (a0:ByteArray):Option (Bool):=cr18_Utf.l0 k a0
mutual
def cr18_Printable.l0:Nat→ByteArray→Int→Option (Bool)
 | 0,_,_=>none
 | k+1,x0,x3=>if x3 < (x0.size:Int) then (cr18_Printable.l1 k x0 x3 false 0) else (some true)
def cr18_Printable.l1:Nat→ByteArray→Int→Bool→Int→Option (Bool)
 | 0,_,_,_,_=>none
 | k+1,x0,x3,x4,x5=>if x5 < 74 then (if 0≤x5 then (if 0≤x3 then (if x3 < (x0.size:Int) then (if (bt (⟨#[65,66,67,68,69,70,71,72,73,74,75,76,77,78,79,80,81,82,83,84,85,86,87,88,89,90,97,98,99,100,101,102,103,104,105,106,107,108,109,110,111,112,113,114,115,116,117,118,119,120,121,122,48,49,50,51,52,53,54,55,56,57,32,39,40,41,43,44,45,46,47,58,61,63]⟩:ByteArray) x5)=(bt x0 x3) then (cr18_Printable.l1 k x0 x3 true (wrap64 (x5+1))) else (cr18_Printable.l1 k x0 x3 x4 (wrap64 (x5+1)))) else (none)) else (none)) else (none)) else (if x4=true then (cr18_Printable.l0 k x0 (wrap64 (x3+1))) else (some false))
end
def cr18_Printable.f (k:Nat) (a0:ByteArray):Option (Bool):=cr18_Printable.l0 k a0 0
def cr18_Right.f (k:Nat) (a0:Int) (a1:ByteArray):Option (Bool):=if a0=1 then ((cr18_Unbool.f a1).bind fun t579=>(some t579.2)) else (if a0=2 then ((cr16_Right.f a1).bind fun t582=>(some t582)) else (if a0=3 then ((cr18_Unbits.f k a1).bind fun t585=>(some t585.2.2)) else (if a0=4 then (some true) else (if a0=5 then (some (a1.toList == ([]:List UInt8))) else (if a0=6 then ((cr17_Decode.f k a1).bind fun t590=>(some t590.2)) else (if a0=12 then ((cr18_Utf.f k a1).bind fun t593=>(some t593)) else (if a0=19 then ((cr18_Printable.f k a1).bind fun t596=>(some t596)) else (some false))))))))
mutual
def cr19_walk_element.j0:Nat→Int→Int→Int→Int→Bool→ByteArray→List S55→List Int→List Int→Int→Int→Bool→Option (Int × Int × Int × ByteArray × List S55 × List Int × List Int)
 | 0,_,_,_,_,_,_,_,_,_,_,_,_=>none
 | k+1,x1,x3,x13,x14,x77,x1000,x1001,x1002,x1003,x3000,x3001,x3002=>if x77=true then ((cr19_faulty.f 5 x1).bind fun t619=>(some (0,t619.1,t619.2,x1000,x1001,x1002,x1003))) else (if x3000=0 then (if x3002=true then (cr19_walk_element.j1 k x1 x3 x13 x14 false x1000 x1001 x1002 x1003 x3000 x3001 x3002) else (if 0≤x13 then (if x13≤x14 then (if x14≤(x1000.size:Int) then ((cr18_Right.f k x3001 (x1000.extract (x13:Int).toNat (x14:Int).toNat)).bind fun t626=>(cr19_walk_element.j1 k x1 x3 x13 x14 (!t626) x1000 x1001 x1002 x1003 x3000 x3001 x3002)) else (none)) else (none)) else (none))) else (cr19_walk_element.j1 k x1 x3 x13 x14 false x1000 x1001 x1002 x1003 x3000 x3001 x3002))
def cr19_walk_element.j1:Nat→Int→Int→Int→Int→Bool→ByteArray→List S55→List Int→List Int→Int→Int→Bool→Option (Int × Int × Int × ByteArray × List S55 × List Int × List Int)
 | 0,_,_,_,_,_,_,_,_,_,_,_,_=>none
 | k+1,x1,x3,x13,x14,x100,x1000,x1001,x1002,x1003,x3000,x3001,x3002=>if x100=true then ((cr19_faulty.f 5 x1).bind fun t629=>(some (0,t629.1,t629.2,x1000,x1001,x1002,x1003))) else (if x3002=true then (cr19_walk_element.j2 k x1 x3 x13 x14 (x1001.length:Int) x1000 x1001 x1002 x1003 x3002 x3000 x3001 x3002 (⟨#[]⟩:ByteArray)) else (if 0≤x13 then (if x13≤x14 then (if x14≤(x1000.size:Int) then (cr19_walk_element.j2 k x1 x3 x13 x14 (x1001.length:Int) x1000 x1001 x1002 x1003 x3002 x3000 x3001 x3002 (x1000.extract (x13:Int).toNat (x14:Int).toNat)) else (none)) else (none)) else (none)))
def cr19_walk_element.j2:Nat→Int→Int→Int→Int→Int→ByteArray→List S55→List Int→List Int→Bool→Int→Int→Bool→ByteArray→Option (Int × Int × Int × ByteArray × List S55 × List Int × List Int)
 | 0,_,_,_,_,_,_,_,_,_,_,_,_,_,_=>none
 | k+1,x1,x3,x13,x14,x15,x1000,x1001,x1002,x1003,x3002,x4000,x4001,x4002,x4003=>if x1001.length < 2199023255552 then ((some (x1001++[(⟨x4000,x4001,x4002,x4003,([]:List Int)⟩:S55)]:List S55)).bind fun y636=>(if x1002.length < 17592186044416 then ((some (x1002++[x1]:List Int)).bind fun y638=>(if x1003.length < 17592186044416 then ((some (x1003++[x14]:List Int)).bind fun y640=>(if x3002=true then (cr19_walk_element.l0 k x3 x14 x15 x13 x1000 y636 y638 y640) else (some (x14,0,0,x1000,y636,y638,y640)))) else (none))) else (none))) else (none)
def cr19_walk_element.l0:Nat→Int→Int→Int→Int→ByteArray→List S55→List Int→List Int→Option (Int × Int × Int × ByteArray × List S55 × List Int × List Int)
 | 0,_,_,_,_,_,_,_,_=>none
 | k+1,x3,x14,x15,x17,x1000,x1001,x1002,x1003=>if x17 < x14 then (if 0≤x15 then (if x15 < (x1001.length:Int) then (if ((rd_T55 x1001 x15).f4).length < 17592186044416 then ((cr19_walk_element.f k x1000 (x1001.set (x15:Int).toNat (⟨(rd_T55 x1001 x15).f0,(rd_T55 x1001 x15).f1,(rd_T55 x1001 x15).f2,(rd_T55 x1001 x15).f3,(((rd_T55 x1001 x15).f4)++[(x1001.length:Int)])⟩:S55)) x1002 x1003 x17 x14 (wrap64 (x3+1))).bind fun t648=>(if t648.2.1=0 then (cr19_walk_element.l0 k x3 x14 x15 t648.1 t648.2.2.2.1 t648.2.2.2.2.1 t648.2.2.2.2.2.1 t648.2.2.2.2.2.2) else (some (0,t648.2.1,t648.2.2.1,t648.2.2.2.1,t648.2.2.2.2.1,t648.2.2.2.2.2.1,t648.2.2.2.2.2.2)))) else (none)) else (none)) else (none)) else (some (x14,0,0,x1000,x1001,x1002,x1003))
def cr19_walk_element.f:Nat→ByteArray→List S55→List Int→List Int→Int→Int→Int→Option (Int × Int × Int × ByteArray × List S55 × List Int × List Int)
 | 0,_,_,_,_,_,_,_=>none
 | k+1,a0_0,l0_1,l0_2,l0_3,a1,a2,a3=>if 0≤a1 then (if a1≤a2 then (if a2≤(a0_0.size:Int) then ((cr15_Decode.f k (a0_0.extract (a1:Int).toNat (a2:Int).toNat)).bind fun t601=>(if t601.2.2.2.2.2=0 then (if (wrap64 ((wrap64 (a1+t601.2.2.2.2.1))+t601.2.2.2.1)) > a2 then ((cr19_faulty.f 5 a1).bind fun t607=>(some (0,t607.1,t607.2,a0_0,l0_1,l0_2,l0_3))) else (if a3 > 16 then ((cr19_faulty.f 6 a1).bind fun t610=>(some (0,t610.1,t610.2,a0_0,l0_1,l0_2,l0_3))) else (if (l0_1.length:Int)≥1000 then ((cr19_faulty.f 4 a1).bind fun t613=>(some (0,t613.1,t613.2,a0_0,l0_1,l0_2,l0_3))) else (if t601.1=0 then (if t601.2.2.1=true then (if t601.2.1=16 then (cr19_walk_element.j0 k a1 a3 (wrap64 (a1+t601.2.2.2.2.1)) (wrap64 ((wrap64 (a1+t601.2.2.2.2.1))+t601.2.2.2.1)) false a0_0 l0_1 l0_2 l0_3 t601.1 t601.2.1 t601.2.2.1) else (cr19_walk_element.j0 k a1 a3 (wrap64 (a1+t601.2.2.2.2.1)) (wrap64 ((wrap64 (a1+t601.2.2.2.2.1))+t601.2.2.2.1)) (t601.2.1 != 17) a0_0 l0_1 l0_2 l0_3 t601.1 t601.2.1 t601.2.2.1)) else (cr19_walk_element.j0 k a1 a3 (wrap64 (a1+t601.2.2.2.2.1)) (wrap64 ((wrap64 (a1+t601.2.2.2.2.1))+t601.2.2.2.1)) false a0_0 l0_1 l0_2 l0_3 t601.1 t601.2.1 t601.2.2.1)) else (cr19_walk_element.j0 k a1 a3 (wrap64 (a1+t601.2.2.2.2.1)) (wrap64 ((wrap64 (a1+t601.2.2.2.2.1))+t601.2.2.2.1)) false a0_0 l0_1 l0_2 l0_3 t601.1 t601.2.1 t601.2.2.1))))) else ((cr19_faulty.f t601.2.2.2.2.2 a1).bind fun t604=>(some (0,t604.1,t604.2,a0_0,l0_1,l0_2,l0_3))))) else (none)) else (none)) else (none)
end
def cr19_whole.f (k:Nat) (a0:ByteArray):Option (ByteArray × List S55 × List Int × List Int × Int × Int):=if a0.toList=([]:List UInt8) then ((cr19_faulty.f 3 0).bind fun t652=>(some (a0,([]:List S55),([]:List Int),([]:List Int),t652.1,t652.2))) else (if (a0.size:Int) > 65535 then ((cr19_faulty.f 4 0).bind fun t655=>(some (a0,([]:List S55),([]:List Int),([]:List Int),t655.1,t655.2))) else ((cr19_walk_element.f k a0 ([]:List S55) ([]:List Int) ([]:List Int) 0 (a0.size:Int) 1).bind fun t657=>(if t657.2.1=0 then (if t657.1 < (a0.size:Int) then ((cr19_faulty.f 5 t657.1).bind fun t661=>(some (t657.2.2.2.1,t657.2.2.2.2.1,t657.2.2.2.2.2.1,t657.2.2.2.2.2.2,t661.1,t661.2))) else (some (t657.2.2.2.1,t657.2.2.2.2.1,t657.2.2.2.2.2.1,t657.2.2.2.2.2.2,t657.2.1,t657.2.2.1))) else (some (t657.2.2.2.1,t657.2.2.2.2.1,t657.2.2.2.2.2.1,t657.2.2.2.2.2.2,t657.2.1,t657.2.2.1)))))
def cr19_Decode.f (k:Nat) (a0:ByteArray):Option (List S55 × Int × Int):=(cr19_whole.f k a0).bind fun t663=>(if t663.2.2.2.2.1=0 then (some (t663.2.1,t663.2.2.2.2.1,t663.2.2.2.2.2)) else (some (([]:List S55),t663.2.2.2.2.1,t663.2.2.2.2.2)))
def cr19_Spans.f (k:Nat) (a0:ByteArray):Option (List Int × List Int):=(cr19_whole.f k a0).bind fun t666=>(if t666.2.2.2.2.1=0 then (some (t666.2.2.1,t666.2.2.2.1)) else (some (([]:List Int),([]:List Int))))
def tlv_Pieces.l0:Nat→ByteArray→List ByteArray→Int→Int→Int→Option (List ByteArray × Int × Int)
 | 0,_,_,_,_,_=>none
 | k+1,x0,x2,x4,x1000,x1001=>if x4 < (x0.size:Int) then (if 0≤x4 then (if x4≤(x0.size:Int) then ((head_Decode.f k (x0.extract (x4:Int).toNat x0.size)).bind fun t726=>(if t726.2.2.2.2.2=0 then (if t726.2.2.2.1 > (wrap64 ((wrap64 ((x0.size:Int) - x4)) - t726.2.2.2.2.1)) then (some (([]:List ByteArray),5,x4)) else ((octets_Cut.f x0 x4 (wrap64 (t726.2.2.2.2.1+t726.2.2.2.1))).bind fun t730=>(if x2.length < 8796093022208 then (tlv_Pieces.l0 k x0 (x2++[t730]) (wrap64 (x4+(wrap64 (t726.2.2.2.2.1+t726.2.2.2.1)))) x1000 x1001) else (none)))) else (some (([]:List ByteArray),t726.2.2.2.2.2,x4)))) else (none)) else (none)) else (some (x2,x1000,x1001))
def tlv_Pieces.f (k:Nat) (a0:ByteArray):Option (List ByteArray × Int × Int):=if (a0.size:Int) > 65535 then (some (([]:List ByteArray),4,0)) else (tlv_Pieces.l0 k a0 ([]:List ByteArray) 0 0 0)
def cr19_Pieces.l0:Nat→ByteArray→List ByteArray→Int→Option (List ByteArray × Int × Int)
 | 0,_,_,_=>none
 | k+1,x0,x4,x5=>if x5 < (x0.size:Int) then (if 0≤x5 then (if x5≤(x0.size:Int) then ((cr15_Decode.f k (x0.extract (x5:Int).toNat x0.size)).bind fun t756=>(if t756.2.2.2.2.2=0 then (if (wrap64 ((wrap64 (x5+t756.2.2.2.2.1))+t756.2.2.2.1)) > (x0.size:Int) then ((cr19_faulty.f 5 x5).bind fun t760=>(some (([]:List ByteArray),t760.1,t760.2))) else (if x5≤(wrap64 ((wrap64 (x5+t756.2.2.2.2.1))+t756.2.2.2.1)) then (if (wrap64 ((wrap64 (x5+t756.2.2.2.2.1))+t756.2.2.2.1))≤(x0.size:Int) then (if x4.length < 8796093022208 then (cr19_Pieces.l0 k x0 (x4++[x0.extract (x5:Int).toNat ((wrap64 ((wrap64 (x5+t756.2.2.2.2.1))+t756.2.2.2.1)):Int).toNat]) (wrap64 ((wrap64 (x5+t756.2.2.2.2.1))+t756.2.2.2.1))) else (none)) else (none)) else (none))) else ((cr19_faulty.f t756.2.2.2.2.2 x5).bind fun t766=>(some (([]:List ByteArray),t766.1,t766.2))))) else (none)) else (none)) else (some (x4,0,0))
def cr19_Pieces.f (k:Nat) (a0:ByteArray):Option (List ByteArray × Int × Int):=if (a0.size:Int) > 65535 then ((cr19_faulty.f 4 0).bind fun t751=>(some (([]:List ByteArray),t751.1,t751.2))) else (cr19_Pieces.l0 k a0 ([]:List ByteArray) 0)
def cr20_moved.l0:Nat→List Int→Int→List Int→Int→Option (List Int)
 | 0,_,_,_,_=>none
 | k+1,x0,x1,x5,x6=>if x6 < (x0.length:Int) then (if 0≤x6 then (if x5.length < 17592186044416 then (cr20_moved.l0 k x0 x1 (x5++[wrap64 ((rd x0 x6)+x1)]) (wrap64 (x6+1))) else (none)) else (none)) else (some x5)
def cr20_moved.f (k:Nat) (l0:List Int) (a1:Int):Option (List Int):=cr20_moved.l0 k l0 a1 ([]:List Int) 0
def cr20_one.j0:Nat→Bool→Int→Int→Bool→ByteArray→List Int→Option (Bool)
 | 0,_,_,_,_,_,_=>none
 | k+1,x20,x1000,x1001,x1002,x1003,x1004=>if x20=true then (some false) else (if x1002=true then (if x1003.toList=([]:List UInt8) then (if x1000=0 then (if x1001=16 then (some true) else (some (x1001 == 17))) else (some true)) else (some false)) else (if (x1004.length:Int)=0 then (if x1000=0 then ((cr18_Right.f k x1001 x1003).bind fun t1120=>(some t1120)) else (some true)) else (some false)))
def cr20_one.f (k:Nat) (a0_0:Int) (a0_1:Int) (a0_2:Bool) (a0_3:ByteArray) (l0_4:List Int):Option (Bool):=if a0_0 < 0 then (cr20_one.j0 k true a0_0 a0_1 a0_2 a0_3 l0_4) else (if a0_0 > 3 then (cr20_one.j0 k true a0_0 a0_1 a0_2 a0_3 l0_4) else (if a0_1 < 0 then (cr20_one.j0 k true a0_0 a0_1 a0_2 a0_3 l0_4) else (cr20_one.j0 k (decide (a0_1 > 2097151)) a0_0 a0_1 a0_2 a0_3 l0_4)))
mutual
def cr20_behind.j0:Nat→List S55→Int→Int→Bool→Option (Int)
 | 0,_,_,_,_=>none
 | k+1,x0,x1,x2,x24=>if x24=true then (some (-1)) else (cr20_behind.l0 k x0 x1 x2 (wrap64 (x1+1)) 0)
def cr20_behind.l0:Nat→List S55→Int→Int→Int→Int→Option (Int)
 | 0,_,_,_,_,_=>none
 | k+1,x0,x1,x2,x7,x8=>if 0≤x1 then (if x1 < (x0.length:Int) then (if x8 < (((rd_T55 x0 x1).f4).length:Int) then (if 0≤x8 then (if (rd ((rd_T55 x0 x1).f4) x8)=x7 then ((cr20_behind.f k x0 x7 (wrap64 (x2+1))).bind fun t1134=>(if t1134 < 0 then (some (-1)) else (cr20_behind.l0 k x0 x1 x2 t1134 (wrap64 (x8+1))))) else (some (-1))) else (none)) else (some x7)) else (none)) else (none)
def cr20_behind.f:Nat→List S55→Int→Int→Option (Int)
 | 0,_,_,_=>none
 | k+1,l0,a1,a2=>if a1≥(l0.length:Int) then (cr20_behind.j0 k l0 a1 a2 true) else (if a2 > 16 then (cr20_behind.j0 k l0 a1 a2 true) else (if 0≤a1 then (if a1 < (l0.length:Int) then ((cr20_one.f k ((rd_T55 l0 a1).f0) ((rd_T55 l0 a1).f1) ((rd_T55 l0 a1).f2) ((rd_T55 l0 a1).f3) ((rd_T55 l0 a1).f4)).bind fun t1126=>(cr20_behind.j0 k l0 a1 a2 (!t1126))) else (none)) else (none)))
end
def cr20_Right.f (k:Nat) (l0:List S55):Option (Bool):=if (l0.length:Int) > 0 then (if (l0.length:Int)≤1000 then ((cr20_behind.f k l0 0 1).bind fun t1139=>(some (t1139 == (l0.length:Int)))) else (some false)) else (some false)
mutual
def cr20_bytes.l0:Nat→List S55→Int→ByteArray→Int→Option (ByteArray × Bool)
 | 0,_,_,_,_=>none
 | k+1,x0,x1,x6,x7=>if 0≤x1 then (if x1 < (x0.length:Int) then (if x7 < (((rd_T55 x0 x1).f4).length:Int) then (if 0≤x7 then ((cr20_bytes.f k x0 (rd ((rd_T55 x0 x1).f4) x7)).bind fun t1210=>(if x6.size+t1210.1.size≤9223372036854775807 then (if t1210.2=true then (if ((x6++t1210.1).size:Int) > 65535 then (some ((⟨#[]⟩:ByteArray),false)) else (cr20_bytes.l0 k x0 x1 (x6++t1210.1) (wrap64 (x7+1)))) else (some ((⟨#[]⟩:ByteArray),false))) else (none))) else (none)) else ((cr15_Encode.f k ((rd_T55 x0 x1).f0) ((rd_T55 x0 x1).f1) ((rd_T55 x0 x1).f2) (x6.size:Int)).bind fun t1215=>(if t1215.1.size+x6.size≤9223372036854775807 then (if t1215.2=0 then (some (t1215.1++x6,decide ((wrap64 ((t1215.1.size:Int)+(x6.size:Int)))≤65535))) else (some (t1215.1++x6,false))) else (none)))) else (none)) else (none)
def cr20_bytes.f:Nat→List S55→Int→Option (ByteArray × Bool)
 | 0,_,_=>none
 | k+1,l0,a1=>if 0≤a1 then (if a1 < (l0.length:Int) then (cr20_bytes.l0 k l0 a1 ((rd_T55 l0 a1).f3) 0) else (none)) else (none)
end
def cr20_Encode.f (k:Nat) (l0:List S55):Option (ByteArray × Int):=(cr20_Right.f k l0).bind fun t1219=>(if t1219=true then ((cr20_bytes.f k l0 0).bind fun t1222=>(if t1222.2=true then (some (t1222.1,0)) else (some ((⟨#[]⟩:ByteArray),4)))) else (some ((⟨#[]⟩:ByteArray),1)))
def tree_Depth.f (k:Nat) (l0:List S55):Option (Int):=(tree_depth.f k l0).bind fun t299=>(some t299)
mutual
def cr20_depth.l0:Nat→List S55→Int→Int→Int→Option (Int)
 | 0,_,_,_,_=>none
 | k+1,x0,x1,x5,x6=>if 0≤x1 then (if x1 < (x0.length:Int) then (if x6 < (((rd_T55 x0 x1).f4).length:Int) then (if 0≤x6 then ((cr20_depth.f k x0 (rd ((rd_T55 x0 x1).f4) x6)).bind fun t891=>(if t891 > x5 then (cr20_depth.l0 k x0 x1 t891 (wrap64 (x6+1))) else (cr20_depth.l0 k x0 x1 x5 (wrap64 (x6+1))))) else (none)) else (some (wrap64 (x5+1)))) else (none)) else (none)
def cr20_depth.f:Nat→List S55→Int→Option (Int)
 | 0,_,_=>none
 | k+1,l0,a1=>cr20_depth.l0 k l0 a1 0 0
end
def VI (d:Ieee.Datum) (n:Nat):Prop:=∃ k:Nat,k≤1074∧d=.number false (n*2 ^ k) (-(k:Int))
theorem log2_lt {n k:Nat} (h0:0 < n) (h:n < 2 ^ k):n.log2 < k:=(Nat.log2_lt (by omega)).2 h
theorem log2_shift {n:Nat} (h0:0 < n) (k:Nat):(n*2 ^ k).log2=n.log2+k:=by
 induction k with
 | zero=>simp
 | succ k ih =>
  have hp:0 < n*2 ^ k:=Nat.mul_pos h0 (Nat.two_pow_pos k)
  rw [Nat.pow_succ,← Nat.mul_assoc,Nat.mul_comm _ 2,Nat.log2_two_mul (by omega),ih]
  omega
theorem cut_exact (way:Ieee.Toward) (m d q:Nat) (h:m=q*2 ^ d) (hd:m=0∨d≤m.log2+2):way.cut false m d=q:=by
 have hr:∀ g:Nat,0 < g→m % g=0→way.cut false m d=m / (1 <<< min d (m.log2+2))→m / g=q→(1 <<< min d (m.log2+2))=g→way.cut false m d=q:=fun g _ _ h1 h2 h3=>by rw [h1,h3,h2]
 have key:m / (1 <<< min d (m.log2+2))=q∧m % (1 <<< min d (m.log2+2))=0:=by
  rw [Nat.one_shiftLeft]
  rcases hd with rfl | hd
  ·have:q=0:=by
    rcases Nat.mul_eq_zero.1 h.symm with h | h
    ·exact h
    ·have:=Nat.two_pow_pos d;omega
   subst this
   simp
  ·rw [Nat.min_eq_left hd,h]
   exact ⟨Nat.mul_div_cancel _ (Nat.two_pow_pos d),Nat.mul_mod_left _ _⟩
 have hg:0 < 1 <<< min d (m.log2+2):=by rw [Nat.one_shiftLeft];exact Nat.two_pow_pos _
 unfold Ieee.Toward.cut
 simp only [key.1,key.2]
 cases way
 ·have h1:decide (1 <<< min d (m.log2+2) < 2*0)=false:=decide_eq_false (by omega)
  have h2:((1 <<< min d (m.log2+2)) == 2*0)=false:=beq_eq_false_iff_ne.2 (by omega)
  simp [h2]
 all_goals simp
theorem nearest_is (n k:Nat) (h0:0 < n) (h:n < 2 ^ 53):Ieee.double.nearest false (n*2 ^ k) (-(k:Int))=(n.log2+1022)*2 ^ 52+n*2 ^ (52 - n.log2):=by
 have he:=log2_lt h0 h
 have hl:=log2_shift h0 k
 have hm:¬ n*2 ^ k=0:=by have:=Nat.mul_pos h0 (Nat.two_pow_pos k);omega
 have hlast:max (-(k:Int)+((n*2 ^ k).log2:Int) - (Ieee.double.fractionBits:Int)) Ieee.double.leastPlace=(n.log2:Int) - 52:=by
  rw [hl,show Ieee.double.leastPlace = -1074 from rfl,show ((Ieee.double.fractionBits:Nat):Int)=52 from rfl]
  omega
 have hkept:Ieee.Toward.even.cut false ((n*2 ^ k) <<< (-(k:Int) - ((n.log2:Int) - 52)).toNat) (((n.log2:Int) - 52) - -(k:Int)).toNat=n*2 ^ (52 - n.log2):=by
  rw [Nat.shiftLeft_eq]
  by_cases hk:k≤52 - n.log2
  ·rw [show (-(k:Int) - ((n.log2:Int) - 52)).toNat=52 - n.log2 - k by omega,show (((n.log2:Int) - 52) - -(k:Int)).toNat=0 by omega]
   refine cut_exact _ _ _ _ ?_ (Or.inr (by omega))
   rw [Nat.mul_assoc,← Nat.pow_add,Nat.pow_zero,Nat.mul_one]
   congr 2
   omega
  ·rw [show (-(k:Int) - ((n.log2:Int) - 52)).toNat=0 by omega,show (((n.log2:Int) - 52) - -(k:Int)).toNat=k - (52 - n.log2) by omega,Nat.pow_zero,Nat.mul_one]
   refine cut_exact _ _ _ _ ?_ (Or.inr (by omega))
   rw [Nat.mul_assoc,← Nat.pow_add]
   congr 2
   omega
 unfold Ieee.Format.nearest
 rw [if_neg hm]
 dsimp only
 rw [hlast,hkept]
 have hb:Ieee.double.binade=2 ^ 52:=rfl
 have hi:Ieee.double.infRung=2047*2 ^ 52:=rfl
 have hlt:n*2 ^ (52 - n.log2) < 2 ^ 53:=by
  have h1:n < 2 ^ (n.log2+1):=Nat.lt_log2_self
  have h2:=Nat.mul_lt_mul_of_pos_right h1 (Nat.two_pow_pos (52 - n.log2))
  rwa [← Nat.pow_add,show n.log2+1+(52 - n.log2)=53 by omega] at h2
 rw [show (((n.log2:Int) - 52) - Ieee.double.leastPlace).toNat=n.log2+1022 by rw [show Ieee.double.leastPlace = -1074 from rfl];omega,hb,hi]
 unfold Ieee.Format.word
 rw [if_neg (by decide),Nat.min_eq_left (by omega)]
theorem read_is (n:Nat) (h0:0 < n) (h:n < 2 ^ 53):Ieee.double.read ((n.log2+1022)*2 ^ 52+n*2 ^ (52 - n.log2))=.number false (n*2 ^ (52 - n.log2)) (-((52 - n.log2:Nat):Int)):=by
 have he:=log2_lt h0 h
 have hlt:n*2 ^ (52 - n.log2) < 2 ^ 53:=by
  have h1:n < 2 ^ (n.log2+1):=Nat.lt_log2_self
  have h2:=Nat.mul_lt_mul_of_pos_right h1 (Nat.two_pow_pos (52 - n.log2))
  rwa [← Nat.pow_add,show n.log2+1+(52 - n.log2)=53 by omega] at h2
 have hge:2 ^ 52≤n*2 ^ (52 - n.log2):=by
  have h1:2 ^ n.log2≤n:=Nat.log2_self_le (by omega)
  have h2:=Nat.mul_le_mul_right (2 ^ (52 - n.log2)) h1
  rwa [← Nat.pow_add,show n.log2+(52 - n.log2)=52 by omega] at h2
 generalize hx:n*2 ^ (52 - n.log2)=x at hlt hge
 have hw:Ieee.double.signWeight=2 ^ 63:=rfl
 have hb:Ieee.double.binade=2 ^ 52:=rfl
 have hi:Ieee.double.infRung=2047*2 ^ 52:=rfl
 unfold Ieee.Format.read
 rw [hw,hb,hi]
 have e1:((n.log2+1022)*2 ^ 52+x) / 2 ^ 63=0:=Nat.div_eq_of_lt (by omega)
 have e2:((n.log2+1022)*2 ^ 52+x) % 2 ^ 63=(n.log2+1022)*2 ^ 52+x:=Nat.mod_eq_of_lt (by omega)
 rw [e1,e2]
 dsimp only
 rw [if_neg (by omega),if_pos (by omega)]
 have e3:((n.log2+1022)*2 ^ 52+x) % 2 ^ 52=x - 2 ^ 52:=by omega
 have e4:((n.log2+1022)*2 ^ 52+x) / 2 ^ 52=n.log2+1023:=by omega
 rw [e3,e4,show Ieee.double.leastPlace = -1074 from rfl]
 rw [show (0 % 2 == 1)=false from rfl,show 2 ^ 52+(x - 2 ^ 52)=x by omega]
 exact congrArg (Ieee.Datum.number false x) (by omega)
theorem fol_nat (n:Nat):floatOfInt .f64 (n:Int)=Ieee.double.nearest false n 0:=by
 show Ieee.double.nearest (decide ((n:Int) < 0)) (n:Int).natAbs 0=_
 rw [decide_eq_false (by omega),Int.natAbs_natCast]
theorem fol_pos (n:Nat) (h0:0 < n) (h:n < 2 ^ 53):floatOfInt .f64 (n:Int)=(n.log2+1022)*2 ^ 52+n*2 ^ (52 - n.log2):=by
 have:=nearest_is n 0 h0 h
 rw [Nat.pow_zero,Nat.mul_one] at this
 rw [fol_nat,← this]
 rfl
theorem vi_of (n:Nat) (h:n < 2 ^ 53):VI (FloatKind.f64.format.read (floatOfInt .f64 (n:Int))) n:=by
 show VI (Ieee.double.read _) n
 by_cases h0:n=0
 ·subst h0
  exact ⟨1074,Nat.le_refl _,by kernel_rfl⟩
 ·rw [fol_pos n (by omega) h,read_is n (by omega) h]
  exact ⟨52 - n.log2,by omega,rfl⟩
theorem signed_is (m up:Nat):Ieee.signed false m up=((m*2 ^ up:Nat):Int):=by
 unfold Ieee.signed
 rw [if_neg (by decide),Nat.shiftLeft_eq]
theorem fadd_some (a b:Nat) (h:a+b < 2 ^ 53):floatBits .add .f64 (floatOfInt .f64 (a:Int)) (floatOfInt .f64 (b:Int))=some (floatOfInt .f64 ((a+b:Nat):Int)):=by
 obtain ⟨k,hk,ha⟩:=vi_of a (by omega)
 obtain ⟨j,hj,hb⟩:=vi_of b (by omega)
 show ((FloatKind.f64.format.read _).sum (FloatKind.f64.format.read _)).map FloatKind.f64.format.write=_
 rw [ha,hb]
 unfold Ieee.Datum.sum
 dsimp only
 rw [signed_is,signed_is]
 have hmin:min (-(k:Int)) (-(j:Int)) = -((max k j:Nat):Int):=by omega
 rw [hmin]
 have e1:a*2 ^ k*2 ^ (-(k:Int) - -((max k j:Nat):Int)).toNat=a*2 ^ max k j:=by
  rw [Nat.mul_assoc,← Nat.pow_add]
  congr 2
  omega
 have e2:b*2 ^ j*2 ^ (-(j:Int) - -((max k j:Nat):Int)).toNat=b*2 ^ max k j:=by
  rw [Nat.mul_assoc,← Nat.pow_add]
  congr 2
  omega
 rw [e1,e2,← Int.natCast_add,← Nat.add_mul,Int.natAbs_natCast,Option.map_some]
 have hs:(if (((a+b)*2 ^ max k j:Nat):Int)=0 then (false && false) else decide ((((a+b)*2 ^ max k j:Nat):Int) < 0))=false:=by
  split
  ·rfl
  ·exact decide_eq_false (by omega)
 rw [hs]
 show some (Ieee.double.nearest false _ _)=_
 congr 1
 by_cases h0:a+b=0
 ·rw [h0,Nat.zero_mul]
  unfold Ieee.Format.nearest
  rw [if_pos rfl]
  kernel_rfl
 ·rw [nearest_is (a+b) _ (by omega) h,fol_pos (a+b) (by omega) h]
theorem order_vi (a b:Nat) (ha:a < 2 ^ 53) (hb:b < 2 ^ 53):FloatKind.f64.format.order (floatOfInt .f64 (a:Int)) (floatOfInt .f64 (b:Int))=some (compare a b):=by
 obtain ⟨k,hk,ha⟩:=vi_of a ha
 obtain ⟨j,hj,hb⟩:=vi_of b hb
 show (FloatKind.f64.format.read _).order (FloatKind.f64.format.read _)=_
 rw [ha,hb]
 unfold Ieee.Datum.order
 dsimp only
 rw [signed_is,signed_is]
 have hmin:min (-(k:Int)) (-(j:Int)) = -((max k j:Nat):Int):=by omega
 rw [hmin]
 have e1:a*2 ^ k*2 ^ (-(k:Int) - -((max k j:Nat):Int)).toNat=a*2 ^ max k j:=by
  rw [Nat.mul_assoc,← Nat.pow_add]
  congr 2
  omega
 have e2:b*2 ^ j*2 ^ (-(j:Int) - -((max k j:Nat):Int)).toNat=b*2 ^ max k j:=by
  rw [Nat.mul_assoc,← Nat.pow_add]
  congr 2
  omega
 rw [e1,e2]
 congr 1
 have hp:=Nat.two_pow_pos (max k j)
 rcases Nat.lt_trichotomy a b with h | h | h
 ·have:=Nat.mul_lt_mul_of_pos_right h hp
  rw [Nat.compare_eq_lt.2 h]
  exact Int.compare_eq_lt.2 (by omega)
 ·subst h
  rw [Nat.compare_eq_eq.2 rfl]
  exact Int.compare_eq_eq.2 rfl
 ·have:=Nat.mul_lt_mul_of_pos_right h hp
  rw [Nat.compare_eq_gt.2 h]
  exact Int.compare_eq_gt.2 (by omega)
theorem toint_vi (n:Nat) (h:n < 2 ^ 53):floatToIntVal .f64 (floatOfInt .f64 (n:Int)) .i64=some (n:Int):=by
 obtain ⟨k,hk,hd⟩:=vi_of n h
 unfold floatToIntVal
 rw [show FloatKind.f64.decode (floatOfInt .f64 (n:Int))=FloatKind.f64.format.read (floatOfInt .f64 (n:Int)) from rfl,hd]
 unfold Ieee.Datum.toInt Ieee.Datum.integral
 dsimp only
 rw [show (-(k:Int)).toNat=0 by omega,show (- -(k:Int)).toNat=k by omega,Nat.shiftLeft_zero]
 have hc:Ieee.Toward.zero.cut false (n*2 ^ k) k=n:=by
  refine cut_exact _ _ _ _ rfl ?_
  by_cases h0:n=0
  ·exact Or.inl (by rw [h0,Nat.zero_mul])
  ·exact Or.inr (by rw [log2_shift (by omega)];omega)
 rw [hc,signed_is,Nat.pow_zero,Nat.mul_one]
 have h1:IntKind.i64.min = -9223372036854775808:=rfl
 have h2:IntKind.i64.max=9223372036854775807:=rfl
 rw [if_pos ⟨by omega,by omega⟩]
def fl (n:Nat):Nat:=floatOfInt .f64 (n:Int)
theorem fl_of {x:Int} (h:0≤x):floatOfInt .f64 x=fl x.toNat:=by
 unfold fl
 rw [Int.toNat_of_nonneg h]
theorem fl_zero:fl 0=0:=rfl
theorem fok_fl {a b:Nat} (h:a+b < 2 ^ 53):fok (fl a) (fl b)=true:=by unfold fok fl;rw [fadd_some a b h];rfl
theorem fadd_fl {a b:Nat} (h:a+b < 2 ^ 53):fadd (fl a) (fl b)=fl (a+b):=by unfold fadd fl;rw [fadd_some a b h];rfl
theorem feq_fl {a b:Nat} (ha:a < 2 ^ 53) (hb:b < 2 ^ 53):feq (fl a) (fl b)=decide (a=b):=by
 unfold feq fl
 rw [order_vi a b ha hb]
 rcases Nat.lt_trichotomy a b with h | h | h
 ·rw [Nat.compare_eq_lt.2 h,decide_eq_false (by omega)];rfl
 ·rw [Nat.compare_eq_eq.2 h,decide_eq_true h];rfl
 ·rw [Nat.compare_eq_gt.2 h,decide_eq_false (by omega)];rfl
theorem flt_fl {a b:Nat} (ha:a < 2 ^ 53) (hb:b < 2 ^ 53):flt (fl a) (fl b)=decide (a < b):=by
 unfold flt fl
 rw [order_vi a b ha hb]
 rcases Nat.lt_trichotomy a b with h | h | h
 ·rw [Nat.compare_eq_lt.2 h,decide_eq_true (by omega)];rfl
 ·rw [Nat.compare_eq_eq.2 h,decide_eq_false (by omega)];rfl
 ·rw [Nat.compare_eq_gt.2 h,decide_eq_false (by omega)];rfl
theorem fgt_fl {a b:Nat} (ha:a < 2 ^ 53) (hb:b < 2 ^ 53):fgt (fl a) (fl b)=decide (b < a):=by
 unfold fgt fl
 rw [order_vi a b ha hb]
 rcases Nat.lt_trichotomy a b with h | h | h
 ·rw [Nat.compare_eq_lt.2 h,decide_eq_false (by omega)];rfl
 ·rw [Nat.compare_eq_eq.2 h,decide_eq_false (by omega)];rfl
 ·rw [Nat.compare_eq_gt.2 h,decide_eq_true (by omega)];rfl
theorem fle_fl {a b:Nat} (ha:a < 2 ^ 53) (hb:b < 2 ^ 53):fle (fl a) (fl b)=decide (a≤b):=by
 unfold fle
 rw [flt_fl ha hb,feq_fl ha hb]
 by_cases h:a≤b
 ·rw [decide_eq_true h]
  rcases Nat.lt_or_eq_of_le h with h | h<;>simp [h]
 ·rw [decide_eq_false h,decide_eq_false (by omega),decide_eq_false (by omega)];rfl
theorem fge_fl {a b:Nat} (ha:a < 2 ^ 53) (hb:b < 2 ^ 53):fge (fl a) (fl b)=decide (b≤a):=by
 unfold fge
 rw [fgt_fl ha hb,feq_fl ha hb]
 by_cases h:b≤a
 ·rw [decide_eq_true h]
  rcases Nat.lt_or_eq_of_le h with h | h<;>simp [h]
 ·rw [decide_eq_false h,decide_eq_false (by omega),decide_eq_false (by omega)];rfl
theorem fiok_fl {a:Nat} (h:a < 2 ^ 53):fiok (fl a)=true:=by unfold fiok fl;rw [toint_vi a h];rfl
theorem fint_fl {a:Nat} (h:a < 2 ^ 53):fint (fl a)=(a:Int):=by unfold fint fl;rw [toint_vi a h];rfl
def cr22_Width.f (a0:Int):Option (Int):=if a0=1 then (some 28) else (if a0=2 then (some 32) else (if a0=3 then (some 48) else (if a0=4 then (some 66) else (some 0))))
def cr02_Value.l0:Nat→Int→Int→Option (Int)
 | 0,_,_=>none
 | k+1,x0,x3=>if x3 < 16 then (if 0≤x3 then (if (bt (⟨#[48,49,50,51,52,53,54,55,56,57,65,66,67,68,69,70]⟩:ByteArray) x3)=x0 then (some x3) else (cr02_Value.l0 k x0 (wrap64 (x3+1)))) else (none)) else (some (-1))
def cr02_Value.f (k:Nat) (a0:Int):Option (Int):=cr02_Value.l0 k a0 0
def cr02_Unhex.l0:Nat→ByteArray→ByteArray→Int→Option (ByteArray × Bool)
 | 0,_,_,_=>none
 | k+1,x0,x4,x5=>if x5 < (x0.size:Int) then (if 0≤x5 then (if 0≤(wrap64 (x5+1)) then (if (wrap64 (x5+1)) < (x0.size:Int) then ((cr02_Value.f k (bt x0 x5)).bind fun t776=>((cr02_Value.f k (bt x0 (wrap64 (x5+1)))).bind fun t778=>(if t776 < 0 then (some ((⟨#[]⟩:ByteArray),false)) else (if t778 < 0 then (some ((⟨#[]⟩:ByteArray),false)) else (if x4.size+(strOfNums ([(wrap64 ((wrap64 (16*t776))+t778)) % 256]:List Int)).size≤9223372036854775807 then (cr02_Unhex.l0 k x0 (x4++(strOfNums ([(wrap64 ((wrap64 (16*t776))+t778)) % 256]:List Int))) (wrap64 (x5+2))) else (none)))))) else (none)) else (none)) else (none)) else (some (x4,true))
def cr02_Unhex.f (k:Nat) (a0:ByteArray):Option (ByteArray × Bool):=if (Int.tmod (a0.size:Int) 2)=0 then (cr02_Unhex.l0 k a0 (⟨#[]⟩:ByteArray) 0) else (some ((⟨#[]⟩:ByteArray),false))
def cr22_Order.f (k:Nat) (a0:Int):Option (ByteArray):=if a0=1 then ((cr02_Unhex.f k (⟨#[70,70,70,70,70,70,70,70,70,70,70,70,70,70,70,70,70,70,70,70,70,70,70,70,70,70,70,70,49,54,65,50,69,48,66,56,70,48,51,69,49,51,68,68,50,57,52,53,53,67,53,67,50,65,51,68]⟩:ByteArray)).bind fun t784=>(some t784.1)) else (if a0=2 then ((cr02_Unhex.f k (⟨#[70,70,70,70,70,70,70,70,48,48,48,48,48,48,48,48,70,70,70,70,70,70,70,70,70,70,70,70,70,70,70,70,66,67,69,54,70,65,65,68,65,55,49,55,57,69,56,52,70,51,66,57,67,65,67,50,70,67,54,51,50,53,53,49]⟩:ByteArray)).bind fun t787=>(some t787.1)) else (if a0=3 then ((cr02_Unhex.f k (⟨#[70,70,70,70,70,70,70,70,70,70,70,70,70,70,70,70,70,70,70,70,70,70,70,70,70,70,70,70,70,70,70,70,70,70,70,70,70,70,70,70,70,70,70,70,70,70,70,70,67,55,54,51,52,68,56,49,70,52,51,55,50,68,68,70,53,56,49,65,48,68,66,50,52,56,66,48,65,55,55,65,69,67,69,67,49,57,54,65,67,67,67,53,50,57,55,51]⟩:ByteArray)).bind fun t790=>(some t790.1)) else (if a0=4 then ((cr02_Unhex.f k (⟨#[48,49,70,70,70,70,70,70,70,70,70,70,70,70,70,70,70,70,70,70,70,70,70,70,70,70,70,70,70,70,70,70,70,70,70,70,70,70,70,70,70,70,70,70,70,70,70,70,70,70,70,70,70,70,70,70,70,70,70,70,70,70,70,70,70,70,70,65,53,49,56,54,56,55,56,51,66,70,50,70,57,54,54,66,55,70,67,67,48,49,52,56,70,55,48,57,65,53,68,48,51,66,66,53,67,57,66,56,56,57,57,67,52,55,65,69,66,66,54,70,66,55,49,69,57,49,51,56,54,52,48,57]⟩:ByteArray)).bind fun t793=>(some t793.1)) else ((cr02_Unhex.f k (⟨#[]⟩:ByteArray)).bind fun t795=>(some t795.1)))))
def cr22_Scalar.l0:Nat→Int→ByteArray→Bool→Int→Option (Bool)
 | 0,_,_,_,_=>none
 | k+1,x0,x1,x5,x6=>if x6 < (x1.size:Int) then (if 0≤x6 then (if (bt x1 x6)=0 then (cr22_Scalar.l0 k x0 x1 x5 (wrap64 (x6+1))) else (cr22_Scalar.l0 k x0 x1 true (wrap64 (x6+1)))) else (none)) else (if x5=true then ((cr22_Order.f k x0).bind fun t805=>(some (Op.bytesLess x1.toList t805.toList))) else (some false))
def cr22_Scalar.j0:Nat→Int→ByteArray→Bool→Option (Bool)
 | 0,_,_,_=>none
 | k+1,x0,x1,x16=>if x16=true then (some false) else (cr22_Scalar.l0 k x0 x1 false 0)
def cr22_Scalar.f (k:Nat) (a0:Int) (a1:ByteArray):Option (Bool):=(cr22_Width.f a0).bind fun t797=>(if t797=0 then (cr22_Scalar.j0 k a0 a1 true) else (cr22_Scalar.j0 k a0 a1 ((a1.size:Int) != t797)))
def cr22_Arcs.f (a0:Int):Option (List Int):=if a0=1 then (some ([1,3,132,0,33]:List Int)) else (if a0=2 then (some ([1,2,840,10045,3,1,7]:List Int)) else (if a0=3 then (some ([1,3,132,0,34]:List Int)) else (if a0=4 then (some ([1,3,132,0,35]:List Int)) else (some ([]:List Int)))))
mutual
def cr20_Of.l0:Nat→List (List S55)→List S55→Int→Option (List S55)
 | 0,_,_,_=>none
 | k+1,x2,x7,x8=>if x8 < (x2.length:Int) then (if 0≤x8 then (if ((rd_L55 x2 x8).length:Int) > 0 then (if 0 < (x7.length:Int) then (if ((rd_T55 x7 0).f4).length < 17592186044416 then (cr20_Of.j1 k x2 (x7.set (0:Int).toNat (⟨(rd_T55 x7 0).f0,(rd_T55 x7 0).f1,(rd_T55 x7 0).f2,(rd_T55 x7 0).f3,(((rd_T55 x7 0).f4)++[(x7.length:Int)])⟩:S55)) x8 (x7.length:Int)) else (none)) else (none)) else (cr20_Of.j1 k x2 x7 x8 (x7.length:Int))) else (none)) else (some x7)
def cr20_Of.j1:Nat→List (List S55)→List S55→Int→Int→Option (List S55)
 | 0,_,_,_,_=>none
 | k+1,x2,x7,x8,x9=>cr20_Of.l1 k x2 x7 x8 x9 0
def cr20_Of.l1:Nat→List (List S55)→List S55→Int→Int→Int→Option (List S55)
 | 0,_,_,_,_,_=>none
 | k+1,x2,x7,x8,x9,x10=>if 0≤x8 then (if x8 < (x2.length:Int) then (if x10 < ((rd_L55 x2 x8).length:Int) then (if 0≤x10 then ((cr20_moved.f k ((rd_T55 (rd_L55 x2 x8) x10).f4) x9).bind fun t866=>(if x7.length < 2199023255552 then (cr20_Of.l1 k x2 (x7++[(⟨(rd_T55 (rd_L55 x2 x8) x10).f0,(rd_T55 (rd_L55 x2 x8) x10).f1,(rd_T55 (rd_L55 x2 x8) x10).f2,(rd_T55 (rd_L55 x2 x8) x10).f3,t866⟩:S55)]) x8 x9 (wrap64 (x10+1))) else (none))) else (none)) else (cr20_Of.l0 k x2 x7 (wrap64 (x8+1)))) else (none)) else (none)
end
def cr20_Of.f (k:Nat) (a0:Int) (a1:Int) (l2:List (List S55)):Option (List S55):=cr20_Of.l0 k l2 ([(⟨a0,a1,true,(⟨#[]⟩:ByteArray),([]:List Int)⟩:S55)]:List S55) 0
def cr20_Leaf.f (a0:Int) (a1:Int) (a2:ByteArray):Option (List S55):=some ([(⟨a0,a1,false,a2,([]:List Int)⟩:S55)]:List S55)
def cr25_Encode.f (k:Nat) (a0:Int) (a1:ByteArray):Option (ByteArray × Int):=(cr22_Width.f a0).bind fun t1073=>(if t1073=0 then (some ((⟨#[]⟩:ByteArray),8)) else ((cr22_Width.f a0).bind fun t1076=>(if (a1.size:Int)=t1076 then ((cr22_Scalar.f k a0 a1).bind fun t1079=>(if t1079=true then ((cr22_Arcs.f a0).bind fun t1082=>((cr17_Encode.f k t1082).bind fun t1084=>((cr20_Leaf.f 0 6 t1084.1).bind fun t1086=>((cr20_Of.f k 2 0 ([t1086]:List (List S55))).bind fun t1088=>((cr20_Leaf.f 0 2 (⟨#[1]⟩:ByteArray)).bind fun t1090=>((cr20_Leaf.f 0 4 a1).bind fun t1092=>((cr20_Of.f k 0 16 ([t1090,t1092,t1088]:List (List S55))).bind fun t1094=>((cr20_Encode.f k t1094).bind fun t1096=>(some (t1096.1,t1096.2)))))))))) else (some ((⟨#[]⟩:ByteArray),10)))) else (some ((⟨#[]⟩:ByteArray),9)))))
def cr22_same.l0:Nat→List Int→List Int→Int→Option (Bool)
 | 0,_,_,_=>none
 | k+1,x0,x1,x5=>if x5 < (x0.length:Int) then (if 0≤x5 then (if x5 < (x1.length:Int) then (if (rd x0 x5)=(rd x1 x5) then (cr22_same.l0 k x0 x1 (wrap64 (x5+1))) else (some false)) else (none)) else (none)) else (some true)
def cr22_same.f (k:Nat) (l0:List Int) (l1:List Int):Option (Bool):=if (l0.length:Int)=(l1.length:Int) then (cr22_same.l0 k l0 l1 0) else (some false)
def cr22_By.l0:Nat→List Int→Int→Option (Int × Bool)
 | 0,_,_=>none
 | k+1,x0,x4=>if x4 < 5 then ((cr22_Arcs.f x4).bind fun t1219=>((cr22_same.f k t1219 x0).bind fun t1221=>(if t1221=true then (some (x4,true)) else (cr22_By.l0 k x0 (wrap64 (x4+1)))))) else (some (0,false))
def cr22_By.f (k:Nat) (l0:List Int):Option (Int × Bool):=cr22_By.l0 k l0 1
def cr25_Decode.j2:Nat→List S55→Bool→Option (Int × ByteArray × Int)
 | 0,_,_=>none
 | k+1,x5,x114=>if x114=true then (some (0,(⟨#[]⟩:ByteArray),5)) else (if 4 < (x5.length:Int) then ((cr17_Decode.f k ((rd_T55 x5 4).f3)).bind fun t1247=>((cr22_By.f k t1247.1).bind fun t1249=>(if t1249.2=true then (if 2 < (x5.length:Int) then ((cr25_Encode.f k t1249.1 ((rd_T55 x5 2).f3)).bind fun t1253=>(if t1253.2=0 then (some (t1249.1,(rd_T55 x5 2).f3,0)) else (some (0,(⟨#[]⟩:ByteArray),t1253.2)))) else (none)) else (some (0,(⟨#[]⟩:ByteArray),8))))) else (none))
def cr25_Decode.j1:Nat→List S55→Bool→Option (Int × ByteArray × Int)
 | 0,_,_=>none
 | k+1,x5,x80=>if x80=true then (some (0,(⟨#[]⟩:ByteArray),5)) else (if 3 < (x5.length:Int) then (if ((rd_T55 x5 3).f0)=2 then (if ((rd_T55 x5 3).f1)=0 then (if (((rd_T55 x5 3).f4).length:Int)=1 then (if 4 < (x5.length:Int) then (if ((rd_T55 x5 4).f0)=0 then (cr25_Decode.j2 k x5 (((rd_T55 x5 4).f1) != 6)) else (cr25_Decode.j2 k x5 true)) else (none)) else (cr25_Decode.j2 k x5 true)) else (cr25_Decode.j2 k x5 true)) else (cr25_Decode.j2 k x5 true)) else (none))
def cr25_Decode.j0:Nat→List S55→Bool→Option (Int × ByteArray × Int)
 | 0,_,_=>none
 | k+1,x5,x47=>if x47=true then (some (0,(⟨#[]⟩:ByteArray),5)) else (if 1 < (x5.length:Int) then (if ((rd_T55 x5 1).f0)=0 then (if ((rd_T55 x5 1).f1)=2 then (if ((rd_T55 x5 1).f3).toList=([1]:List UInt8) then (if 2 < (x5.length:Int) then (if ((rd_T55 x5 2).f0)=0 then (cr25_Decode.j1 k x5 (((rd_T55 x5 2).f1) != 4)) else (cr25_Decode.j1 k x5 true)) else (none)) else (cr25_Decode.j1 k x5 true)) else (cr25_Decode.j1 k x5 true)) else (cr25_Decode.j1 k x5 true)) else (none))
def cr25_Decode.f (k:Nat) (a0:ByteArray):Option (Int × ByteArray × Int):=(cr19_Decode.f k a0).bind fun t1224=>(if t1224.2.1=0 then (if (t1224.1.length:Int)=5 then (if 0 < (t1224.1.length:Int) then (if (((rd_T55 t1224.1 0).f4).length:Int)=3 then (if ((rd_T55 t1224.1 0).f0)=0 then (cr25_Decode.j0 k t1224.1 (((rd_T55 t1224.1 0).f1) != 16)) else (cr25_Decode.j0 k t1224.1 true)) else (cr25_Decode.j0 k t1224.1 true)) else (none)) else (cr25_Decode.j0 k t1224.1 true)) else (some (0,(⟨#[]⟩:ByteArray),t1224.2.1)))
def cr25_Size.l0:Nat→Int→Int→ByteArray→Option (Int)
 | 0,_,_,_=>none
 | k+1,x0,x3,x4=>if (x4.size:Int) < x3 then (if 1+x4.size≤9223372036854775807 then (cr25_Size.l0 k x0 x3 ((⟨#[0]⟩:ByteArray)++x4)) else (none)) else ((cr25_Encode.f k x0 x4).bind fun t1261=>(some (t1261.1.size:Int)))
def cr25_Size.f (k:Nat) (a0:Int):Option (Int):=(cr22_Width.f a0).bind fun t1256=>(if t1256=0 then (some 0) else (cr25_Size.l0 k a0 t1256 (⟨#[1]⟩:ByteArray)))
def getN (l:List Int):Int:=l.foldl (fun n b=>n*256+b) 0
theorem getN_snoc (l:List Int) (x:Int):getN (l++[x])=getN l*256+x:=by simp [getN]
theorem getN_take {l:List Int} (i:Nat) (h:i < l.length):getN (l.take (i+1))=getN (l.take i)*256+l[i]:=by
 rw [List.take_succ_eq_append_getElem h,getN_snoc]
theorem getN_bd (n:Nat):∀ l:List Int,OkB l→l.length≤n→0≤getN l∧getN l < 256 ^ n:=by
 induction n with
 | zero=>intro l h hn;obtain rfl:=List.eq_nil_of_length_eq_zero (Nat.le_zero.1 hn);simp [getN]
 | succ n ih =>
  intro l h hn
  have hp:(0:Int) < 256 ^ n:=Int.pow_pos (by decide)
  by_cases e:l=[]
  ·subst e
   rw [Int.pow_succ]
   simp only [getN,List.foldl_nil]
   omega
  ·obtain ⟨m,x,rfl⟩:∃ m x,l=m++[x]:=⟨l.dropLast,l.getLast e,(List.dropLast_concat_getLast e).symm⟩
   have h1:=ih m (fun y hy=>h y (List.mem_append_left _ hy)) (by simp at hn;omega)
   have h2:=h x (by simp)
   rw [getN_snoc,Int.pow_succ]
   omega
theorem getN_lt7 (l:List Int) (h:OkB l) (hn:l.length≤7):0≤getN l∧getN l < 72057594037927936:=getN_bd 7 l h hn
theorem ref01_Get_loop (l:List Int) (hl:OkB l) (h8:l.length≤8) (d:Nat):∀ i:Nat,i≤l.length→l.length - i=d →
 Ev (fun k=>cr01_Get.l0 k (strOfNums l) (getN (l.take i)) (i:Int)) (getN l,true):=by
 induction d with
 | zero =>
  intro i hi hd
  obtain rfl:i=l.length:=by omega
  refine Ev.step (f:=fun _=>some (getN l,true)) (fun k=>?_) (Ev.now _)
  simp only [cr01_Get.l0]
  rw [nums_sizeI,if_neg (by omega),List.take_length]
 | succ d ih =>
  intro i hi hd
  have hlt:i < l.length:=by omega
  refine Ev.step (fun k=>?_) (ih (i+1) (by omega) (by omega))
  have hb:=hl.get i hlt
  have hg:=getN_lt7 (l.take i) (hl.take i) (by rw [List.length_take];omega)
  simp only [cr01_Get.l0]
  rw [nums_sizeI,if_pos (by omega),if_pos (by omega),nums_bt hl i hlt,wu64 (x:=getN (l.take i)*256) (by omega) (by omega),wu64 (x:=l[i]) (by omega) (by omega),w64 (by omega) (by omega),wu64 (by omega) (by omega),getN_take i hlt]
  simp only [Int.natCast_add,Int.natCast_one]
theorem ref01_Get_yes (l:List Int) (hl:OkB l) (h1:1≤l.length) (h8:l.length≤8):Ev (fun k=>cr01_Get.f k (strOfNums l)) (getN l,true):=by
 have h:=ref01_Get_loop l hl h8 _ 0 (by omega) rfl
 refine Ev.congr (f:=fun k=>cr01_Get.j0 k (strOfNums l) false) (fun k=>?_) ?_
 ·simp only [cr01_Get.f]
  rw [nums_sizeI,if_neg (by omega),decide_eq_false (by omega)]
 ·refine Ev.step (fun k=>?_) h
  simp only [cr01_Get.j0]
  rw [if_neg (by decide)]
  rfl
def lowB (n:Int):Nat→List Int
 | 0=>[]
 | w+1=>(n / 256 ^ w % 256) :: lowB n w
theorem lowB_ok (n:Int) (w:Nat):OkB (lowB n w):=by
 induction w with
 | zero=>exact OkB.nil
 | succ w ih=>exact OkB.cons (by omega) (by omega) ih
theorem lowB_length (n:Int) (w:Nat):(lowB n w).length=w:=by
 induction w with
 | zero=>rfl
 | succ w ih=>simp [lowB,ih]
theorem putNums_drop (n:Int) (w:Nat) (h:w≤8):(putNums n).drop (8 - w)=lowB n w:=by
 have:w=0∨w=1∨w=2∨w=3∨w=4∨w=5∨w=6∨w=7∨w=8:=by omega
 rcases this with rfl | rfl | rfl | rfl | rfl | rfl | rfl | rfl | rfl<;>simp [putNums,lowB]
theorem octets_Put_eq (n:Int) (w:Int):octets_Put.f n w=some (strOfNums (if 1≤w∧w≤8 then lowB n w.toNat else [])):=by
 unfold octets_Put.f
 by_cases h1:w < 1
 ·rw [if_pos h1,if_neg (by omega)];rfl
 ·by_cases h2:w > 8
  ·rw [if_neg h1,if_pos h2,if_neg (by omega)];rfl
  ·rw [if_neg h1,if_neg h2,if_pos (by omega),putNums_drop n w.toNat (by omega)]
theorem ref01_Put_loop (n:Int) (h0:0≤n) (hn:n < 18446744073709551616) (w:Nat) (hw:w≤8) (d:Nat):∀ i:Nat,i≤w→w - i=d →
 Ev (fun k=>cr01_Put.l0 k (n / 256 ^ i) (w:Int) (strOfNums (lowB n i)) (i:Int)) (strOfNums (lowB n w)):=by
 induction d with
 | zero =>
  intro i hi hd
  obtain rfl:i=w:=by omega
  refine Ev.step (f:=fun _=>some _) (fun k=>?_) (Ev.now _)
  simp only [cr01_Put.l0]
  rw [if_neg (by omega)]
 | succ d ih =>
  intro i hi hd
  refine Ev.step (fun k=>?_) (ih (i+1) (by omega) (by omega))
  have hq0:0≤n / 256 ^ i:=Int.ediv_nonneg h0 (Int.le_of_lt (Int.pow_pos (by decide)))
  have hq1:n / 256 ^ i≤n:=Int.ediv_le_self _ h0
  have hs:n / 256 ^ (i+1)=n / 256 ^ i / 256:=by rw [Int.pow_succ,Int.ediv_ediv_of_nonneg (Int.le_of_lt (Int.pow_pos (by decide)))]
  simp only [cr01_Put.l0]
  rw [if_pos (by omega)]
  rw [nums_size,nums_size,lowB_length,if_pos (by simp;omega),Int.tmod_eq_emod_of_nonneg hq0,Int.tdiv_eq_ediv_of_nonneg hq0,wu64 (by omega) (by omega),w64 (by omega) (by omega),str_append,hs]
  simp only [lowB,Int.natCast_add,Int.natCast_one,List.singleton_append,Int.emod_emod_of_dvd _ (Int.dvd_refl 256)]
theorem ref01_Put_eq (n:Int) (h0:0≤n) (hn:n < 18446744073709551616) (w:Int):Ev (fun k=>cr01_Put.f k n w) (strOfNums (if 1≤w∧w≤8 then lowB n w.toNat else [])):=by
 by_cases h:1≤w∧w≤8
 ·rw [if_pos h]
  obtain ⟨m,rfl⟩:=Int.eq_ofNat_of_zero_le (show 0≤w by omega)
  have hl:=ref01_Put_loop n h0 hn m (by omega) m 0 (by omega) rfl
  refine Ev.congr (f:=fun k=>cr01_Put.j0 k n (m:Int) false) (fun k=>?_) ?_
  ·simp only [cr01_Put.f]
   rw [if_neg (by omega),decide_eq_false (by omega)]
  ·refine Ev.step (fun k=>?_) hl
   simp only [cr01_Put.j0]
   rw [if_neg (by decide)]
   simp [lowB,nums_nil]
 ·rw [if_neg h]
  refine Ev.congr (f:=fun k=>cr01_Put.j0 k n w true) (fun k=>?_) ?_
  ·simp only [cr01_Put.f]
   by_cases h1:w < 1
   ·rw [if_pos h1]
   ·rw [if_neg h1,decide_eq_true (by omega)]
  ·refine Ev.step (f:=fun _=>some _) (fun k=>?_) (Ev.now _)
   simp only [cr01_Put.j0]
   simp only [if_true]
   rfl
def cutL (l:List Int) (a n:Int):List Int:=if a < 0∨(l.length:Int)≤a∨n < 1 then [] else (l.drop a.toNat).take n.toNat
theorem octets_Cut_eq (l:List Int) (a n:Int) (hl:l.length≤140737488355328) (ha:a≤9223372036854775807) (hn:n≤9223372036854775807):octets_Cut.f (strOfNums l) a n=some (strOfNums (cutL l a n)):=by
 unfold octets_Cut.f cutL
 rw [nums_sizeI]
 by_cases h1:a < 0
 ·rw [if_pos h1,if_pos (.inl h1)];rfl
 ·by_cases h2:(l.length:Int)≤a
  ·rw [if_neg h1,if_pos h2,if_pos (.inr (.inl h2))];rfl
  ·by_cases h3:n < 1
   ·rw [if_neg h1,if_neg h2,if_pos h3,if_pos (.inr (.inr h3))];rfl
   ·have e:wrap64 (a+mn n (wrap64 ((l.length:Int) - a)))=a+mn n ((l.length:Int) - a):=by
     rw [w64 (x:=(l.length:Int) - a) (by omega) (by omega)]
     unfold mn
     split<;>exact w64 (by omega) (by omega)
    have e0:1≤mn n ((l.length:Int) - a)∧mn n ((l.length:Int) - a)≤(l.length:Int) - a:=by unfold mn;split<;>omega
    rw [if_neg h1,if_neg h2,if_neg h3,if_pos (by omega),e,if_pos (by omega),if_pos (by omega),if_neg (by omega),str_extract]
    congr 2
    have e2:(a+mn n ((l.length:Int) - a)).toNat - a.toNat=(mn n ((l.length:Int) - a)).toNat:=by omega
    rw [e2]
    by_cases hc:n≤(l.length:Int) - a
    ·rw [show mn n ((l.length:Int) - a)=n by unfold mn;split<;>omega]
    ·rw [show mn n ((l.length:Int) - a)=(l.length:Int) - a by unfold mn;split<;>omega,List.take_of_length_le (by rw [List.length_drop];omega),List.take_of_length_le (by rw [List.length_drop];omega)]
def tagD (b:Int):List Int:=if b < 128 then [b] else if b < 16384 then [128+b / 128,b % 128] else [128+b / 16384,128+b / 128 % 128,b % 128]
def idB (a b:Int) (c:Bool):List Int:=if b < 31 then [64*a+(if c then 32 else 0)+b] else (64*a+(if c then 32 else 0)+31) :: tagD b
def lenB (n:Int):List Int:=if n < 128 then [n] else if n < 256 then [129,n] else [130,n / 256,n % 256]
theorem lenB1 {n:Int} (g:n < 128):lenB n=[n]:=if_pos g
theorem lenB2 {n:Int} (g:¬ n < 128) (g2:n < 256):lenB n=[129,n]:=by rw [lenB,if_neg g,if_pos g2]
theorem lenB3 {n:Int} (g:¬ n < 128) (g2:¬ n < 256):lenB n=[130,n / 256,n % 256]:=by rw [lenB,if_neg g,if_neg g2]
theorem or_id_all:((List.range 8).all fun k=>(List.range 32).all fun b=>decide (Go.bits .or .u8 (32*(k:Int)) (b:Int)=32*(k:Int)+(b:Int)))=true:=by kernel_rfl
theorem or_id {k b:Int} (h0:0≤k) (h1:k < 8) (h2:0≤b) (h3:b < 32):Go.bits .or .u8 (32*k) b=32*k+b:=by
 have h:=List.all_eq_true.1 (List.all_eq_true.1 or_id_all k.toNat (List.mem_range.2 (by omega))) b.toNat (List.mem_range.2 (by omega))
 rw [Int.toNat_of_nonneg h0,Int.toNat_of_nonneg h2] at h
 exact of_decide_eq_true h
theorem or_cons_all:((List.range 4).all fun a=>decide (Go.bits .or .u8 ((wrap64 ((a:Int)*64)) % 256) 32=64*(a:Int)+32))=true:=by kernel_rfl
theorem or_cons {a:Int} (h0:0≤a) (h1:a < 4):Go.bits .or .u8 ((wrap64 (a*64)) % 256) 32=64*a+32:=by
 have h:=List.all_eq_true.1 or_cons_all a.toNat (List.mem_range.2 (by omega))
 rw [Int.toNat_of_nonneg h0] at h
 exact of_decide_eq_true h
theorem hi_dig_all:((List.range 128).all fun x=>decide ((Go.bits .or .i64 (x:Int) 128) % 256=128+(x:Int)))=true:=by kernel_rfl
theorem hi_dig {x:Int} (h0:0≤x) (h1:x < 128):(Go.bits .or .i64 x 128) % 256=128+x:=by
 have h:=List.all_eq_true.1 hi_dig_all x.toNat (List.mem_range.2 (by omega))
 rw [Int.toNat_of_nonneg h0] at h
 exact of_decide_eq_true h
theorem and7 {n:Int} (h0:0≤n) (h1:n < 9223372036854775808):Go.bits .and .i64 n 127=n % 128 :=
 bits_mask .i64 63 (by decide) (fun n h0 h1=>by rw [IntKind.wrap_i64];omega) 7 (by decide) n h0 (by simpa using h1)
theorem lo7_all:((List.range 128).all fun x=>decide (Go.bits .and .u8 (128+(x:Int)) 127=(x:Int)))=true:=by kernel_rfl
theorem lo7 {x:Int} (h0:0≤x) (h1:x < 128):Go.bits .and .u8 (128+x) 127=x:=by
 have h:=List.all_eq_true.1 lo7_all x.toNat (List.mem_range.2 (by omega))
 rw [Int.toNat_of_nonneg h0] at h
 exact of_decide_eq_true h
theorem shr14 (b:Int):shr .i64 b 14=b / 16384:=rfl
theorem shr7 (b:Int):shr .i64 b 7=b / 128:=rfl
theorem shr0 (b:Int):shr .i64 b 0=b:=by show b / 1=b;omega
theorem henc_len (x4:List Int) (a b:Int) (c:Bool) (n:Int) (hx:x4.length≤100) (h0:0≤n) (h1:n≤65535):Ev (fun k=>head_Encode.j2 k x4 n) (strOfNums (x4++lenB n),0):=by
 refine Ev.step (fun k=>by rw [head_Encode.j2]) ?_
 by_cases g:n < 128
 ·rw [lenB1 g]
  refine Ev.ifp g (Ev.ifp (by omega) ((Ev.now _).eq ?_))
  rw [show n % 256=n by omega]
 refine Ev.ifn g ?_
 by_cases g2:n < 256
 ·rw [lenB2 g g2]
  refine Ev.ifp g2 (Ev.ifp (by omega) ((Ev.now _).eq ?_))
  rw [show n % 256=n by omega]
 rw [lenB3 g g2]
 refine Ev.ifn g2 (Ev.ifp (by omega) ((Ev.now _).eq ?_))
 rw [show n / 256 % 256=n / 256 by omega]
theorem set_end (s:List Int) (x y:Int):(s++[x]).set (s.length:Int).toNat y=s++[y]:=by
 rw [Int.toNat_natCast]
 simp
theorem rd_end (s:List Int) (x:Int):rd (s++[x]) (s.length:Int)=x:=by
 rw [rd_get s.length (by simp)]
 simp
theorem henc_last (s:List Int) (x a b:Int) (c:Bool) (n:Int) (hs:s.length≤50) (x0:0≤x) (x1:x < 128) (h0:0≤n) (h1:n≤65535):Ev (fun k=>head_Encode.l0 k (s++[128+x]) (-7) b n) (strOfNums (s++[x]++lenB n),0):=by
 refine Ev.step (fun k=>by rw [head_Encode.l0]) ?_
 have hl:((s++[128+x]).length:Int)=(s.length:Int)+1:=by simp
 rw [hl,w64 (x:=(s.length:Int)+1 - 1) (by omega) (by omega),show (s.length:Int)+1 - 1=(s.length:Int) by omega,rd_end,set_end,lo7 x0 x1]
 exact Ev.ifn (by omega) (Ev.ifp (by omega) (Ev.ifp (by omega) (henc_len _ a b c n (by simp;omega) h0 h1)))
theorem henc_dig (s:List Int) (t a b:Int) (c:Bool) (n v:Int) (hs:s.length≤50) (t0:0≤t) (t1:t≤14) (hv:shr .i64 b t=v) (v0:0 < v) (v1:v < 9223372036854775808) {r:ByteArray × Int}
 (h:Ev (fun k=>head_Encode.l0 k (s++[128+v % 128]) (t - 7) b n) r):Ev (fun k=>head_Encode.l0 k s t b n) r:=by
 refine Ev.step (fun k=>by rw [head_Encode.l0]) ?_
 rw [hv,w64 (x:=t - 7) (by omega) (by omega),and7 (by omega) v1,hi_dig (by omega) (by omega)]
 exact Ev.ifp (by omega) (Ev.ifp (by omega) (Ev.ifn (by omega) (Ev.ifp (by omega) h)))
theorem henc_skip (s:List Int) (t a b:Int) (c:Bool) (n:Int) (t0:0≤t) (t1:t≤14) (hv:shr .i64 b t=0) {r:ByteArray × Int}
 (h:Ev (fun k=>head_Encode.l0 k s (t - 7) b n) r):Ev (fun k=>head_Encode.l0 k s t b n) r:=by
 refine Ev.step (fun k=>by rw [head_Encode.l0]) ?_
 rw [hv,w64 (x:=t - 7) (by omega) (by omega)]
 exact Ev.ifp (by omega) (Ev.ifp (by omega) (Ev.ifp rfl h))
theorem henc_tag (s:List Int) (a b:Int) (c:Bool) (n:Int) (hs:s.length≤10) (b0:31≤b) (b1:b≤2097151) (h0:0≤n) (h1:n≤65535):Ev (fun k=>head_Encode.l0 k s 14 b n) (strOfNums (s++tagD b++lenB n),0):=by
 unfold tagD
 by_cases g:b < 128
 ·rw [if_pos g]
  refine henc_skip s 14 a b c n (by omega) (by omega) (by rw [shr14];omega) (henc_skip s _ a b c n (by omega) (by omega) (by show shr .i64 b 7=0;rw [shr7];omega) (henc_dig s _ a b c n b (by omega) (by omega) (by omega) (shr0 b) (by omega) (by omega) ?_))
  rw [show b % 128=b by omega]
  exact henc_last s b a b c n (by omega) (by omega) (by omega) h0 h1
 rw [if_neg g]
 by_cases g2:b < 16384
 ·rw [if_pos g2]
  refine henc_skip s 14 a b c n (by omega) (by omega) (by rw [shr14];omega) (henc_dig s _ a b c n (b / 128) (by omega) (by omega) (by omega) (shr7 b) (by omega) (by omega) (henc_dig _ _ a b c n b (by simp;omega) (by omega) (by omega) (shr0 b) (by omega) (by omega) ?_))
  have:=henc_last (s++[128+b / 128 % 128]) (b % 128) a b c n (by simp;omega) (by omega) (by omega) h0 h1
  rw [show b / 128 % 128=b / 128 by omega] at this ⊢
  simpa using this
 rw [if_neg g2]
 refine henc_dig s 14 a b c n (b / 16384) (by omega) (by omega) (by omega) (shr14 b) (by omega) (by omega) (henc_dig _ _ a b c n (b / 128) (by simp;omega) (by omega) (by omega) (shr7 b) (by omega) (by omega) (henc_dig _ _ a b c n b (by simp;omega) (by omega) (by omega) (shr0 b) (by omega) (by omega) ?_))
 have:=henc_last (s++[128+b / 16384 % 128]++[128+b / 128 % 128]) (b % 128) a b c n (by simp;omega) (by omega) (by omega) h0 h1
 rw [show b / 16384 % 128=b / 16384 by omega] at this ⊢
 simpa using this
theorem henc_is (a b:Int) (c:Bool) (n:Int) (a0:0≤a) (a1:a≤3) (b0:0≤b) (b1:b≤2097151) (h0:0≤n):Ev (fun k=>head_Encode.f k a b c n) (if n≤65535 then (strOfNums (idB a b c++lenB n),0) else (⟨#[]⟩,1)):=by
 have hm:head_Head_may.f a b c n=some (decide (n≤65535)):=by
  rw [head_Head_may.f,if_pos (by unfold mn;split<;>split<;>omega),if_pos a1,if_pos b1]
 refine Ev.congr (fun k=>by rw [head_Encode.f]) ?_
 refine Ev.bindc hm ?_
 by_cases h1:n≤65535
 case neg =>
  rw [decide_eq_false h1,if_neg h1]
  exact Ev.ifn (by simp) (Ev.now _)
 rw [decide_eq_true h1,if_pos h1]
 refine Ev.ifp rfl ?_
 have key:∀ kk:Int,(∃ q:Int,0≤q∧q < 8∧kk=32*q)→Ev (fun k=>head_Encode.j0 k (List.replicate 0 0:List Int) kk b n) (strOfNums ((if b < 31 then [kk+b] else (kk+31) :: tagD b)++lenB n),0):=by
  rintro kk ⟨q,q0,q1,rfl⟩
  refine Ev.step (fun k=>by rw [head_Encode.j0]) ?_
  by_cases g:b < 31
  ·rw [show (if b < 31 then [32*q+b] else (32*q+31) :: tagD b)=[32*q+b] from if_pos g,show b % 256=b by omega,or_id (b:=b) q0 q1 b0 (by omega)]
   exact Ev.ifp g (Ev.ifp (by decide) (henc_len [32*q+b] a b c n (by simp) h0 h1))
  ·rw [show (if b < 31 then [32*q+b] else (32*q+31) :: tagD b)=(32*q+31) :: tagD b from if_neg g,or_id (b:=31) q0 q1 (by omega) (by omega)]
   exact Ev.ifn g (Ev.ifp (by decide) (henc_tag [32*q+31] a b c n (by simp) (by omega) b1 h0 h1))
 unfold idB
 cases c with
 | true =>
  refine Ev.ifp rfl ?_
  rw [or_cons a0 (by omega)]
  exact key _ ⟨2*a+1,by omega,by omega,by omega⟩
 | false =>
  refine Ev.ifn (by simp) ?_
  rw [show wrap64 (a*64) % 256=64*a+0 by rw [w64 (by omega) (by omega)];omega]
  exact key _ ⟨2*a,by omega,by omega,by omega⟩
theorem ref_tag (b:Int) (b0:31≤b) (b1:b≤2097151):Ev (fun k=>cr15_digits.f k b) (strOfNums (tagD b)):=by
 have hend:∀ (l:List Int),Ev (fun k=>cr15_digits.l0 k 0 (strOfNums l)) (strOfNums l):=by
  intro l
  refine Ev.step (fun k=>by rw [cr15_digits.l0]) ?_
  exact Ev.ifn (by omega) (Ev.now _)
 have hone:∀ (x:Int) (l:List Int) (r:ByteArray),0 < x→x≤2097151→l.length≤10→Ev (fun k=>cr15_digits.l0 k (x / 128) (strOfNums ((128+x % 128) :: l))) r→Ev (fun k=>cr15_digits.l0 k x (strOfNums l)) r:=by
  intro x l r x0 x1 hl h
  refine Ev.step (fun k=>by rw [cr15_digits.l0]) ?_
  rw [Int.tmod_eq_emod_of_nonneg (by omega),Int.tdiv_eq_ediv_of_nonneg (by omega),w64 (x:=x / 128) (by omega) (by omega),w64 (x:=128+x % 128) (by omega) (by omega),show (128+x % 128) % 256=128+x % 128 by omega]
  refine Ev.ifp (by omega) (Ev.ifp (by rw [nums_size,nums_size];simp;omega) ?_)
  rw [str_append,List.singleton_append]
  exact h
 refine Ev.congr (fun k=>by rw [cr15_digits.f]) ?_
 rw [Int.tmod_eq_emod_of_nonneg (by omega),Int.tdiv_eq_ediv_of_nonneg (by omega),w64 (x:=b / 128) (by omega) (by omega),show b % 128 % 256=b % 128 by omega]
 unfold tagD
 by_cases g:b < 128
 ·rw [if_pos g,show b / 128=0 by omega,show b % 128=b by omega]
  exact hend _
 rw [if_neg g]
 by_cases g2:b < 16384
 ·rw [if_pos g2]
  refine hone (b / 128) _ _ (by omega) (by omega) (by simp) ?_
  rw [show b / 128 / 128=0 by omega,show b / 128 % 128=b / 128 by omega]
  exact hend _
 rw [if_neg g2]
 refine hone (b / 128) _ _ (by omega) (by omega) (by simp) (hone _ _ _ (by omega) (by omega) (by simp) ?_)
 rw [show b / 128 / 128 / 128=0 by omega,show b / 128 / 128 % 128=b / 16384 by omega]
 exact hend _
theorem ref_len (x5:List Int) (n:Int) (hx:x5.length≤100) (h0:0≤n) (h1:n≤65535):Ev (fun k=>cr15_Encode.j1 k (strOfNums x5) n) (strOfNums (x5++lenB n),0):=by
 refine Ev.step (fun k=>by rw [cr15_Encode.j1]) ?_
 by_cases g:n < 128
 ·rw [lenB1 g]
  refine Ev.ifp g (Ev.ifp (by rw [nums_size,nums_size];simp;omega) ((Ev.now _).eq ?_))
  rw [str_append,show n % 256=n by omega]
 refine Ev.ifn g ?_
 have e:∀ (z:Int) (zs:ByteArray),zs=strOfNums [z]→strOfNums x5++zs=strOfNums (x5++[z]):=by
  intro z zs h
  rw [h,str_append]
 by_cases g2:n < 256
 ·rw [lenB2 g g2]
  have hp:Ev (fun k=>cr01_Put.f k (IntKind.u64.wrap n) 1) (strOfNums [n]):=by
   rw [wu64 (by omega) (by omega)]
   refine (ref01_Put_eq n (by omega) (by omega) 1).eq ?_
   rw [if_pos (by omega)]
   show strOfNums [n / 256 ^ 0 % 256]=_
   rw [show (256:Int) ^ 0=1 from rfl,show n / 1 % 256=n by omega]
  refine Ev.ifp g2 (Ev.ifp (by rw [nums_size];omega) (Ev.bind hp ?_))
  rw [e 129 (⟨#[129]⟩:ByteArray) rfl]
  refine Ev.ifp (by rw [nums_size,nums_size];simp;omega) ((Ev.now _).eq ?_)
  rw [str_append,List.append_assoc,List.singleton_append]
 rw [lenB3 g g2]
 have hp:Ev (fun k=>cr01_Put.f k (IntKind.u64.wrap n) 2) (strOfNums [n / 256,n % 256]):=by
  rw [wu64 (by omega) (by omega)]
  refine (ref01_Put_eq n (by omega) (by omega) 2).eq ?_
  rw [if_pos (by omega)]
  show strOfNums [n / 256 ^ 1 % 256,n / 256 ^ 0 % 256]=_
  rw [show (256:Int) ^ 0=1 from rfl,show (256:Int) ^ 1=256 from rfl,show n / 256 % 256=n / 256 by omega,show n / 1 % 256=n % 256 by omega]
 refine Ev.ifn g2 (Ev.ifp (by rw [nums_size];omega) (Ev.bind hp ?_))
 rw [e 130 (⟨#[130]⟩:ByteArray) rfl]
 refine Ev.ifp (by rw [nums_size,nums_size];simp;omega) ((Ev.now _).eq ?_)
 rw [str_append,List.append_assoc,List.singleton_append]
theorem ref_henc_is (a b:Int) (c:Bool) (n:Int) (a0:0≤a) (a1:a≤3) (b0:0≤b) (b1:b≤2097151) (h0:0≤n):Ev (fun k=>cr15_Encode.f k a b c n) (if n≤65535 then (strOfNums (idB a b c++lenB n),0) else (⟨#[]⟩,1)):=by
 have hm:cr15_may.f a b c n=some (decide (n≤65535)):=by
  rw [cr15_may.f,if_pos a0,if_pos (by omega),if_pos b0,if_pos b1,if_pos h0]
 refine Ev.congr (fun k=>by rw [cr15_Encode.f]) ?_
 refine Ev.bindc hm ?_
 by_cases h1:n≤65535
 case neg =>
  rw [decide_eq_false h1,if_neg h1]
  exact Ev.ifn (by simp) (Ev.now _)
 rw [decide_eq_true h1,if_pos h1]
 refine Ev.ifp rfl ?_
 have key:∀ kk:Int,0≤kk→kk < 256 - 31→Ev (fun k=>cr15_Encode.j0 k kk b n) (strOfNums ((if b < 31 then [kk+b] else (kk+31) :: tagD b)++lenB n),0):=by
  intro kk k0 k1
  refine Ev.step (fun k=>by rw [cr15_Encode.j0]) ?_
  by_cases g:b < 31
  ·rw [show (if b < 31 then [kk+b] else (kk+31) :: tagD b)=[kk+b] from if_pos g,w64 (x:=kk+b) (by omega) (by omega),show (kk+b) % 256=kk+b by omega]
   exact Ev.ifp g (ref_len [kk+b] n (by simp) h0 h1)
  ·rw [show (if b < 31 then [kk+b] else (kk+31) :: tagD b)=(kk+31) :: tagD b from if_neg g,w64 (x:=kk+31) (by omega) (by omega),show (kk+31) % 256=kk+31 by omega]
   have hl:(tagD b).length≤3:=by unfold tagD;split;simp;split<;>simp
   refine Ev.ifn g (Ev.bind (ref_tag b (by omega) b1) (Ev.ifp (by rw [nums_size,nums_size];simp;omega) ?_))
   rw [str_append,List.singleton_append]
   exact ref_len _ n (by simp;omega) h0 h1
 unfold idB
 cases c with
 | true =>
  refine Ev.ifp rfl ?_
  rw [w64 (x:=64*a) (by omega) (by omega),w64 (x:=64*a+32) (by omega) (by omega)]
  exact key _ (by omega) (by omega)
 | false =>
  refine Ev.ifn (by simp) ?_
  rw [w64 (x:=64*a) (by omega) (by omega)]
  refine (key (64*a) (by omega) (by omega)).eq ?_
  rw [show (if (false=true) then (32:Int) else 0)=0 from rfl,Int.add_zero]
abbrev Hd:=Int × Int × Bool × Int × Int × Int
def noH (code:Int):Hd:=(0,0,false,0,0,code)
def lenH (a b:Int) (c:Bool) (n:Int):List Int→Hd
 | []=>noH 5
 | y :: m=>if y=128 then noH 5 else if y > 130 then noH 4 else if y < 128 then (a,b,c,y,n+1,0)
  else if y=129 then (match m with
   | z :: _=>if z < 128 then noH 5 else (a,b,c,z,n+2,0)
   | []=>noH 5)
  else match m with
   | z :: w :: _=>if z=0 then noH 5 else (a,b,c,256*z+w,n+3,0)
   | _=>noH 5
def tagH (a:Int) (c:Bool):List Int→Hd
 | []=>noH 5
 | x :: m=>if x=128 then noH 5 else if x < 128 then (if x < 31 then noH 5 else lenH a x c 2 m)
  else match m with
   | []=>noH 5
   | y :: m=>if y < 128 then lenH a (128*(x % 128)+y) c 3 m
    else match m with
     | []=>noH 5
     | z :: m=>if z < 128 then lenH a (128*(128*(x % 128)+y % 128)+z) c 4 m else noH 5
def headH:List Int→Hd
 | []=>noH 5
 | x :: m=>if x % 32 < 31 then lenH (x / 64) (x % 32) (x / 32 % 2 == 1) 1 m else tagH (x / 64) (x / 32 % 2 == 1) m
theorem lenH_cons (a b:Int) (c:Bool) (n y:Int) (m:List Int):lenH a b c n (y :: m)=if y=128 then noH 5 else if y > 130 then noH 4 else if y < 128 then (a,b,c,y,n+1,0)
 else if y=129 then (match m with
  | z :: _=>if z < 128 then noH 5 else (a,b,c,z,n+2,0)
  | []=>noH 5)
 else match m with
  | z :: w :: _=>if z=0 then noH 5 else (a,b,c,256*z+w,n+3,0)
  | _=>noH 5:=rfl
theorem tagH_cons (a:Int) (c:Bool) (x:Int) (m:List Int):tagH a c (x :: m)=if x=128 then noH 5 else if x < 128 then (if x < 31 then noH 5 else lenH a x c 2 m)
 else match m with
  | []=>noH 5
  | y :: m=>if y < 128 then lenH a (128*(x % 128)+y) c 3 m
   else match m with
    | []=>noH 5
    | z :: m=>if z < 128 then lenH a (128*(128*(x % 128)+y % 128)+z) c 4 m else noH 5:=rfl
theorem drop_cons {l m:List Int} {i:Nat} {y:Int} (h:l.drop i=y :: m):i < l.length∧l.drop (i+1)=m∧∀ hi:i < l.length,l[i]=y:=by
 have hi:i < l.length:=by
  by_cases e:i < l.length
  ·exact e
  ·rw [List.drop_eq_nil_of_le (by omega)] at h;cases h
 rw [List.drop_eq_getElem_cons hi] at h
 exact ⟨hi,(List.cons.inj h).2,fun _=>(List.cons.inj h).1⟩
theorem drop_bt {l m:List Int} (hl:OkB l) {i:Nat} {y:Int} (h:l.drop i=y :: m):bt (strOfNums l) (i:Int)=y∧0≤y∧y < 256:=by
 obtain ⟨h1,_,h3⟩:=drop_cons h
 have:=hl.get i h1
 rw [nums_bt hl i h1,h3 h1]
 rw [h3 h1] at this
 exact ⟨rfl,this⟩
theorem and31_all:((List.range 256).all fun x=>decide (Go.bits .and .u8 (x:Int) 31=(x:Int) % 32))=true:=by kernel_rfl
theorem and31 {x:Int} (h0:0≤x) (h1:x < 256):Go.bits .and .u8 x 31=x % 32:=by
 obtain ⟨n,rfl⟩:=Int.eq_ofNat_of_zero_le h0
 exact of_decide_eq_true (List.all_eq_true.1 and31_all n (List.mem_range.2 (by omega)))
theorem and32_all:((List.range 256).all fun x=>(Go.bits .and .u8 (x:Int) 32 != 0) == ((x:Int) / 32 % 2 == 1))=true:=by kernel_rfl
theorem and32 {x:Int} (h0:0≤x) (h1:x < 256):(Go.bits .and .u8 x 32 != 0)=(x / 32 % 2 == 1):=by
 obtain ⟨n,rfl⟩:=Int.eq_ofNat_of_zero_le h0
 exact eq_of_beq (List.all_eq_true.1 and32_all n (List.mem_range.2 (by omega)))
theorem hd127_all:((List.range 256).all fun x=>decide (Go.bits .and .u8 (x:Int) 127=(x:Int) % 128))=true:=by kernel_rfl
theorem hd127 {x:Int} (h0:0≤x) (h1:x < 256):Go.bits .and .u8 x 127=x % 128:=by
 obtain ⟨n,rfl⟩:=Int.eq_ofNat_of_zero_le h0
 exact of_decide_eq_true (List.all_eq_true.1 hd127_all n (List.mem_range.2 (by omega)))
theorem or_join (i:Nat) {x y:Int} (hx0:0≤x) (hx:x % 2 ^ i=0) (hx1:x < 4611686018427387904) (hy0:0≤y) (hy:y < 2 ^ i) (hi:i≤62):Go.bits .or .i64 x y=x+y:=by
 refine bits_join .i64 63 (by decide) (fun n h0 h1=>wrap_small n h0 (by simpa using h1)) i x y hx0 hx (by show x < 2 ^ 63;omega) hy0 hy ?_
 have:(2:Int) ^ i≤2 ^ 62:=by exact_mod_cast Nat.pow_le_pow_right (by decide) hi
 omega
theorem or7 {x y:Int} (h0:0≤x) (h1:x < 30000000) (h2:0≤y) (h3:y < 128):Go.bits .or .i64 (wrap64 (x*128)) y=128*x+y:=by
 rw [w64 (x:=x*128) (by omega) (by omega),or_join 7 (by omega) (by omega) (by omega) h2 h3 (by decide)]
 omega
theorem or8 {x y:Int} (h0:0≤x) (h1:x < 30000000) (h2:0≤y) (h3:y < 256):Go.bits .or .i64 (wrap64 (x*256)) y=256*x+y:=by
 rw [w64 (x:=x*256) (by omega) (by omega),or_join 8 (by omega) (by omega) (by omega) h2 h3 (by decide)]
 omega
theorem head_g0 (c:Int):Ev (fun k=>head_Decode.g0_0 k c) (noH c):=Ev.step (f:=fun _=>some (noH c)) (fun k=>rfl) (Ev.now _)
theorem head_j1:head_Decode.j1=head_Decode.j5:=by
 funext k;cases k<;>rfl
theorem head_j8:head_Decode.j8=head_Decode.j5:=by
 funext k;cases k<;>rfl
theorem head_more (l:List Int) (hl:OkB l) (hs:l.length≤140737488355328) (i:Nat) (a b:Int) (c:Bool) (d:Int) (h1:1≤d) (h2:d≤2) (hi:(i:Int)+d≤(l.length:Int)) :
 Ev (fun k=>head_Decode.l0 k (strOfNums l) (i:Int) d 5 d 0 a b c 0) (if d=1 then (match l.drop i with
  | z :: _=>if z < 128 then noH 5 else (a,b,c,z,(i:Int)+1,0)
  | []=>noH 5) else match l.drop i with
  | z :: w :: _=>if z=0 then noH 5 else (a,b,c,256*z+w,(i:Int)+2,0)
  | _=>noH 5):=by
 have hlt:i < l.length:=by omega
 have hdr:l.drop i=l[i] :: l.drop (i+1):=List.drop_eq_getElem_cons hlt
 have hb:=hl.get i hlt
 refine Ev.step (fun k=>by rw [head_Decode.l0]) ?_
 rw [nums_sizeI]
 refine Ev.ifp (by omega) (Ev.ifp (by omega) (Ev.ifp (by omega) ?_))
 rw [nums_bt hl i hlt,w64 (x:=l[i]) (by omega) (by omega),or8 (by omega) (by omega) (by omega) (by omega),w64 (x:=(i:Int)+1) (by omega) (by omega),show wrap64 (0+1)=1 by unfold wrap64;decide,hdr,show 256*0+l[i]=l[i] by omega]
 rcases (by omega:d=1∨d=2) with rfl | rfl
 ·refine Ev.step (fun k=>by rw [head_Decode.l0]) ?_
  refine Ev.ifn (by omega) ?_
  rw [show wrap64 (wrap64 (8*1) - 8)=0 by unfold wrap64;decide,show shl .i64 1 0=1 by decide,if_pos rfl]
  by_cases g:l[i] < 128
  ·by_cases g1:l[i]≥1
   ·exact Ev.ifp (by decide) (Ev.ifp g1 (Ev.ifn (by omega) ((Ev.now _).eq (by simp only;rw [if_pos g];rfl))))
   ·exact Ev.ifp (by decide) (Ev.ifn g1 ((Ev.now _).eq (by simp only;rw [if_pos g];rfl)))
  ·exact Ev.ifp (by decide) (Ev.ifp (by omega) (Ev.ifp (by omega) ((Ev.now _).eq (by simp only;rw [if_neg g]))))
 ·have hlt2:i+1 < l.length:=by omega
  have hdr2:l.drop (i+1)=l[i+1] :: l.drop (i+1+1):=List.drop_eq_getElem_cons hlt2
  have hb2:=hl.get (i+1) hlt2
  refine Ev.step (fun k=>by rw [head_Decode.l0]) ?_
  rw [nums_sizeI]
  refine Ev.ifp (by omega) (Ev.ifp (by omega) (Ev.ifp (by omega) ?_))
  rw [show (i:Int)+1=((i+1:Nat):Int) by omega,nums_bt hl (i+1) hlt2,w64 (x:=l[i+1]) (by omega) (by omega),or8 (by omega) (by omega) (by omega) (by omega),w64 (x:=((i+1:Nat):Int)+1) (by omega) (by omega),show wrap64 (1+1)=2 by unfold wrap64;decide,hdr2]
  refine Ev.step (fun k=>by rw [head_Decode.l0]) ?_
  refine Ev.ifn (by omega) ?_
  rw [show wrap64 (wrap64 (8*2) - 8)=8 by unfold wrap64;decide,show shl .i64 1 8=256 by decide,if_neg (show ¬ (2:Int)=1 by decide)]
  by_cases g:l[i]=0
  ·exact Ev.ifp (by decide) (Ev.ifn (by omega) ((Ev.now _).eq (by simp only;rw [if_pos g];rfl)))
  ·exact Ev.ifp (by decide) (Ev.ifp (by omega) (Ev.ifp (by omega) ((Ev.now _).eq (by simp only;rw [if_neg g,show ((i+1:Nat):Int)+1=(i:Int)+2 by omega]))))
theorem head_len5 (l:List Int) (hl:OkB l) (hs:l.length≤140737488355328) (i:Nat) (a b:Int) (c:Bool) (e:Bool) (he:e=true↔(l.length≤i∨∃ m,l.drop i=128 :: m)) :
 Ev (fun k=>head_Decode.j5 k (strOfNums l) (i:Int) 5 e a b c 0) (lenH a b c (i:Int) (l.drop i)):=by
 refine Ev.step (fun k=>by rw [head_Decode.j5]) ?_
 cases e with
 | true =>
  refine Ev.ifp rfl ((head_g0 5).eq ?_)
  rcases he.1 rfl with h | ⟨m,h⟩
  ·rw [List.drop_eq_nil_of_le h];rfl
  ·rw [h,lenH_cons,if_pos rfl]
 | false =>
  refine Ev.ifn (by decide) ?_
  have hlt:i < l.length:=by
   by_cases h:i < l.length
   ·exact h
   ·exact absurd (he.2 (.inl (by omega))) (by decide)
  have hdr:l.drop i=l[i] :: l.drop (i+1):=List.drop_eq_getElem_cons hlt
  have hb:=hl.get i hlt
  have h128:l[i]≠128:=fun h=>absurd (he.2 (.inr ⟨_,by rw [hdr,h]⟩)) (by decide)
  rw [nums_sizeI,nums_bt hl i hlt,hdr,hd127 (x:=l[i]) (by omega) (by omega),w64 (x:=(i:Int)+1) (by omega) (by omega),w64 (x:=l[i]) (by omega) (by omega),w64 (x:=l[i] % 128) (by omega) (by omega),w64 (x:=(i:Int)+1+l[i] % 128) (by omega) (by omega)]
  refine Ev.ifp (by omega) (Ev.ifp (by omega) ?_)
  rw [lenH_cons,if_neg h128]
  by_cases g1:l[i] > 130
  ·rw [if_pos g1];exact Ev.ifp g1 (head_g0 4)
  rw [if_neg g1]
  refine Ev.ifn g1 ?_
  by_cases g2:l[i] < 128
  ·rw [if_pos g2];exact Ev.ifp g2 (Ev.now _)
  rw [if_neg g2]
  refine Ev.ifn g2 ?_
  rcases (by omega:l[i]=129∨l[i]=130) with h | h
  ·rw [if_pos h,h,show (129:Int) % 128=1 from rfl]
   by_cases g3:(i:Int)+1+1 > (l.length:Int)
   ·refine Ev.ifp g3 ((head_g0 5).eq ?_)
    rw [List.drop_eq_nil_of_le (by omega)]
   ·refine Ev.ifn g3 ((head_more l hl hs (i+1) a b c 1 (by omega) (by omega) (by omega)).eq ?_)
    rw [if_pos rfl,show ((i+1:Nat):Int)+1=(i:Int)+2 by omega]
  ·rw [if_neg (by omega),h,show (130:Int) % 128=2 from rfl]
   by_cases g3:(i:Int)+1+2 > (l.length:Int)
   ·refine Ev.ifp g3 ((head_g0 5).eq ?_)
    have hlen:(l.drop (i+1)).length≤1:=by rw [List.length_drop];omega
    match l.drop (i+1),hlen with
    | [],_=>rfl
    | [z],_=>rfl
    | z :: w :: m,h=>simp at h
   ·refine Ev.ifn g3 ((head_more l hl hs (i+1) a b c 2 (by omega) (by omega) (by omega)).eq ?_)
    rw [if_neg (by decide),show ((i+1:Nat):Int)+2=(i:Int)+3 by omega]
theorem beq128 {l:List Int} (hl:OkB l) {i:Nat} (hlt:i < l.length):(bt (strOfNums l) (i:Int) == 128)=true↔(l.length≤i∨∃ m,l.drop i=128 :: m):=by
 rw [nums_bt hl i hlt,beq_iff_eq]
 constructor
 ·intro h;exact .inr ⟨_,by rw [List.drop_eq_getElem_cons hlt,h]⟩
 ·rintro (h | ⟨m,h⟩)
  ·omega
  ·exact (drop_cons h).2.2 hlt
theorem head_len (l:List Int) (hl:OkB l) (hs:l.length≤140737488355328) (i:Nat) (a b:Int) (c:Bool):Ev (fun k=>head_Decode.g0_1 k (strOfNums l) (i:Int) 5 a b c 0) (lenH a b c (i:Int) (l.drop i)):=by
 refine Ev.step (fun k=>by rw [head_Decode.g0_1]) ?_
 rw [nums_sizeI]
 by_cases g:(i:Int)≥(l.length:Int)
 ·exact Ev.ifp g (head_len5 l hl hs i a b c true ⟨fun _=>.inl (by omega),fun _=>rfl⟩)
 ·exact Ev.ifn g (Ev.ifp (by omega) (Ev.ifp (by omega) (head_len5 l hl hs i a b c _ (beq128 hl (by omega)))))
theorem head_last (J:Nat→ByteArray→Int→Int→Bool→Int→Int→Bool→Int→Option Hd) (hJ:J=head_Decode.j5) (l:List Int) (hl:OkB l) (hs:l.length≤140737488355328) (i:Nat) (hi:i≤l.length) (a b:Int) (c:Bool) :
 Ev (fun k=>if b < 31 then head_Decode.g0_0 k 5 else if (i:Int)≥(l.length:Int) then J k (strOfNums l) (i:Int) 5 true a b c 0 else if 0≤(i:Int) then (if (i:Int) < (l.length:Int) then J k (strOfNums l) (i:Int) 5 (bt (strOfNums l) (i:Int) == 128) a b c 0 else none) else none) (if b < 31 then noH 5 else lenH a b c (i:Int) (l.drop i)):=by
 subst hJ
 refine Ev.ite (fun _=>head_g0 5) fun _=>?_
 by_cases g:(i:Int)≥(l.length:Int)
 ·exact Ev.ifp g (head_len5 l hl hs i a b c true ⟨fun _=>.inl (by omega),fun _=>rfl⟩)
 ·exact Ev.ifn g (Ev.ifp (by omega) (Ev.ifp (by omega) (head_len5 l hl hs i a b c _ (beq128 hl (by omega)))))
def digH (a:Int) (c:Bool) (b:Int):Nat→Int→List Int→Hd
 | 0,_,_=>noH 5
 | f+1,n,[]=>noH 5
 | f+1,n,y :: m=>if y < 128 then (if 128*b+y < 31 then noH 5 else lenH a (128*b+y) c (n+1) m) else digH a c (128*b+y % 128) f (n+1) m
theorem head_dig (l:List Int) (hl:OkB l) (hs:l.length≤140737488355328) (a:Int) (c:Bool):∀ (f i:Nat) (b:Int),f+i=4→1≤i→0≤b→b < 30000000 / 128 ^ f→(∀ (e:Bool),(e=true↔(l.length≤i∨i=4∨(i=1∧∃ m,l.drop i=128 :: m))) →
 Ev (fun k=>head_Decode.j7 k (strOfNums l) (i:Int) ((i:Int) - 1) 5 e a b c 0) (if e=true then noH 5 else digH a c b f (i:Int) (l.drop i))):=by
 intro f
 induction f with
 | zero =>
  intro i b hf h1 b0 b1 e he
  rw [he.2 (.inr (.inl (by omega)))]
  exact Ev.step (fun k=>by rw [head_Decode.j7]) (Ev.ifp rfl (head_g0 5))
 | succ f ih =>
  intro i b hf h1 b0 b1 e he
  refine Ev.step (fun k=>by rw [head_Decode.j7]) ?_
  cases e with
  | true=>exact Ev.ifp rfl (head_g0 5)
  | false =>
   have hlt:i < l.length:=by
    by_cases h:i < l.length
    ·exact h
    ·exact absurd (he.2 (.inl (by omega))) (by decide)
   have hdr:l.drop i=l[i] :: l.drop (i+1):=List.drop_eq_getElem_cons hlt
   have hb:=hl.get i hlt
   have hp:(128:Int) ^ f≤128 ^ 3:=by
    have:f≤3:=by omega
    exact_mod_cast Nat.pow_le_pow_right (by decide) this
   have hp0:(0:Int) < 128 ^ f:=Int.pow_pos (by decide)
   have hbb:128*b+127 < 30000000 / 128 ^ f:=by
    rw [Int.pow_succ] at b1
    have h3:f=0∨f=1∨f=2:=by omega
    rcases h3 with rfl | rfl | rfl<;>simp at b1 ⊢<;>omega
   have hb3:b < 30000000:=Int.lt_of_lt_of_le b1 (Int.ediv_le_self _ (by decide))
   have e1:wrap64 (wrap64 ((i:Int)+1) - 1)=(i:Int):=by rw [w64 (x:=(i:Int)+1) (by omega) (by omega),w64 (by omega) (by omega)];omega
   rw [e1,nums_sizeI,nums_bt hl i hlt,hd127 (x:=l[i]) (by omega) (by omega),w64 (x:=(i:Int)+1) (by omega) (by omega),w64 (x:=l[i] % 128) (by omega) (by omega),or7 b0 (by omega) (by omega) (by omega),w64 (x:=(i:Int) - 1+1) (by omega) (by omega)]
   refine Ev.ifn (by decide) (Ev.ifp (by omega) (Ev.ifp (by omega) (Ev.ifp (by omega) (Ev.ifp (by omega) ?_))))
   rw [if_neg (by decide),hdr,digH]
   by_cases g:l[i]≥128
   ·rw [if_neg (by omega)]
    refine Ev.ifp g (Ev.step (fun k=>by rw [head_Decode.g0_2]) ?_)
    rw [nums_sizeI,show (i:Int)+1=((i+1:Nat):Int) by omega,show (i:Int) - 1+1=((i+1:Nat):Int) - 1 by omega]
    have hih:=ih (i+1) (128*b+l[i] % 128) (by omega) (by omega) (by omega) (by omega)
    by_cases g1:((i+1:Nat):Int)≥(l.length:Int)
    ·refine Ev.ifp g1 ((hih true ⟨fun _=>.inl (by omega),fun _=>rfl⟩).eq ?_)
     rw [if_pos rfl,List.drop_eq_nil_of_le (by omega)]
     cases f<;>rfl
    refine Ev.ifn g1 ?_
    by_cases g2:i=3
    ·refine Ev.ifp (by omega) ((hih true ⟨fun _=>.inr (.inl (by omega)),fun _=>rfl⟩).eq ?_)
     obtain rfl:f=0:=by omega
     rfl
    refine Ev.ifn (by omega) (Ev.ifn (by omega) ((hih false (Iff.intro (fun h=>by cases h) (fun h=>by omega))).eq ?_))
    rw [if_neg (by decide)]
   ·rw [if_pos (by omega)]
    refine Ev.ifn g ?_
    rw [show l[i] % 128=l[i] by omega,show (i:Int)+1=((i+1:Nat):Int) by omega]
    exact head_last _ head_j8 l hl hs (i+1) (by omega) a _ c
theorem head_j0:head_Decode.j0=head_Decode.j7:=by
 funext k
 cases k with
 | zero=>rfl
 | succ k=>funext x0 x6 x7 x8 e a b c n;rw [head_Decode.j0,head_Decode.j7,head_j1,head_j8]
theorem dig_tag (a:Int) (c:Bool) (l:List Int) (hl:OkB l) (h:∀ m,l≠128 :: m):digH a c 0 3 1 l=tagH a c l:=by
 match l,hl,h with
 | [],_,_=>rfl
 | x :: m,hl,h =>
  have hx:=hl.head
  have hx2:x≠128:=fun e=>h m (by rw [e])
  rw [digH,tagH_cons,if_neg hx2]
  by_cases g:x < 128
  ·rw [if_pos g,if_pos g,show 128*0+x=x by omega]
   rfl
  ·rw [if_neg g,if_neg g,show 128*0+x % 128=x % 128 by omega]
   match m,hl.tail with
   | [],_=>rfl
   | y :: m,hl =>
    have hy:=hl.head
    simp only [digH]
    by_cases g2:y < 128
    ·rw [if_pos g2,if_pos g2,if_neg (by omega)]
     rfl
    ·rw [if_neg g2,if_neg g2]
     match m,hl.tail with
     | [],_=>rfl
     | z :: m,hl =>
      have hz:=hl.head
      simp only [digH]
      by_cases g3:z < 128
      ·rw [if_pos g3,if_pos g3,if_neg (by omega)]
       rfl
      ·rw [if_neg g3,if_neg g3]
theorem head_is (l:List Int) (hl:OkB l) (hs:l.length≤140737488355328):Ev (fun k=>head_Decode.f k (strOfNums l)) (headH l):=by
 refine Ev.congr (fun k=>by rw [head_Decode.f]) ?_
 match l,hl,hs with
 | [],_,_=>exact Ev.ifp ((nums_toList_nil []).2 rfl) (head_g0 5)
 | x :: m,hl,hs =>
  have hx:=hl.head
  have hb:bt (strOfNums (x :: m)) 0=x:=(drop_bt hl (i:=0) (List.drop_zero ..)).1
  refine Ev.ifn (fun h=>by rw [nums_toList_nil] at h;cases h) ?_
  rw [nums_sizeI,hb,and31 hx.1 hx.2,and32 hx.1 hx.2,w64 (x:=x % 32) (by omega) (by omega),w64 (x:=x / 64) (by omega) (by omega)]
  refine Ev.ifp (by simp only [List.length_cons];omega) ?_
  rw [headH]
  by_cases g:x % 32 < 31
  ·rw [if_pos g]
   exact Ev.ifp g (head_len (x :: m) hl hs 1 _ _ _)
  ·rw [if_neg g]
   refine Ev.ifn g ?_
   rw [head_j0]
   have key:=head_dig (x :: m) hl hs (x / 64) (x / 32 % 2 == 1) 3 1 0 rfl (by omega) (by omega) (by decide)
   by_cases g1:(1:Int)≥((x :: m).length:Int)
   ·refine Ev.ifp g1 ((key true ⟨fun _=>.inl (by omega),fun _=>rfl⟩).eq ?_)
    have:m=[]:=List.eq_nil_of_length_eq_zero (by simp at g1;omega)
    subst this
    rfl
   refine Ev.ifn g1 (Ev.ifp (by omega) ?_)
   have hlt:1 < (x :: m).length:=by omega
   have hq:=beq128 hl hlt
   refine (key (bt (strOfNums (x :: m)) (1:Int) == 128) ⟨fun h=>?_,fun h=>?_⟩).eq ?_
   ·rcases hq.1 h with h | h
    ·omega
    ·exact .inr (.inr ⟨rfl,h⟩)
   ·rcases h with h | h | h
    ·omega
    ·omega
    ·exact hq.2 (.inr h.2)
   ·show (if (bt (strOfNums (x :: m)) ((1:Nat):Int) == 128)=true then _ else _)=_
    by_cases h:(bt (strOfNums (x :: m)) ((1:Nat):Int) == 128)=true
    ·rw [if_pos h]
     obtain ⟨w,hw⟩:=(hq.1 h).resolve_left (by omega)
     have hw:m=128 :: w:=hw
     rw [hw,tagH_cons,if_pos rfl]
    ·rw [if_neg h]
     exact dig_tag _ _ m hl.tail fun w hw=>h (hq.2 (.inr ⟨w,hw⟩))
def tagR (a:Int) (c:Bool):List Int→Int × Int × Bool × Int × Int
 | []=>(0,0,false,0,0)
 | x :: m=>if x < 128 then (a,x,c,0,2)
  else match m with
   | []=>(0,0,false,0,0)
   | y :: m=>if y < 128 then (a,128*(x % 128)+y,c,0,3)
    else match m with
     | []=>(0,0,false,0,0)
     | z :: m=>if z < 128 then (a,128*(128*(x % 128)+y % 128)+z,c,0,4) else (0,0,false,0,0)
theorem tagR_cons (a:Int) (c:Bool) (x:Int) (m:List Int):tagR a c (x :: m)=if x < 128 then ((a,x,c,0,2):Int × Int × Bool × Int × Int)
 else match m with
  | []=>(0,0,false,0,0)
  | y :: m=>if y < 128 then (a,128*(x % 128)+y,c,0,3)
   else match m with
    | []=>(0,0,false,0,0)
    | z :: m=>if z < 128 then (a,128*(128*(x % 128)+y % 128)+z,c,0,4) else ((0,0,false,0,0):Int × Int × Bool × Int × Int):=rfl
theorem rtag_end (s:ByteArray) (i:Int) (h:¬ (i < (s.size:Int)∧i < 4)) (a b:Int) (c:Bool):Ev (fun k=>cr15_tag.l0 k s i a b c 0) (0,0,false,0,0):=by
 refine Ev.step (fun k=>by rw [cr15_tag.l0]) ?_
 have hj:∀ e:Bool,e=false→Ev (fun k=>cr15_tag.j1 k s i e a b c 0) (0,0,false,0,0):=fun e he=>Ev.step (fun k=>by rw [cr15_tag.j1]) (Ev.ifn (by simp [he]) (Ev.now _))
 by_cases g:i < (s.size:Int)
 ·exact Ev.ifp g (hj _ (decide_eq_false (fun h4=>h ⟨g,h4⟩)))
 ·exact Ev.ifn g (hj _ rfl)
theorem rtag_step {l m:List Int} (hl:OkB l) (i:Nat) (hi:i < 4) (a b:Int) (c:Bool) (b0:0≤b) (b1:b < 30000000) (x:Int) (hd:l.drop i=x :: m) {r:Int × Int × Bool × Int × Int}
 (hr:if x < 128 then r=(a,128*b+x,c,0,(i:Int)+1) else Ev (fun k=>cr15_tag.l0 k (strOfNums l) ((i:Int)+1) a (128*b+x % 128) c 0) r):Ev (fun k=>cr15_tag.l0 k (strOfNums l) (i:Int) a b c 0) r:=by
 obtain ⟨hb,x0,x1⟩:=drop_bt hl hd
 have hlt:=(drop_cons hd).1
 refine Ev.step (fun k=>by rw [cr15_tag.l0]) ?_
 rw [nums_sizeI,decide_eq_true (by omega)]
 refine Ev.ifp (by omega) (Ev.step (fun k=>by rw [cr15_tag.j1]) ?_)
 rw [nums_sizeI,hb,w64 (x:=x) (by omega) (by omega),w64 (x:=128*b) (by omega) (by omega),Int.tmod_eq_emod_of_nonneg x0,w64 (x:=128*b+x % 128) (by omega) (by omega),w64 (x:=(i:Int)+1) (by omega) (by omega)]
 refine Ev.ifp rfl (Ev.ifp (by omega) (Ev.ifp (by omega) ?_))
 by_cases g:x < 128
 ·rw [if_pos g] at hr
  rw [hr]
  exact Ev.ifp g ((Ev.now _).eq (by rw [show x % 128=x by omega]))
 ·rw [if_neg g] at hr
  exact Ev.ifn g hr
theorem rtag_is (l:List Int) (hl:OkB l) (x:Int) (m:List Int) (h:l=x :: m) (a:Int) (c:Bool):Ev (fun k=>cr15_tag.l0 k (strOfNums l) 1 a 0 c 0) (tagR a c m):=by
 have hend:∀ (i:Nat) (b:Int),l.drop i=[]→Ev (fun k=>cr15_tag.l0 k (strOfNums l) (i:Int) a b c 0) (0,0,false,0,0):=by
  intro i b hd
  refine rtag_end _ _ (fun hh=>?_) _ _ _
  rw [nums_sizeI] at hh
  have:=congrArg List.length hd
  rw [List.length_drop,List.length_nil] at this
  omega
 have hd1:l.drop 1=m:=by rw [h];rfl
 match m,hd1 with
 | [],hd1=>exact hend 1 0 hd1
 | y :: m,hd1 =>
  have hy:=(drop_bt hl hd1).2
  refine rtag_step hl 1 (by omega) a 0 c (by omega) (by omega) y hd1 ?_
  rw [tagR_cons]
  by_cases g:y < 128
  ·rw [if_pos g,if_pos g,show 128*0+y=y by omega];rfl
  rw [if_neg g,if_neg g,show 128*0+y % 128=y % 128 by omega]
  have hd2:l.drop 2=m:=(drop_cons hd1).2.1
  match m,hd2 with
  | [],hd2=>exact hend 2 _ hd2
  | z :: m,hd2 =>
   have hz:=(drop_bt hl hd2).2
   refine rtag_step hl 2 (by omega) a (y % 128) c (by omega) (by omega) z hd2 ?_
   dsimp only
   by_cases g2:z < 128
   ·rw [if_pos g2,if_pos g2];rfl
   rw [if_neg g2,if_neg g2]
   have hd3:l.drop 3=m:=(drop_cons hd2).2.1
   match m,hd3 with
   | [],hd3=>exact hend 3 _ hd3
   | w :: m,hd3 =>
    have hw:=(drop_bt hl hd3).2
    refine rtag_step hl 3 (by omega) a (128*(y % 128)+z % 128) c (by omega) (by omega) w hd3 ?_
    dsimp only
    by_cases g3:w < 128
    ·rw [if_pos g3,if_pos g3];rfl
    ·rw [if_neg g3,if_neg g3]
     exact rtag_end _ _ (fun hh=>by omega) _ _ _
theorem ref_tag_is (x:Int) (m:List Int) (hl:OkB (x :: m)):Ev (fun k=>cr15_tag.f k (strOfNums (x :: m))) (if x % 32 < 31 then (x / 64,x % 32,x / 32 % 2 == 1,0,1) else tagR (x / 64) (x / 32 % 2 == 1) m):=by
 have hx:=hl.head
 have hb:bt (strOfNums (x :: m)) 0=x:=(drop_bt hl (i:=0) (List.drop_zero ..)).1
 refine Ev.congr (fun k=>by rw [cr15_tag.f]) ?_
 refine Ev.ifn (fun h=>by rw [nums_toList_nil] at h;cases h) ?_
 rw [nums_sizeI,hb,w64 (x:=x) (by omega) (by omega),Int.tmod_eq_emod_of_nonneg hx.1,Int.tdiv_eq_ediv_of_nonneg hx.1,Int.tdiv_eq_ediv_of_nonneg hx.1,w64 (x:=x / 64) (by omega) (by omega),w64 (x:=x / 32) (by omega) (by omega),Int.tmod_eq_emod_of_nonneg (by omega)]
 refine Ev.ifp (by simp only [List.length_cons];omega) (Ev.ite (fun _=>Ev.now _) fun _=>?_)
 exact rtag_is _ hl x m rfl _ _
theorem tagR_bytes (x:Int) (m:List Int) (hl:OkB (x :: m)) (hx:x % 32=31):(∀ r,tagR (x / 64) (x / 32 % 2 == 1) m=r→r.2.2.2.2=0∧(∀ c,tagH (x / 64) c m=noH 5) ∨
 (∃ (b:Int) (n:Nat),r=(x / 64,b,x / 32 % 2 == 1,0,(n:Int))∧2≤n∧n≤4∧n≤(x :: m).length∧0≤b∧b≤2097151 ∧
  (idB (x / 64) b (x / 32 % 2 == 1)=(x :: m).take n∧(∀ c,tagH (x / 64) c m=lenH (x / 64) b c (n:Int) ((x :: m).drop n))∨idB (x / 64) b (x / 32 % 2 == 1)≠(x :: m).take n∧∀ c,tagH (x / 64) c m=noH 5))):=by
 rintro r rfl
 have hx0:=hl.head
 have hfirst:64*(x / 64)+(if (x / 32 % 2 == 1)=true then (32:Int) else 0)+31=x:=by
  by_cases g:x / 32 % 2=1
  ·rw [if_pos (beq_iff_eq.2 g)];omega
  ·rw [if_neg (by rw [beq_iff_eq];exact g)];omega
 have hid:∀ b:Int,idB (x / 64) b (x / 32 % 2 == 1)=if b < 31 then [x - 31+b] else x :: tagD b:=by
  intro b
  unfold idB
  rw [hfirst]
  congr 1
  rw [show 64*(x / 64)+(if (x / 32 % 2 == 1)=true then (32:Int) else 0)=x - 31 by omega]
 match m,hl.tail with
 | [],_=>exact .inl ⟨rfl,fun _=>rfl⟩
 | y :: m,hm =>
  have hy:=hm.head
  rw [tagR_cons]
  by_cases g:y < 128
  ·rw [if_pos g]
   refine .inr ⟨y,2,rfl,by omega,by omega,by simp,by omega,by omega,?_⟩
   rw [hid]
   by_cases g1:y < 31
   ·rw [if_pos g1]
    refine .inr ⟨fun h=>by simp at h,fun c=>?_⟩
    rw [tagH_cons,if_neg (by omega),if_pos g,if_pos g1]
   ·rw [if_neg g1]
    refine .inl ⟨by rw [tagD,if_pos g];rfl,fun c=>?_⟩
    rw [tagH_cons,if_neg (by omega),if_pos g,if_neg g1]
    rfl
  rw [if_neg g]
  match m,hm.tail with
  | [],_ =>
   refine .inl ⟨rfl,fun c=>?_⟩
   rw [tagH_cons]
   by_cases g9:y=128
   ·rw [if_pos g9]
   ·rw [if_neg g9,if_neg g]
  | z :: m,hm =>
   have hz:=hm.head
   dsimp only
   by_cases g2:z < 128
   ·rw [if_pos g2]
    refine .inr ⟨128*(y % 128)+z,3,rfl,by omega,by omega,by simp,by omega,by omega,?_⟩
    rw [hid]
    by_cases g3:y=128
    ·refine .inr ⟨fun h=>?_,fun c=>by rw [tagH_cons,if_pos g3]⟩
     have h:=congrArg List.length h
     unfold tagD at h
     rw [g3,if_pos (show 128*(128 % 128)+z < (128:Int) by omega)] at h
     split at h<;>simp at h
    ·refine .inl ⟨?_,fun c=>?_⟩
     ·rw [if_neg (by omega),tagD,if_neg (by omega),if_pos (by omega),show 128+(128*(y % 128)+z) / 128=y by omega,show (128*(y % 128)+z) % 128=z by omega]
      rfl
     ·rw [tagH_cons,if_neg g3,if_neg g]
      dsimp only
      rw [if_pos g2]
      rfl
   rw [if_neg g2]
   match m,hm.tail with
   | [],_ =>
    refine .inl ⟨rfl,fun c=>?_⟩
    rw [tagH_cons]
    by_cases g9:y=128
    ·rw [if_pos g9]
    ·rw [if_neg g9,if_neg g]
     dsimp only
     rw [if_neg g2]
   | w :: m,hm =>
    have hw:=hm.head
    dsimp only
    by_cases g3:w < 128
    ·rw [if_pos g3]
     refine .inr ⟨128*(128*(y % 128)+z % 128)+w,4,rfl,by omega,by omega,by simp,by omega,by omega,?_⟩
     rw [hid]
     by_cases g4:y=128
     ·refine .inr ⟨fun h=>?_,fun c=>by rw [tagH_cons,if_pos g4]⟩
      have h:=congrArg List.length h
      unfold tagD at h
      rw [g4] at h
      split at h
      ·simp at h
      ·split at h
       ·simp at h
       ·rw [if_pos (by omega)] at h
        simp at h
     ·refine .inl ⟨?_,fun c=>?_⟩
      ·rw [if_neg (by omega),tagD,if_neg (by omega),if_neg (by omega),show 128+(128*(128*(y % 128)+z % 128)+w) / 16384=y by omega,show 128+(128*(128*(y % 128)+z % 128)+w) / 128 % 128=z by omega,show (128*(128*(y % 128)+z % 128)+w) % 128=w by omega]
       rfl
      ·rw [tagH_cons,if_neg g4,if_neg g]
       dsimp only
       rw [if_neg g2,if_pos g3]
       rfl
    ·rw [if_neg g3]
     refine .inl ⟨rfl,fun c=>?_⟩
     rw [tagH_cons]
     by_cases g9:y=128
     ·rw [if_pos g9]
     ·rw [if_neg g9,if_neg g]
      dsimp only
      rw [if_neg g2,if_neg g3]
theorem take_app {l p:List Int} {n:Nat} (h:p=l.take n) (hn:n≤l.length) (q:List Int) (d:Nat):p++q=l.take (n+d)↔q=(l.drop n).take d:=by
 rw [h,List.take_add]
 exact List.append_right_inj _
theorem idB_len (a b:Int) (c:Bool):(idB a b c).length≤4:=by
 unfold idB tagD
 split
 ·exact Nat.le_of_ble_eq_true rfl
 ·rw [List.length_cons]
  split
  ·exact Nat.le_of_ble_eq_true rfl
  ·split<;>exact Nat.le_of_ble_eq_true rfl
theorem ref_len_is (l:List Int) (hl:OkB l) (hs:l.length≤140737488355328) (n:Nat) (hn:n≤l.length) (a b:Int) (c:Bool) (a0:0≤a) (a1:a≤3) (b0:0≤b) (b1:b≤2097151) (hid:idB a b c=l.take n) (e:Bool) (he:e=true↔(l.length≤n∨∃ m,l.drop n=128 :: m)) :
 Ev (fun k=>cr15_Decode.j0 k (strOfNums l) (n:Int) e a b c) (lenH a b c (n:Int) (l.drop n)):=by
 refine Ev.step (fun k=>by rw [cr15_Decode.j0]) ?_
 cases e with
 | true =>
  refine Ev.ifp rfl ((Ev.now _).eq ?_)
  rcases he.1 rfl with h | ⟨m,h⟩
  ·rw [List.drop_eq_nil_of_le h];rfl
  ·rw [h,lenH_cons,if_pos rfl];rfl
 | false =>
  refine Ev.ifn (by decide) ?_
  have hlt:n < l.length:=by
   by_cases h:n < l.length
   ·exact h
   ·exact absurd (he.2 (.inl (by omega))) (by decide)
  obtain ⟨y,m,hdr⟩:∃ y m,l.drop n=y :: m:=⟨_,_,List.drop_eq_getElem_cons hlt⟩
  obtain ⟨hb,y0,y1⟩:=drop_bt hl hdr
  have hm:l.drop (n+1)=m:=(drop_cons hdr).2.1
  have h128:y≠128:=fun h=>absurd (he.2 (.inr ⟨m,by rw [hdr,h]⟩)) (by decide)
  rw [nums_sizeI,hb,hdr,lenH_cons,if_neg h128]
  refine Ev.ifp (by omega) (Ev.ifp (by omega) ?_)
  by_cases g1:y > 130
  ·rw [if_pos g1];exact Ev.ifp g1 (Ev.now _)
  rw [if_neg g1]
  refine Ev.ifn g1 ?_
  have hidl:(idB a b c).length=n:=by rw [hid,List.length_take];omega
  have hn4:n≤4:=by
   rw [← hidl];exact idB_len a b c
  have again:∀ (v:Int) (d:Nat),0≤v→v≤65535→1≤d→(d:Int)≤3→n+d≤l.length →
   Ev (fun k=>cr15_Encode.f k a b c v) (strOfNums (idB a b c++lenB v),0)∧Ev (fun _=>if (strOfNums (idB a b c++lenB v)).toList=((strOfNums l).extract 0 ((n+d:Nat):Int).toNat).toList then some (a,b,c,v,((strOfNums (idB a b c++lenB v)).size:Int),(0:Int)) else some (0,0,false,0,0,5))
    (if lenB v=(l.drop n).take d then (a,b,c,v,((n+d:Nat):Int),0) else noH 5):=by
   intro v d v0 v1 d1 d3 hd
   have he:=ref_henc_is a b c v a0 a1 b0 b1 v0
   rw [if_pos v1] at he
   refine ⟨he,?_⟩
   have hok:OkB (idB a b c++lenB v):=by
    refine OkB.append (by rw [hid];exact hl.take n) ?_
    unfold lenB
    split
    ·exact OkB.one (by omega) (by omega)
    ·split
     ·exact OkB.cons (by omega) (by omega) (OkB.one (by omega) (by omega))
     ·exact OkB.cons (by omega) (by omega) (OkB.cons (by omega) (by omega) (OkB.one (by omega) (by omega)))
   have heq:(strOfNums (idB a b c++lenB v)).toList=((strOfNums l).extract 0 ((n+d:Nat):Int).toNat).toList↔lenB v=(l.drop n).take d:=by
    rw [str_extract,List.drop_zero,Nat.sub_zero,Int.toNat_natCast,nums_toList hok (hl.take _)]
    exact take_app hid hn _ _
   by_cases g:lenB v=(l.drop n).take d
   ·rw [if_pos g]
    refine Ev.ifp (heq.2 g) ((Ev.now _).eq ?_)
    rw [nums_sizeI,List.length_append,hidl,g,List.length_take,List.length_drop,show n+min d (l.length - n)=n+d by omega]
   ·rw [if_neg g]
    exact Ev.ifn (fun h=>g (heq.1 h)) (Ev.now _)
  by_cases g2:y > 128
  ·
   refine Ev.ifp g2 (Ev.step (fun k=>by rw [cr15_Decode.j1]) ?_)
   rw [hb,w64 (x:=y) (by omega) (by omega),w64 (x:=y - 128) (by omega) (by omega),w64 (x:=(n:Int)+1) (by omega) (by omega),w64 (x:=(n:Int)+1+(y - 128)) (by omega) (by omega),if_neg (by omega)]
   obtain ⟨d,hd,d1,d2⟩:∃ d:Nat,y - 128=(d:Int)∧1≤d∧d≤2:=⟨(y - 128).toNat,by omega,by omega,by omega⟩
   rw [hd,nums_sizeI]
   by_cases g3:(n:Int)+1+(d:Int) > (l.length:Int)
   ·refine Ev.ifp g3 ((Ev.now _).eq ?_)
    have hlen:m.length < d:=by rw [← hm,List.length_drop];omega
    match m,hlen with
    | [],_=>split<;>rfl
    | [z],h =>
     rw [if_neg (by simp at h;omega)]
     rfl
    | z :: w :: m,h=>simp at h;omega
   refine Ev.ifn g3 (Ev.ifp (by omega) (Ev.ifp (by omega) (Ev.ifp (by omega) (Ev.ifp (by omega) (Ev.ifp (by omega) (Ev.ifp (by omega) ?_))))))
   have hml:d≤m.length:=by rw [← hm,List.length_drop];omega
   rw [show ((n:Int)+1).toNat=n+1 by omega,show ((n:Int)+1+(d:Int)).toNat=n+1+d by omega,str_extract,hm,show n+1+d - (n+1)=d by omega]
   have hmo:OkB m:=by rw [← hm];exact hl.drop _
   refine Ev.bind (ref01_Get_yes (m.take d) (hmo.take d) (by rw [List.length_take];omega) (by rw [List.length_take];omega)) ?_
   have hg:=getN_lt7 (m.take d) (hmo.take d) (by rw [List.length_take];omega)
   rw [w64 (x:=(getN (m.take d),true).1) (by show -9223372036854775808≤getN (m.take d);omega) (by show getN (m.take d)≤_;omega)]
   dsimp only
   have hcast:(n:Int)+1+(d:Int)=((n+(d+1):Nat):Int):=by omega
   rw [hcast]
   rcases (by omega:d=1∨d=2) with rfl | rfl
   ·match m,hml,hmo with
    | z :: m,_,hmo =>
     have hz:=hmo.head
     have hget:getN ((z :: m).take 1)=z:=by simp [getN]
     rw [hget]
     have ag:=again z 2 (by omega) (by omega) (by omega) (by omega) (by omega)
     refine Ev.bind ag.1 (Ev.ifp (by omega) (ag.2.eq ?_))
     rw [if_pos (show y=129 by omega),hdr]
     show (if lenB z=[y,z] then _ else _)=if z < 128 then noH 5 else (a,b,c,z,(n:Int)+2,0)
     by_cases g4:z < 128
     ·rw [if_pos g4,lenB1 g4,if_neg (by simp)]
     ·rw [if_neg g4,lenB2 g4 (by omega),if_pos (by rw [show y=129 by omega])]
      rfl
   ·match m,hml,hmo with
    | z :: w :: m,_,hmo =>
     have hz:=hmo.head
     have hw:=hmo.tail.head
     have hget:getN ((z :: w :: m).take 2)=256*z+w:=by simp [getN];omega
     rw [hget]
     have ag:=again (256*z+w) 3 (by omega) (by omega) (by omega) (by omega) (by omega)
     refine Ev.bind ag.1 (Ev.ifp (by omega) (ag.2.eq ?_))
     rw [if_neg (show ¬ y=129 by omega),hdr]
     show (if lenB (256*z+w)=[y,z,w] then _ else _)=if z=0 then noH 5 else (a,b,c,256*z+w,(n:Int)+3,0)
     by_cases g4:z=0
     ·rw [if_pos g4,if_neg]
      intro h
      have h:=congrArg List.length h
      unfold lenB at h
      rw [g4] at h
      split at h
      ·simp at h
      ·rw [if_pos (by omega)] at h
       simp at h
     ·rw [if_neg g4,lenB3 (by omega) (by omega),if_pos (by rw [show y=130 by omega,show (256*z+w) / 256=z by omega,show (256*z+w) % 256=w by omega])]
      rfl
    | [z],h,_=>simp at h
  ·
   refine Ev.ifn g2 (Ev.step (fun k=>by rw [cr15_Decode.j1]) ?_)
   rw [hb,w64 (x:=y) (by omega) (by omega),w64 (x:=(n:Int)+1) (by omega) (by omega),w64 (x:=(n:Int)+1+0) (by omega) (by omega),nums_sizeI,if_pos (show y < 128 by omega)]
   refine Ev.ifn (by omega) (Ev.ifp (by omega) (Ev.ifp (by omega) (Ev.ifn (by omega) ?_)))
   rw [show (n:Int)+1+0=((n+1:Nat):Int) by omega]
   have ag:=again y 1 (by omega) (by omega) (by omega) (by omega) (by omega)
   refine Ev.bind ag.1 (Ev.ifp (by omega) (Ev.ifp (by omega) (ag.2.eq ?_)))
   rw [hdr]
   show (if lenB y=[y] then _ else _)=_
   rw [lenB1 (by omega),if_pos rfl]
   rfl
theorem ref_head_dec (l:List Int) (hl:OkB l) (hs:l.length≤140737488355328):Ev (fun k=>cr15_Decode.f k (strOfNums l)) (headH l):=by
 refine Ev.congr (fun k=>by rw [cr15_Decode.f]) ?_
 match l,hl,hs with
 | [],_,_ =>
  refine Ev.bind (a:=(0,0,false,0,0)) (Ev.congr (fun k=>by rw [cr15_tag.f]) (Ev.ifp ((nums_toList_nil []).2 rfl) (Ev.now _))) (Ev.ifp rfl (Ev.now _))
 | x :: m,hl,hs =>
  have hx:=hl.head
  refine Ev.bind (ref_tag_is x m hl) ?_
  have key:∀ (a b:Int) (c:Bool) (n:Nat),1≤n→n≤(x :: m).length→0≤a→a≤3→0≤b→b≤2097151→∀ R,(idB a b c=(x :: m).take n∧R=lenH a b c (n:Int) ((x :: m).drop n)∨idB a b c≠(x :: m).take n∧R=noH 5) →
   Ev (fun k=>if ((a,b,c,0,(n:Int)):Int × Int × Bool × Int × Int).2.2.2.2=0 then some (0,0,false,0,0,5) else (cr15_Encode.f k a b c 0).bind fun t410=>if 0≤wrap64 ((t410.1.size:Int) - 1) then (if wrap64 ((t410.1.size:Int) - 1)≤(t410.1.size:Int) then (if 0≤(n:Int) then (if (n:Int)≤((strOfNums (x :: m)).size:Int) then (if (t410.1.extract 0 (wrap64 ((t410.1.size:Int) - 1)).toNat).toList=((strOfNums (x :: m)).extract 0 (n:Int).toNat).toList then (if (n:Int)=((strOfNums (x :: m)).size:Int) then cr15_Decode.j0 k (strOfNums (x :: m)) (n:Int) true a b c else if (n:Int) < ((strOfNums (x :: m)).size:Int) then cr15_Decode.j0 k (strOfNums (x :: m)) (n:Int) (bt (strOfNums (x :: m)) (n:Int) == 128) a b c else none) else cr15_Decode.j0 k (strOfNums (x :: m)) (n:Int) true a b c) else none) else none) else none) else none) R:=by
   intro a b c n n1 n2 a0 a1 b0 b1 R hR
   refine Ev.ifn (by show ¬ (n:Int)=0;omega) ?_
   have he:=ref_henc_is a b c 0 a0 a1 b0 b1 (by omega)
   rw [if_pos (by decide)] at he
   refine Ev.bind he ?_
   have hlen:((idB a b c++lenB 0).length:Int)=((idB a b c).length:Int)+1:=by rw [List.length_append,lenB1 (by decide)];simp
   have hidl:=idB_len a b c
   dsimp only
   rw [nums_sizeI,nums_sizeI,hlen,w64 (by omega) (by omega),show ((idB a b c).length:Int)+1 - 1=((idB a b c).length:Int) by omega]
   refine Ev.ifp (by omega) (Ev.ifp (by omega) (Ev.ifp (by omega) (Ev.ifp (by omega) ?_)))
   rw [str_extract,str_extract,List.drop_zero,List.drop_zero,Nat.sub_zero,Nat.sub_zero,Int.toNat_natCast,Int.toNat_natCast,List.take_left]
   have hido:OkB (idB a b c):=by
    unfold idB
    have hk:0≤64*a+(if c=true then (32:Int) else 0)∧64*a+(if c=true then (32:Int) else 0)≤224:=by split<;>omega
    split
    ·exact OkB.one (by omega) (by omega)
    ·refine OkB.cons (by omega) (by omega) ?_
     unfold tagD
     split
     ·exact OkB.one (by omega) (by omega)
     ·split
      ·exact OkB.cons (by omega) (by omega) (OkB.one (by omega) (by omega))
      ·exact OkB.cons (by omega) (by omega) (OkB.cons (by omega) (by omega) (OkB.one (by omega) (by omega)))
   have heq:=nums_toList hido (hl.take n)
   have hbad:Ev (fun k=>cr15_Decode.j0 k (strOfNums (x :: m)) (n:Int) true a b c) (noH 5):=Ev.step (f:=fun _=>some (noH 5)) (fun k=>by rw [cr15_Decode.j0,if_pos rfl];rfl) (Ev.now _)
   rcases hR with ⟨hid,rfl⟩ | ⟨hid,rfl⟩
   ·refine Ev.ifp (heq.2 hid) ?_
    by_cases g:(n:Int)=((x :: m).length:Int)
    ·exact Ev.ifp g (ref_len_is _ hl hs n n2 a b c a0 a1 b0 b1 hid true ⟨fun _=>.inl (by omega),fun _=>rfl⟩)
    ·refine Ev.ifn g (Ev.ifp (by omega) (ref_len_is _ hl hs n n2 a b c a0 a1 b0 b1 hid _ ?_))
     have hlt:n < (x :: m).length:=by omega
     rw [nums_bt hl n hlt,beq_iff_eq]
     constructor
     ·intro h;exact .inr ⟨_,by rw [List.drop_eq_getElem_cons hlt,h]⟩
     ·rintro (h | ⟨w,h⟩)
      ·omega
      ·exact (drop_cons h).2.2 hlt
   ·exact Ev.ifn (fun h=>hid (heq.1 h)) hbad
  rw [headH]
  by_cases g:x % 32 < 31
  ·rw [if_pos g,if_pos g]
   refine key (x / 64) (x % 32) (x / 32 % 2 == 1) 1 (by omega) (by simp) (by omega) (by omega) (by omega) (by omega) _ (.inl ⟨?_,rfl⟩)
   unfold idB
   rw [if_pos g]
   by_cases h:x / 32 % 2=1
   ·rw [if_pos (beq_iff_eq.2 h),show 64*(x / 64)+32+x % 32=x by omega];rfl
   ·rw [if_neg (by rw [beq_iff_eq];exact h),show 64*(x / 64)+0+x % 32=x by omega];rfl
  ·rw [if_neg g,if_neg g]
   rcases tagR_bytes x m hl (by omega) _ rfl with ⟨h1,h2⟩ | ⟨b,n,h1,n2,n4,hn,b0,b1,h2⟩
   ·rw [h2]
    exact Ev.ifp h1 (Ev.now _)
   ·rw [h1]
    refine key (x / 64) b (x / 32 % 2 == 1) n (by omega) hn (by omega) (by omega) b0 b1 _ ?_
    rcases h2 with ⟨h3,h4⟩ | ⟨h3,h4⟩
    ·exact .inl ⟨h3,h4 _⟩
    ·exact .inr ⟨h3,h4 _⟩
def rightL:List Int→Bool
 | []=>false
 | [_]=>true
 | x :: y :: _=>!(decide (x=0) && decide (y < 128)) && !(decide (x=255) && decide (128≤y))
theorem rightL_cons2 (x y:Int) (r:List Int):rightL (x :: y :: r)=(!(decide (x=0) && decide (y < 128)) && !(decide (x=255) && decide (128≤y))):=rfl
theorem or_i64_nat (i:Nat) {x y:Int} (hx0:0≤x) (hx:x % 2 ^ i=0) (hx1:x < 9223372036854775808) (hy0:0≤y) (hy:y < 2 ^ i) (hi:i≤63):Go.bits .or .i64 x y=x+y:=by
 refine bits_join .i64 63 (by decide) (fun n h0 h1=>by rw [IntKind.wrap_i64];omega) i x y hx0 hx (by simpa using hx1) hy0 hy ?_
 have:(2:Int) ^ i≤2 ^ 63:=by exact_mod_cast Nat.pow_le_pow_right (by decide) hi
 omega
theorem whole_Right_eq (l:List Int) (hl:OkB l):whole_Right.f (strOfNums l)=some (rightL l):=by
 unfold whole_Right.f
 rw [nums_sizeI]
 match l,hl with
 | [],_=>rw [if_pos ((nums_toList_nil []).2 rfl)];rfl
 | [x],_=>rw [if_neg (by rw [nums_toList_nil];simp),if_pos (by simp)];rfl
 | x :: y :: r,hl =>
  have h0:=hl.head
  have h1:=hl.tail.head
  have e0:bt (strOfNums (x :: y :: r)) 0=x:=nums_bt hl 0 (by simp)
  have e1:bt (strOfNums (x :: y :: r)) 1=y:=nums_bt hl 1 (by simp)
  rw [e0,e1,if_neg (by rw [nums_toList_nil];simp),if_neg (by simp;omega),if_pos (by simp;omega),if_pos (by simp;omega),w64 (x:=x) (by omega) (by omega),w64 (by omega) (by omega),w64 (by omega) (by omega),or_i64_nat 1 (by omega) (by omega) (by omega) (by omega) (by omega) (by decide)]
  rw [rightL_cons2]
  by_cases c:x*2+y / 128=0
  ·rw [if_pos c,decide_eq_true (by omega:x=0),decide_eq_true (by omega:y < 128)];rfl
  ·rw [if_neg c]
   congr 1
   have h3:(decide (x=0) && decide (y < 128))=false:=by
    rw [← Bool.not_eq_true,Bool.and_eq_true,decide_eq_true_iff,decide_eq_true_iff];omega
   rw [h3]
   by_cases d:x*2+y / 128=511
   ·rw [d,decide_eq_true (by omega:x=255),decide_eq_true (by omega:128≤y)];rfl
   ·have h4:(decide (x=255) && decide (128≤y))=false:=by
     rw [← Bool.not_eq_true,Bool.and_eq_true,decide_eq_true_iff,decide_eq_true_iff];omega
    rw [h4]
    simpa using d
theorem right_ne {l:List Int} (h:rightL l=true):l≠[]:=by
 rintro rfl
 cases h
theorem ref16_Right_eq (l:List Int) (hl:OkB l):cr16_Right.f (strOfNums l)=some (rightL l):=by
 unfold cr16_Right.f
 rw [nums_sizeI]
 match l,hl with
 | [],_=>rw [if_pos ((nums_toList_nil []).2 rfl)];rfl
 | [x],_=>rw [if_neg (by rw [nums_toList_nil];simp),if_pos (by simp)];rfl
 | x :: y :: r,hl =>
  have h0:=hl.head
  have h1:=hl.tail.head
  have e0:bt (strOfNums (x :: y :: r)) 0=x:=nums_bt hl 0 (by simp)
  have e1:bt (strOfNums (x :: y :: r)) 1=y:=nums_bt hl 1 (by simp)
  rw [e0,e1,if_neg (by rw [nums_toList_nil];simp),if_neg (by simp;omega),if_pos (by simp;omega)]
  rw [rightL_cons2]
  by_cases hx:x=0
  ·rw [if_pos hx,if_pos (by simp;omega),decide_eq_true hx,decide_eq_false (by omega:¬ x=255)]
   by_cases hy:y < 128
   ·rw [if_pos hy,decide_eq_true hy];rfl
   ·rw [if_neg hy,if_neg (by omega),decide_eq_false hy];rfl
  ·rw [if_neg hx,decide_eq_false hx]
   by_cases hx2:x=255
   ·rw [if_pos hx2,if_pos (by simp;omega),decide_eq_true hx2]
    by_cases hy:y < 128
    ·rw [decide_eq_true hy,decide_eq_false (by omega:¬ 128≤y)];rfl
    ·rw [decide_eq_false hy,decide_eq_true (by omega:128≤y)];rfl
   ·rw [if_neg hx2,decide_eq_false hx2];rfl
def sg (x:Int):Int:=(x+128) % 256 - 128
theorem sg_bd {x:Int} (h0:0≤x) (h1:x < 256) : -128≤sg x∧sg x < 128:=by unfold sg;omega
def valS (l:List Int):Int:=l.tail.foldl (fun n b=>n*256+b) (sg (l.headD 0))
theorem valS_snoc (l:List Int) (x:Int) (h:l≠[]):valS (l++[x])=valS l*256+x:=by
 cases l with
 | nil=>exact absurd rfl h
 | cons a r=>simp [valS]
theorem take_ne {l:List Int} (i:Nat) (h1:1≤i) (h:i≤l.length):l.take i≠[]:=by
 intro e
 have:=congrArg List.length e
 rw [List.length_take,List.length_nil] at this
 omega
theorem valS_take {l:List Int} (i:Nat) (h1:1≤i) (h:i < l.length):valS (l.take (i+1))=valS (l.take i)*256+l[i]:=by
 rw [List.take_succ_eq_append_getElem h,valS_snoc _ _ (take_ne i h1 (by omega))]
theorem valS_bd (n:Nat):∀ l:List Int,OkB l→l≠[]→l.length≤n+1→-(128*256 ^ n)≤valS l∧valS l < 128*256 ^ n:=by
 induction n with
 | zero =>
  intro l hl h0 hn
  match l,hl,h0,hn with
  | [x],hl,_,_ =>
   have h1:=hl.head
   have h2:=sg_bd h1.1 h1.2
   rw [show valS [x]=sg x from rfl,Int.pow_zero]
   omega
  | _ :: _ :: _,_,_,hn=>simp at hn
 | succ n ih =>
  intro l hl h0 hn
  have hp:(0:Int) < 256 ^ n:=Int.pow_pos (by decide)
  obtain ⟨m,x,rfl⟩:∃ m x,l=m++[x]:=⟨l.dropLast,l.getLast h0,(List.dropLast_concat_getLast h0).symm⟩
  have h2:=hl x (by simp)
  rw [Int.pow_succ]
  by_cases hm:m=[]
  ·subst hm
   have h3:=sg_bd h2.1 h2.2
   rw [List.nil_append,show valS [x]=sg x from rfl]
   omega
  ·have h1:=ih m (fun y hy=>hl y (List.mem_append_left _ hy)) hm (by simp at hn;omega)
   rw [valS_snoc _ _ hm]
   omega
theorem or_i64 {x y:Int} (hx:x % 256=0) (hx0 : -9223372036854775808≤x) (hx1:x≤9223372036854775807) (hy0:0≤y) (hy:y < 256):Go.bits .or .i64 x y=x+y:=by
 obtain ⟨b,rfl⟩:=Int.eq_ofNat_of_zero_le hy0
 obtain ⟨a,ha⟩:=Int.eq_ofNat_of_zero_le (show 0≤x % 18446744073709551616 by omega)
 have e1:(BitVec.ofInt IntKind.i64.bits x).toNat=a:=by
  rw [BitVec.toNat_ofInt]
  show (x % ((2 ^ 64:Nat):Int)).toNat=a
  rw [show ((2 ^ 64:Nat):Int)=18446744073709551616 by rfl,ha,Int.toNat_natCast]
 have e2:(BitVec.ofInt IntKind.i64.bits (b:Int)).toNat=b:=by
  rw [BitVec.ofInt_natCast,BitVec.toNat_ofNat]
  exact Nat.mod_eq_of_lt (by show b < 2 ^ 64;omega)
 have e3:a ||| b=a+b:=by
  have hd:a % 256=0:=by omega
  have hq:a=2 ^ 8*(a / 2 ^ 8):=by
   have:=Nat.div_add_mod a 256
   omega
  rw [hq,← Nat.two_pow_add_eq_or_of_lt (show b < 2 ^ 8 by omega) (a / 2 ^ 8)]
 unfold bits
 simp only [BitVec.toNat_or,e1,e2,e3]
 rw [IntKind.wrap_i64]
 omega
theorem i8_sg {x:Int} (h0:0≤x) (h1:x < 256):IntKind.i8.wrap x=sg x:=by
 unfold sg
 simp [IntKind.wrap,IntKind.bits,IntKind.signed]
 split<;>omega
theorem valS_one {l:List Int} (h:0 < l.length):valS (l.take 1)=sg l[0]:=by
 cases l with
 | nil=>simp at h
 | cons x r=>rfl
theorem whole_Decode_loop (l:List Int) (hl:OkB l) (h8:l.length≤8) (d:Nat):∀ i:Nat,1≤i→i≤l.length→l.length - i=d →
 Ev (fun k=>whole_Decode.l0 k (strOfNums l) (valS (l.take i)) (i:Int)) (valS l,true):=by
 induction d with
 | zero =>
  intro i h1 hi hd
  obtain rfl:i=l.length:=by omega
  refine Ev.step (fun k=>by rw [whole_Decode.l0]) ?_
  rw [nums_sizeI,List.take_length]
  exact Ev.ifn (by omega) (Ev.now _)
 | succ d ih =>
  intro i h1 hi hd
  have hlt:i < l.length:=by omega
  have hb:=hl.get i hlt
  have hg:=valS_bd 6 (l.take i) (hl.take i) (take_ne i h1 (by omega)) (by rw [List.length_take];omega)
  refine Ev.step (fun k=>by rw [whole_Decode.l0]) ?_
  rw [nums_sizeI,nums_bt hl i hlt,w64 (x:=l[i]) (by omega) (by omega),w64 (x:=valS (l.take i)*256) (by omega) (by omega),w64 (by omega) (by omega),or_i64 (by omega) (by omega) (by omega) (by omega) (by omega),← valS_take i h1 hlt]
  exact Ev.ifp (by omega) (Ev.ifp (by omega) (ih (i+1) (by omega) (by omega) (by omega)))
def decS (l:List Int):Int × Bool:=if l.length≤8∧rightL l=true then (valS l,true) else (0,false)
theorem rightL_pos {l:List Int} (h:rightL l=true):0 < l.length:=by
 cases l with
 | nil=>simp [rightL] at h
 | cons _ _=>simp
theorem whole_Decode_eq (l:List Int) (hl:OkB l):Ev (fun k=>whole_Decode.f k (strOfNums l)) (decS l):=by
 have no:Ev (fun k=>whole_Decode.j0 k (strOfNums l) true) (0,false):=by
  refine Ev.step (fun k=>by rw [whole_Decode.j0]) ?_
  exact Ev.ifp rfl (Ev.now _)
 unfold whole_Decode.f decS
 rw [nums_sizeI]
 by_cases h8:l.length≤8
 ·refine Ev.ifn (by omega) (Ev.bindc (whole_Right_eq l hl) ?_)
  by_cases hr:rightL l=true
  ·rw [if_pos ⟨h8,hr⟩,hr]
   have hp:=rightL_pos hr
   refine Ev.step (fun k=>by rw [whole_Decode.j0]) ?_
   rw [nums_sizeI]
   refine Ev.ifn (by decide) (Ev.ifp (by omega) ?_)
   have h0:=hl.get 0 hp
   have hs:=sg_bd h0.1 h0.2
   have e0:bt (strOfNums l) 0=l[0]:=nums_bt hl 0 hp
   rw [e0,i8_sg h0.1 h0.2,w64 (by omega) (by omega),← valS_one hp]
   exact whole_Decode_loop l hl h8 _ 1 (by omega) (by omega) rfl
  ·rw [if_neg (fun h=>hr h.2)]
   rw [Bool.not_eq_true] at hr
   rw [hr]
   exact no
 ·rw [if_neg (fun h=>h8 h.1)]
  exact Ev.ifp (by omega) no
def fits (n:Int) (w:Nat):Prop:=-(128*256 ^ (w - 1))≤n∧n < 128*256 ^ (w - 1)
instance (n:Int) (w:Nat):Decidable (fits n w):=by unfold fits;infer_instance
def wid (n:Int):Nat:=if fits n 1 then 1 else if fits n 2 then 2 else if fits n 3 then 3 else if fits n 4 then 4 else if fits n 5 then 5 else if fits n 6 then 6 else if fits n 7 then 7 else 8
theorem lowB_wrap (n:Int) (w:Nat) (hw:w≤8):lowB (n % 18446744073709551616) w=lowB n w:=by
 have:w=0∨w=1∨w=2∨w=3∨w=4∨w=5∨w=6∨w=7∨w=8:=by omega
 rcases this with rfl | rfl | rfl | rfl | rfl | rfl | rfl | rfl | rfl<;>simp only [lowB,List.cons.injEq,and_true,Int.reducePow]<;>omega
theorem pow256_le {a b:Nat} (h:a≤b):(256:Int) ^ a≤256 ^ b:=by
 have h2:=Nat.pow_le_pow_right (n:=256) (by decide) h
 have h3:((256 ^ a:Nat):Int)≤((256 ^ b:Nat):Int):=Int.ofNat_le.2 h2
 rw [Int.natCast_pow,Int.natCast_pow] at h3
 exact h3
theorem fits_up (n:Int) (w v:Nat) (hw:w≤v) (h:fits n w):fits n v:=by
 unfold fits at h ⊢
 have:=pow256_le (show w - 1≤v - 1 by omega)
 omega
theorem wid_is (n:Int) (w:Nat) (h1:1≤w) (h8:w≤8) (hf:fits n w∨w=8) (hn:w=1∨¬ fits n (w - 1)):wid n=w:=by
 have no:∀ v,v < w→1≤v→¬ fits n v:=by
  intro v hv hv1 hfv
  rcases hn with rfl | hn
  ·omega
  ·exact hn (fits_up n v (w - 1) (by omega) hfv)
 have:w=1∨w=2∨w=3∨w=4∨w=5∨w=6∨w=7∨w=8:=by omega
 unfold wid
 rcases this with rfl | rfl | rfl | rfl | rfl | rfl | rfl | rfl
 ·rw [if_pos (hf.resolve_right (by decide))]
 ·rw [if_neg (no 1 (by decide) (by decide)),if_pos (hf.resolve_right (by decide))]
 ·rw [if_neg (no 1 (by decide) (by decide)),if_neg (no 2 (by decide) (by decide)),if_pos (hf.resolve_right (by decide))]
 ·rw [if_neg (no 1 (by decide) (by decide)),if_neg (no 2 (by decide) (by decide)),if_neg (no 3 (by decide) (by decide)),if_pos (hf.resolve_right (by decide))]
 ·rw [if_neg (no 1 (by decide) (by decide)),if_neg (no 2 (by decide) (by decide)),if_neg (no 3 (by decide) (by decide)),if_neg (no 4 (by decide) (by decide)),if_pos (hf.resolve_right (by decide))]
 ·rw [if_neg (no 1 (by decide) (by decide)),if_neg (no 2 (by decide) (by decide)),if_neg (no 3 (by decide) (by decide)),if_neg (no 4 (by decide) (by decide)),if_neg (no 5 (by decide) (by decide)),if_pos (hf.resolve_right (by decide))]
 ·rw [if_neg (no 1 (by decide) (by decide)),if_neg (no 2 (by decide) (by decide)),if_neg (no 3 (by decide) (by decide)),if_neg (no 4 (by decide) (by decide)),if_neg (no 5 (by decide) (by decide)),if_neg (no 6 (by decide) (by decide)),if_pos (hf.resolve_right (by decide))]
 ·rw [if_neg (no 1 (by decide) (by decide)),if_neg (no 2 (by decide) (by decide)),if_neg (no 3 (by decide) (by decide)),if_neg (no 4 (by decide) (by decide)),if_neg (no 5 (by decide) (by decide)),if_neg (no 6 (by decide) (by decide)),if_neg (no 7 (by decide) (by decide))]
theorem fits_right (n:Int) (w:Nat) (h1:2≤w) (h8:w≤8) (hf:fits n w):rightL (lowB n w) = !decide (fits n (w - 1)):=by
 have key:∀ (x y:Int) (r:List Int) (p:Prop) [Decidable p],((x=0∧y < 128∨x=255∧128≤y)↔p)→rightL (x :: y :: r) = !decide p:=by
  intro x y r p _ h
  rw [rightL_cons2]
  by_cases hp:p
  ·rw [decide_eq_true hp]
   rcases h.2 hp with ⟨h1,h2⟩ | ⟨h1,h2⟩
   ·rw [decide_eq_true h1,decide_eq_true h2];rfl
   ·rw [decide_eq_true h1,decide_eq_true h2];simp
  ·rw [decide_eq_false hp]
   have h2:¬ (x=0∧y < 128):=fun q=>hp (h.1 (.inl q))
   have h3:¬ (x=255∧128≤y):=fun q=>hp (h.1 (.inr q))
   have e2:(decide (x=0) && decide (y < 128))=false:=by rw [← Bool.not_eq_true,Bool.and_eq_true,decide_eq_true_iff,decide_eq_true_iff];exact h2
   have e3:(decide (x=255) && decide (128≤y))=false:=by rw [← Bool.not_eq_true,Bool.and_eq_true,decide_eq_true_iff,decide_eq_true_iff];exact h3
   rw [e2,e3];rfl
 have:w=2∨w=3∨w=4∨w=5∨w=6∨w=7∨w=8:=by omega
 rcases this with rfl | rfl | rfl | rfl | rfl | rfl | rfl<;>simp only [lowB]<;>refine key _ _ _ _ ?_<;>simp only [fits,Nat.reduceSub,Int.reducePow,Int.reduceMul,Int.reduceNeg] at hf ⊢<;>omega
theorem whole_Encode_loop (n:Int) (w:Nat):1≤w→w≤8→fits n w→Ev (fun k=>whole_Encode.l0 k (strOfNums (lowB n w))) (strOfNums (lowB n (wid n))):=by
 induction w with
 | zero=>intro h;omega
 | succ w ih =>
  intro h1 h8 hf
  refine Ev.step (fun k=>by rw [whole_Encode.l0]) ?_
  rw [nums_sizeI,nums_size,lowB_length]
  by_cases hw:w=0
  ·subst hw
   rw [wid_is n 1 (by omega) (by omega) (.inl hf) (.inl rfl)]
   exact Ev.ifn (by omega) (Ev.now _)
  ·refine Ev.ifp (by omega) (Ev.bindc (whole_Right_eq _ (lowB_ok n _)) ?_)
   rw [fits_right n (w+1) (by omega) h8 hf]
   by_cases hg:fits n (w+1 - 1)
   ·rw [decide_eq_true hg]
    refine Ev.ifn (by decide) (Ev.ifp (by omega) ?_)
    rw [str_extract]
    simp only [lowB,List.drop_succ_cons,List.drop_zero,Nat.add_sub_cancel]
    rw [List.take_of_length_le (by rw [lowB_length];omega)]
    exact ih (by omega) (by omega) hg
   ·rw [decide_eq_false hg,wid_is n (w+1) (by omega) h8 (.inl hf) (.inr hg)]
    exact Ev.ifp rfl (Ev.now _)
theorem fits8 {n:Int} (h0 : -9223372036854775808≤n) (h1:n≤9223372036854775807):fits n 8:=by
 unfold fits
 simp only [Nat.reduceSub,Int.reducePow,Int.reduceMul,Int.reduceNeg]
 omega
theorem whole_Encode_eq (n:Int) (h0 : -9223372036854775808≤n) (h1:n≤9223372036854775807):Ev (fun k=>whole_Encode.f k n) (strOfNums (lowB n (wid n))):=by
 unfold whole_Encode.f
 refine Ev.bindc (octets_Put_eq _ 8) ?_
 rw [if_pos (by decide),wu64_mod,show (8:Int).toNat=8 by rfl,lowB_wrap n 8 (by decide)]
 exact whole_Encode_loop n 8 (by decide) (by decide) (fits8 h0 h1)
theorem lowB_snoc (v x:Int) (h0:0≤x) (h1:x < 256) (w:Nat):lowB (v*256+x) (w+1)=lowB v w++[x]:=by
 induction w with
 | zero=>simp only [lowB,Int.pow_zero,Int.ediv_one,List.nil_append,List.cons.injEq,and_true];omega
 | succ w ih =>
  have e:(v*256+x) / 256 ^ (w+1)=v / 256 ^ w:=by
   rw [Int.pow_succ,Int.mul_comm (256 ^ w) 256,← Int.ediv_ediv_of_nonneg (by decide)]
   congr 1
   omega
  rw [lowB,ih,e,lowB,List.cons_append]
theorem lowB_valS (n:Nat):∀ l:List Int,OkB l→l≠[]→l.length=n+1→lowB (valS l) (n+1)=l:=by
 induction n with
 | zero =>
  intro l hl h0 hn
  match l,hl,h0,hn with
  | [x],hl,_,_ =>
   have h1:=hl.head
   rw [show valS [x]=sg x from rfl]
   simp only [lowB,Int.pow_zero,Int.ediv_one,List.cons.injEq,and_true,sg]
   omega
  | _ :: _ :: _,_,_,hn=>simp at hn
 | succ n ih =>
  intro l hl h0 hn
  obtain ⟨m,x,rfl⟩:∃ m x,l=m++[x]:=⟨l.dropLast,l.getLast h0,(List.dropLast_concat_getLast h0).symm⟩
  have h2:=hl x (by simp)
  have hm:m≠[]:=by rintro rfl;simp at hn
  rw [valS_snoc _ _ hm,lowB_snoc _ _ h2.1 h2.2,ih m (fun y hy=>hl y (List.mem_append_left _ hy)) hm (by simp at hn;omega)]
theorem enc_dec (l:List Int) (hl:OkB l) (h8:l.length≤8) (hr:rightL l=true):lowB (valS l) (wid (valS l))=l∧-9223372036854775808≤valS l∧valS l≤9223372036854775807:=by
 have h0:=right_ne hr
 have hp:=List.length_pos_iff.2 h0
 obtain ⟨n,hn⟩:∃ n,l.length=n+1:=⟨l.length - 1,by omega⟩
 have hlow:=lowB_valS n l hl h0 hn
 have hbd:=valS_bd n l hl h0 (by omega)
 have hf:fits (valS l) (n+1):=hbd
 have hfull:=fits_up _ _ 8 (by omega) hf
 unfold fits at hfull
 simp only [Nat.reduceSub,Int.reducePow,Int.reduceMul,Int.reduceNeg] at hfull
 refine ⟨?_,by omega,by omega⟩
 have hw:n+1=1∨¬ fits (valS l) (n+1 - 1):=by
  by_cases hn0:n=0
  ·exact .inl (by omega)
  ·refine .inr (fun hg=>?_)
   have:=fits_right (valS l) (n+1) (by omega) (by omega) hf
   rw [hlow,hr,decide_eq_true hg] at this
   cases this
 rw [wid_is (valS l) (n+1) (by omega) (by omega) (.inl hf) hw]
 exact hlow
def okArc (x:Int):Bool:=decide (0≤x∧x≤2147483647)
def rightA:List Int→Bool
 | a :: b :: r=>decide (r.length≤18) && (decide (0≤a∧a≤2) && (decide (0≤b∧b≤if a < 2 then 39 else 2147483567) && r.all okArc))
 | _=>false
theorem oid_right_loop (l:List Int) (h2:2≤l.length) (hs:l.length≤1000) (d:Nat):∀ i:Nat,2≤i→i≤l.length→l.length - i=d →
 Ev (fun k=>oid_Right.l0 k l l (l.length:Int) (i:Int)) ((l.drop i).all okArc):=by
 induction d with
 | zero =>
  intro i _ hi hd
  refine Ev.step (fun k=>by rw [oid_Right.l0]) ?_
  refine Ev.ifn (by omega) ?_
  rw [List.drop_eq_nil_of_le (by omega)]
  exact Ev.now _
 | succ d ih =>
  intro i hi2 hi hd
  have hlt:i < l.length:=by omega
  refine Ev.step (fun k=>by rw [oid_Right.l0]) ?_
  refine Ev.ifp (by omega) ?_
  refine Ev.ifp (by omega) ?_
  refine Ev.ifp (by omega) ?_
  rw [rd_get i hlt,List.drop_eq_getElem_cons hlt,List.all_cons]
  by_cases h0:l[i] < 0
  ·refine Ev.ifp h0 ((Ev.now _).eq ?_)
   have:okArc l[i]=false:=decide_eq_false (by omega)
   rw [this,Bool.false_and]
  refine Ev.ifn h0 ?_
  refine Ev.bindc (a:=2147483647) (by unfold oid_most.f;rw [if_neg (by omega),if_pos (by omega)]) ?_
  by_cases h1:l[i] > 2147483647
  ·refine Ev.ifp h1 ((Ev.now _).eq ?_)
   have:okArc l[i]=false:=decide_eq_false (by omega)
   rw [this,Bool.false_and]
  ·refine Ev.ifn h1 ?_
   have:okArc l[i]=true:=decide_eq_true (by omega)
   rw [this,Bool.true_and,w64 (by omega) (by omega)]
   exact ih (i+1) (by omega) (by omega) (by omega)
theorem oid_right_is (l:List Int) (hs:l.length≤1000000):Ev (fun k=>oid_Right.f k l) (rightA l):=by
 have hno:Ev (fun k=>oid_Right.j0 k l true) false:=by
  refine Ev.step (fun k=>by rw [oid_Right.j0]) ?_
  exact Ev.ifp rfl (Ev.now _)
 refine Ev.congr (fun k=>by rw [oid_Right.f]) ?_
 match l,hno with
 | [],hno=>exact Ev.ifp (by decide) hno
 | [a],hno=>exact Ev.ifp (by simp) hno
 | a :: b :: r,hno =>
  refine Ev.ifn (by simp<;>omega) ?_
  by_cases h20:r.length≤18
  ·rw [decide_eq_false (by simp<;>omega)]
   refine Ev.step (fun k=>by rw [oid_Right.j0]) ?_
   refine Ev.ifn (by simp) ?_
   have hlen:(a :: b :: r).length=r.length+2:=rfl
   rw [rightA,decide_eq_true h20,Bool.true_and]
   have hl:=oid_right_loop (a :: b :: r) (by omega) (by omega) _ 2 (by omega) (by omega) rfl
   refine Ev.step (fun k=>by rw [oid_Right.l0]) ?_
   refine Ev.ifp (by omega) ?_
   refine Ev.ifp (by omega) ?_
   refine Ev.ifp (by omega) ?_
   rw [show rd (a :: b :: r) 0=a from rfl]
   by_cases ha:a < 0
   ·refine Ev.ifp ha ((Ev.now _).eq ?_)
    rw [decide_eq_false (show ¬ (0≤a∧a≤2) by omega),Bool.false_and]
   refine Ev.ifn ha ?_
   refine Ev.bindc (a:=2) (by unfold oid_most.f;rw [if_pos rfl]) ?_
   by_cases ha2:a > 2
   ·refine Ev.ifp ha2 ((Ev.now _).eq ?_)
    rw [decide_eq_false (show ¬ (0≤a∧a≤2) by omega),Bool.false_and]
   refine Ev.ifn ha2 ?_
   rw [decide_eq_true (show 0≤a∧a≤2 by omega),Bool.true_and,show wrap64 (0+1)=1 from w64 (by decide) (by decide)]
   refine Ev.step (fun k=>by rw [oid_Right.l0]) ?_
   refine Ev.ifp (by omega) ?_
   refine Ev.ifp (by omega) ?_
   refine Ev.ifp (by omega) ?_
   rw [show rd (a :: b :: r) 1=b from rfl]
   by_cases hb:b < 0
   ·refine Ev.ifp hb ((Ev.now _).eq ?_)
    rw [decide_eq_false (show ¬ (0≤b∧b≤if a < 2 then 39 else 2147483567) by omega),Bool.false_and]
   refine Ev.ifn hb ?_
   refine Ev.bindc (a:=if a < 2 then 39 else 2147483567) (by
    unfold oid_most.f
    rw [if_neg (by decide),if_neg (by decide),if_pos (by omega),show rd (a :: b :: r) 0=a from rfl]
    split<;>rfl) ?_
   by_cases hb2:b > if a < 2 then 39 else 2147483567
   ·refine Ev.ifp hb2 ((Ev.now _).eq ?_)
    rw [decide_eq_false (show ¬ (0≤b∧b≤if a < 2 then 39 else 2147483567) by omega),Bool.false_and]
   refine Ev.ifn hb2 ?_
   rw [decide_eq_true (show 0≤b∧b≤if a < 2 then 39 else 2147483567 by omega),Bool.true_and,show wrap64 (1+1)=2 from w64 (by decide) (by decide)]
   exact hl
  ·rw [decide_eq_true (by simp<;>omega)]
   refine hno.eq ?_
   rw [rightA,decide_eq_false h20,Bool.false_and]
theorem right_parts {arcs:List Int} (h:rightA arcs=true):∃ a b r,arcs=a :: b :: r∧r.length≤18∧0≤a∧a≤2∧0≤b∧(a < 2→b≤39)∧b≤2147483567∧∀ x∈r,0≤x∧x≤2147483647:=by
 match arcs,h with
 | [],h=>simp [rightA] at h
 | [a],h=>simp [rightA] at h
 | a :: b :: r,h =>
  rw [rightA] at h
  simp only [Bool.and_eq_true,decide_eq_true_eq,List.all_eq_true] at h
  obtain ⟨h1,h2,h3,h4⟩:=h
  refine ⟨a,b,r,rfl,h1,h2.1,h2.2,h3.1,fun h=>by have:=h3.2;rw [if_pos h] at this;exact this,by have:=h3.2;split at this<;>omega,fun x hx=>of_decide_eq_true (h4 x hx)⟩
theorem ref17_right_loop (l:List Int) (h2:2≤l.length) (hs:l.length≤1000) (d:Nat):∀ i:Nat,2≤i→i≤l.length→l.length - i=d →
 Ev (fun k=>cr17_Right.l0 k l (i:Int)) ((l.drop i).all okArc):=by
 induction d with
 | zero =>
  intro i _ hi hd
  refine Ev.step (fun k=>by rw [cr17_Right.l0]) ?_
  refine Ev.ifn (by omega) ?_
  rw [List.drop_eq_nil_of_le (by omega)]
  exact Ev.now _
 | succ d ih =>
  intro i hi2 hi hd
  have hlt:i < l.length:=by omega
  refine Ev.step (fun k=>by rw [cr17_Right.l0]) ?_
  refine Ev.ifp (by omega) ?_
  refine Ev.ifn (by omega) ?_
  refine Ev.ifp (by omega) ?_
  rw [rd_get i hlt,List.drop_eq_getElem_cons hlt,List.all_cons]
  by_cases h0:l[i] < 0
  ·refine Ev.ifp h0 ((Ev.now _).eq ?_)
   have:okArc l[i]=false:=decide_eq_false (by omega)
   rw [this,Bool.false_and]
  refine Ev.ifn h0 ?_
  by_cases h1:l[i] > 2147483647
  ·refine Ev.ifp h1 ((Ev.now _).eq ?_)
   have:okArc l[i]=false:=decide_eq_false (by omega)
   rw [this,Bool.false_and]
  ·refine Ev.ifn h1 ?_
   have:okArc l[i]=true:=decide_eq_true (by omega)
   rw [this,Bool.true_and,w64 (by omega) (by omega)]
   exact ih (i+1) (by omega) (by omega) (by omega)
theorem ref17_right_is (l:List Int) (hs:l.length≤1000000):Ev (fun k=>cr17_Right.f k l) (rightA l):=by
 have hno:Ev (fun k=>cr17_Right.j0 k l true) false:=by
  refine Ev.step (fun k=>by rw [cr17_Right.j0]) ?_
  exact Ev.ifp rfl (Ev.now _)
 refine Ev.congr (fun k=>by rw [cr17_Right.f]) ?_
 match l,hno with
 | [],hno=>exact Ev.ifp (by decide) hno
 | [a],hno=>exact Ev.ifp (by simp) hno
 | a :: b :: r,hno =>
  refine Ev.ifn (by simp<;>omega) ?_
  by_cases h20:r.length≤18
  ·refine Ev.ifn (by simp<;>omega) ?_
   have hlen:(a :: b :: r).length=r.length+2:=rfl
   rw [rightA,decide_eq_true h20,Bool.true_and]
   have hl:=ref17_right_loop (a :: b :: r) (by omega) (by omega) _ 2 (by omega) (by omega) rfl
   refine Ev.ifp (by omega) ?_
   rw [show rd (a :: b :: r) 0=a from rfl]
   by_cases ha:a < 0
   ·refine Ev.ifp ha (hno.eq ?_)
    rw [decide_eq_false (show ¬ (0≤a∧a≤2) by omega),Bool.false_and]
   refine Ev.ifn ha ?_
   by_cases ha2:a > 2
   ·rw [decide_eq_true ha2]
    refine hno.eq ?_
    rw [decide_eq_false (show ¬ (0≤a∧a≤2) by omega),Bool.false_and]
   rw [decide_eq_false ha2,decide_eq_true (show 0≤a∧a≤2 by omega),Bool.true_and]
   refine Ev.step (fun k=>by rw [cr17_Right.j0]) ?_
   refine Ev.ifn (by simp) ?_
   refine Ev.step (fun k=>by rw [cr17_Right.l0]) ?_
   refine Ev.ifp (by omega) ?_
   refine Ev.ifp rfl ?_
   refine Ev.ifp (by omega) ?_
   rw [show rd (a :: b :: r) 1=b from rfl,show rd (a :: b :: r) 0=a from rfl]
   by_cases h2:a < 2
   ·refine Ev.ifp h2 ?_
    refine Ev.ifp (by decide) ?_
    rw [if_pos h2]
    by_cases hb:b < 0
    ·refine Ev.ifp hb ((Ev.now _).eq ?_)
     rw [decide_eq_false (show ¬ (0≤b∧b≤39) by omega),Bool.false_and]
    refine Ev.ifn hb ?_
    by_cases hb2:b > 39
    ·refine Ev.ifp hb2 ((Ev.now _).eq ?_)
     rw [decide_eq_false (show ¬ (0≤b∧b≤39) by omega),Bool.false_and]
    refine Ev.ifn hb2 ?_
    rw [decide_eq_true (show 0≤b∧b≤39 by omega),Bool.true_and,show wrap64 (1+1)=2 from w64 (by decide) (by decide)]
    exact hl
   ·refine Ev.ifn h2 ?_
    refine Ev.ifp (by decide) ?_
    rw [if_neg h2]
    by_cases hb:b < 0
    ·refine Ev.ifp hb ((Ev.now _).eq ?_)
     rw [decide_eq_false (show ¬ (0≤b∧b≤2147483567) by omega),Bool.false_and]
    refine Ev.ifn hb ?_
    by_cases hb2:b > 2147483567
    ·refine Ev.ifp hb2 ((Ev.now _).eq ?_)
     rw [decide_eq_false (show ¬ (0≤b∧b≤2147483567) by omega),Bool.false_and]
    refine Ev.ifn hb2 ?_
    rw [decide_eq_true (show 0≤b∧b≤2147483567 by omega),Bool.true_and,show wrap64 (1+1)=2 from w64 (by decide) (by decide)]
    exact hl
  ·refine Ev.ifp (by simp<;>omega) ?_
   refine hno.eq ?_
   rw [rightA,decide_eq_false h20,Bool.false_and]
def hi (m:Nat):List Int:=if h:m=0 then [] else hi (m / 128)++[128+((m % 128:Nat):Int)]
termination_by m
decreasing_by omega
def dig (m:Nat):List Int:=hi (m / 128)++[((m % 128:Nat):Int)]
theorem hi_zero:hi 0=[]:=by rw [hi];simp
theorem hi_pos {m:Nat} (h:m≠0):hi m=hi (m / 128)++[128+((m % 128:Nat):Int)]:=by rw [hi];simp [h]
theorem hi_snoc (n:Nat) (b:Nat) (hb:128≤b) (hb2:b < 256) (h:n*128+b % 128≠0):hi (n*128+b % 128)=hi n++[(b:Int)]:=by
 rw [hi_pos h,show (n*128+b % 128) / 128=n by omega,show (n*128+b % 128) % 128=b % 128 by omega]
 congr 2
 omega
theorem dig_snoc (n:Nat) (b:Nat) (hb:b < 128):dig (n*128+b % 128)=hi n++[(b:Int)]:=by
 rw [dig,show (n*128+b % 128) / 128=n by omega,show (n*128+b % 128) % 128=b by omega]
def numsP:List Int→List Int→Int→Bool→List Int × Bool
 | [],out,_,begun=>(out,!begun && decide (0 < out.length∧out.length < 20))
 | b :: l,out,n,begun=>if (begun=false∧b=128)∨n > 2147483647 then ([],false) else if b≥128 then numsP l out (n*128+b % 128) true else numsP l (out++[n*128+b % 128]) 0 false
theorem and127_all:((List.range 256).all fun x=>decide (Go.bits .and .u8 (x:Int) 127=(x:Int) % 128))=true:=by kernel_rfl
theorem and127 {x:Int} (h0:0≤x) (h1:x < 256):Go.bits .and .u8 x 127=x % 128:=by
 have h:=List.all_eq_true.1 and127_all x.toNat (List.mem_range.2 (by omega))
 rw [Int.toNat_of_nonneg h0] at h
 exact of_decide_eq_true h
theorem or_i64_low (i:Nat) {x y:Int} (hx0:0≤x) (hx:x % 2 ^ i=0) (hx1:x < 9223372036854775808) (hy0:0≤y) (hy:y < 2 ^ i) (hi:i≤63):Go.bits .or .i64 x y=x+y:=by
 refine bits_join .i64 63 (by decide) (fun n h0 h1=>by rw [IntKind.wrap_i64];omega) i x y hx0 hx (by simpa using hx1) hy0 hy ?_
 have:(2:Int) ^ i≤2 ^ 63:=by exact_mod_cast Nat.pow_le_pow_right (by decide) hi
 omega
theorem nums_loop (l:List Int) (hl:OkB l) (hs:l.length≤1000000) (d:Nat):∀ (i:Nat) (out:List Int) (n:Int) (begun:Bool),i≤l.length→l.length - i=d→out.length≤i→0≤n→n≤274877907071 →
 Ev (fun k=>oid_numbers.l0 k (strOfNums l) out n begun (l.length:Int) (i:Int)) (numsP (l.drop i) out n begun):=by
 induction d with
 | zero =>
  intro i out n begun hi hd ho _ _
  refine Ev.step (fun k=>by rw [oid_numbers.l0]) ?_
  refine Ev.ifn (by omega) ?_
  rw [List.drop_eq_nil_of_le (by omega),numsP]
  cases begun with
  | true=>exact Ev.ifp rfl (Ev.now _)
  | false =>
   refine Ev.ifn (by simp) ?_
   by_cases h0:(out.length:Int) > 0
   ·refine Ev.ifp h0 ((Ev.now _).eq ?_)
    have:(decide ((out.length:Int) < 20))=decide (0 < out.length∧out.length < 20):=decide_eq_decide.2 (by omega)
    rw [this];rfl
   ·refine Ev.ifn h0 ((Ev.now _).eq ?_)
    have:decide (0 < out.length∧out.length < 20)=false:=decide_eq_false (by omega)
    rw [this];rfl
 | succ d ih =>
  intro i out n begun hi hd ho hn0 hn
  have hlt:i < l.length:=by omega
  have hb:=hl.get i hlt
  have hbt:=nums_bt hl i hlt
  rw [List.drop_eq_getElem_cons hlt,numsP]
  have hno:Ev (fun k=>oid_numbers.j1 k (strOfNums l) out n (i:Int) (l.length:Int) (i:Int) true) ([],false):=by
   refine Ev.step (fun k=>by rw [oid_numbers.j1]) ?_
   exact Ev.ifp rfl (Ev.now _)
  have hyes:¬ n > 2147483647→Ev (fun k=>oid_numbers.j1 k (strOfNums l) out n (i:Int) (l.length:Int) (i:Int) false) (if l[i]≥128 then numsP (l.drop (i+1)) out (n*128+l[i] % 128) true else numsP (l.drop (i+1)) (out++[n*128+l[i] % 128]) 0 false):=by
   intro hm
   refine Ev.step (fun k=>by rw [oid_numbers.j1]) ?_
   refine Ev.ifn (by simp) ?_
   rw [nums_sizeI,hbt,and127 hb.1 hb.2,w64 (x:=n*128) (by omega) (by omega),w64 (x:=l[i] % 128) (by omega) (by omega),w64 (x:=(i:Int)+1) (by omega) (by omega),
    or_i64_low 7 (by omega) (by omega) (by omega) (by omega) (by omega) (by decide)]
   refine Ev.ifp (by omega) ?_
   refine Ev.ifp (by omega) ?_
   by_cases h:l[i]≥128
   ·refine Ev.ifp h ?_
    rw [if_pos h,decide_eq_true h]
    exact ih (i+1) out _ true (by omega) (by omega) (by omega) (by omega) (by omega)
   ·refine Ev.ifn h ?_
    refine Ev.ifp (by omega) ?_
    rw [if_neg h,decide_eq_false h]
    exact ih (i+1) _ 0 false (by omega) (by omega) (by simp;omega) (by omega) (by omega)
  refine Ev.step (fun k=>by rw [oid_numbers.l0]) ?_
  refine Ev.ifp (by omega) ?_
  cases begun with
  | true =>
   refine Ev.ifp rfl ?_
   by_cases hm:n > 2147483647
   ·rw [decide_eq_true hm,if_pos (Or.inr hm)]
    exact hno
   ·rw [decide_eq_false hm,if_neg (by simp;omega)]
    exact hyes hm
  | false =>
   refine Ev.ifn (by simp) ?_
   rw [nums_sizeI,hbt]
   refine Ev.ifp (by omega) ?_
   refine Ev.ifp (by omega) ?_
   by_cases h128:l[i]=128
   ·refine Ev.ifp h128 ?_
    rw [if_pos (Or.inl ⟨rfl,h128⟩)]
    exact hno
   ·refine Ev.ifn h128 ?_
    by_cases hm:n > 2147483647
    ·rw [decide_eq_true hm,if_pos (Or.inr hm)]
     exact hno
    ·rw [decide_eq_false hm,if_neg (by simp [h128];omega)]
     exact hyes hm
theorem nums_is (l:List Int) (hl:OkB l) (hs:l.length≤1000000):Ev (fun k=>oid_numbers.f k (strOfNums l)) (numsP l [] 0 false):=by
 refine Ev.congr (fun k=>by rw [oid_numbers.f,nums_sizeI]) ?_
 exact nums_loop l hl hs _ 0 [] 0 false (by omega) rfl (by simp) (by decide) (by decide)
def digs:List Int→List Int
 | []=>[]
 | m :: r=>dig m.toNat++digs r
theorem nums_sound:∀ (l:List Int) (out:List Int) (n:Nat) (begun:Bool) (res:List Int),OkB l→begun=decide (n≠0)→numsP l out n begun=(res,true) →
 ∃ ms:List Int,res=out++ms∧hi n++l=digs ms∧∀ m∈ms,0≤m:=by
 intro l
 induction l with
 | nil =>
  intro out n begun res _ hb h
  rw [numsP] at h
  simp only [Prod.mk.injEq,Bool.and_eq_true,Bool.not_eq_true'] at h
  obtain ⟨rfl,h1,_⟩:=h
  rw [h1] at hb
  have hn:n=0:=by
   have:=of_decide_eq_false hb.symm
   omega
  subst hn
  exact ⟨[],by simp,by rw [hi_zero];rfl,by simp⟩
 | cons b l ih =>
  intro out n begun res hl hb h
  have hbd:=hl.head
  obtain ⟨c,rfl⟩:∃ c:Nat,b=(c:Int):=⟨b.toNat,by omega⟩
  rw [numsP] at h
  split at h
  ·simp at h
  ·rename_i hno
   have e:(n:Int)*128+(c:Int) % 128=((n*128+c % 128:Nat):Int):=by omega
   rw [e] at h
   split at h
   ·rename_i h128
    have hz:n*128+c % 128≠0:=by
     intro hz
     apply hno
     left
     have hn:n=0:=by omega
     rw [hb,hn]
     exact ⟨rfl,by omega⟩
    obtain ⟨ms,e1,e2,e3⟩:=ih out (n*128+c % 128) true res hl.tail (decide_eq_true hz).symm h
    refine ⟨ms,e1,?_,e3⟩
    rw [← e2,hi_snoc n c (by omega) (by omega) hz]
    simp
   ·rename_i h128
    obtain ⟨ms,e1,e2,e3⟩:=ih (out++[((n*128+c % 128:Nat):Int)]) 0 false res hl.tail (by simp) h
    refine ⟨((n*128+c % 128:Nat):Int) :: ms,by rw [e1];simp,?_,?_⟩
    ·rw [digs,← e2,hi_zero,Int.toNat_natCast,dig_snoc n c (by omega)]
     simp
    ·intro m hm
     rcases List.mem_cons.1 hm with rfl | hm
     ·omega
     ·exact e3 m hm
theorem hi_head (m:Nat) (r out:List Int) (hm:m≤2147483647):numsP (hi m++r) out 0 false=numsP r out (m:Int) (decide (m≠0)):=by
 induction m using Nat.strongRecOn generalizing r with
 | _ m ih =>
  by_cases h:m=0
  ·subst h
   rw [hi_zero]
   rfl
  ·rw [hi_pos h,List.append_assoc,ih (m / 128) (by omega) _ (by omega),List.singleton_append,numsP,if_neg,if_pos (by omega)]
   ·rw [show (((m / 128:Nat):Int)*128+(128+((m % 128:Nat):Int)) % 128)=(m:Int) by omega]
    simp [h]
   ·simp only [decide_eq_false_iff_not,not_or]
    omega
theorem nums_dig (m:Nat) (r out:List Int) (hm:m≤2147483647):numsP (dig m++r) out 0 false=numsP r (out++[(m:Int)]) 0 false:=by
 rw [dig,List.append_assoc,hi_head _ _ _ (by omega),List.singleton_append,numsP,if_neg,if_neg (by omega)]
 ·rw [show (((m / 128:Nat):Int)*128+((m % 128:Nat):Int) % 128)=(m:Int) by omega]
 ·simp only [decide_eq_false_iff_not,not_or]
  omega
theorem nums_digs:∀ (ms:List Int) (out:List Int),(∀ m∈ms,0≤m∧m≤2147483647)→numsP (digs ms) out 0 false=(out++ms,decide (0 < (out++ms).length∧(out++ms).length < 20))
 | [],out,_=>by rw [digs,numsP];simp
 | m :: ms,out,h=>by
  have h1:=h m (by simp)
  rw [digs,nums_dig _ _ _ (by omega),nums_digs ms _ (fun x hx=>h x (List.mem_cons_of_mem _ hx)),Int.toNat_of_nonneg h1.1]
  simp
def numsOf:List Int→List Int
 | a :: b :: r=>(40*a+b) :: r
 | _=>[]
def goodA (l arcs:List Int):Prop:=rightA arcs=true∧l=digs (numsOf arcs)
theorem arcs_of {a b:Int} (ha0:0≤a) (ha:a≤2) (hb0:0≤b) (hb:a < 2→b≤39):mn 2 ((40*a+b) / 40)=a:=by
 unfold mn
 split<;>omega
def arcsOf:List Int→List Int
 | m :: r=>mn 2 (m / 40) :: (m - 40*mn 2 (m / 40)) :: r
 | []=>[]
def decA (l:List Int):List Int × Bool:=if (numsP l [] 0 false).2=true then (if rightA (arcsOf (numsP l [] 0 false).1)=true then (arcsOf (numsP l [] 0 false).1,true) else ([],false)) else ([],false)
theorem mn_bd {m:Int} (h0:0≤m):0≤mn 2 (m / 40)∧mn 2 (m / 40)≤2∧40*mn 2 (m / 40)≤m:=by
 unfold mn
 split<;>omega
theorem nums_bd:∀ (l:List Int) (out:List Int) (n:Int) (begun:Bool),OkB l→0≤n→n≤274877907071→(∀ m∈out,0≤m∧m≤274877907071)→∀ m∈(numsP l out n begun).1,0≤m∧m≤274877907071
 | [],out,n,begun,_,_,_,h=>by rw [numsP];exact h
 | b :: l,out,n,begun,hl,h0,h1,h=>by
  have hb:=hl.head
  rw [numsP]
  split
  ·intro m hm;cases hm
  ·split
   ·exact nums_bd l out _ true hl.tail (by omega) (by omega) h
   ·refine nums_bd l _ 0 false hl.tail (by decide) (by decide) ?_
    intro m hm
    rcases List.mem_append.1 hm with hm | hm
    ·exact h m hm
    ·obtain rfl:=List.mem_singleton.1 hm
     omega
theorem nums_len:∀ (l:List Int) (out:List Int) (n:Int) (begun:Bool) (res:List Int),numsP l out n begun=(res,true)→0 < res.length∧res.length < 20
 | [],out,n,begun,res,h=>by
  rw [numsP] at h
  simp only [Prod.mk.injEq,Bool.and_eq_true,decide_eq_true_eq] at h
  obtain ⟨rfl,_,h⟩:=h
  exact h
 | b :: l,out,n,begun,res,h=>by
  rw [numsP] at h
  split at h
  ·simp at h
  ·split at h
   ·exact nums_len l _ _ _ res h
   ·exact nums_len l _ _ _ res h
theorem oid_decode_is (l:List Int) (hl:OkB l) (hs:l.length≤1000000):Ev (fun k=>oid_Decode.f k (strOfNums l)) (decA l):=by
 refine Ev.congr (fun k=>by rw [oid_Decode.f]) ?_
 refine Ev.bind (nums_is l hl (by omega)) ?_
 unfold decA
 by_cases h:(numsP l [] 0 false).2=true
 ·refine Ev.ifp h ?_
  rw [if_pos h]
  have hbd:=nums_bd l [] 0 false hl (by decide) (by decide) (by simp)
  have hlen:0 < (numsP l [] 0 false).1.length∧(numsP l [] 0 false).1.length < 20:=by
   exact nums_len l [] 0 false _ (by rw [Prod.ext_iff];exact ⟨rfl,h⟩)
  generalize (numsP l [] 0 false).1=ms at *
  match ms,hlen with
  | m :: r,hlen =>
   have hm:=hbd m (by simp)
   have hq:=mn_bd hm.1
   have ht:Int.tdiv m 40=m / 40:=Int.tdiv_eq_ediv_of_nonneg hm.1
   refine Ev.ifp (by simp<;>omega) ?_
   rw [show rd (m :: r) 0=m from rfl,ht,w64 (x:=m / 40) (by omega) (by omega),w64 (x:=40*mn 2 (m / 40)) (by omega) (by omega),w64 (x:=m - 40*mn 2 (m / 40)) (by omega) (by omega)]
   refine Ev.bindc rfl ?_
   refine Ev.ifp (by simp<;>omega) ?_
   refine Ev.bindc rfl ?_
   refine Ev.ifp (by simp at hlen ⊢;omega) ?_
   refine Ev.bindc rfl ?_
   refine Ev.bind (oid_right_is _ (by simp at hlen ⊢;omega)) ?_
   rw [show ([mn 2 (m / 40),m - 40*mn 2 (m / 40)]:List Int)++(m :: r).drop 1=arcsOf (m :: r) from rfl]
   by_cases hr:rightA (arcsOf (m :: r))=true
   ·exact Ev.ifp hr ((Ev.now _).eq (if_pos hr).symm)
   ·exact Ev.ifn hr ((Ev.now _).eq (if_neg hr).symm)
 ·refine Ev.ifn h ?_
  rw [if_neg h]
  exact Ev.now _
theorem decA_sound {l arcs:List Int} (hl:OkB l) (h:decA l=(arcs,true)):goodA l arcs:=by
 unfold decA at h
 split at h
 ·rename_i h1
  split at h
  ·rename_i h2
   simp only [Prod.mk.injEq,and_true] at h
   subst h
   refine ⟨h2,?_⟩
   obtain ⟨ms,e1,e2,e3⟩:=nums_sound l [] 0 false (numsP l [] 0 false).1 hl rfl (by rw [Prod.ext_iff];exact ⟨rfl,h1⟩)
   rw [hi_zero,List.nil_append] at e2
   rw [List.nil_append] at e1
   rw [e1] at h2 ⊢
   rw [e2]
   match ms,h2 with
   | m :: r,h2 =>
    rw [arcsOf,numsOf]
    congr 2
    omega
   | [],h2=>rfl
  ·simp at h
 ·simp at h
theorem decA_complete {l arcs:List Int} (h:goodA l arcs):decA l=(arcs,true):=by
 obtain ⟨hr,rfl⟩:=h
 obtain ⟨a,b,r,rfl,h18,ha0,ha,hb0,hb39,hb,hx⟩:=right_parts hr
 have hn:numsP (digs (numsOf (a :: b :: r))) [] 0 false=(numsOf (a :: b :: r),true):=by
  rw [numsOf,nums_digs]
  ·rw [List.nil_append]
   congr 1
   exact decide_eq_true (by simp;omega)
  ·intro m hm
   rcases List.mem_cons.1 hm with rfl | hm
   ·omega
   ·exact hx m hm
 have he:arcsOf (numsOf (a :: b :: r))=a :: b :: r:=by
  rw [numsOf,arcsOf,arcs_of ha0 ha hb0 hb39]
  congr 2
  omega
 unfold decA
 rw [hn]
 simp only [if_true]
 rw [he,if_pos hr]
theorem digs_ok:∀ (ms:List Int),OkB (digs ms)
 | []=>OkB.nil
 | m :: r=>by
  rw [digs]
  have hh:∀ n:Nat,OkB (hi n):=by
   intro n
   induction n using Nat.strongRecOn with
   | _ n ih =>
    by_cases h:n=0
    ·subst h;rw [hi_zero];exact OkB.nil
    ·rw [hi_pos h]
     exact (ih _ (by omega)).append (OkB.one (by omega) (by omega))
  exact ((hh _).append (OkB.one (by omega) (by omega))).append (digs_ok r)
theorem digits_loop (n:Nat) (hn:n≤4294967296):∀ (m:Nat) (s:List Int),m≤n→s.length+m≤9223372036854775000→Ev (fun k=>cr17_digits.l0 k (m:Int) (strOfNums s)) (strOfNums (hi m++s)):=by
 intro m
 induction m using Nat.strongRecOn with
 | _ m ih =>
  intro s hm hs
  refine Ev.step (fun k=>by rw [cr17_digits.l0]) ?_
  by_cases h:m=0
  ·subst h
   refine Ev.ifn (by decide) ?_
   rw [hi_zero]
   exact Ev.now _
  ·refine Ev.ifp (by omega) ?_
   have ht:Int.tmod (m:Int) 128=((m % 128:Nat):Int):=by
    rw [Int.tmod_eq_emod_of_nonneg (by omega)];omega
   have hd:Int.tdiv (m:Int) 128=((m / 128:Nat):Int):=by
    rw [Int.tdiv_eq_ediv_of_nonneg (by omega)];omega
   rw [ht,hd,w64 (by omega) (by omega),w64 (by omega) (by omega),show (128+((m % 128:Nat):Int)) % 256=128+((m % 128:Nat):Int) by omega]
   refine Ev.bindc rfl ?_
   rw [str_append,nums_size,nums_size]
   refine Ev.ifp (by simp;omega) ?_
   refine (ih (m / 128) (by omega) _ (by omega) (by simp;omega)).eq ?_
   rw [hi_pos h,List.append_assoc]
theorem digits_is (m:Nat) (h:m≤4294967296):Ev (fun k=>cr17_digits.f k (m:Int)) (strOfNums (dig m)):=by
 refine Ev.congr (fun k=>by rw [cr17_digits.f]) ?_
 have ht:Int.tmod (m:Int) 128=((m % 128:Nat):Int):=by
  rw [Int.tmod_eq_emod_of_nonneg (by omega)];omega
 have hd:Int.tdiv (m:Int) 128=((m / 128:Nat):Int):=by
  rw [Int.tdiv_eq_ediv_of_nonneg (by omega)];omega
 rw [ht,hd,w64 (by omega) (by omega),show ((m % 128:Nat):Int) % 256=((m % 128:Nat):Int) by omega]
 exact digits_loop (m / 128) (by omega) (m / 128) _ (by omega) (by simp;omega)
theorem hi_length (m:Nat):(hi m).length≤m:=by
 induction m using Nat.strongRecOn with
 | _ m ih =>
  by_cases h:m=0
  ·subst h;rw [hi_zero];simp
  ·rw [hi_pos h]
   have:=ih (m / 128) (by omega)
   simp
   omega
theorem dig_length (m:Nat):(dig m).length≤m+1:=by
 have:=hi_length (m / 128)
 rw [dig]
 simp
 omega
theorem enc_loop (arcs:List Int) (h:∀ x∈arcs,0≤x∧x≤2147483647) (hs:arcs.length≤1000) (d:Nat):∀ (i:Nat) (s:List Int),i≤arcs.length→arcs.length - i=d→s.length≤4294967297*(i+1) →
 Ev (fun k=>cr17_Encode.l0 k arcs (strOfNums s) (i:Int)) (strOfNums (s++digs (arcs.drop i)),true):=by
 induction d with
 | zero =>
  intro i s hi hd _
  refine Ev.step (fun k=>by rw [cr17_Encode.l0]) ?_
  refine Ev.ifn (by omega) ?_
  rw [List.drop_eq_nil_of_le (by omega),digs,List.append_nil]
  exact Ev.now _
 | succ d ih =>
  intro i s hi hd hsz
  have hlt:i < arcs.length:=by omega
  have hx:=h _ (List.getElem_mem hlt)
  refine Ev.step (fun k=>by rw [cr17_Encode.l0]) ?_
  refine Ev.ifp (by omega) ?_
  refine Ev.ifp (by omega) ?_
  rw [rd_get i hlt]
  have hdg:=digits_is arcs[i].toNat (by omega)
  rw [Int.toNat_of_nonneg hx.1] at hdg
  refine Ev.bind hdg ?_
  have hdl:=dig_length arcs[i].toNat
  rw [nums_size,nums_size,str_append]
  refine Ev.ifp (by omega) ?_
  rw [w64 (by omega) (by omega)]
  refine (ih (i+1) _ (by omega) (by omega) (by simp;omega)).eq ?_
  rw [List.drop_eq_getElem_cons hlt,digs,List.append_assoc]
theorem ref17_encode_is (arcs:List Int) (hs:arcs.length≤1000):Ev (fun k=>cr17_Encode.f k arcs) (if rightA arcs=true then (strOfNums (digs (numsOf arcs)),true) else (⟨#[]⟩,false)):=by
 refine Ev.congr (fun k=>by rw [cr17_Encode.f]) ?_
 refine Ev.bind (ref17_right_is arcs (by omega)) ?_
 by_cases hr:rightA arcs=true
 ·refine Ev.ifp hr ?_
  rw [if_pos hr]
  obtain ⟨a,b,r,rfl,h18,ha0,ha,hb0,hb39,hb,hx⟩:=right_parts hr
  refine Ev.ifp (by simp<;>omega) ?_
  refine Ev.ifp (by simp<;>omega) ?_
  rw [show rd (a :: b :: r) 0=a from rfl,show rd (a :: b :: r) 1=b from rfl,w64 (x:=40*a) (by omega) (by omega),w64 (x:=40*a+b) (by omega) (by omega)]
  have hdg:=digits_is (40*a+b).toNat (by omega)
  rw [Int.toNat_of_nonneg (by omega)] at hdg
  refine Ev.bind hdg ?_
  have hdl:=dig_length (40*a+b).toNat
  refine (enc_loop (a :: b :: r) ?_ (by simp;omega) _ 2 _ (by simp) rfl (by omega)).eq ?_
  ·intro x hm
   rcases List.mem_cons.1 hm with rfl | hm
   ·omega
   rcases List.mem_cons.1 hm with rfl | hm
   ·omega
   ·exact hx x hm
  ·rw [numsOf,digs]
   rfl
 ·refine Ev.ifn hr ?_
  rw [if_neg hr]
  exact Ev.now _
def decR:List Int→List Int→Int→Option (List Int)
 | [],out,_=>some out
 | b :: l,out,n=>if out.length < 21 then (if 128*n+b % 128 > 4294967296 then none else if b > 127 then decR l out (128*n+b % 128) else decR l (if out=[] then [mn 2 ((128*n+b % 128) / 40),(128*n+b % 128) - 40*mn 2 ((128*n+b % 128) / 40)] else out++[128*n+b % 128]) 0) else some out
theorem ref17_dec_end (l out:List Int) (hl:OkB l) (ho:out.length≤22) (n i:Int):Ev (fun k=>cr17_Decode.j1 k (strOfNums l) out n i false) (if rightA out=true∧digs (numsOf out)=l then (out,true) else ([],false)):=by
 refine Ev.step (fun k=>by rw [cr17_Decode.j1]) ?_
 refine Ev.ifn (by simp) ?_
 refine Ev.bind (ref17_encode_is out (by omega)) ?_
 by_cases hr:rightA out=true
 ·rw [if_pos hr]
  refine Ev.ifp rfl ?_
  by_cases he:digs (numsOf out)=l
  ·refine Ev.ifp ((nums_toList (digs_ok _) hl).2 he) ((Ev.now _).eq ?_)
   rw [if_pos ⟨hr,he⟩]
  ·refine Ev.ifn (fun e=>he ((nums_toList (digs_ok _) hl).1 e)) ((Ev.now _).eq ?_)
   rw [if_neg (fun h=>he h.2)]
 ·rw [if_neg hr]
  refine Ev.ifn (by simp) ((Ev.now _).eq ?_)
  rw [if_neg (fun h=>hr h.1)]
def decE (l:List Int):Option (List Int)→List Int × Bool
 | none=>([],false)
 | some out=>if rightA out=true∧digs (numsOf out)=l then (out,true) else ([],false)
theorem ref17_dec_loop (l:List Int) (hl:OkB l) (hs:l.length≤1000000) (d:Nat):∀ (i:Nat) (out:List Int) (n:Int),i≤l.length→l.length - i=d→out.length≤22→0≤n→n≤4294967296 →
 Ev (fun k=>cr17_Decode.l0 k (strOfNums l) out n (i:Int)) (decE l (decR (l.drop i) out n)):=by
 induction d with
 | zero =>
  intro i out n hi hd ho _ _
  refine Ev.step (fun k=>by rw [cr17_Decode.l0,nums_sizeI]) ?_
  refine Ev.ifn (by omega) ?_
  rw [List.drop_eq_nil_of_le (by omega),decR]
  exact ref17_dec_end l out hl ho n i
 | succ d ih =>
  intro i out n hi hd ho hn0 hn
  have hlt:i < l.length:=by omega
  have hb:=hl.get i hlt
  have hbt:=nums_bt hl i hlt
  rw [List.drop_eq_getElem_cons hlt,decR]
  refine Ev.step (fun k=>by rw [cr17_Decode.l0,nums_sizeI]) ?_
  refine Ev.ifp (by omega) ?_
  by_cases h21:out.length < 21
  ·rw [if_pos h21,decide_eq_true (by omega)]
   have ht:Int.tmod l[i] 128=l[i] % 128:=Int.tmod_eq_emod_of_nonneg hb.1
   refine Ev.step (fun k=>by rw [cr17_Decode.j1,nums_sizeI,hbt]) ?_
   refine Ev.ifp rfl ?_
   refine Ev.ifp (by omega) ?_
   refine Ev.ifp (by omega) ?_
   rw [w64 (x:=l[i]) (by omega) (by omega),ht,w64 (x:=128*n) (by omega) (by omega),w64 (x:=128*n+l[i] % 128) (by omega) (by omega),w64 (x:=(i:Int)+1) (by omega) (by omega)]
   by_cases hbig:128*n+l[i] % 128 > 4294967296
   ·refine Ev.ifp hbig ?_
    rw [if_pos hbig]
    exact Ev.now _
   refine Ev.ifn hbig ?_
   rw [if_neg hbig]
   obtain ⟨v,hv⟩:∃ v,128*n+l[i] % 128=v:=⟨_,rfl⟩
   rw [hv] at hbig ⊢
   have hv0:0≤v:=by omega
   by_cases h127:l[i] > 127
   ·refine Ev.ifp h127 ?_
    rw [if_pos h127]
    exact ih (i+1) out v (by omega) (by omega) ho hv0 (by omega)
   refine Ev.ifn h127 ?_
   rw [if_neg h127]
   have hq:Int.tdiv v 40=v / 40:=Int.tdiv_eq_ediv_of_nonneg hv0
   rw [hq,w64 (x:=v / 40) (by omega) (by omega)]
   by_cases he:out=[]
   ·subst he
    refine Ev.ifp rfl ?_
    rw [if_pos rfl]
    by_cases h2:v / 40 > 2
    ·refine Ev.ifp h2 ?_
     refine Ev.ifp (by decide) ?_
     refine Ev.bindc rfl ?_
     refine Ev.ifp (by simp) ?_
     rw [w64 (x:=v - 80) (by omega) (by omega)]
     refine (ih (i+1) _ 0 (by omega) (by omega) (by simp) (by decide) (by decide)).eq ?_
     have:mn 2 (v / 40)=2:=by unfold mn;split<;>omega
     rw [this]
     rfl
    ·refine Ev.ifn h2 ?_
     refine Ev.ifp (by decide) ?_
     refine Ev.bindc rfl ?_
     refine Ev.ifp (by simp) ?_
     rw [w64 (x:=40*(v / 40)) (by omega) (by omega),w64 (x:=v - 40*(v / 40)) (by omega) (by omega)]
     refine (ih (i+1) _ 0 (by omega) (by omega) (by simp) (by decide) (by decide)).eq ?_
     have:mn 2 (v / 40)=v / 40:=by unfold mn;split<;>omega
     rw [this]
     rfl
   ·refine Ev.ifn (fun e=>he (List.eq_nil_of_length_eq_zero (by omega))) ?_
    rw [if_neg he]
    refine Ev.ifp (by omega) ?_
    exact ih (i+1) _ 0 (by omega) (by omega) (by simp;omega) (by decide) (by decide)
  ·rw [if_neg h21,decide_eq_false (by omega)]
   exact ref17_dec_end l out hl ho n i
theorem ref17_decode_is (l:List Int) (hl:OkB l) (hs:l.length≤1000000):Ev (fun k=>cr17_Decode.f k (strOfNums l)) (decE l (decR l [] 0)):=by
 refine Ev.congr (fun k=>by rw [cr17_Decode.f]) ?_
 exact ref17_dec_loop l hl hs _ 0 [] 0 (by omega) rfl (by simp) (by decide) (by decide)
theorem decR_hi (m:Nat) (r out:List Int) (ho:out.length < 21) (hm:m≤4294967296):decR (hi m++r) out 0=decR r out (m:Int):=by
 induction m using Nat.strongRecOn generalizing r with
 | _ m ih =>
  by_cases h:m=0
  ·subst h
   rw [hi_zero]
   rfl
  ·rw [hi_pos h,List.append_assoc,ih (m / 128) (by omega) _ (by omega),List.singleton_append,decR,if_pos ho,if_neg (by omega),if_pos (by omega)]
   rw [show (128*((m / 128:Nat):Int)+(128+((m % 128:Nat):Int)) % 128)=(m:Int) by omega]
theorem decR_dig (m:Nat) (r out:List Int) (ho:out.length < 21) (hm:m≤4294967296):decR (dig m++r) out 0=decR r (if out=[] then [mn 2 ((m:Int) / 40),(m:Int) - 40*mn 2 ((m:Int) / 40)] else out++[(m:Int)]) 0:=by
 rw [dig,List.append_assoc,decR_hi _ _ _ ho (by omega),List.singleton_append,decR,if_pos ho,if_neg (by omega),if_neg (by omega)]
 rw [show (128*((m / 128:Nat):Int)+((m % 128:Nat):Int) % 128)=(m:Int) by omega]
theorem decR_digs:∀ (ms out:List Int),out≠[]→out.length+ms.length≤20→(∀ x∈ms,0≤x∧x≤4294967296)→decR (digs ms) out 0=some (out++ms)
 | [],out,_,_,_=>by rw [digs,decR,List.append_nil]
 | m :: ms,out,hn,hs,h=>by
  have h1:=h m (by simp)
  simp only [List.length_cons] at hs
  rw [digs,decR_dig _ _ _ (by omega) (by omega),if_neg hn,decR_digs ms _ (by simp) (by simp;omega) (fun x hx=>h x (List.mem_cons_of_mem _ hx)),Int.toNat_of_nonneg h1.1]
  simp
theorem decE_sound {l arcs:List Int} (h:decE l (decR l [] 0)=(arcs,true)):goodA l arcs:=by
 revert h
 cases decR l [] 0 with
 | none=>intro h;simp [decE] at h
 | some out =>
  intro h
  rw [decE] at h
  split at h
  ·rename_i hh
   simp only [Prod.mk.injEq,and_true] at h
   subst h
   exact ⟨hh.1,hh.2.symm⟩
  ·simp at h
theorem decE_complete {l arcs:List Int} (h:goodA l arcs):decE l (decR l [] 0)=(arcs,true):=by
 obtain ⟨hr,rfl⟩:=h
 obtain ⟨a,b,r,rfl,h18,ha0,ha,hb0,hb39,hb,hx⟩:=right_parts hr
 have e:decR (digs (numsOf (a :: b :: r))) [] 0=some (a :: b :: r):=by
  rw [numsOf,digs,decR_dig _ _ _ (by decide) (by omega),if_pos rfl,Int.toNat_of_nonneg (by omega),arcs_of ha0 ha hb0 hb39,decR_digs _ _ (by simp) (by simp;omega) (fun x hm=>by have:=hx x hm;omega)]
  simp
  omega
 rw [e,decE,if_pos ⟨hr,rfl⟩]
theorem decE_is (l:List Int) (hl:OkB l):decE l (decR l [] 0)=decA l:=by
 have two:∀ p:List Int × Bool,(p.2=false→p.1=[])→p.2=false→p=([],false):=fun p h h2=>by rw [← h h2,← h2]
 have ha:(decA l).2=false→(decA l).1=[]:=by
  unfold decA
  split
  ·split
   ·intro h;simp at h
   ·intro _;rfl
  ·intro _;rfl
 have he:(decE l (decR l [] 0)).2=false→(decE l (decR l [] 0)).1=[]:=by
  cases decR l [] 0 with
  | none=>intro _;rfl
  | some out =>
   rw [decE]
   split
   ·intro h;simp at h
   ·intro _;rfl
 cases h1:(decA l).2 with
 | true=>rw [decE_complete (decA_sound hl (show decA l=((decA l).1,true) from by rw [← h1]))];rw [← h1]
 | false =>
  cases h2:(decE l (decR l [] 0)).2 with
  | true =>
   have h3:=decA_complete (decE_sound (l:=l) (show decE l (decR l [] 0)=((decE l (decR l [] 0)).1,true) from by rw [← h2]))
   rw [h3] at h1
   cases h1
  | false=>rw [two _ ha h1,two _ he h2]
theorem and127w {n:Int} (h0:0≤n) (h1:n < 9223372036854775808):Go.bits .and .i64 n 127=n % 128 :=
 bits_mask .i64 63 (by decide) (fun n h0 h1=>by rw [IntKind.wrap_i64];omega) 7 (by decide) n h0 (by simpa using h1)
theorem or128 {x:Int} (h0:0≤x) (h1:x < 128):Go.bits .or .u8 x 128=128+x:=by
 have h:((List.range 128).all fun x=>decide (Go.bits .or .u8 (x:Int) 128=128+(x:Int)))=true:=by kernel_rfl
 have:=List.all_eq_true.1 h x.toNat (List.mem_range.2 (by omega))
 have:=of_decide_eq_true this
 rw [Int.toNat_of_nonneg h0] at this
 exact this
theorem or0 {x:Int} (h0:0≤x) (h1:x < 128):Go.bits .or .u8 x 0=x:=by
 have h:((List.range 128).all fun x=>decide (Go.bits .or .u8 (x:Int) 0=(x:Int)))=true:=by kernel_rfl
 have:=List.all_eq_true.1 h x.toNat (List.mem_range.2 (by omega))
 have:=of_decide_eq_true this
 rw [Int.toNat_of_nonneg h0] at this
 exact this
theorem encD_hi (m:Nat) (h:m≠0) (hm:m < 9223372036854775808):Ev (fun k=>encD k (m:Int) 128) (hi m).reverse:=by
 induction m using Nat.strongRecOn with
 | ind m ih =>
  refine Ev.step (fun k=>by rw [encD]) ?_
  rw [and127w (by omega) (by omega),show ((m:Int) % 128) % 256=(m:Int) % 128 by omega,or128 (by omega) (by omega),hi_pos h]
  by_cases h0:m / 128=0
  ·refine Ev.ifp (by omega) ((Ev.now _).eq ?_)
   rw [h0,hi_zero]
   simp
  ·refine Ev.ifn (by omega) ?_
   have:=ih (m / 128) (by omega) h0 (by omega)
   rw [show ((m:Int) / 128)=((m / 128:Nat):Int) by omega]
   refine Ev.bind this ((Ev.now _).eq ?_)
   simp
theorem encD_dig (m:Nat) (hm:m < 9223372036854775808):Ev (fun k=>encD k (m:Int) 0) (dig m).reverse:=by
 refine Ev.step (fun k=>by rw [encD]) ?_
 rw [and127w (by omega) (by omega),show ((m:Int) % 128) % 256=(m:Int) % 128 by omega,or0 (by omega) (by omega),dig]
 by_cases h0:m / 128=0
 ·refine Ev.ifp (by omega) ((Ev.now _).eq ?_)
  rw [h0,hi_zero]
  simp
 ·refine Ev.ifn (by omega) ?_
  have:=encD_hi (m / 128) h0 (by omega)
  rw [show ((m:Int) / 128)=((m / 128:Nat):Int) by omega]
  refine Ev.bind this ((Ev.now _).eq ?_)
  simp
theorem hi_short:∀ (j m:Nat),m < 128 ^ j→(hi m).length≤j
 | 0,m,h=>by
  obtain rfl:m=0:=by simpa using h
  simp [hi_zero]
 | j+1,m,h=>by
  by_cases h0:m=0
  ·subst h0;simp [hi_zero]
  ·rw [hi_pos h0,List.length_append]
   have:=hi_short j (m / 128) (by rw [Nat.pow_succ] at h;omega)
   simp
   omega
theorem dig_short (m:Nat) (h:m < 4294967296):(dig m).length≤6:=by
 have:=hi_short 5 (m / 128) (by omega)
 rw [dig,List.length_append]
 simp
 omega
theorem encA_is:∀ (xs:List Int),(∀ x∈xs,0≤x∧x < 4294967296)→Ev (fun k=>encA k xs) (xs.flatMap fun x=>(dig x.toNat).reverse)
 | [],_=>Ev.now _
 | x :: xs,h=>by
  have hx:=h x (List.mem_cons_self ..)
  have h1:=encD_dig x.toNat (by omega)
  rw [Int.toNat_of_nonneg hx.1] at h1
  refine Ev.congr (fun k=>by rw [encA]) ?_
  refine Ev.bind h1 ?_
  refine Ev.ifp (by have:=dig_short x.toNat (by omega);rw [List.length_reverse];omega) ?_
  refine Ev.bind (encA_is xs (fun y hy=>h y (List.mem_cons_of_mem _ hy))) ((Ev.now _).eq ?_)
  simp
theorem digs_rev:∀ (xs:List Int),(xs.reverse.flatMap fun x=>(dig x.toNat).reverse).reverse=digs xs
 | []=>rfl
 | x :: xs=>by
  rw [List.reverse_cons,List.flatMap_append,List.reverse_append,digs_rev xs,digs]
  simp
theorem digs_short:∀ (xs:List Int),(∀ x∈xs,0≤x∧x < 4294967296)→(digs xs).length≤6*xs.length
 | [],_=>by simp [digs]
 | x :: xs,h=>by
  have:=digs_short xs (fun y hy=>h y (List.mem_cons_of_mem _ hy))
  have h1:=h x (List.mem_cons_self ..)
  have h2:=dig_short x.toNat (by omega)
  rw [digs,List.length_append,List.length_cons]
  omega
theorem oid_encode_is (arcs:List Int) (hs:arcs.length≤1000):Ev (fun k=>oid_Encode.f k arcs) (if rightA arcs=true then (strOfNums (digs (numsOf arcs)),true) else (⟨#[]⟩,false)):=by
 refine Ev.congr (fun k=>by rw [oid_Encode.f]) ?_
 refine Ev.bind (oid_right_is arcs (by omega)) ?_
 by_cases hr:rightA arcs=true
 case neg=>rw [if_neg hr];exact Ev.ifn hr (Ev.now _)
 rw [if_pos hr]
 refine Ev.ifp hr ?_
 obtain ⟨a,b,r,rfl,h18,ha0,ha2,hb0,hb1,hb2,hall⟩:=right_parts hr
 refine Ev.ifp ⟨by simp,hs⟩ ?_
 have hn:encNums (a :: b :: r)=numsOf (a :: b :: r):=by
  unfold encNums numsOf
  rw [show rd (a :: b :: r) 0=a from rfl,show rd (a :: b :: r) 1=b from rfl,w64 (x:=40*a) (by omega) (by omega),w64 (by omega) (by omega)]
  rfl
 rw [hn]
 have hbd:∀ x∈numsOf (a :: b :: r),0≤x∧x < 4294967296:=by
  intro x hx
  unfold numsOf at hx
  rcases List.mem_cons.1 hx with rfl | hx
  ·omega
  ·have:=hall x hx;omega
 have hlen:=digs_short _ hbd
 have hl2:(numsOf (a :: b :: r)).length=r.length+1:=by simp [numsOf]
 refine Ev.bind (encA_is _ (fun x hx=>hbd x (List.mem_reverse.1 hx))) ?_
 have hrev:=digs_rev (numsOf (a :: b :: r))
 rw [hrev]
 exact Ev.now _
def num (v:Int):List Int:=(Lib.itoa v).map fun b=>(b.toNat:Int)
def dec (u:Nat):List Int:=(Lib.decDigits u).map fun b=>(b.toNat:Int)
theorem str_of_bytes (l:List UInt8):(⟨l.toArray⟩:ByteArray)=strOfNums (l.map fun b=>(b.toNat:Int)):=by
 have:=strOfNums_bytesOf ⟨l.toArray⟩
 unfold bytesOf at this
 exact this.symm
theorem num_str (v:Int):(⟨(Lib.itoa v).toArray⟩:ByteArray)=strOfNums (num v):=str_of_bytes _
theorem dec_lt {u:Nat} (h:u < 10):dec u=[48+(u:Int)]:=by
 unfold dec
 rw [Lib.decDigits,dif_pos h]
 simp [UInt8.toNat_ofNat']
 omega
theorem dec_ge {u:Nat} (h:¬ u < 10):dec u=dec (u / 10)++[48+((u % 10:Nat):Int)]:=by
 unfold dec
 rw [Lib.decDigits,dif_neg h,List.map_append]
 simp [UInt8.toNat_ofNat']
 omega
theorem num_pos {v:Int} (h:0≤v):num v=dec v.toNat:=by unfold num dec Lib.itoa;rw [if_neg (by omega)]
theorem num_neg {v:Int} (h:v < 0):num v=45 :: dec v.natAbs:=by unfold num dec Lib.itoa;rw [if_pos h];rfl
theorem dec_digit:∀ (u:Nat),∀ x∈dec u,48≤x∧x≤57:=by
 intro u
 induction u using Nat.strongRecOn with
 | ind u ih =>
  by_cases h:u < 10
  ·rw [dec_lt h]
   intro x hx
   rw [List.mem_singleton] at hx
   omega
  ·rw [dec_ge h]
   intro x hx
   rcases List.mem_append.1 hx with h1 | h1
   ·exact ih (u / 10) (by omega) x h1
   ·rw [List.mem_singleton] at h1
    omega
theorem dec_ok (u:Nat):OkB (dec u):=fun x hx=>by have:=dec_digit u x hx;omega
theorem dec_ne (u:Nat):dec u≠[]:=by
 by_cases h:u < 10
 ·rw [dec_lt h];simp
 ·rw [dec_ge h];simp
theorem dec_len:∀ (k u:Nat),1≤k→u < 10 ^ k→(dec u).length≤k
 | 0,_,h,_=>by omega
 | k+1,u,_,h=>by
  by_cases h0:u < 10
  ·rw [dec_lt h0];simp
  ·rw [dec_ge h0,List.length_append]
   rw [Nat.pow_succ] at h
   have hk:1≤k:=by
    rcases Nat.eq_zero_or_pos k with rfl | hk
    ·simp at h;omega
    ·exact hk
   have:=dec_len k (u / 10) hk (by omega)
   simp
   omega
theorem num_ok (v:Int):OkB (num v):=by
 by_cases h:0≤v
 ·rw [num_pos h];exact dec_ok _
 ·rw [num_neg (by omega)];exact OkB.cons (by omega) (by omega) (dec_ok _)
theorem num_len (v:Int) (h0 : -9223372036854775808≤v) (h1:v≤9223372036854775807):(num v).length≤20∧1≤(num v).length:=by
 have hne:=dec_ne
 by_cases h:0≤v
 ·rw [num_pos h]
  have:=dec_len 19 v.toNat (by omega) (by omega)
  have:=List.length_pos_iff.2 (hne v.toNat)
  omega
 ·rw [num_neg (by omega),List.length_cons]
  have:=dec_len 19 v.natAbs (by omega) (by omega)
  omega
theorem num_no46 (v:Int):∀ x∈num v,x≠46:=by
 intro x hx
 by_cases h:0≤v
 ·rw [num_pos h] at hx
  have:=dec_digit _ x hx
  omega
 ·rw [num_neg (by omega)] at hx
  rcases List.mem_cons.1 hx with rfl | hx
  ·decide
  ·have:=dec_digit _ x hx
   omega
theorem parse_append:∀ (a b:List UInt8) (acc:Nat),Lib.parseUint10 acc (a++b)=(match Lib.parseUint10 acc a with
 | .ok m=>Lib.parseUint10 m b
 | .syntax=>.syntax
 | .range=>.range)
 | [],b,acc=>rfl
 | c :: a,b,acc=>by
  rw [List.cons_append,Lib.parseUint10,Lib.parseUint10]
  split
  ·split
   ·rfl
   ·split
    ·rfl
    ·exact parse_append a b _
  ·rfl
theorem parse_dec (u:Nat) (h:u < 18446744073709551616):Lib.parseUint10 0 (Lib.decDigits u)=.ok u:=by
 induction u using Nat.strongRecOn with
 | ind u ih =>
  have step:∀ (m d:Nat),d < 10→m*10+d < 18446744073709551616→Lib.parseUint10 m [UInt8.ofNat (48+d)]=.ok (m*10+d):=fun m d hd hm=>by
   rw [Lib.parseUint10,show (UInt8.ofNat (48+d)).toNat=48+d by simp [UInt8.toNat_ofNat'];omega,if_pos (by omega),if_neg (by omega),if_neg (by omega),Lib.parseUint10]
   congr 1
   omega
  rw [Lib.decDigits]
  by_cases h10:u < 10
  ·rw [dif_pos h10,step 0 u h10 (by omega)]
   congr 1
   omega
  ·rw [dif_neg h10,parse_append,ih (u / 10) (by omega) (by omega)]
   simp only
   rw [step (u / 10) (u % 10) (by omega) (by omega)]
   congr 1
   omega
theorem decDigits_head (u:Nat):∃ c r,Lib.decDigits u=c :: r∧48≤c.toNat∧c.toNat≤57:=by
 cases hd:Lib.decDigits u with
 | nil=>have:=Lib.decDigits_length u;rw [hd] at this;have:=Lib.nDigits_pos u;simp at *;omega
 | cons c r =>
  have:=dec_digit u (c.toNat:Int) (by unfold dec;rw [hd];simp)
  exact ⟨c,r,rfl,by omega,by omega⟩
theorem atoi_itoa {v:Int} (h0 : -9223372036854775808≤v) (h1:v≤9223372036854775807):Lib.atoiAll (Lib.itoa v)=.ok v:=by
 unfold Lib.itoa
 by_cases hv:v < 0
 ·rw [if_pos hv,Lib.atoiAll_minus,Lib.parseMag]
  obtain ⟨c,r,e,_,_⟩:=decDigits_head v.natAbs
  rw [if_neg (by rw [e];simp),parse_dec _ (by omega),Lib.signed,if_neg (by omega)]
  congr 1
  omega
 ·rw [if_neg hv]
  obtain ⟨c,r,e,h2,h3⟩:=decDigits_head v.toNat
  rw [e,Lib.atoiAll_plain c r (by omega) (by omega),← e,Lib.parseMag,if_neg (by rw [e];simp),parse_dec _ (by omega),Lib.signless,if_neg (by omega)]
  congr 1
  omega
theorem unnum_num {v:Int} (h0 : -9223372036854775808≤v) (h1:v≤9223372036854775807):digits_Unnum.of (strOfNums (num v))=(v,true):=by
 rw [← num_str]
 unfold digits_Unnum.of
 rw [show (⟨(Lib.itoa v).toArray⟩:ByteArray).data.toList=Lib.itoa v from rfl,atoi_itoa h0 h1]
 simp
def joinI:List (List Int)→List Int
 | []=>[]
 | [x]=>x
 | x :: y :: r=>x++46 :: joinI (y :: r)
theorem joinI_cons (x:List Int) {r:List (List Int)} (h:r≠[]):joinI (x :: r)=x++46 :: joinI r:=by
 cases r with
 | nil=>exact absurd rfl h
 | cons y r=>rw [joinI]
theorem joinI_len (m:Nat):∀ (xs:List (List Int)),(∀ x∈xs,x.length≤m)→(joinI xs).length≤(m+1)*xs.length
 | [],_=>by simp [joinI]
 | [x],h=>by have:=h x (by simp);simp [joinI];omega
 | x :: y :: r,h=>by
  have h1:=h x (by simp)
  have h2:=joinI_len m (y :: r) (fun z hz=>h z (List.mem_cons_of_mem _ hz))
  rw [joinI,List.length_append,List.length_cons,List.length_cons (a:=x),Nat.mul_succ]
  omega
theorem lib_join:∀ (xs:List (List Int)),(⟨(Lib.join (xs.map fun x=>(strOfNums x).data.toList) [46]).toArray⟩:ByteArray)=strOfNums (joinI xs)
 | []=>rfl
 | [x]=>by
  rw [List.map_cons,List.map_nil,Lib.join_one,joinI]
 | x :: y :: r=>by
  have ih:=lib_join (y :: r)
  have e:Lib.join ((x :: y :: r).map fun x=>(strOfNums x).data.toList) [46]=(strOfNums x).data.toList++[46]++Lib.join ((y :: r).map fun x=>(strOfNums x).data.toList) [46]:=by
   unfold Lib.join List.intercalate
   simp only [List.map_cons,List.intersperse_cons_cons,List.flatten_cons,List.append_assoc]
  rw [e,joinI,show x++46 :: joinI (y :: r)=(x++[46])++joinI (y :: r) by simp,← str_append,← str_append,← ih]
  apply ByteArray.ext
  apply Array.toList_inj.1
  rw [str_data_append,str_data_append]
  rfl
theorem oid_text_loop (arcs:List Int) (hb:∀ x∈arcs,0≤x∧x≤2147483647) (hs:arcs.length≤20) (d:Nat):∀ i:Nat,i≤arcs.length→arcs.length - i=d →
 Ev (fun k=>oid_Text.l0 k ((arcs.take i).map (fun x=>strOfNums (num x))++List.replicate (arcs.length - i) (⟨#[]⟩:ByteArray)) arcs (arcs.length:Int) (i:Int)) (strOfNums (joinI (arcs.map num))):=by
 induction d with
 | zero =>
  intro i hi hd
  refine Ev.step (fun k=>by rw [oid_Text.l0]) ?_
  refine Ev.ifn (by omega) ?_
  rw [List.take_of_length_le (by omega),hd,List.replicate_zero,List.append_nil]
  have hl:=joinI_len 20 (arcs.map num) (fun x hx=>by
   obtain ⟨v,hv,rfl⟩:=List.mem_map.1 hx
   have:=hb v hv
   exact (num_len v (by omega) (by omega)).1)
  rw [List.length_map] at hl
  have hj:=lib_join (arcs.map num)
  rw [List.map_map] at hj
  have hsz:=congrArg ByteArray.size hj
  rw [strOfNums_size] at hsz
  have e:strings_Join.f (arcs.map fun x=>strOfNums (num x)) (⟨#[46]⟩:ByteArray)=some (strOfNums (joinI (arcs.map num))):=by
   unfold strings_Join.f
   rw [List.map_map,if_pos (by simp;omega),if_pos,← hj]
   ·rfl
   ·have h2:(⟨(Lib.join (arcs.map ((fun x=>(strOfNums x).data.toList) ∘ num)) [46]).toArray⟩:ByteArray).size=(Lib.join (arcs.map ((fun x=>(strOfNums x).data.toList) ∘ num)) [46]).length:=by
     show (Lib.join (arcs.map ((fun x=>(strOfNums x).data.toList) ∘ num)) [46]).toArray.size=_
     simp
    rw [h2] at hsz
    show (Lib.join (arcs.map ((fun x=>(strOfNums x).data.toList) ∘ num)) [46]).length≤_
    omega
  exact Ev.bindc e (Ev.now _)
 | succ d ih =>
  intro i hi hd
  have hlt:i < arcs.length:=by omega
  have hv:=hb arcs[i] (List.getElem_mem hlt)
  refine Ev.step (fun k=>by rw [oid_Text.l0]) ?_
  rw [rd_get i hlt,w64 (x:=(i:Int)+1) (by omega) (by omega)]
  have e:digits_Num.f arcs[i]=some (strOfNums (num arcs[i])):=by
   unfold digits_Num.f strconv_Itoa.f
   rw [if_pos ⟨by omega,by omega⟩,Option.bind_some,num_str]
  refine Ev.ifp (by omega) (Ev.ifp (by omega) (Ev.ifp (by omega) (Ev.bindc e (Ev.ifp (by simp;omega) ?_))))
  have:=ih (i+1) (by omega) (by omega)
  refine Ev.congr (fun k=>?_) this
  congr 1
  rw [Int.toNat_natCast,List.set_append_right _ _ (by simp;omega),List.length_map,List.length_take,Nat.min_eq_left (by omega),Nat.sub_self]
  obtain ⟨m,hm⟩:∃ m,arcs.length - i=m+1:=⟨arcs.length - i - 1,by omega⟩
  rw [hm,List.replicate_succ,List.set_cons_zero,show arcs.length - (i+1)=m by omega,List.take_succ_eq_append_getElem hlt,List.map_append,List.map_cons,List.map_nil,List.append_assoc]
  rfl
theorem right_bd {arcs:List Int} (h:rightA arcs=true):arcs.length≤20∧2≤arcs.length∧∀ x∈arcs,0≤x∧x≤2147483647:=by
 obtain ⟨a,b,r,rfl,h18,ha0,ha2,hb0,hb1,hb2,hall⟩:=right_parts h
 refine ⟨by simp;omega,by simp,fun x hx=>?_⟩
 rcases List.mem_cons.1 hx with rfl | hx
 ·omega
 ·rcases List.mem_cons.1 hx with rfl | hx
  ·omega
  ·exact hall x hx
theorem oid_text_is (arcs:List Int) (hs:arcs.length≤1000000):Ev (fun k=>oid_Text.f k arcs) (if rightA arcs=true then strOfNums (joinI (arcs.map num)) else ⟨#[]⟩):=by
 refine Ev.congr (fun k=>by rw [oid_Text.f]) ?_
 refine Ev.bind (oid_right_is arcs hs) ?_
 by_cases hr:rightA arcs=true
 ·rw [if_pos hr]
  have hb:=right_bd hr
  refine Ev.ifp hr (Ev.ifp (by omega) (Ev.ifp (by rw [Int.toNat_natCast];omega) ?_))
  have:=oid_text_loop arcs hb.2.2 hb.1 _ 0 (by omega) rfl
  simpa using this
 ·rw [if_neg hr]
  exact Ev.ifn hr (Ev.now _)
def unn (p:List Int):Int × Bool:=digits_Unnum.of (strOfNums p)
def dotsI:List Int→List (List Int)
 | []=>[[]]
 | b :: r=>if b=46 then [] :: dotsI r else match dotsI r with
  | []=>[[b]]
  | p :: ps=>(b :: p) :: ps
def ownP (ps:List (List Int)):List Int × Bool:=if (ps.all fun p=>(unn p).2)=true then (if rightA (ps.map fun p=>(unn p).1)=true then (ps.map fun p=>(unn p).1,true) else ([],false)) else ([],false)
theorem dotsI_glue:∀ (p r:List Int),(∀ x∈p,x≠46)→dotsI (p++46 :: r)=p :: dotsI r
 | [],r,_=>by rw [List.nil_append,dotsI,if_pos rfl]
 | b :: p,r,h=>by rw [List.cons_append,dotsI,if_neg (h b (by simp)),dotsI_glue p r (fun x hx=>h x (List.mem_cons_of_mem _ hx))]
theorem dotsI_one:∀ (p:List Int),(∀ x∈p,x≠46)→dotsI p=[p]
 | [],_=>rfl
 | b :: p,h=>by rw [dotsI,if_neg (h b (by simp)),dotsI_one p (fun x hx=>h x (List.mem_cons_of_mem _ hx))]
theorem dotsI_joinI:∀ (ps:List (List Int)),ps≠[]→(∀ p∈ps,∀ x∈p,x≠46)→dotsI (joinI ps)=ps
 | [],h,_=>absurd rfl h
 | [p],_,h=>dotsI_one p (h p (by simp))
 | p :: q :: r,_,h=>by
  rw [joinI_cons p (by simp),dotsI_glue p _ (h p (by simp)),dotsI_joinI (q :: r) (by simp) (fun z hz=>h z (List.mem_cons_of_mem _ hz))]
theorem ownP_text {a:List Int} (h:rightA a=true):ownP (dotsI (joinI (a.map num)))=(a,true):=by
 have hb:=right_bd h
 rw [dotsI_joinI _ (by intro e;rw [List.map_eq_nil_iff] at e;subst e;simp at hb) (fun p hp=>by obtain ⟨v,_,rfl⟩:=List.mem_map.1 hp;exact num_no46 v)]
 have e:∀ x∈a,unn (num x)=(x,true):=fun x hx=>by
  have:=hb.2.2 x hx
  exact unnum_num (by omega) (by omega)
 have e1:(a.map num).map (fun p=>(unn p).1)=a:=by
  rw [List.map_map]
  conv=>rhs;rw [← List.map_id a]
  exact List.map_congr_left (fun x hx=>by simp [e x hx])
 unfold ownP
 rw [if_pos,e1,if_pos h]
 rw [List.all_map,List.all_eq_true]
 intro x hx
 simp [e x hx]
theorem joinN_ok (a:List Int):OkB (joinI (a.map num)):=by
 induction a with
 | nil=>exact OkB.nil
 | cons v r ih =>
  cases r with
  | nil=>exact num_ok v
  | cons w r=>rw [List.map_cons,joinI_cons _ (by simp)];exact (num_ok v).append (OkB.cons (by decide) (by decide) ih)
def okBits (b:Int) (m:List Int):Bool:=decide (0≤b∧b≤7∧(m=[]→b=0)∧m.getLastD 0 % 2 ^ b.toNat=0)
def unb:List Int→ByteArray × Int × Bool
 | []=>(⟨#[]⟩,0,false)
 | b :: m=>if okBits b m=true then (strOfNums m,b,true) else (⟨#[]⟩,0,false)
theorem mask_all:((List.range 8).all fun b=>(List.range 256).all fun x=>decide (Go.bits .and .u8 (x:Int) (((shl .u8 1 (b:Int)) - 1) % 256)=0) == decide ((x:Int) % 2 ^ b=0))=true:=by kernel_rfl
theorem mask_is {b x:Int} (hb0:0≤b) (hb:b≤7) (hx0:0≤x) (hx:x < 256):Go.bits .and .u8 x (((shl .u8 1 b) - 1) % 256)=0↔x % 2 ^ b.toNat=0:=by
 have h:=List.all_eq_true.1 (List.all_eq_true.1 mask_all b.toNat (List.mem_range.2 (by omega))) x.toNat (List.mem_range.2 (by omega))
 rw [Int.toNat_of_nonneg hb0,Int.toNat_of_nonneg hx0] at h
 exact decide_eq_decide.1 (eq_of_beq h)
theorem unb_j0_no (a:ByteArray):Ev (fun k=>strs_Unbits.j0 k a true) (⟨#[]⟩,0,false):=by
 refine Ev.step (fun k=>by rw [strs_Unbits.j0]) ?_
 exact Ev.ifp rfl (Ev.now _)
theorem unb_j0 (b:Int) (m:List Int) (hl:OkB (b :: m)) (hs:m.length≤140737488355328) (hb:b≤7) (hm:m=[]→b=0):Ev (fun k=>strs_Unbits.j0 k (strOfNums (b :: m)) false) (unb (b :: m)):=by
 have hbd:=hl.head
 refine Ev.step (fun k=>by rw [strs_Unbits.j0]) ?_
 refine Ev.ifn (by simp) ?_
 rw [show wrap64 (((strOfNums (b :: m)).size:Int) - 1)=(m.length:Int) from by rw [nums_size,w64 (by simp) (by simp<;>omega)];simp]
 rw [show bt (strOfNums (b :: m)) 0=b from nums_bt hl 0 (by simp),nums_sizeI]
 refine Ev.ifp (by omega) ?_
 refine Ev.ifp (by simp<;>omega) ?_
 refine Ev.ifp (by simp<;>omega) ?_
 refine Ev.ifp hbd.1 ?_
 have hx:(strOfNums (b :: m)).extract 1 (strOfNums (b :: m)).size=strOfNums m:=by
  rw [str_extract,nums_size]
  simp
 rw [hx,w64 (x:=b) (by omega) (by omega)]
 by_cases h:m=[]
 ·subst h
  obtain rfl:=hm rfl
  rw [show bt (strOfNums [0]) (([]:List Int).length:Int)=0 from nums_bt hl 0 (by simp)]
  refine Ev.ifp ((mask_is (by decide) (by decide) (by decide) (by decide)).2 (by decide)) ?_
  refine Ev.ifp (by simp) ?_
  exact (Ev.now _).eq (by simp [unb,okBits])
 ·obtain ⟨i,x,rfl⟩:∃ i x,m=i++[x]:=⟨m.dropLast,m.getLast h,(List.dropLast_concat_getLast h).symm⟩
  have hxo:=hl x (by simp)
  have hg:bt (strOfNums (b :: (i++[x]))) ((i++[x]).length:Int)=x:=by
   rw [nums_bt hl (i++[x]).length (by simp)]
   simp
  rw [hg]
  by_cases hz:x % 2 ^ b.toNat=0
  ·refine Ev.ifp ((mask_is hbd.1 hb hxo.1 hxo.2).2 hz) ?_
   refine Ev.ifp (by simp<;>omega) ?_
   refine (Ev.now _).eq ?_
   rw [unb,if_pos]
   simp [okBits,hbd.1,hb,hz]
  ·refine Ev.ifn (fun e=>hz ((mask_is hbd.1 hb hxo.1 hxo.2).1 e)) ?_
   refine Ev.ifp (by simp<;>omega) ?_
   refine (Ev.now _).eq ?_
   rw [unb,if_neg]
   simp [okBits,hz]
theorem unbits_is (l:List Int) (hl:OkB l) (hs:l.length≤140737488355328):Ev (fun k=>strs_Unbits.f k (strOfNums l)) (unb l):=by
 refine Ev.congr (fun k=>by rw [strs_Unbits.f]) ?_
 cases l with
 | nil=>exact Ev.ifp ((nums_toList_nil _).2 rfl) (unb_j0_no _)
 | cons b m =>
  have hbd:=hl.head
  refine Ev.ifn (fun e=>by have:=(nums_toList_nil _).1 e;cases this) ?_
  refine Ev.ifp (by rw [nums_sizeI];simp<;>omega) ?_
  rw [show bt (strOfNums (b :: m)) 0=b from nums_bt hl 0 (by simp)]
  simp only [List.length_cons] at hs
  by_cases h7:b > 7
  ·refine Ev.ifp h7 ?_
   refine (unb_j0_no _).eq ?_
   rw [unb,if_neg]
   simp only [okBits,decide_eq_true_eq]
   omega
  refine Ev.ifn h7 ?_
  by_cases h0:b > 0
  ·refine Ev.ifp h0 ?_
   by_cases hm:m=[]
   ·subst hm
    rw [show (((strOfNums [b]).size:Int) == 1)=true from by rw [nums_sizeI];rfl]
    refine (unb_j0_no _).eq ?_
    rw [unb,if_neg]
    intro hh
    have hh:=of_decide_eq_true hh
    have:=hh.2.2.1 rfl
    omega
   ·rw [show (((strOfNums (b :: m)).size:Int) == 1)=false from by
     rw [nums_sizeI]
     have:m.length≠0:=fun e=>hm (List.eq_nil_of_length_eq_zero e)
     exact beq_eq_false_iff_ne.2 (by simp<;>omega)]
    exact unb_j0 b m hl (by omega) (by omega) (fun e=>absurd e hm)
  ·refine Ev.ifn h0 ?_
   exact unb_j0 b m hl (by omega) (by omega) (fun _=>by omega)
def bitsN (m:List Int) (a:Int):ByteArray × Bool:=if okBits a m=true then (strOfNums (a :: m),true) else (⟨#[]⟩,false)
def ptN (n b0 b1 b2 b3:Nat):Nat :=
 if b0 < 128 then 1
 else if 192≤b0∧b0 < 224 then (if 2≤n∧128≤b1∧b1≤191∧128≤(b0 - 192)*64+(b1 - 128) then 2 else 0)
 else if 224≤b0∧b0 < 240 then (if 3≤n∧128≤b1∧b1≤191∧128≤b2∧b2≤191∧2048≤((b0 - 224)*64+(b1 - 128))*64+(b2 - 128)∧¬ (55295 < ((b0 - 224)*64+(b1 - 128))*64+(b2 - 128)∧((b0 - 224)*64+(b1 - 128))*64+(b2 - 128) < 57344) then 3 else 0)
 else if 240≤b0∧b0 < 248 then (if 4≤n∧128≤b1∧b1≤191∧128≤b2∧b2≤191∧128≤b3∧b3≤191∧65536≤(((b0 - 240)*64+(b1 - 128))*64+(b2 - 128))*64+(b3 - 128)∧(((b0 - 240)*64+(b1 - 128))*64+(b2 - 128))*64+(b3 - 128)≤1114111 then 4 else 0)
 else 0
theorem decode_pt (n b0 b1 b2 b3:Nat) (h0:b0 < 256) (h1:b1 < 256) (h2:b2 < 256) (h3:b3 < 256) :
 if ptN n b0 b1 b2 b3=0 then Lib.decodeN n b0 b1 b2 b3=(65533,1) else ((Lib.decodeN n b0 b1 b2 b3).2=ptN n b0 b1 b2 b3∧¬ ((Lib.decodeN n b0 b1 b2 b3).1=65533∧(Lib.decodeN n b0 b1 b2 b3).2=1)):=by
 unfold Lib.decodeN ptN
 by_cases c0:b0 < 128
 ·simp [c0]
  omega
 by_cases c1:b0 < 192
 ·have e1:¬ (b0 / 32=6):=by omega
  have e2:¬ (b0 / 16=14):=by omega
  have e3:¬ (b0 / 8=30):=by omega
  have f1:¬ (192≤b0∧b0 < 224):=by omega
  have f2:¬ (224≤b0∧b0 < 240):=by omega
  have f3:¬ (240≤b0∧b0 < 248):=by omega
  simp [c0,e1,e2,e3,f1,f2,f3]
 by_cases c2:b0 < 224
 ·have e1:b0 / 32=6:=by omega
  have e2:¬ (b0 / 16=14):=by omega
  have e3:¬ (b0 / 8=30):=by omega
  have f1:192≤b0∧b0 < 224:=by omega
  simp only [c0,e1,e2,e3,f1,if_false,true_and,false_and,if_true,and_self]
  repeat' split
  all_goals first | omega | (simp<;>omega) | simp
 by_cases c3:b0 < 240
 ·have e1:¬ (b0 / 32=6):=by omega
  have e2:b0 / 16=14:=by omega
  have e3:¬ (b0 / 8=30):=by omega
  have f1:¬ (192≤b0∧b0 < 224):=by omega
  have f2:224≤b0∧b0 < 240:=by omega
  simp only [c0,e1,e2,e3,f1,f2,if_false,true_and,false_and,if_true,and_self]
  repeat' split
  all_goals first | omega | (simp<;>omega) | simp
 by_cases c4:b0 < 248
 ·have e1:¬ (b0 / 32=6):=by omega
  have e2:¬ (b0 / 16=14):=by omega
  have e3:b0 / 8=30:=by omega
  have f1:¬ (192≤b0∧b0 < 224):=by omega
  have f2:¬ (224≤b0∧b0 < 240):=by omega
  have f3:240≤b0∧b0 < 248:=by omega
  simp only [c0,e1,e2,e3,f1,f2,f3,if_false,true_and,false_and,if_true,and_self]
  repeat' split
  all_goals first | omega | (simp<;>omega) | simp
 ·have e1:¬ (b0 / 32=6):=by omega
  have e2:¬ (b0 / 16=14):=by omega
  have e3:¬ (b0 / 8=30):=by omega
  have f1:¬ (192≤b0∧b0 < 224):=by omega
  have f2:¬ (224≤b0∧b0 < 240):=by omega
  have f3:¬ (240≤b0∧b0 < 248):=by omega
  simp [c0,e1,e2,e3,f1,f2,f3]
def ptL (l:List UInt8):Nat:=ptN l.length (l.getD 0 0).toNat (l.getD 1 0).toNat (l.getD 2 0).toNat (l.getD 3 0).toNat
theorem u8_lt (x:UInt8):x.toNat < 256:=x.toNat_lt
theorem decode_ptL (l:List UInt8):if ptL l=0 then Lib.decodeL l=(65533,1) else ((Lib.decodeL l).2=ptL l∧¬ ((Lib.decodeL l).1=65533∧(Lib.decodeL l).2=1)):=by
 rw [Lib.decodeL_N]
 exact decode_pt _ _ _ _ _ (u8_lt _) (u8_lt _) (u8_lt _) (u8_lt _)
theorem ptL_le (l:List UInt8) (h:l≠[]):ptL l≤l.length:=by
 have h0:1≤l.length:=by cases l with | nil=>exact absurd rfl h | cons=>simp
 unfold ptL ptN
 repeat' split
 all_goals omega
theorem valid_step (n:Nat) (l:List UInt8):Lib.validGoD (n+1) l=if l=[] then true else if ptL l=0 then false else Lib.validGoD n (l.drop (ptL l)):=by
 have h:=decode_ptL l
 rw [Lib.validGoD]
 by_cases hn:l=[]
 ·rw [if_pos hn,if_pos hn]
 ·rw [if_neg hn,if_neg hn]
  by_cases hp:ptL l=0
  ·rw [if_pos hp] at h
   rw [if_pos hp,h]
   rfl
  ·rw [if_neg hp] at h
   rw [if_neg hp,if_neg h.2,h.1]
def allP:List UInt8:=[65,66,67,68,69,70,71,72,73,74,75,76,77,78,79,80,81,82,83,84,85,86,87,88,89,90,97,98,99,100,101,102,103,104,105,106,107,108,109,110,111,112,113,114,115,116,117,118,119,120,121,122,48,49,50,51,52,53,54,55,56,57,32,39,40,41,43,44,45,46,47,58,61,63]
def prB (b:UInt8):Bool:=allP.contains b
def noneR (x:Nat):Bool:=!(decide (x < 128) && prB (UInt8.ofNat x))
theorem prB_high:((List.range 256).all fun x=>decide (x < 128) || !prB (UInt8.ofNat x))=true:=by kernel_rfl
theorem none_all (k:Nat):((List.range 128).all fun x=>strs_Printable_1.f (k+8) (x:Int) == some (noneR x))=true:=by kernel_rfl
theorem index_far:∀ (l:List UInt8) (c:UInt8),(∀ b∈l,b.toNat < 128)→128≤c.toNat→Lib.indexByte l c = -1
 | [],_,_,_=>rfl
 | b :: l,c,h,hc=>by
  have hb:=h b (by simp)
  have e:(b == c)=false:=beq_eq_false_iff_ne.2 (fun e=>by subst e;omega)
  have ih:=index_far l c (fun x hx=>h x (List.mem_cons_of_mem _ hx)) hc
  simp [Lib.indexByte,e,ih]
theorem bt_others:((List.range 12).all fun i=>decide (bt (⟨#[32,39,40,41,43,44,45,46,47,58,61,63]⟩:ByteArray) (i:Int) < 128))=true:=by kernel_rfl
theorem index_none (x:Int) (h:128≤x):Ev (fun k=>strings_IndexRune.f k (⟨#[32,39,40,41,43,44,45,46,47,58,61,63]⟩:ByteArray) x) (-1):=by
 refine Ev.congr (fun k=>by rw [strings_IndexRune.f]) ?_
 refine Ev.ifp (by omega) ?_
 rw [decide_eq_false (by omega:¬ x < 128)]
 refine Ev.step (fun k=>by rw [strings_IndexRune.j0]) ?_
 refine Ev.ifn (by decide) ?_
 by_cases e:x=65533
 ·exact Ev.ifp e (Ev.from_ 14 fun k=>by kernel_rfl)
 refine Ev.ifn e ?_
 have hval:∃ b,Ev (fun k=>utf8_ValidRune.f k x) b∧(b=true→Utf8.valid x=true):=by
  by_cases h1:x < 55296
  ·refine ⟨true,Ev.congr (fun k=>by rw [utf8_ValidRune.f,if_pos (by omega),decide_eq_true h1]) (Ev.step (fun k=>by rw [utf8_ValidRune.j0]) (Ev.ifp rfl (Ev.now _))),fun _=>?_⟩
   simp only [Utf8.valid,Bool.or_eq_true,Bool.and_eq_true,decide_eq_true_eq]
   omega
  ·by_cases h2:57343 < x
   ·by_cases h3:x≤1114111
    ·refine ⟨true,Ev.congr (fun k=>by rw [utf8_ValidRune.f,if_pos (by omega),decide_eq_false h1]) (Ev.step (fun k=>by rw [utf8_ValidRune.j0]) (Ev.ifn (by decide) (Ev.ifp h2 (Ev.ifp h3 (Ev.now _))))),fun _=>?_⟩
     simp only [Utf8.valid,Bool.or_eq_true,Bool.and_eq_true,decide_eq_true_eq]
     omega
    ·exact ⟨false,Ev.congr (fun k=>by rw [utf8_ValidRune.f,if_pos (by omega),decide_eq_false h1]) (Ev.step (fun k=>by rw [utf8_ValidRune.j0]) (Ev.ifn (by decide) (Ev.ifp h2 (Ev.ifn h3 (Ev.now _))))),fun h=>by cases h⟩
   ·exact ⟨false,Ev.congr (fun k=>by rw [utf8_ValidRune.f,if_pos (by omega),decide_eq_false h1]) (Ev.step (fun k=>by rw [utf8_ValidRune.j0]) (Ev.ifn (by decide) (Ev.ifn h2 (Ev.now _)))),fun h=>by cases h⟩
 obtain ⟨b,hb,hv⟩:=hval
 refine Ev.bind hb ?_
 cases b with
 | false=>exact Ev.ifn (by decide) (Ev.now _)
 | true =>
  refine Ev.ifp rfl ?_
  obtain ⟨h2,h4,hl⟩:=encode_facts x (hv rfl) h
  generalize Utf8.encode x=s at h2 h4 hl
  have hlast:=hl (by omega)
  rw [w64 (x:=(s.size:Int) - 1) (by omega) (by omega)]
  have hbt:bt s ((s.size:Int) - 1)=((s[s.size - 1]'(by omega)).toNat:Int):=by
   unfold bt
   have e:((s.size:Int) - 1).toNat=s.size - 1:=by omega
   simp only [e]
   rw [dif_pos (by omega)]
  have ho:bt (⟨#[32,39,40,41,43,44,45,46,47,58,61,63]⟩:ByteArray) ((s.size:Int) - 1) < 128:=by
   have:=List.all_eq_true.1 bt_others (s.size - 1) (List.mem_range.2 (by omega))
   rw [show (((s.size - 1:Nat)):Int)=(s.size:Int) - 1 by omega] at this
   exact of_decide_eq_true this
  have hsz:((⟨#[32,39,40,41,43,44,45,46,47,58,61,63]⟩:ByteArray).size:Int)=12:=rfl
  refine Ev.step (fun k=>by rw [strings_IndexRune.l1]) ?_
  refine Ev.ifp (by omega) (Ev.ifp (by omega) (Ev.ifp (by omega) (Ev.ifp (by omega) (Ev.ifn (by omega) ?_))))
  rw [w64 (x:=(s.size:Int) - 1+1) (by omega) (by omega)]
  refine Ev.ifp (by omega) (Ev.ifp (by omega) ?_)
  refine Ev.bindc (a:=-1) ?_ (Ev.ifp (by decide) (Ev.now _))
  unfold strings_IndexByte.f
  congr 1
  refine index_far _ _ ?_ ?_
  ·intro b hb
   rw [Lib.extract_data] at hb
   have hb:=List.mem_of_mem_drop (List.mem_of_mem_take hb)
   have hall:∀ b∈(⟨#[32,39,40,41,43,44,45,46,47,58,61,63]⟩:ByteArray).data.toList,b.toNat < 128:=by decide
   exact hall b hb
  ·rw [hbt]
   simpa using hlast
theorem none_is (x:Nat):Ev (fun k=>strs_Printable_1.f k (x:Int)) (noneR x):=by
 by_cases h:x < 128
 ·refine Ev.from_ 8 fun k=>?_
  exact eq_of_beq (List.all_eq_true.1 (none_all k) x (List.mem_range.2 h))
 ·have hn:noneR x=true:=by unfold noneR;rw [decide_eq_false h];rfl
  rw [hn]
  refine Ev.congr (fun k=>by rw [strs_Printable_1.f]) ?_
  refine Ev.ifp (by omega) ?_
  rw [decide_eq_false (by omega:¬ (x:Int)≤90)]
  refine Ev.step (fun k=>by rw [strs_Printable_1.j0]) ?_
  refine Ev.ifn (by decide) (Ev.ifp (by omega) ?_)
  rw [decide_eq_false (by omega:¬ (x:Int)≤122)]
  refine Ev.step (fun k=>by rw [strs_Printable_1.j1]) ?_
  refine Ev.ifn (by decide) (Ev.ifp (by omega) (Ev.ifn (by omega) ?_))
  refine Ev.bind (a:=false) (Ev.congr (fun k=>by rw [strings_ContainsRune.f]) (Ev.bind (index_none x (by omega)) (Ev.now _))) (Ev.now _)
theorem decodeN_high (n b0 b1 b2 b3:Nat) (h:128≤b0):128≤(Lib.decodeN n b0 b1 b2 b3).1:=by
 unfold Lib.decodeN
 repeat' split
 all_goals first | omega | (simp<;>omega)
theorem pr_loop (h:Int→Option Bool) (s:ByteArray) (hh:∀ pos,pos < s.size→h ((Utf8.decode s pos).1:Int)=some (noneR (Utf8.decode s pos).1)):∀ (f pos:Nat),s.size - pos≤f →
 ∃ r,Ev (fun k=>strings_indexFunc.l0 k h true s pos) r∧decide (r≥0) = !(s.data.toList.drop pos).all prB:=by
 intro f
 have hlen:s.data.toList.length=s.size:=Array.length_toList
 have stop:∀ pos,¬ pos < s.size→∃ r,Ev (fun k=>strings_indexFunc.l0 k h true s pos) r∧decide (r≥0) = !(s.data.toList.drop pos).all prB:=by
  intro pos hp
  refine ⟨-1,Ev.step (fun k=>by rw [strings_indexFunc.l0]) (Ev.ifn hp (Ev.now _)),?_⟩
  rw [List.drop_eq_nil_of_le (by omega)]
  rfl
 induction f with
 | zero=>intro pos hp;exact stop pos (by omega)
 | succ f ih =>
  intro pos hd
  by_cases hp:pos < s.size
  case neg=>exact stop pos hp
  have hlt:pos < s.data.toList.length:=by omega
  have hdr:s.data.toList.drop pos=s.data.toList[pos] :: s.data.toList.drop (pos+1):=List.drop_eq_getElem_cons hlt
  have hb:(s.data.toList[pos]).toNat < 256:=u8_lt _
  have hdec:(s.data.toList[pos]).toNat < 128∧Utf8.decode s pos=((s.data.toList[pos]).toNat,1)∨128≤(s.data.toList[pos]).toNat∧128≤(Utf8.decode s pos).1:=by
   rw [← Lib.decodeL_drop,hdr,Lib.decodeL_N]
   simp only [List.getD_cons_zero]
   by_cases h128:(s.data.toList[pos]).toNat < 128
   ·rw [Lib.decodeN_ascii _ _ _ _ _ h128]
    exact .inl ⟨h128,rfl⟩
   ·exact .inr ⟨by omega,decodeN_high _ _ _ _ _ (by omega)⟩
  have key:∀ b,noneR (Utf8.decode s pos).1=b→(b=false→(Utf8.decode s pos).2=1)→prB s.data.toList[pos] = !b→∃ r,Ev (fun k=>strings_indexFunc.l0 k h true s pos) r∧decide (r≥0) = !(s.data.toList.drop pos).all prB:=by
   intro b hn h1 hpb
   rw [hdr,List.all_cons,hpb]
   cases b with
   | true =>
    refine ⟨(pos:Int),Ev.step (fun k=>by rw [strings_indexFunc.l0]) (Ev.ifp hp (Ev.bindc ((hh pos hp).trans (congrArg some hn)) (Ev.ifp rfl (Ev.now _)))),?_⟩
    simp
   | false =>
    obtain ⟨r,hr,hr2⟩:=ih (pos+1) (by omega)
    refine ⟨r,Ev.step (fun k=>by rw [strings_indexFunc.l0]) (Ev.ifp hp (Ev.bindc ((hh pos hp).trans (congrArg some hn)) (Ev.ifn (c:=(false == true)=true) (by decide) ?_))),by rw [hr2];simp⟩
    rw [h1 rfl]
    exact hr
  rcases hdec with ⟨h1,h2⟩ | ⟨h1,h2⟩
  ·refine key (!prB s.data.toList[pos]) ?_ (fun _=>by rw [h2]) (by simp)
   rw [h2,noneR,decide_eq_true h1,Bool.true_and,UInt8.ofNat_toNat]
  ·refine key true ?_ (fun h=>by cases h) ?_
   ·rw [noneR,decide_eq_false (by omega)];rfl
   ·have:=List.all_eq_true.1 prB_high (s.data.toList[pos]).toNat (List.mem_range.2 hb)
    rw [UInt8.ofNat_toNat,decide_eq_false (by omega),Bool.false_or] at this
    simpa using this
theorem printable_is (a:ByteArray):Ev (fun k=>strs_Printable.f k a) (a.data.toList.all prB):=by
 obtain ⟨K,hK⟩:=Ev.all (g:=fun i k=>strs_Printable_1.f k ((Utf8.decode a i).1:Int)) (r:=fun i=>noneR (Utf8.decode a i).1) a.size fun i _=>none_is _
 obtain ⟨r,⟨L,hL⟩,hr⟩:=pr_loop (fun z0=>strs_Printable_1.f K z0) a (fun pos hp=>hK K (Nat.le_refl K) pos hp) a.size 0 (by omega)
 have hr:=hr
 rw [List.drop_zero] at hr
 have step:∀ k,K≤k→∀ n pos,a.size - pos≤n→∀ j,strings_indexFunc.l0 j (fun z0=>strs_Printable_1.f k z0) true a pos=strings_indexFunc.l0 j (fun z0=>strs_Printable_1.f K z0) true a pos:=by
  intro k hk n
  induction n with
  | zero =>
   intro pos hp j
   cases j with
   | zero=>rfl
   | succ j=>rw [strings_indexFunc.l0,strings_indexFunc.l0,if_neg (by omega),if_neg (by omega)]
  | succ n ih =>
   intro pos hp j
   cases j with
   | zero=>rfl
   | succ j =>
    rw [strings_indexFunc.l0,strings_indexFunc.l0]
    by_cases hq:pos < a.size
    ·rw [if_pos hq,if_pos hq]
     have e1:=hK k hk pos hq
     have e2:=hK K (Nat.le_refl K) pos hq
     rw [e1,e2]
     simp only [Option.bind_some]
     split
     ·rfl
     ·refine ih _ ?_ j
      have:1≤(Utf8.decode a pos).2:=by
       unfold Utf8.decode
       dsimp only
       repeat' split
       all_goals simp
      omega
    ·rw [if_neg hq,if_neg hq]
 refine ⟨max K L,fun k hk=>?_⟩
 have h0:strings_indexFunc.l0 k (fun z0=>strs_Printable_1.f K z0) true a 0=some r:=hL k (by omega)
 show (strings_ContainsFunc.f k a (fun z0=>strs_Printable_1.f k z0)).bind _=_
 unfold strings_ContainsFunc.f strings_IndexFunc.f strings_indexFunc.f
 rw [step k (by omega) a.size 0 (by omega) k,h0]
 simp only [Option.bind_some]
 rw [hr,Bool.not_not]
theorem utf_is (a:ByteArray) (h:a.size≤9223372036854775807):strs_Utf.f a=some (Lib.validD a.data.toList):=by
 unfold strs_Utf.f utf8_ValidString.f
 rw [if_pos h]
 rfl
theorem ref_put1 (a:Int) (h0:0≤a) (h7:a≤7):Ev (fun k=>cr01_Put.f k (IntKind.u64.wrap a) 1) (strOfNums [a]):=by
 rw [wu64 h0 (by omega)]
 refine (ref01_Put_eq a h0 (by omega) 1).eq ?_
 rw [if_pos (by decide)]
 congr 1
 simp only [lowB,show (1:Int).toNat=1 from rfl]
 simp<;>omega
theorem ref_bits_loop (m:List Int) (hm:OkB m) (hs:m.length < 140737488355328) (a:Nat) (h7:a≤7) (h0:m=[]→a=0) (d:Nat):∀ i:Nat,i≤a→a - i=d →
 Ev (fun k=>cr18_Bits.l0 k (strOfNums m) (a:Int) (2 ^ i) (i:Int)) (bitsN m a):=by
 have hpow:∀ i:Nat,i≤7→(0:Int) < 2 ^ i∧(2:Int) ^ i≤128:=by
  intro i hi
  rcases (by omega:i=0∨i=1∨i=2∨i=3∨i=4∨i=5∨i=6∨i=7) with rfl | rfl | rfl | rfl | rfl | rfl | rfl | rfl<;>decide
 have hput:=ref_put1 (a:Int) (by omega) (by omega)
 induction d with
 | zero =>
  intro i hi hd
  obtain rfl:i=a:=by omega
  refine Ev.step (fun k=>by rw [cr18_Bits.l0]) ?_
  refine Ev.ifn (by omega) ?_
  by_cases hn:m=[]
  ·obtain rfl:=h0 hn
   subst hn
   refine Ev.ifp ((nums_toList_nil _).2 rfl) ?_
   refine Ev.bind hput ?_
   rw [str_append,nums_size,nums_size]
   refine Ev.ifp (by simp) ?_
   exact (Ev.now _).eq (by simp [bitsN,okBits])
  ·obtain ⟨q,x,rfl⟩:∃ i x,m=i++[x]:=⟨m.dropLast,m.getLast hn,(List.dropLast_concat_getLast hn).symm⟩
   have hx:=hm x (by simp)
   have hp:=hpow i h7
   have hs2:q.length < 140737488355328:=by simp at hs;omega
   rw [show wrap64 (((strOfNums (q++[x])).size:Int) - 1)=(q.length:Int) from by rw [nums_size,w64 (by simp<;>omega) (by simp<;>omega)];simp<;>omega]
   rw [show bt (strOfNums (q++[x])) (q.length:Int)=x from by rw [nums_bt hm q.length (by simp)];simp]
   rw [w64 (x:=x) (by omega) (by omega),nums_sizeI]
   refine Ev.ifn (fun e=>hn ((nums_toList_nil _).1 e)) ?_
   refine Ev.ifp (by omega) ?_
   refine Ev.ifp (by simp<;>omega) ?_
   refine Ev.ifn (by omega) ?_
   have ht:Int.tmod x (2 ^ i)=x % 2 ^ i:=Int.tmod_eq_emod_of_nonneg hx.1
   rw [ht]
   by_cases hz:x % 2 ^ i=0
   ·refine Ev.ifp hz ?_
    refine Ev.bind hput ?_
    rw [str_append,nums_size,nums_size]
    refine Ev.ifp (by simp at hs ⊢<;>omega) ?_
    refine (Ev.now _).eq ?_
    rw [bitsN,if_pos]
    ·rfl
    ·simp [okBits,hz];omega
   ·refine Ev.ifn hz ?_
    refine (Ev.now _).eq ?_
    rw [bitsN,if_neg]
    simp [okBits,hz]
 | succ d ih =>
  intro i hi hd
  refine Ev.step (fun k=>by rw [cr18_Bits.l0]) ?_
  refine Ev.ifp (by omega) ?_
  have hp:=hpow i (by omega)
  rw [w64 (x:=2*2 ^ i) (by omega) (by omega),w64 (by omega) (by omega),show (2:Int)*2 ^ i=2 ^ (i+1) by rw [Int.pow_succ];omega]
  exact ih (i+1) (by omega) (by omega)
theorem ref_bits_is (m:List Int) (hm:OkB m) (hs:m.length < 140737488355328) (a:Int):Ev (fun k=>cr18_Bits.f k (strOfNums m) a) (bitsN m a):=by
 have hno:okBits a m=false→Ev (fun k=>cr18_Bits.j0 k (strOfNums m) a true) (bitsN m a):=by
  intro h
  refine Ev.step (fun k=>by rw [cr18_Bits.j0]) ?_
  refine Ev.ifp rfl ?_
  exact (Ev.now _).eq (by rw [bitsN,if_neg (by simp [h])])
 refine Ev.congr (fun k=>by rw [cr18_Bits.f]) ?_
 by_cases h0:a < 0
 ·exact Ev.ifp h0 (hno (decide_eq_false (by omega)))
 refine Ev.ifn h0 ?_
 by_cases h7:a > 7
 ·exact Ev.ifp h7 (hno (decide_eq_false (by omega)))
 refine Ev.ifn h7 ?_
 obtain ⟨n,rfl⟩:∃ n:Nat,a=(n:Int):=⟨a.toNat,by omega⟩
 have hgo:(m=[]→n=0)→Ev (fun k=>cr18_Bits.j0 k (strOfNums m) (n:Int) false) (bitsN m n):=by
  intro h
  refine Ev.step (fun k=>by rw [cr18_Bits.j0]) ?_
  refine Ev.ifn (by simp) ?_
  exact ref_bits_loop m hm hs n (by omega) h _ 0 (by omega) rfl
 by_cases hn:m=[]
 ·refine Ev.ifp ((nums_toList_nil _).2 hn) ?_
  by_cases hz:n=0
  ·rw [show ((n:Int) != 0)=false by subst hz;rfl]
   exact hgo (fun _=>hz)
  ·rw [show ((n:Int) != 0)=true from bne_iff_ne.2 (by omega)]
   refine hno (decide_eq_false ?_)
   rintro ⟨_,_,h,_⟩
   have:=h hn
   omega
 ·refine Ev.ifn (fun e=>hn ((nums_toList_nil _).1 e)) ?_
  exact hgo (fun e=>absurd e hn)
theorem ref_unbits_is (l:List Int) (hl:OkB l) (hs:l.length < 140737488355328):Ev (fun k=>cr18_Unbits.f k (strOfNums l)) (unb l):=by
 refine Ev.congr (fun k=>by rw [cr18_Unbits.f]) ?_
 cases l with
 | nil=>exact Ev.ifp ((nums_toList_nil _).2 rfl) (Ev.now _)
 | cons b m =>
  have hbd:=hl.head
  simp only [List.length_cons] at hs
  refine Ev.ifn (fun e=>by have:=(nums_toList_nil _).1 e;cases this) ?_
  rw [show bt (strOfNums (b :: m)) 0=b from nums_bt hl 0 (by simp),w64 (x:=b) (by omega) (by omega)]
  have hx:(strOfNums (b :: m)).extract 1 (strOfNums (b :: m)).size=strOfNums m:=by
   rw [str_extract,nums_size]
   simp
  rw [hx,nums_sizeI]
  refine Ev.ifp (by simp<;>omega) ?_
  refine Ev.ifp (by simp<;>omega) ?_
  refine Ev.bind (ref_bits_is m hl.tail (by omega) b) ?_
  by_cases hk:okBits b m=true
  ·rw [bitsN,if_pos hk,unb,if_pos hk]
   exact Ev.ifp rfl (Ev.now _)
  ·rw [bitsN,if_neg hk,unb,if_neg hk]
   exact Ev.ifn (by simp) (Ev.now _)
theorem bt_at (s:ByteArray) (i:Nat) (h:i < s.size):bt s (i:Int)=((s.data.toList.getD i 0).toNat:Int):=by
 have hl:i < s.data.toList.length:=by rw [Array.length_toList];exact h
 unfold bt
 rw [dif_pos (by simpa using h)]
 rw [List.getD_eq_getElem?_getD,List.getElem?_eq_getElem hl]
 rfl
theorem point_end (s:ByteArray) (n more least i:Int) (h:¬ i≤more) (hm:0≤more∧more≤3):Ev (fun k=>cr18_point.l0 k s n more least i) (if n < least∨n > 1114111∨(n > 55295∧n < 57344) then 0 else more+1):=by
 refine Ev.step (fun k=>by rw [cr18_point.l0]) ?_
 refine Ev.ifn h ?_
 rw [w64 (x:=more+1) (by omega) (by omega)]
 by_cases c1:n < least
 ·exact Ev.ifp c1 ((Ev.now _).eq (by rw [if_pos (Or.inl c1)]))
 refine Ev.ifn c1 ?_
 by_cases c2:n > 1114111
 ·exact Ev.ifp c2 ((Ev.now _).eq (by rw [if_pos (Or.inr (Or.inl c2))]))
 refine Ev.ifn c2 ?_
 by_cases c3:n > 55295
 ·refine Ev.ifp c3 ?_
  by_cases c4:n < 57344
  ·exact Ev.ifp c4 ((Ev.now _).eq (by rw [if_pos (Or.inr (Or.inr ⟨c3,c4⟩))]))
  ·exact Ev.ifn c4 ((Ev.now _).eq (by rw [if_neg (by omega)]))
 ·exact Ev.ifn c3 ((Ev.now _).eq (by rw [if_neg (by omega)]))
theorem point_bad (s:ByteArray) (n more least:Int) (i:Nat) (h:(i:Int)≤more) (hs:i < s.size) (hb:¬ (128≤(s.data.toList.getD i 0).toNat∧(s.data.toList.getD i 0).toNat≤191)) :
 Ev (fun k=>cr18_point.l0 k s n more least (i:Int)) 0:=by
 refine Ev.step (fun k=>by rw [cr18_point.l0]) ?_
 refine Ev.ifp h ?_
 refine Ev.ifp (by omega) ?_
 refine Ev.ifp (by omega) ?_
 rw [bt_at s i hs]
 by_cases c:((s.data.toList.getD i 0).toNat:Int) < 128
 ·exact Ev.ifp c (Ev.now _)
 ·exact Ev.ifn c (Ev.ifp (by omega) (Ev.now _))
theorem point_next (s:ByteArray) (n more least:Int) (i:Nat) (r:Int) (h:(i:Int)≤more) (hm:more≤3) (hs:i < s.size) (hb:128≤(s.data.toList.getD i 0).toNat∧(s.data.toList.getD i 0).toNat≤191) (hn:0≤n∧n≤2000000)
 (k:Ev (fun k=>cr18_point.l0 k s (64*n+((s.data.toList.getD i 0).toNat:Int) - 128) more least ((i+1:Nat):Int)) r) :
 Ev (fun k=>cr18_point.l0 k s n more least (i:Int)) r:=by
 refine Ev.step (fun k=>by rw [cr18_point.l0]) ?_
 refine Ev.ifp h ?_
 refine Ev.ifp (by omega) ?_
 refine Ev.ifp (by omega) ?_
 rw [bt_at s i hs]
 refine Ev.ifn (by omega) ?_
 refine Ev.ifn (by omega) ?_
 rw [w64 (x:=64*n) (by omega) (by omega),w64 (x:=((s.data.toList.getD i 0).toNat:Int)) (by omega) (by omega),w64 (x:=64*n+_) (by omega) (by omega),w64 (x:=64*n+_ - 128) (by omega) (by omega),w64 (x:=(i:Int)+1) (by omega) (by omega)]
 exact k
theorem point_j5 (s:ByteArray) (n more least:Int) (r:Int) (hs:s.size≤140737488355328) (h1:1≤more) (hr:(s.size:Int)≤more→r=0) (k:more < (s.size:Int)→Ev (fun k=>cr18_point.l0 k s n more least 1) r) :
 Ev (fun k=>cr18_point.j5 k s n more least) r:=by
 refine Ev.step (fun k=>by rw [cr18_point.j5]) ?_
 refine Ev.ifn (by omega) ?_
 refine Ev.step (fun k=>by rw [cr18_point.j6]) ?_
 by_cases c:(s.size:Int)≤more
 ·refine Ev.ifp (decide_eq_true c) ?_
  rw [hr c]
  exact Ev.now _
 ·refine Ev.ifn (by simp [c]) ?_
  exact k (by omega)
theorem point_none (s:ByteArray):Ev (fun k=>cr18_point.j5 k s 0 0 0) 0:=by
 refine Ev.step (fun k=>by rw [cr18_point.j5]) ?_
 refine Ev.ifp rfl ?_
 refine Ev.step (fun k=>by rw [cr18_point.j6]) ?_
 exact Ev.ifp rfl (Ev.now _)
theorem point_is (s:ByteArray) (h0:0 < s.size) (hs:s.size≤140737488355328):Ev (fun k=>cr18_point.f k s) ((ptL s.data.toList:Nat):Int):=by
 have hl:s.data.toList.length=s.size:=Array.length_toList
 unfold ptL
 rw [hl]
 have g1:=bt_at s 0 h0
 have u0:=u8_lt (s.data.toList.getD 0 0)
 have u1:=u8_lt (s.data.toList.getD 1 0)
 have u2:=u8_lt (s.data.toList.getD 2 0)
 have u3:=u8_lt (s.data.toList.getD 3 0)
 have n1:=fun n more least r=>point_next s n more least 1 r
 have n2:=fun n more least r=>point_next s n more least 2 r
 have n3:=fun n more least r=>point_next s n more least 3 r
 have d1:=fun n more least=>point_bad s n more least 1
 have d2:=fun n more least=>point_bad s n more least 2
 have d3:=fun n more least=>point_bad s n more least 3
 generalize (s.data.toList.getD 0 0).toNat=b0 at *
 generalize (s.data.toList.getD 1 0).toNat=b1 at *
 generalize (s.data.toList.getD 2 0).toNat=b2 at *
 generalize (s.data.toList.getD 3 0).toNat=b3 at *
 refine Ev.congr (fun k=>by rw [cr18_point.f]) ?_
 refine Ev.ifp (by omega) ?_
 rw [show bt s 0=(b0:Int) from g1,w64 (x:=(b0:Int)) (by omega) (by omega)]
 by_cases c0:b0 < 128
 ·refine Ev.ifp (by omega) ?_
  exact (Ev.now _).eq (by simp [ptN,c0])
 refine Ev.ifn (by omega) ?_
 have tail4:∀ n more least r,Ev (fun k=>cr18_point.j5 k s n more least) r→¬ (240≤b0∧b0 < 248)→Ev (fun k=>cr18_point.j3 k s (b0:Int) n more least) r:=by
  intro n more least r k hk
  refine Ev.step (fun k=>by rw [cr18_point.j3]) ?_
  by_cases c:(b0:Int)≥240
  ·refine Ev.ifp c ?_
   rw [decide_eq_false (by omega)]
   refine Ev.step (fun k=>by rw [cr18_point.j4]) ?_
   exact Ev.ifn (by simp) k
  ·refine Ev.ifn c ?_
   refine Ev.step (fun k=>by rw [cr18_point.j4]) ?_
   exact Ev.ifn (by simp) k
 have tail3:∀ n more least r,Ev (fun k=>cr18_point.j3 k s (b0:Int) n more least) r→¬ (224≤b0∧b0 < 240)→Ev (fun k=>cr18_point.j1 k s (b0:Int) n more least) r:=by
  intro n more least r k hk
  refine Ev.step (fun k=>by rw [cr18_point.j1]) ?_
  by_cases c:(b0:Int)≥224
  ·refine Ev.ifp c ?_
   rw [decide_eq_false (by omega)]
   refine Ev.step (fun k=>by rw [cr18_point.j2]) ?_
   exact Ev.ifn (by simp) k
  ·refine Ev.ifn c ?_
   refine Ev.step (fun k=>by rw [cr18_point.j2]) ?_
   exact Ev.ifn (by simp) k
 have tail2:∀ r,Ev (fun k=>cr18_point.j1 k s (b0:Int) 0 0 0) r→¬ (192≤b0∧b0 < 224)→Ev (fun k=>if (b0:Int)≥192 then (cr18_point.j0 k s (b0:Int) 0 0 0 (decide ((b0:Int) < 224))) else (cr18_point.j0 k s (b0:Int) 0 0 0 false)) r:=by
  intro r k hk
  by_cases c:(b0:Int)≥192
  ·refine Ev.ifp c ?_
   rw [decide_eq_false (by omega)]
   refine Ev.step (fun k=>by rw [cr18_point.j0]) ?_
   exact Ev.ifn (by simp) k
  ·refine Ev.ifn c ?_
   refine Ev.step (fun k=>by rw [cr18_point.j0]) ?_
   exact Ev.ifn (by simp) k
 by_cases c1:192≤b0∧b0 < 224
 ·refine Ev.ifp (by omega) ?_
  rw [decide_eq_true (by omega)]
  refine Ev.step (fun k=>by rw [cr18_point.j0]) ?_
  refine Ev.ifp rfl ?_
  rw [w64 (by omega) (by omega)]
  refine tail3 _ _ _ _ (tail4 _ _ _ _ ?_ (by omega)) (by omega)
  refine point_j5 s _ _ _ _ hs (by decide) (fun h=>?_) (fun h=>?_)
  ·unfold ptN;rw [if_neg c0,if_pos c1,if_neg (by omega)];rfl
  ·by_cases k1:128≤b1∧b1≤191
   ·refine n1 _ _ _ _ (by decide) (by decide) (by omega) k1 (by omega) ?_
    refine (point_end s _ _ _ _ (by decide) (by decide)).eq ?_
    unfold ptN
    rw [if_neg c0,if_pos c1]
    by_cases q:2≤s.size∧128≤b1∧b1≤191∧128≤(b0 - 192)*64+(b1 - 128)
    ·rw [if_pos q,if_neg (by omega)];rfl
    ·rw [if_neg q,if_pos (by omega)];rfl
   ·refine (d1 _ _ _ (by decide) (by omega) k1).eq ?_
    unfold ptN;rw [if_neg c0,if_pos c1,if_neg (by omega)];rfl
 by_cases c2:224≤b0∧b0 < 240
 ·refine tail2 _ ?_ (by omega)
  refine Ev.step (fun k=>by rw [cr18_point.j1]) ?_
  refine Ev.ifp (by omega) ?_
  rw [decide_eq_true (by omega)]
  refine Ev.step (fun k=>by rw [cr18_point.j2]) ?_
  refine Ev.ifp rfl ?_
  rw [w64 (by omega) (by omega)]
  refine tail4 _ _ _ _ ?_ (by omega)
  refine point_j5 s _ _ _ _ hs (by decide) (fun h=>?_) (fun h=>?_)
  ·unfold ptN;rw [if_neg c0,if_neg c1,if_pos c2,if_neg (by omega)];rfl
  ·by_cases k1:128≤b1∧b1≤191
   ·refine n1 _ _ _ _ (by decide) (by decide) (by omega) k1 (by omega) ?_
    by_cases k2:128≤b2∧b2≤191
    ·refine n2 _ _ _ _ (by decide) (by decide) (by omega) k2 (by omega) ?_
     refine (point_end s _ _ _ _ (by decide) (by decide)).eq ?_
     unfold ptN
     rw [if_neg c0,if_neg c1,if_pos c2]
     split
     ·rw [if_neg (by omega)];rfl
     ·rw [if_pos (by omega)];rfl
    ·refine (d2 _ _ _ (by decide) (by omega) k2).eq ?_
     unfold ptN;rw [if_neg c0,if_neg c1,if_pos c2,if_neg (by omega)];rfl
   ·refine (d1 _ _ _ (by decide) (by omega) k1).eq ?_
    unfold ptN;rw [if_neg c0,if_neg c1,if_pos c2,if_neg (by omega)];rfl
 by_cases c3:240≤b0∧b0 < 248
 ·refine tail2 _ ?_ (by omega)
  refine tail3 _ _ _ _ ?_ (by omega)
  refine Ev.step (fun k=>by rw [cr18_point.j3]) ?_
  refine Ev.ifp (by omega) ?_
  rw [decide_eq_true (by omega)]
  refine Ev.step (fun k=>by rw [cr18_point.j4]) ?_
  refine Ev.ifp rfl ?_
  rw [w64 (by omega) (by omega)]
  refine point_j5 s _ _ _ _ hs (by decide) (fun h=>?_) (fun h=>?_)
  ·unfold ptN;rw [if_neg c0,if_neg c1,if_neg c2,if_pos c3,if_neg (by omega)];rfl
  ·by_cases k1:128≤b1∧b1≤191
   ·refine n1 _ _ _ _ (by decide) (by decide) (by omega) k1 (by omega) ?_
    by_cases k2:128≤b2∧b2≤191
    ·refine n2 _ _ _ _ (by decide) (by decide) (by omega) k2 (by omega) ?_
     by_cases k3:128≤b3∧b3≤191
     ·refine n3 _ _ _ _ (by decide) (by decide) (by omega) k3 (by omega) ?_
      refine (point_end s _ _ _ _ (by decide) (by decide)).eq ?_
      unfold ptN
      rw [if_neg c0,if_neg c1,if_neg c2,if_pos c3]
      split
      ·rw [if_neg (by omega)];rfl
      ·rw [if_pos (by omega)];rfl
     ·refine (d3 _ _ _ (by decide) (by omega) k3).eq ?_
      unfold ptN;rw [if_neg c0,if_neg c1,if_neg c2,if_pos c3,if_neg (by omega)];rfl
    ·refine (d2 _ _ _ (by decide) (by omega) k2).eq ?_
     unfold ptN;rw [if_neg c0,if_neg c1,if_neg c2,if_pos c3,if_neg (by omega)];rfl
   ·refine (d1 _ _ _ (by decide) (by omega) k1).eq ?_
    unfold ptN;rw [if_neg c0,if_neg c1,if_neg c2,if_pos c3,if_neg (by omega)];rfl
 ·refine tail2 _ ?_ (by omega)
  refine tail3 _ _ _ _ ?_ (by omega)
  refine tail4 _ _ _ _ ?_ (by omega)
  refine (point_none s).eq ?_
  unfold ptN;rw [if_neg c0,if_neg c1,if_neg c2,if_neg c3];rfl
theorem extract_drop (s:ByteArray) (i:Nat):(s.extract i s.size).data.toList=s.data.toList.drop i:=by
 rw [ByteArray.data_extract,Array.toList_extract]
 rw [List.extract_eq_take_drop]
 refine List.take_of_length_le ?_
 rw [List.length_drop,Array.length_toList]
 exact Nat.le_refl _
theorem ref_utf_loop:∀ (n:Nat) (s:ByteArray),s.size≤n→s.size≤140737488355328→Ev (fun k=>cr18_Utf.l0 k s) (Lib.validGoD n s.data.toList):=by
 intro n
 induction n with
 | zero =>
  intro s h _
  refine Ev.step (fun k=>by rw [cr18_Utf.l0]) ?_
  exact Ev.ifn (by omega) ((Ev.now _).eq rfl)
 | succ n ih =>
  intro s h hs
  have hl:s.data.toList.length=s.size:=Array.length_toList
  refine Ev.step (fun k=>by rw [cr18_Utf.l0]) ?_
  rw [valid_step]
  by_cases h0:s.size=0
  ·refine Ev.ifn (by omega) ?_
   rw [if_pos (List.eq_nil_of_length_eq_zero (by omega))]
   exact Ev.now _
  ·refine Ev.ifp (by omega) ?_
   have hne:s.data.toList≠[]:=fun e=>by rw [e] at hl;exact h0 hl.symm
   rw [if_neg hne]
   refine Ev.bind (point_is s (by omega) hs) ?_
   by_cases hp:ptL s.data.toList=0
   ·rw [if_pos hp]
    exact Ev.ifp (by omega) (Ev.now _)
   ·have hle:=ptL_le _ hne
    rw [if_neg hp]
    refine Ev.ifn (by omega) ?_
    refine Ev.ifp (by omega) ?_
    refine Ev.ifp (by omega) ?_
    rw [← extract_drop]
    simp only [Int.toNat_natCast]
    have hz:(s.extract (ptL s.data.toList) s.size).size≤s.size - ptL s.data.toList:=by simp
    exact ih _ (by omega) (by omega)
theorem ref_utf_is (s:ByteArray) (h:s.size≤140737488355328):Ev (fun k=>cr18_Utf.f k s) (Lib.validD s.data.toList):=by
 refine Ev.congr (fun k=>by rw [cr18_Utf.f]) ?_
 refine (ref_utf_loop s.size s (Nat.le_refl _) h).eq ?_
 unfold Lib.validD
 rw [Array.length_toList]
 rfl
theorem prB_is (b:UInt8):prB b=allP.contains b:=rfl
theorem ref_pr_in (s:ByteArray) (j:Nat) (hj:j < s.size) (R:Bool) (k:Ev (fun k=>cr18_Printable.l0 k s (wrap64 ((j:Int)+1))) R) (d:Nat):∀ (i:Nat) (f:Bool),i≤74→74 - i=d →
 Ev (fun k=>cr18_Printable.l1 k s (j:Int) f (i:Int)) ((f || (allP.drop i).contains (s.data.toList.getD j 0)) && R):=by
 induction d with
 | zero =>
  intro i f hi hd
  obtain rfl:i=74:=by omega
  refine Ev.step (fun k=>by rw [cr18_Printable.l1]) ?_
  refine Ev.ifn (by decide) ?_
  rw [show allP.drop 74=[] from rfl]
  cases f with
  | true=>exact Ev.ifp rfl (k.eq (by simp))
  | false=>exact Ev.ifn (by simp) ((Ev.now _).eq (by simp))
 | succ d ih =>
  intro i f hi hd
  have hlt:i < allP.length:=by have:allP.length=74:=rfl;omega
  refine Ev.step (fun k=>by rw [cr18_Printable.l1]) ?_
  refine Ev.ifp (by omega) ?_
  refine Ev.ifp (by omega) ?_
  refine Ev.ifp (by omega) ?_
  refine Ev.ifp (by omega) ?_
  rw [bt_at s j hj,bt_at (⟨#[65,66,67,68,69,70,71,72,73,74,75,76,77,78,79,80,81,82,83,84,85,86,87,88,89,90,97,98,99,100,101,102,103,104,105,106,107,108,109,110,111,112,113,114,115,116,117,118,119,120,121,122,48,49,50,51,52,53,54,55,56,57,32,39,40,41,43,44,45,46,47,58,61,63]⟩:ByteArray) i (show i < 74 by omega),w64 (x:=(i:Int)+1) (by omega) (by omega)]
  have hd2:allP.drop i=allP.getD i 0 :: allP.drop (i+1):=by
   rw [List.drop_eq_getElem_cons hlt,List.getD_eq_getElem?_getD,List.getElem?_eq_getElem hlt]
   rfl
  rw [hd2,List.contains_cons]
  change Ev (fun k=>if ((allP.getD i 0).toNat:Int)=((s.data.toList.getD j 0).toNat:Int) then _ else _) _
  by_cases e:((allP.getD i 0).toNat:Int)=((s.data.toList.getD j 0).toNat:Int)
  ·refine Ev.ifp e ?_
   have e2:(s.data.toList.getD j 0 == allP.getD i 0)=true:=beq_iff_eq.2 (UInt8.toNat_inj.1 (by omega))
   refine (ih (i+1) true (by omega) (by omega)).eq ?_
   rw [e2]
   simp
  ·refine Ev.ifn e ?_
   have e2:(s.data.toList.getD j 0 == allP.getD i 0)=false:=beq_eq_false_iff_ne.2 (fun h=>e (by rw [h]))
   refine (ih (i+1) f (by omega) (by omega)).eq ?_
   rw [e2]
   simp
theorem ref_pr_loop (s:ByteArray) (hs:s.size≤140737488355328) (d:Nat):∀ j:Nat,j≤s.size→s.size - j=d→Ev (fun k=>cr18_Printable.l0 k s (j:Int)) ((s.data.toList.drop j).all prB):=by
 have hl:s.data.toList.length=s.size:=Array.length_toList
 induction d with
 | zero =>
  intro j hj hd
  refine Ev.step (fun k=>by rw [cr18_Printable.l0]) ?_
  refine Ev.ifn (by omega) ?_
  rw [List.drop_eq_nil_of_le (by omega)]
  exact Ev.now _
 | succ d ih =>
  intro j hj hd
  refine Ev.step (fun k=>by rw [cr18_Printable.l0]) ?_
  refine Ev.ifp (by omega) ?_
  have hlt:j < s.data.toList.length:=by omega
  have hd2:s.data.toList.drop j=s.data.toList.getD j 0 :: s.data.toList.drop (j+1):=by
   rw [List.drop_eq_getElem_cons hlt,List.getD_eq_getElem?_getD,List.getElem?_eq_getElem hlt]
   rfl
  have hn:=ih (j+1) (by omega) (by omega)
  refine (ref_pr_in s j (by omega) _ (by rw [w64 (by omega) (by omega)];exact hn) _ 0 false (by omega) rfl).eq ?_
  rw [hd2,List.all_cons,prB_is]
  simp
theorem ref_pr_is (s:ByteArray) (hs:s.size≤140737488355328):Ev (fun k=>cr18_Printable.f k s) (s.data.toList.all prB):=by
 refine Ev.congr (fun k=>by rw [cr18_Printable.f]) ?_
 exact ref_pr_loop s hs _ 0 (by omega) rfl
theorem strs_right_key (a0:Int) (l:List Int) (hl:OkB l) (ha:l.length≤65535):∃ t,Ev (fun k=>strs_Right.f k a0 (strOfNums l)) t∧Ev (fun k=>cr18_Right.f k a0 (strOfNums l)) t:=by
 have hsz:(strOfNums l).size≤65535:=by rw [strOfNums_size];exact ha
 have hu:∃ t,(strs_Unbool.f (strOfNums l)).bind (fun p=>some p.2)=some t∧(cr18_Unbool.f (strOfNums l)).bind (fun p=>some p.2)=some t:=by
  unfold strs_Unbool.f cr18_Unbool.f
  by_cases e:(strOfNums l).toList=([255]:List UInt8)
  ·rw [if_pos e,if_pos e];exact ⟨_,rfl,rfl⟩
  ·rw [if_neg e,if_neg e];exact ⟨_,rfl,rfl⟩
 have e1:∀ k,strs_Right.f k a0 (strOfNums l)=_:=fun k=>by rw [strs_Right.f]
 have e2:∀ k,cr18_Right.f k a0 (strOfNums l)=_:=fun k=>by rw [cr18_Right.f]
 by_cases h1:a0=1
 ·obtain ⟨t,t1,t2⟩:=hu
  exact ⟨t,Ev.congr e1 (Ev.ifp h1 (Ev.const t1)),Ev.congr e2 (Ev.ifp h1 (Ev.const t2))⟩
 by_cases h2:a0=2
 ·exact ⟨_,Ev.congr e1 (Ev.ifn h1 (Ev.ifp h2 (Ev.bindc (whole_Right_eq l hl) (Ev.now _)))),Ev.congr e2 (Ev.ifn h1 (Ev.ifp h2 (Ev.bindc (ref16_Right_eq l hl) (Ev.now _))))⟩
 by_cases h3:a0=3
 ·exact ⟨_,Ev.congr e1 (Ev.ifn h1 (Ev.ifn h2 (Ev.ifp h3 (Ev.bind (unbits_is l hl (by omega)) (Ev.now _))))),Ev.congr e2 (Ev.ifn h1 (Ev.ifn h2 (Ev.ifp h3 (Ev.bind (ref_unbits_is l hl (by omega)) (Ev.now _)))))⟩
 by_cases h4:a0=4
 ·exact ⟨_,Ev.congr e1 (Ev.ifn h1 (Ev.ifn h2 (Ev.ifn h3 (Ev.ifp h4 (Ev.now _))))),Ev.congr e2 (Ev.ifn h1 (Ev.ifn h2 (Ev.ifn h3 (Ev.ifp h4 (Ev.now _)))))⟩
 by_cases h5:a0=5
 ·exact ⟨_,Ev.congr e1 (Ev.ifn h1 (Ev.ifn h2 (Ev.ifn h3 (Ev.ifn h4 (Ev.ifp h5 (Ev.now _)))))),Ev.congr e2 (Ev.ifn h1 (Ev.ifn h2 (Ev.ifn h3 (Ev.ifn h4 (Ev.ifp h5 (Ev.now _))))))⟩
 by_cases h6:a0=6
 ·exact ⟨_,Ev.congr e1 (Ev.ifn h1 (Ev.ifn h2 (Ev.ifn h3 (Ev.ifn h4 (Ev.ifn h5 (Ev.ifp h6 (Ev.bind (oid_decode_is l hl (by omega)) (Ev.now _)))))))),Ev.congr e2 (Ev.ifn h1 (Ev.ifn h2 (Ev.ifn h3 (Ev.ifn h4 (Ev.ifn h5 (Ev.ifp h6 (Ev.bind ((ref17_decode_is l hl (by omega)).eq (decE_is l hl)) (Ev.now _))))))))⟩
 by_cases h7:a0=12
 ·exact ⟨_,Ev.congr e1 (Ev.ifn h1 (Ev.ifn h2 (Ev.ifn h3 (Ev.ifn h4 (Ev.ifn h5 (Ev.ifn h6 (Ev.ifp h7 (Ev.bindc (utf_is _ (by omega)) (Ev.now _))))))))),Ev.congr e2 (Ev.ifn h1 (Ev.ifn h2 (Ev.ifn h3 (Ev.ifn h4 (Ev.ifn h5 (Ev.ifn h6 (Ev.ifp h7 (Ev.bind (ref_utf_is _ (by omega)) (Ev.now _)))))))))⟩
 by_cases h8:a0=19
 ·exact ⟨_,Ev.congr e1 (Ev.ifn h1 (Ev.ifn h2 (Ev.ifn h3 (Ev.ifn h4 (Ev.ifn h5 (Ev.ifn h6 (Ev.ifn h7 (Ev.ifp h8 (Ev.bind (printable_is _) (Ev.now _)))))))))),Ev.congr e2 (Ev.ifn h1 (Ev.ifn h2 (Ev.ifn h3 (Ev.ifn h4 (Ev.ifn h5 (Ev.ifn h6 (Ev.ifn h7 (Ev.ifp h8 (Ev.bind (ref_pr_is _ (by omega)) (Ev.now _))))))))))⟩
 ·exact ⟨_,Ev.congr e1 (Ev.ifn h1 (Ev.ifn h2 (Ev.ifn h3 (Ev.ifn h4 (Ev.ifn h5 (Ev.ifn h6 (Ev.ifn h7 (Ev.ifn h8 (Ev.now _))))))))),Ev.congr e2 (Ev.ifn h1 (Ev.ifn h2 (Ev.ifn h3 (Ev.ifn h4 (Ev.ifn h5 (Ev.ifn h6 (Ev.ifn h7 (Ev.ifn h8 (Ev.now _)))))))))⟩
theorem fl_max:fl 65552=4679241112349573120:=by kernel_rfl
theorem span_whole_is (n:Nat) (h:n≤65552):span_whole.f (fl n)=some true:=by
 unfold span_whole.f
 rw [show fge (fl n) 0=true by rw [← fl_zero,fge_fl (by omega) (by omega)];exact decide_eq_true (by omega),if_pos rfl,← fl_max,fle_fl (by omega) (by omega),decide_eq_true h,if_pos rfl,fiok_fl (by omega),if_pos rfl,fint_fl (by omega)]
 show some (feq (fl n) (fl n))=_
 rw [feq_fl (by omega) (by omega),decide_eq_true rfl]
theorem span_May_is (a b:Nat) (ha:a≤65552) (hb:b≤65552):span_May.f (fl a,fl b)=some (decide (a≤b)):=by
 unfold span_May.f
 rw [span_whole_is a ha]
 simp only [Option.bind_some,if_true]
 rw [span_whole_is b hb]
 simp only [Option.bind_some,if_true]
 rw [fle_fl (by omega) (by omega)]
theorem span_sure_is (a b:Nat) (ha:a≤b) (hb:b≤65552):span_sure.f (fl a,fl b)=some (fl a,fl b):=by
 unfold span_sure.f
 rw [span_May_is a b (by omega) hb,decide_eq_true ha]
 simp only [Option.bind_some,if_true]
 rw [← fl_zero,fok_fl (by omega),if_pos rfl,fok_fl (by omega),if_pos rfl,fadd_fl (by omega),fadd_fl (by omega),Nat.add_zero,Nat.add_zero]
theorem span_Of_is (a b:Nat) (ha:a≤b) (hb:b≤65552):span_Of.f (a:Int) (b:Int)=some (fl a,fl b):=by
 unfold span_Of.f
 rw [if_neg (by unfold mn;split<;>omega),if_neg (by unfold mx;split<;>omega)]
 have:=span_sure_is a b ha hb
 unfold fl at this
 rw [this]
 rfl
theorem span_To_is (a b:Nat) (ha:a≤b) (hb:b≤65552):span_To.f (fl a,fl b)=some (b:Int):=by
 unfold span_To.f
 rw [span_sure_is a b ha hb]
 simp only [Option.bind_some]
 rw [fiok_fl (by omega),if_pos rfl,fint_fl (by omega)]
def spl (F To:List Int):List (Nat × Nat):=List.zipWith (fun a b=>(fl a.toNat,fl b.toNat)) F To
theorem spl_length (F To:List Int) (h:F.length=To.length):(spl F To).length=F.length:=by rw [spl,List.length_zipWith];omega
theorem spl_snoc (F To:List Int) (h:F.length=To.length) (a b:Nat):spl F To++[(fl a,fl b)]=spl (F++[(a:Int)]) (To++[(b:Int)]):=by
 rw [spl,spl,List.zipWith_append h]
 rfl
theorem spl_get (F To:List Int) (h:F.length=To.length) (i:Nat) (hi:i < F.length):rdOf ((0,0):Nat × Nat) (spl F To) (i:Int)=(fl (F.getD i 0).toNat,fl (To.getD i 0).toNat):=by
 rw [rdOf_get _ i (by rw [spl_length F To h];exact hi)]
 simp only [spl,List.getElem_zipWith]
 rw [List.getD_eq_getElem?_getD,List.getD_eq_getElem?_getD,List.getElem?_eq_getElem hi,List.getElem?_eq_getElem (by omega)]
 rfl
def iz (O:List Nat):List Int:=O.map fun o:Nat=>(o:Int)
theorem iz_length (O:List Nat):(iz O).length=O.length:=List.length_map _
theorem iz_snoc (O:List Nat) (o:Nat):iz (O++[o])=iz O++[(o:Int)]:=by rw [iz,List.map_append];rfl
def endN (l To:List Int) (O:List Nat):Int:=match O.getLast? with
 | none=>l.length
 | some o=>To.getD o 0
def nd (a b:Int) (c:Bool) (d:ByteArray) (ks:List Int):S55:=⟨a,b,c,d,ks⟩
def addK (T:List S55) (i:Nat) (me:Int):List S55:=T.set i ⟨(rd_T55 T i).f0,(rd_T55 T i).f1,(rd_T55 T i).f2,(rd_T55 T i).f3,(rd_T55 T i).f4++[me]⟩
def upd (T:List S55) (O:List Nat):List S55:=match O.getLast? with
 | none=>T
 | some o=>addK T o T.length
theorem upd_length (T:List S55) (O:List Nat):(upd T O).length=T.length:=by
 unfold upd addK
 split
 ·rfl
 ·rw [List.length_set]
structure Sp (l F To:List Int) (n:Nat):Prop where
 f:F.length=n
 t:To.length=n
 bd:∀ i,i < n→0≤F.getD i 0∧F.getD i 0≤To.getD i 0∧To.getD i 0≤l.length
theorem getD_app_l {α:Type} (l m:List α) (d:α) (i:Nat) (h:i < l.length):(l++m).getD i d=l.getD i d:=by
 rw [List.getD_eq_getElem?_getD,List.getD_eq_getElem?_getD,List.getElem?_append_left h]
theorem getD_app_at {α:Type} (l m:List α) (x d:α):(l++x :: m).getD l.length d=x:=by
 rw [List.getD_eq_getElem?_getD,List.getElem?_append_right (Nat.le_refl _),Nat.sub_self]
 rfl
theorem Sp.snoc {l F To:List Int} {n:Nat} (h:Sp l F To n) (a b:Nat) (h1:a≤b) (h2:b≤l.length):Sp l (F++[(a:Int)]) (To++[(b:Int)]) (n+1):=by
 refine ⟨by rw [List.length_append,h.f];rfl,by rw [List.length_append,h.t];rfl,fun i hi=>?_⟩
 by_cases g:i < n
 ·rw [getD_app_l _ _ _ _ (by rw [h.f];exact g),getD_app_l _ _ _ _ (by rw [h.t];exact g)]
  exact h.bd i g
 ·obtain rfl:i=n:=by omega
  have e1:=getD_app_at F [] (a:Int) 0
  have e2:=getD_app_at To [] (b:Int) 0
  rw [h.f] at e1
  rw [h.t] at e2
  rw [e1,e2]
  omega
theorem tlv_end (l:List Int) (hs:l.length≤65535) (T:List S55) (F To:List Int) (O:List Nat) (n:Nat) (h:Sp l F To n) (hO:∀ o∈O,o < n) (ho:O.length≤16) :
 tlv_reader_end.f (strOfNums l) T (spl F To) (iz O)=some (endN l To O):=by
 unfold tlv_reader_end.f endN
 rw [iz_length]
 rcases List.eq_nil_or_concat O with rfl | ⟨Q,o,rfl⟩
 ·rw [if_pos (show (([]:List Nat).length:Int)=0 from rfl),nums_sizeI];rfl
 ·have hlen:(Q++[o]).length=Q.length+1:=by simp
  have hlast:rd (iz (Q++[o])) (Q.length:Int)=(o:Int):=by
   rw [rd_get _ (by rw [iz_length];simp)]
   simp [iz]
  have hon:o < n:=hO o (by simp)
  obtain ⟨h1,h2,h3⟩:=h.bd o hon
  simp only [List.concat_eq_append] at *
  rw [hlen,show wrap64 (((Q.length+1:Nat):Int) - 1)=(Q.length:Int) by rw [w64 (by omega) (by omega)];omega,if_neg (by omega),if_pos (by omega),if_pos (by omega),hlast,if_pos (by omega),spl_length F To (by rw [h.f,h.t]),if_pos (by rw [h.f];omega),spl_get F To (by rw [h.f,h.t]) o (by rw [h.f];exact hon),span_To_is _ _ (by omega) (by omega)]
  simp only [Option.bind_some,List.getLast?_append,List.getLast?_singleton,Option.some_or]
  rw [Int.toNat_of_nonneg (by omega)]
theorem tlv_close_more (l:List Int) (hs:l.length≤65535) (T:List S55) (F To:List Int) (O:List Nat) (me n:Nat) (h:Sp l F To n) (hO:∀ o∈O,o < n) (ho:O.length < 16) (hm:me < n) (at_:Int) (he:To.getD me 0=at_) {R:Bool × ByteArray × List S55 × List (Nat × Nat) × List Int}
 (k:Ev (fun k=>tlv_reader_close.l0 k at_ (strOfNums l) T (spl F To) (iz O)) R):Ev (fun k=>tlv_reader_close.l0 k at_ (strOfNums l) T (spl F To) (iz (O++[me]))) R:=by
 refine Ev.step (fun k=>by rw [tlv_reader_close.l0]) ?_
 have hend:=tlv_end l hs T F To (O++[me]) n h (fun o hh=>by rcases List.mem_append.1 hh with hh | hh;exact hO o hh;simp at hh;omega) (by simp;omega)
 have hlen:(iz (O++[me])).length=O.length+1:=by rw [iz_length];simp
 have he2:endN l To (O++[me])=at_:=by simp only [endN,List.getLast?_append,List.getLast?_singleton,Option.some_or];exact he
 rw [hlen,show wrap64 (((O.length+1:Nat):Int) - 1)=(O.length:Int) by rw [w64 (by omega) (by omega)];omega]
 refine Ev.ifp (by omega) (Ev.bindc hend (Ev.ifp he2 (Ev.ifp (by omega) (Ev.ifp (by omega) ?_))))
 rw [Int.toNat_natCast,iz_snoc,List.take_left' (iz_length O)]
 exact k
theorem tlv_close_stop (l:List Int) (hs:l.length≤65535) (T:List S55) (F To:List Int) (O:List Nat) (n:Nat) (h:Sp l F To n) (hO:∀ o∈O,o < n) (ho:O.length≤16) (at_:Int) (he:O=[]∨endN l To O≠at_) :
 Ev (fun k=>tlv_reader_close.l0 k at_ (strOfNums l) T (spl F To) (iz O)) (decide (O=[]),strOfNums l,T,spl F To,iz O):=by
 refine Ev.step (fun k=>by rw [tlv_reader_close.l0]) ?_
 have hb:(((iz O).length:Int) == 0)=decide (O=[]):=by
  cases O with
  | nil=>rfl
  | cons o O=>rw [decide_eq_false (by simp),beq_eq_false_iff_ne,iz_length];simp;omega
 rw [hb]
 by_cases g:O=[]
 ·exact Ev.ifn (by rw [g];decide) (Ev.now _)
 ·have:0 < O.length:=List.length_pos_iff.2 g
  refine Ev.ifp (by rw [iz_length];omega) (Ev.bindc (tlv_end l hs T F To O n h hO ho) (Ev.ifn (he.resolve_left g) (Ev.now _)))
theorem tlv_pop (l:List Int) (hs:l.length≤65535) (T:List S55) (F To:List Int) (O:List Nat) (me n:Nat) (h:Sp l F To n) (hO:∀ o∈O,o < n) (ho:O.length < 16) (hm:me < n) (at_:Int) (he:To.getD me 0=at_) {R:Int × Int × ByteArray × List S55 × List (Nat × Nat) × List Int}
 (k:Ev (fun k=>tlv_reader_read.j3 k at_ 0 (strOfNums l) T (spl F To) (iz O)) R):Ev (fun k=>tlv_reader_read.j3 k at_ 0 (strOfNums l) T (spl F To) (iz (O++[me]))) R:=by
 obtain ⟨K,hK⟩:=k
 have hc:∃ c,Ev (fun k=>tlv_reader_close.l0 k at_ (strOfNums l) T (spl F To) (iz O)) c:=by
  have go:∀ (m:Nat) (O:List Nat),O.length=m→(∀ o∈O,o < n)→O.length < 16→∃ c,Ev (fun k=>tlv_reader_close.l0 k at_ (strOfNums l) T (spl F To) (iz O)) c:=by
   intro m
   induction m with
   | zero=>intro O hm hO ho;exact ⟨_,tlv_close_stop l hs T F To O n h hO (by omega) at_ (.inl (List.eq_nil_of_length_eq_zero hm))⟩
   | succ m ih =>
    intro O hm hO ho
    by_cases g:O=[]∨endN l To O≠at_
    ·exact ⟨_,tlv_close_stop l hs T F To O n h hO (by omega) at_ g⟩
    ·rcases List.eq_nil_or_concat O with rfl | ⟨Q,o,rfl⟩
     ·exact absurd (.inl rfl) g
     ·have g:=Decidable.of_not_not fun h=>g (.inr h)
      simp only [List.concat_eq_append] at *
      simp at hm
      have hQ:∀ q∈Q,q < n:=fun q hq=>hO q (by simp [hq])
      obtain ⟨c,hc⟩:=ih Q (by omega) hQ (by simp at ho;omega)
      exact ⟨c,tlv_close_more l hs T F To Q o n h hQ (by simp at ho;omega) (hO o (by simp)) at_ (by simpa [endN] using g) hc⟩
  exact go _ O rfl hO ho
 obtain ⟨c,hc⟩:=hc
 obtain ⟨L,hL⟩:=tlv_close_more l hs T F To O me n h hO ho hm at_ he hc
 obtain ⟨L',hL'⟩:=hc
 refine ⟨K+L+L'+1,fun k hk=>?_⟩
 have h1:=hK k (by omega)
 cases k with
 | zero=>omega
 | succ k =>
  dsimp only at h1 ⊢
  rw [tlv_reader_read.j3] at h1 ⊢
  unfold tlv_reader_close.f at h1 ⊢
  have e1:tlv_reader_close.l0 k at_ (strOfNums l) T (spl F To) (iz (O++[me]))=some c:=hL k (by omega)
  have e2:tlv_reader_close.l0 k at_ (strOfNums l) T (spl F To) (iz O)=some c:=hL' k (by omega)
  rw [e1]
  rw [e2] at h1
  exact h1
theorem tlv_next (l:List Int) (hs:l.length≤65535) (T:List S55) (F To:List Int) (O:List Nat) (n:Nat) (h:Sp l F To n) (hO:∀ o∈O,o < n) (ho:O.length≤16) (at_:Int) (hne:O≠[]) (he:endN l To O≠at_) {R:Int × Int × ByteArray × List S55 × List (Nat × Nat) × List Int}
 (k:Ev (fun k=>tlv_reader_read.g0_1 k at_ (strOfNums l) T (spl F To) (iz O)) R):Ev (fun k=>tlv_reader_read.j3 k at_ 0 (strOfNums l) T (spl F To) (iz O)) R:=by
 refine Ev.step (fun k=>by rw [tlv_reader_read.j3]) ?_
 refine Ev.bind (Ev.congr (fun k=>by rw [tlv_reader_close.f]) (tlv_close_stop l hs T F To O n h hO ho at_ (.inr he))) ?_
 refine Ev.ifn (by rw [decide_eq_false hne];exact Bool.false_ne_true) k
theorem tlv_done (l:List Int) (hs:l.length≤65535) (T:List S55) (F To:List Int) (n:Nat) (h:Sp l F To n) (at_:Nat) (ha:at_≤l.length) :
 Ev (fun k=>tlv_reader_read.j3 k (at_:Int) 0 (strOfNums l) T (spl F To) (iz [])) (if at_ < l.length then (5,(at_:Int),strOfNums l,T,spl F To,[]) else (0,0,strOfNums l,T,spl F To,[])):=by
 refine Ev.step (fun k=>by rw [tlv_reader_read.j3]) ?_
 refine Ev.bind (Ev.congr (fun k=>by rw [tlv_reader_close.f]) (tlv_close_stop l hs T F To [] n h (fun o h=>by cases h) (by decide) _ (.inl rfl))) ?_
 refine Ev.ifp rfl ?_
 dsimp only
 rw [nums_sizeI]
 by_cases g:at_ < l.length
 ·rw [if_pos g];exact Ev.ifp (by omega) (Ev.now _)
 ·rw [if_neg g];exact Ev.ifn (by omega) (Ev.ifp rfl (Ev.now _))
abbrev Nd:=S55
theorem rdT (T:List Nd) (i:Nat):rd_T55 T (i:Int)=T.getD i z55:=rfl
theorem put_is (s:ByteArray) (T:List Nd) (sp:List (Nat × Nat)) (O:List Nat) (a b:Int) (c:Bool) (v:Int) (d:ByteArray) (x:Nat × Nat) (h1:T.length < 1000) (h2:sp.length < 1000) (h3:O.length < 16) (hO:∀ o∈O,o < T.length) (hk:∀ y∈T,y.f4.length≤T.length) :
 tlv_reader_put.f s T sp (iz O) a b c v d x=some (upd T O++[nd a b c (if c=true then ⟨#[]⟩ else d) []],sp++[x],iz (if c=true then O++[T.length] else O)):=by
 unfold tlv_reader_put.f
 rw [iz_length]
 rcases List.eq_nil_or_concat O with rfl | ⟨Q,o,rfl⟩
 ·rw [if_neg (by simp)]
  cases c with
  | true=>rw [if_pos rfl,if_pos (by simp),if_pos (by omega),if_pos (by omega)];rfl
  | false=>rw [if_neg (by decide),if_pos (by omega),if_pos (by omega)];rfl
 ·simp only [List.concat_eq_append] at *
  have hlen:(Q++[o]).length=Q.length+1:=by simp
  have hlast:rd (iz (Q++[o])) (Q.length:Int)=(o:Int):=by
   rw [rd_get _ (by rw [iz_length];simp)]
   simp [iz]
  have hon:o < T.length:=hO o (by simp)
  have hx:(rd_T55 T (o:Int)).f4.length≤T.length:=by
   rw [rdT,List.getD_eq_getElem?_getD,List.getElem?_eq_getElem hon]
   exact hk _ (List.getElem_mem hon)
  have hu:upd T (Q++[o])=addK T o T.length:=by simp [upd]
  rw [hlen,show wrap64 (((Q.length+1:Nat):Int) - 1)=(Q.length:Int) by rw [w64 (by omega) (by omega)];omega,if_pos (by omega),if_pos (by omega),if_pos (by omega),hlast,if_pos (by omega),if_pos (by omega),if_pos (by omega)]
  have hal:(addK T o T.length).length=T.length:=by rw [← hu,upd_length]
  have hset:(T.set (o:Int).toNat (⟨(rd_T55 T o).f0,(rd_T55 T o).f1,(rd_T55 T o).f2,(rd_T55 T o).f3,(rd_T55 T o).f4++[(T.length:Int)]⟩:Nd))=addK T o T.length:=rfl
  rw [hset,hu]
  simp only [Option.bind_some]
  rw [hal]
  have hz:iz (Q++[o])++[(T.length:Int)]=iz (Q++[o]++[T.length]):=(iz_snoc _ _).symm
  cases c with
  | true=>rw [if_pos rfl,if_pos (by omega),if_pos (by omega),if_pos (by omega),hz];rfl
  | false=>rw [if_neg (by decide),if_pos (by omega),if_pos (by omega)];rfl
def LB (a b:Int) (c:Bool) (n:Int) (m:List Int) (r:Hd):Prop:=r=noH 5∨r=noH 4∨∃ v j:Nat,r=(a,b,c,(v:Int),n+(j:Int),0)∧1≤j∧j≤m.length∧v≤65535∧m.take j=lenB v
theorem lenH_lb (a b:Int) (c:Bool) (n:Int) (m:List Int) (hm:OkB m):LB a b c n m (lenH a b c n m):=by
 match m,hm with
 | [],_=>exact .inl rfl
 | y :: m,hm =>
  have hy:=hm.head
  rw [lenH_cons]
  split
  ·exact .inl rfl
  ·split
   ·exact .inr (.inl rfl)
   ·split
    ·refine .inr (.inr ⟨y.toNat,1,?_,by omega,by simp,by omega,?_⟩)
     ·rw [Int.toNat_of_nonneg hy.1];rfl
     ·rw [Int.toNat_of_nonneg hy.1,lenB1 (by omega)];rfl
    ·split
     ·match m,hm.tail with
      | [],_=>exact .inl rfl
      | z :: m,hm =>
       have hz:=hm.head
       dsimp only
       split
       ·exact .inl rfl
       ·refine .inr (.inr ⟨z.toNat,2,?_,by omega,by simp,by omega,?_⟩)
        ·rw [Int.toNat_of_nonneg hz.1];rfl
        ·rw [Int.toNat_of_nonneg hz.1,lenB2 (by omega) (by omega),show y=129 by omega];rfl
     ·match m,hm.tail with
      | [],_=>exact .inl rfl
      | [z],_=>exact .inl rfl
      | z :: w :: m,hm =>
       have hz:=hm.head
       have hw:=hm.tail.head
       dsimp only
       split
       ·exact .inl rfl
       ·refine .inr (.inr ⟨(256*z+w).toNat,3,?_,by omega,by simp,by omega,?_⟩)
        ·rw [Int.toNat_of_nonneg (by omega)];rfl
        ·rw [Int.toNat_of_nonneg (by omega),lenB3 (by omega) (by omega),show y=130 by omega,show (256*z+w) / 256=z by omega,show (256*z+w) % 256=w by omega];rfl
def HB (l:List Int) (r:Hd):Prop:=r=noH 5∨r=noH 4∨∃ (a b:Int) (c:Bool) (v n:Nat),r=(a,b,c,(v:Int),(n:Int),0)∧2≤n∧0≤a∧a≤3∧0≤b∧b≤2097151∧v≤65535∧n≤l.length∧l.take n=idB a b c++lenB v
theorem HB.of {l m:List Int} (pre:List Int) {a b:Int} {c:Bool} (i:Nat) {r:Hd} (e:l=pre++m) (hp:pre=idB a b c) (hi:pre.length=i) (i1:1≤i) (a0:0≤a) (a1:a≤3) (b0:0≤b) (b1:b≤2097151) (h:LB a b c (i:Int) m r):HB l r:=by
 rcases h with h | h | ⟨v,j,h,j1,j2,v1,ht⟩
 ·exact .inl h
 ·exact .inr (.inl h)
 ·refine .inr (.inr ⟨a,b,c,v,i+j,by rw [h];rfl,by omega,a0,a1,b0,b1,v1,by rw [e,List.length_append];omega,?_⟩)
  rw [e,← hi,List.take_length_add_append,ht,hp]
theorem idx_back (x:Int) (h0:0≤x) (h1:x < 256):64*(x / 64)+(if (x / 32 % 2 == 1)=true then 32 else 0)+x % 32=x:=by
 by_cases g:x / 32 % 2=1
 ·rw [if_pos (beq_iff_eq.2 g)];omega
 ·rw [if_neg (by rw [beq_iff_eq];exact g)];omega
theorem headH_bd (l:List Int) (hl:OkB l):HB l (headH l):=by
 match l,hl with
 | [],_=>exact .inl rfl
 | x :: m,hl =>
  have hx:=hl.head
  have hb:=idx_back x hx.1 (by omega)
  rw [headH]
  split
  ·exact HB.of [x] 1 rfl (by rw [idB,if_pos (by omega),hb]) rfl (by omega) (by omega) (by omega) (by omega) (by omega) (lenH_lb _ _ _ _ _ hl.tail)
  ·have hid:∀ b:Int,31≤b→idB (x / 64) b (x / 32 % 2 == 1)=x :: tagD b:=by
    intro b h
    rw [idB,if_neg (by omega)]
    congr 1
    rw [← show x % 32=31 by omega,hb]
   match m,hl.tail with
   | [],_=>exact .inl rfl
   | y :: m,hm =>
    have hy:=hm.head
    rw [tagH_cons]
    split
    ·exact .inl rfl
    ·split
     ·split
      ·exact .inl rfl
      ·exact HB.of [x,y] 2 rfl (by rw [hid _ (by omega),tagD,if_pos (by omega)]) rfl (by omega) (by omega) (by omega) (by omega) (by omega) (lenH_lb _ _ _ _ _ hm.tail)
     ·match m,hm.tail with
      | [],_=>exact .inl rfl
      | z :: m,hm =>
       have hz:=hm.head
       dsimp only
       split
       ·exact HB.of [x,y,z] 3 rfl (by rw [hid _ (by omega),tagD,if_neg (by omega),if_pos (by omega)];congr 2;omega;congr 1;omega) rfl (by omega) (by omega) (by omega) (by omega) (by omega) (lenH_lb _ _ _ _ _ hm.tail)
       ·match m,hm.tail with
        | [],_=>exact .inl rfl
        | w :: m,hm =>
         have hw:=hm.head
         dsimp only
         split
         ·exact HB.of [x,y,z,w] 4 rfl (by rw [hid _ (by omega),tagD,if_neg (by omega),if_neg (by omega)];congr 2;omega;congr 1;omega;congr 1;omega) rfl (by omega) (by omega) (by omega) (by omega) (by omega) (lenH_lb _ _ _ _ _ hm.tail)
         ·exact .inl rfl
theorem lenH_back (a b:Int) (c:Bool) (n:Int) (v:Int) (v0:0≤v) (v1:v≤65535) (r:List Int):lenH a b c n (lenB v++r)=(a,b,c,v,n+((lenB v).length:Int),0):=by
 by_cases g:v < 128
 ·rw [lenB1 g]
  show lenH a b c n (v :: r)=_
  rw [lenH_cons,if_neg (by omega),if_neg (by omega),if_pos g];rfl
 by_cases g2:v < 256
 ·rw [lenB2 g g2]
  show lenH a b c n (129 :: v :: r)=_
  rw [lenH_cons,if_neg (by omega),if_neg (by omega),if_neg (by omega),if_pos rfl]
  dsimp only
  rw [if_neg g];rfl
 ·rw [lenB3 g g2]
  show lenH a b c n (130 :: v / 256 :: v % 256 :: r)=_
  rw [lenH_cons,if_neg (by omega),if_neg (by omega),if_neg (by omega),if_neg (by omega)]
  dsimp only
  rw [if_neg (by omega),show 256*(v / 256)+v % 256=v by omega];rfl
theorem headH_back (a b:Int) (c:Bool) (v:Int) (a0:0≤a) (a1:a≤3) (b0:0≤b) (b1:b≤2097151) (v0:0≤v) (v1:v≤65535) (r:List Int):headH (idB a b c++lenB v++r)=(a,b,c,v,((idB a b c++lenB v).length:Int),0):=by
 have hc:∀ x:Int,0≤x→x < 32→(64*a+(if c=true then 32 else 0)+x) / 64=a∧(64*a+(if c=true then 32 else 0)+x) % 32=x∧((64*a+(if c=true then 32 else 0)+x) / 32 % 2 == 1)=c:=by
  intro x h0 h1
  cases c with
  | true=>rw [if_pos rfl];exact ⟨by omega,by omega,beq_iff_eq.2 (by omega)⟩
  | false=>rw [if_neg (by decide)];exact ⟨by omega,by omega,beq_eq_false_iff_ne.2 (by omega)⟩
 rw [List.append_assoc,List.length_append]
 by_cases g:b < 31
 ·obtain ⟨h1,h2,h3⟩:=hc b b0 (by omega)
  rw [idB,if_pos g]
  show headH ((64*a+(if c=true then 32 else 0)+b) :: (lenB v++r))=_
  rw [headH,if_pos (by omega),h1,h2,h3,lenH_back _ _ _ _ _ v0 v1]
  rfl
 ·obtain ⟨h1,h2,h3⟩:=hc 31 (by omega) (by omega)
  rw [idB,if_neg g]
  show headH ((64*a+(if c=true then 32 else 0)+31) :: (tagD b++(lenB v++r)))=_
  rw [headH,if_neg (by omega),h1,h3]
  by_cases g1:b < 128
  ·rw [tagD,if_pos g1]
   show tagH a c (b :: (lenB v++r))=_
   rw [tagH_cons,if_neg (by omega),if_pos g1,if_neg g,lenH_back _ _ _ _ _ v0 v1]
   simp
  by_cases g2:b < 16384
  ·rw [tagD,if_neg g1,if_pos g2]
   show tagH a c ((128+b / 128) :: b % 128 :: (lenB v++r))=_
   rw [tagH_cons,if_neg (by omega),if_neg (by omega)]
   dsimp only
   rw [if_pos (by omega),lenH_back _ _ _ _ _ v0 v1,show 128*((128+b / 128) % 128)+b % 128=b by omega]
   simp
  ·rw [tagD,if_neg g1,if_neg g2]
   show tagH a c ((128+b / 16384) :: (128+b / 128 % 128) :: b % 128 :: (lenB v++r))=_
   rw [tagH_cons,if_neg (by omega),if_neg (by omega)]
   dsimp only
   rw [if_neg (by omega),if_pos (by omega),lenH_back _ _ _ _ _ v0 v1,show 128*(128*((128+b / 16384) % 128)+(128+b / 128 % 128) % 128)+b % 128=b by omega]
   simp
abbrev PR:=Int × Int × ByteArray × List S55 × List (Nat × Nat) × List Int
abbrev RR:=Int × Int × Int × ByteArray × List S55 × List Int × List Int
theorem w64_sum (a b:Nat) (h:a+b≤1000000):wrap64 ((a:Int)+(b:Int))=((a+b:Nat):Int):=(w64 (x:=(a:Int)+(b:Int)) (by omega) (by omega)).trans (Int.natCast_add a b).symm
def rK3 (s:ByteArray) (T:List Nd) (F To:List Int) (p dep x y a b:Int) (c:Bool) (k:Nat):Option RR:=(if a=0 then (if c=true then (if b=16 then (cr19_walk_element.j0 k p dep x y false s T F To a b c) else (cr19_walk_element.j0 k p dep x y (b != 17) s T F To a b c)) else (cr19_walk_element.j0 k p dep x y false s T F To a b c)) else (cr19_walk_element.j0 k p dep x y false s T F To a b c))
def rK2 (s:ByteArray) (T:List Nd) (F To:List Int) (p dep x y a b:Int) (c:Bool) (k:Nat):Option RR:=if dep > 16 then ((cr19_faulty.f 6 p).bind fun t610=>(some ((0:Int),t610.1,t610.2,s,T,F,To))) else (if (T.length:Int)≥1000 then ((cr19_faulty.f 4 p).bind fun t613=>(some (0,t613.1,t613.2,s,T,F,To))) else rK3 s T F To p dep x y a b c k)
def rK1 (s:ByteArray) (T:List Nd) (F To:List Int) (p e dep a b:Int) (c:Bool) (v n code:Int) (k:Nat):Option RR:=if code=0 then (if (wrap64 ((wrap64 (p+n))+v)) > e then ((cr19_faulty.f 5 p).bind fun t607=>(some ((0:Int),t607.1,t607.2,s,T,F,To))) else rK2 s T F To p dep (wrap64 (p+n)) (wrap64 ((wrap64 (p+n))+v)) a b c k) else ((cr19_faulty.f code p).bind fun t604=>(some (0,t604.1,t604.2,s,T,F,To)))
def pK2 (s:ByteArray) (T:List Nd) (sp:List (Nat × Nat)) (O:List Int) (p x y a b:Int) (c:Bool) (v:Int) (d:ByteArray) (k:Nat):Option PR:=(tlv_reader_may.f k s T sp O a b c v d).bind fun t321=>(if t321.1=0 then ((span_Of.f p y).bind fun t324=>((tlv_reader_put.f t321.2.1 t321.2.2.1 t321.2.2.2.1 t321.2.2.2.2 a b c v d t324).bind fun t326=>(if c=true then (tlv_reader_read.j3 k x t321.1 t321.2.1 t326.1 t326.2.1 t326.2.2) else (tlv_reader_read.j3 k y t321.1 t321.2.1 t326.1 t326.2.1 t326.2.2)))) else (tlv_reader_read.g0_0 k p t321.1 t321.2.1 t321.2.2.1 t321.2.2.2.1 t321.2.2.2.2))
def pK1 (s:ByteArray) (T:List Nd) (sp:List (Nat × Nat)) (O:List Int) (p room a b:Int) (c:Bool) (v n code:Int) (k:Nat):Option PR:=if code=0 then (if v > (wrap64 (room - n)) then (tlv_reader_read.g0_0 k p 5 s T sp O) else ((octets_Cut.f s (wrap64 (p+n)) v).bind fun t319=>pK2 s T sp O p (wrap64 (p+n)) (wrap64 ((wrap64 (p+n))+v)) a b c v t319 k)) else (tlv_reader_read.g0_0 k p code s T sp O)
def seg (l:List Int) (p e:Nat):List Int:=(l.drop p).take (e - p)
theorem seg_len (l:List Int) (p e:Nat) (he:e≤l.length):(seg l p e).length=e - p:=by rw [seg,List.length_take,List.length_drop];omega
theorem seg_ok {l:List Int} (hl:OkB l) (p e:Nat):OkB (seg l p e):=(hl.drop _).take _
theorem cut_seg (l:List Int) (hs:l.length≤65535) (p e:Nat) (hpe:p≤e) (he:e≤l.length):octets_Cut.f (strOfNums l) (p:Int) ((e:Int) - (p:Int))=some (strOfNums (seg l p e)):=by
 rw [octets_Cut_eq l _ _ (by omega) (by omega) (by omega)]
 unfold cutL
 split
 ·rename_i hc
  congr 2
  unfold seg
  rcases hc with hc | hc | hc
  ·omega
  ·rw [List.drop_eq_nil_of_le (by omega),List.take_nil]
  ·rw [show e - p=0 by omega];rfl
 ·rw [Int.toNat_natCast,show ((e:Int) - (p:Int)).toNat=e - p by omega];rfl
theorem cut_seg' (l:List Int) (hs:l.length≤65535) (x v:Nat) (he:x+v≤l.length):octets_Cut.f (strOfNums l) (x:Int) (v:Int)=some (strOfNums (seg l x (x+v))):=by
 have:=cut_seg l hs x (x+v) (by omega) he
 rw [show ((x+v:Nat):Int) - (x:Int)=(v:Int) by omega] at this
 exact this
theorem g00_is (c p:Int) (s:ByteArray) (T:List Nd) (sp:List (Nat × Nat)) (O:List Int) (hc:c≠0):Ev (fun k=>tlv_reader_read.g0_0 k p c s T sp O) (c,p,s,T,sp,O):=by
 refine Ev.step (fun k=>by rw [tlv_reader_read.g0_0]) ?_
 exact Ev.ifn hc (Ev.now _)
theorem prog_head (l:List Int) (hl:OkB l) (hs:l.length≤65535) (p e:Nat) (hpe:p < e) (he:e≤l.length) (T:List Nd) (F To:List Int) (O:List Nat) (n0:Nat) (hsp:Sp l F To n0) (hO:∀ o∈O,o < n0) (ho:O.length≤16) (hen:endN l To O=(e:Int)) {R:PR} {a b:Int} {c:Bool} {v n code:Int} (hh:headH (seg l p e)=(a,b,c,v,n,code))
 (h:Ev (pK1 (strOfNums l) T (spl F To) (iz O) p ((e:Int) - (p:Int)) a b c v n code) R):Ev (fun k=>tlv_reader_read.g0_1 k (p:Int) (strOfNums l) T (spl F To) (iz O)) R:=by
 refine Ev.step (fun k=>by rw [tlv_reader_read.g0_1]) ?_
 refine Ev.bindc (tlv_end l hs T F To O n0 hsp hO ho) ?_
 rw [hen,w64 (x:=(e:Int) - (p:Int)) (by omega) (by omega)]
 refine Ev.bindc (cut_seg l hs p e (by omega) he) ?_
 refine Ev.bind (head_is _ (seg_ok hl p e) (by rw [seg_len l p e he];omega)) ?_
 rw [hh]
 exact h
theorem ref_head (l:List Int) (hl:OkB l) (hs:l.length≤65535) (p e:Nat) (hpe:p < e) (he:e≤l.length) (dep:Int) (T:List Nd) (F To:List Int) {R:RR} {a b:Int} {c:Bool} {v n code:Int} (hh:headH (seg l p e)=(a,b,c,v,n,code))
 (h:Ev (rK1 (strOfNums l) T F To p e dep a b c v n code) R):Ev (fun k=>cr19_walk_element.f k (strOfNums l) T F To (p:Int) (e:Int) dep) R:=by
 refine Ev.step (fun k=>by rw [cr19_walk_element.f]) ?_
 refine Ev.ifp (by omega) (Ev.ifp (by omega) (Ev.ifp (by rw [nums_sizeI];omega) ?_))
 rw [Int.toNat_natCast,Int.toNat_natCast,str_extract]
 refine Ev.bind (ref_head_dec _ (seg_ok hl p e) (by have:=seg_len l p e he;unfold seg at this;omega)) ?_
 rw [show (l.drop p).take (e - p)=seg l p e from rfl,hh]
 exact h
theorem pK1_bad (s:ByteArray) (T:List Nd) (sp:List (Nat × Nat)) (O:List Int) (p room a b:Int) (c:Bool) (v n code:Int) (hc:code≠0):Ev (pK1 s T sp O p room a b c v n code) (code,p,s,T,sp,O):=by
 unfold pK1
 exact Ev.ifn hc (g00_is _ _ _ _ _ _ hc)
theorem rK1_bad (s:ByteArray) (T:List Nd) (F To:List Int) (p e dep a b:Int) (c:Bool) (v n code:Int) (hc:code≠0):Ev (rK1 s T F To p e dep a b c v n code) (0,code,p,s,T,F,To):=by
 unfold rK1
 exact Ev.ifn hc (Ev.now _)
theorem pK1_big (s:ByteArray) (T:List Nd) (sp:List (Nat × Nat)) (O:List Int) (p room a b:Int) (c:Bool) (v n:Int) (h0:0≤room) (h1:room≤65535) (n0:0≤n) (n1:n≤65535) (hv:v > room - n):Ev (pK1 s T sp O p room a b c v n 0) (5,p,s,T,sp,O):=by
 unfold pK1
 refine Ev.ifp rfl (Ev.ifp ?_ (g00_is _ _ _ _ _ _ (by decide)))
 rw [w64 (x:=room - n) (by omega) (by omega)];exact hv
theorem rK1_big (s:ByteArray) (T:List Nd) (F To:List Int) (p n v:Nat) (e dep a b:Int) (c:Bool) (h:p+n+v≤1000000) (hv:((p+n+v:Nat):Int) > e):Ev (rK1 s T F To p e dep a b c v n 0) (0,5,(p:Int),s,T,F,To):=by
 unfold rK1
 refine Ev.ifp rfl (Ev.ifp ?_ (Ev.now _))
 rw [w64_sum p n (by omega),w64_sum (p+n) v (by omega)];exact hv
theorem pK1_ok (s:ByteArray) (T:List Nd) (sp:List (Nat × Nat)) (O:List Int) (p n v:Nat) (room a b:Int) (c:Bool) (d:ByteArray) (h:p+n+v≤1000000) (h0:0≤room) (h1:room≤65535) (hv:(v:Int)≤room - (n:Int)) (hd:octets_Cut.f s ((p+n:Nat):Int) (v:Int)=some d) {R:PR}
 (k:Ev (pK2 s T sp O p ((p+n:Nat):Int) ((p+n+v:Nat):Int) a b c v d) R):Ev (pK1 s T sp O p room a b c v n 0) R:=by
 unfold pK1
 refine Ev.ifp rfl (Ev.ifn ?_ ?_)
 ·rw [w64 (x:=room - (n:Int)) (by omega) (by omega)];omega
 ·rw [w64_sum p n (by omega),w64_sum (p+n) v (by omega)]
  exact Ev.bindc hd k
theorem rK1_ok (s:ByteArray) (T:List Nd) (F To:List Int) (p n v:Nat) (e dep a b:Int) (c:Bool) (h:p+n+v≤1000000) (hv:((p+n+v:Nat):Int)≤e) {R:RR}
 (k:Ev (rK2 s T F To p dep ((p+n:Nat):Int) ((p+n+v:Nat):Int) a b c) R):Ev (rK1 s T F To p e dep a b c v n 0) R:=by
 unfold rK1
 refine Ev.ifp rfl (Ev.ifn ?_ ?_)
 ·rw [w64_sum p n (by omega),w64_sum (p+n) v (by omega)];omega
 ·rw [w64_sum p n (by omega),w64_sum (p+n) v (by omega)];exact k
def Rt (b:Int) (d:List Int):Prop:=Ev (fun k=>strs_Right.f k b (strOfNums d)) true∧Ev (fun k=>cr18_Right.f k b (strOfNums d)) true
def May (a b:Int) (c:Bool) (d:List Int):Prop:=a=0→(c=true→b=16∨b=17)∧(c=false→Rt b d)
theorem j0_true (p dep x y a b:Int) (c:Bool) (s:ByteArray) (T:List Nd) (F To:List Int):Ev (fun k=>cr19_walk_element.j0 k p dep x y true s T F To a b c) (0,5,p,s,T,F,To):=by
 refine Ev.step (fun k=>by rw [cr19_walk_element.j0]) ?_
 exact Ev.ifp rfl (Ev.now _)
theorem j1_true (p dep x y a b:Int) (c:Bool) (s:ByteArray) (T:List Nd) (F To:List Int):Ev (fun k=>cr19_walk_element.j1 k p dep x y true s T F To a b c) (0,5,p,s,T,F,To):=by
 refine Ev.step (fun k=>by rw [cr19_walk_element.j1]) ?_
 exact Ev.ifp rfl (Ev.now _)
theorem j0_false (p dep x y a b:Int) (c:Bool) (s:ByteArray) (T:List Nd) (F To:List Int) (h:a≠0∨c=true) {R:RR} (k:Ev (fun k=>cr19_walk_element.j1 k p dep x y false s T F To a b c) R):Ev (fun k=>cr19_walk_element.j0 k p dep x y false s T F To a b c) R:=by
 refine Ev.step (fun k=>by rw [cr19_walk_element.j0]) ?_
 refine Ev.ifn (by decide) ?_
 by_cases g:a=0
 ·exact Ev.ifp g (Ev.ifp (h.resolve_left (fun h=>h g)) k)
 ·exact Ev.ifn g k
theorem j0_prim (l:List Int) (p dep b:Int) (x v:Nat) (hx:x+v≤l.length) (T:List Nd) (F To:List Int) (t:Bool) (ht:Ev (fun k=>cr18_Right.f k b (strOfNums (seg l x (x+v)))) t) {R:RR} (k:Ev (fun k=>cr19_walk_element.j1 k p dep x ((x+v:Nat):Int) (!t) (strOfNums l) T F To 0 b false) R):Ev (fun k=>cr19_walk_element.j0 k p dep x ((x+v:Nat):Int) false (strOfNums l) T F To 0 b false) R:=by
 refine Ev.step (fun k=>by rw [cr19_walk_element.j0]) ?_
 refine Ev.ifn (by decide) (Ev.ifp rfl (Ev.ifn (by decide) (Ev.ifp (by omega) (Ev.ifp (by omega) (Ev.ifp (by rw [nums_sizeI];omega) ?_)))))
 rw [Int.toNat_natCast,Int.toNat_natCast,str_extract]
 exact Ev.bind ht k
theorem mj_true (d s:ByteArray) (T:List Nd) (sp:List (Nat × Nat)) (O:List Int) (b:Int) (c:Bool):Ev (fun k=>tlv_reader_may.j0 k d true s T sp O b c) (0,s,T,sp,O):=by
 refine Ev.step (fun k=>by rw [tlv_reader_may.j0]) ?_
 exact Ev.ifp rfl (Ev.now _)
theorem mj_cons (d s:ByteArray) (T:List Nd) (sp:List (Nat × Nat)) (O:List Int) (b:Int):Ev (fun k=>tlv_reader_may.j0 k d false s T sp O b true) (5,s,T,sp,O):=by
 refine Ev.step (fun k=>by rw [tlv_reader_may.j0]) ?_
 exact Ev.ifn (by decide) (Ev.ifp rfl (Ev.now _))
theorem mj_prim (d s:ByteArray) (T:List Nd) (sp:List (Nat × Nat)) (O:List Int) (b:Int) (t:Bool) (ht:Ev (fun k=>strs_Right.f k b d) t):Ev (fun k=>tlv_reader_may.j0 k d false s T sp O b false) (if t=true then 0 else 5,s,T,sp,O):=by
 refine Ev.step (fun k=>by rw [tlv_reader_may.j0]) ?_
 refine Ev.ifn (by decide) (Ev.ifn (by decide) (Ev.bind ht ?_))
 cases t with
 | true=>exact Ev.ifp rfl (Ev.now _)
 | false=>exact Ev.ifn (by decide) (Ev.now _)
theorem may_is (l:List Int) (hl:OkB l) (hs:l.length≤65535) (x v:Nat) (hx:x+v≤l.length) (a b:Int) (c:Bool):∃ t:Bool,(t=true↔May a b c (seg l x (x+v))) ∧
 (∀ (p dep:Int) (T:List Nd) (F To:List Int) (R:RR),(if t=true then Ev (fun k=>cr19_walk_element.j1 k p dep x ((x+v:Nat):Int) false (strOfNums l) T F To a b c) R else R=(0,5,p,strOfNums l,T,F,To))→Ev (rK3 (strOfNums l) T F To p dep x ((x+v:Nat):Int) a b c) R) ∧
 ∀ (T:List Nd) (sp:List (Nat × Nat)) (O:List Int),T.length < 1000→O.length < 16→Ev (fun k=>tlv_reader_may.f k (strOfNums l) T sp O a b c v (strOfNums (seg l x (x+v)))) (if t=true then 0 else 5,strOfNums l,T,sp,O):=by
 have hp:∀ (T:List Nd) (sp:List (Nat × Nat)) (O:List Int) (R:Int × ByteArray × List Nd × List (Nat × Nat) × List Int),T.length < 1000→O.length < 16→Ev (fun k=>(if a=0 then (if c=true then (if b=16 then (tlv_reader_may.j0 k (strOfNums (seg l x (x+v))) true (strOfNums l) T sp O b c) else (tlv_reader_may.j0 k (strOfNums (seg l x (x+v))) (b == 17) (strOfNums l) T sp O b c)) else (tlv_reader_may.j0 k (strOfNums (seg l x (x+v))) false (strOfNums l) T sp O b c)) else (some (0,(strOfNums l),T,sp,O)))) R →
  Ev (fun k=>tlv_reader_may.f k (strOfNums l) T sp O a b c v (strOfNums (seg l x (x+v)))) R:=by
  intro T sp O R h1 h2 hR
  refine Ev.congr (fun k=>by rw [tlv_reader_may.f]) ?_
  exact Ev.ifn (by omega) (Ev.ifn (by omega) hR)
 unfold rK3
 by_cases ga:a=0
 case neg =>
  refine ⟨true,⟨fun _ h=>absurd h ga,fun _=>rfl⟩,fun p dep T F To R hR=>Ev.ifn ga (j0_false _ _ _ _ _ _ _ _ _ _ _ (.inl ga) (by rwa [if_pos rfl] at hR)),fun T sp O h1 h2=>hp T sp O _ h1 h2 (Ev.ifn ga (Ev.now _))⟩
 subst ga
 cases c with
 | true =>
  by_cases gb:b=16
  ·exact ⟨true,⟨fun _ _=>⟨fun _=>.inl gb,fun h=>(by cases h)⟩,fun _=>rfl⟩,fun p dep T F To R hR=>Ev.ifp rfl (Ev.ifp rfl (Ev.ifp gb (j0_false _ _ _ _ _ _ _ _ _ _ _ (.inr rfl) (by rwa [if_pos rfl] at hR)))),fun T sp O h1 h2=>hp T sp O _ h1 h2 (Ev.ifp rfl (Ev.ifp rfl (Ev.ifp gb (mj_true _ _ _ _ _ _ _))))⟩
  by_cases gc:b=17
  ·subst gc
   exact ⟨true,⟨fun _ _=>⟨fun _=>.inr rfl,fun h=>(by cases h)⟩,fun _=>rfl⟩,fun p dep T F To R hR=>Ev.ifp rfl (Ev.ifp rfl (Ev.ifn gb (j0_false _ _ _ _ _ _ _ _ _ _ _ (.inr rfl) (by rwa [if_pos rfl] at hR)))),fun T sp O h1 h2=>hp T sp O _ h1 h2 (Ev.ifp rfl (Ev.ifp rfl (Ev.ifn gb (mj_true _ _ _ _ _ _ _))))⟩
  ·refine ⟨false,⟨fun h=>(by cases h),fun hM=>absurd ((hM rfl).1 rfl) (fun h=>h.elim gb gc)⟩,fun p dep T F To R hR=>Ev.ifp rfl (Ev.ifp rfl (Ev.ifn gb ?_)),fun T sp O h1 h2=>hp T sp O _ h1 h2 (Ev.ifp rfl (Ev.ifp rfl (Ev.ifn gb ?_)))⟩
   ·rw [if_neg (by decide)] at hR
    subst hR
    rw [show (b != 17)=true from bne_iff_ne.2 gc]
    exact j0_true _ _ _ _ _ _ _ _ _ _ _
   ·rw [show (b == 17)=false from beq_eq_false_iff_ne.2 gc]
    exact mj_cons _ _ _ _ _ _
 | false =>
  obtain ⟨t,t1,t2⟩:=strs_right_key b (seg l x (x+v)) (seg_ok hl _ _) (by rw [seg_len _ _ _ hx];omega)
  refine ⟨t,⟨fun ht _=>⟨fun h=>(by cases h),fun _=>by subst ht;exact ⟨t1,t2⟩⟩,fun hM=>t1.det ((hM rfl).2 rfl).1⟩,fun p dep T F To R hR=>Ev.ifp rfl (Ev.ifn (by decide) (j0_prim l p dep b x v hx T F To t t2 ?_)),fun T sp O h1 h2=>hp T sp O _ h1 h2 (Ev.ifp rfl (Ev.ifn (by decide) (mj_prim _ _ _ _ _ _ t t1)))⟩
  cases t with
  | true=>rwa [if_pos rfl] at hR
  | false =>
   rw [if_neg (by decide)] at hR
   subst hR
   exact j1_true _ _ _ _ _ _ _ _ _ _ _
theorem rK2_deep (s:ByteArray) (T:List Nd) (F To:List Int) (p dep x y a b:Int) (c:Bool) (h:dep > 16):Ev (rK2 s T F To p dep x y a b c) (0,6,p,s,T,F,To):=by
 unfold rK2
 exact Ev.ifp h (Ev.now _)
theorem rK2_many (s:ByteArray) (T:List Nd) (F To:List Int) (p dep x y a b:Int) (c:Bool) (h:¬ dep > 16) (h1:(T.length:Int)≥1000):Ev (rK2 s T F To p dep x y a b c) (0,4,p,s,T,F,To):=by
 unfold rK2
 exact Ev.ifn h (Ev.ifp h1 (Ev.now _))
theorem rK2_ok (s:ByteArray) (T:List Nd) (F To:List Int) (p dep x y a b:Int) (c:Bool) (h:¬ dep > 16) (h1:¬ (T.length:Int)≥1000) {R:RR} (k:Ev (rK3 s T F To p dep x y a b c) R):Ev (rK2 s T F To p dep x y a b c) R:=by
 unfold rK2
 exact Ev.ifn h (Ev.ifn h1 k)
theorem pK2_bad (s:ByteArray) (T:List Nd) (sp:List (Nat × Nat)) (O:List Int) (p x y a b:Int) (c:Bool) (v:Int) (d:ByteArray) (code:Int) (hc:code≠0) (h:Ev (fun k=>tlv_reader_may.f k s T sp O a b c v d) (code,s,T,sp,O)):Ev (pK2 s T sp O p x y a b c v d) (code,p,s,T,sp,O):=by
 unfold pK2
 refine Ev.bind h (Ev.ifn hc ?_)
 exact g00_is _ _ _ _ _ _ hc
theorem may_deep (s:ByteArray) (T:List Nd) (sp:List (Nat × Nat)) (O:List Int) (a b:Int) (c:Bool) (v:Int) (d:ByteArray) (h:O.length≥16):Ev (fun k=>tlv_reader_may.f k s T sp O a b c v d) (6,s,T,sp,O):=by
 refine Ev.congr (fun k=>by rw [tlv_reader_may.f]) ?_
 exact Ev.ifp (by omega) (Ev.now _)
theorem may_many (s:ByteArray) (T:List Nd) (sp:List (Nat × Nat)) (O:List Int) (a b:Int) (c:Bool) (v:Int) (d:ByteArray) (h:¬ O.length≥16) (h1:T.length≥1000):Ev (fun k=>tlv_reader_may.f k s T sp O a b c v d) (4,s,T,sp,O):=by
 refine Ev.congr (fun k=>by rw [tlv_reader_may.f]) ?_
 exact Ev.ifn (by omega) (Ev.ifp (by omega) (Ev.now _))
structure Cond (l:List Int) (T:List Nd) (F To:List Int) (O:List Nat) (e dep tl:Nat):Prop where
 t:T.length=tl
 sp:Sp l F To tl
 o:∀ o∈O,o < tl
 k:∀ x∈T,x.f4.length≤tl
 d:O.length=dep
 e:endN l To O=(e:Int)
theorem pK2_ok (l:List Int) (T:List Nd) (F To:List Int) (O:List Nat) (e dep tl:Nat) (hC:Cond l T F To O e dep tl) (hd:dep < 16) (ht:tl < 1000) (p x y:Nat) (hxy:p≤y) (hy:y≤65535) (a b:Int) (c:Bool) (v:Int) (d:ByteArray) (h:Ev (fun k=>tlv_reader_may.f k (strOfNums l) T (spl F To) (iz O) a b c v d) (0,strOfNums l,T,spl F To,iz O)) {R:PR}
 (k:if c=true then Ev (fun k=>tlv_reader_read.j3 k (x:Int) 0 (strOfNums l) (upd T O++[nd a b c ⟨#[]⟩ []]) (spl (F++[(p:Int)]) (To++[(y:Int)])) (iz (O++[tl]))) R else
  Ev (fun k=>tlv_reader_read.j3 k (y:Int) 0 (strOfNums l) (upd T O++[nd a b c d []]) (spl (F++[(p:Int)]) (To++[(y:Int)])) (iz O)) R):Ev (pK2 (strOfNums l) T (spl F To) (iz O) p x y a b c v d) R:=by
 unfold pK2
 have hFT:F.length=To.length:=by rw [hC.sp.f,hC.sp.t]
 refine Ev.bind h (Ev.ifp rfl (Ev.bindc (span_Of_is p y hxy (by omega)) ?_))
 refine Ev.bindc (put_is (strOfNums l) T (spl F To) O a b c v d (fl p,fl y) (by have:=hC.t;omega) (by rw [spl_length F To hFT,hC.sp.f];omega) (by have:=hC.d;omega) (fun o ho=>by rw [hC.t];exact hC.o o ho) (by rw [hC.t];exact hC.k)) ?_
 rw [spl_snoc F To hFT,hC.t]
 cases c with
 | true=>rw [if_pos rfl] at k;exact Ev.ifp rfl k
 | false=>rw [if_neg (by decide)] at k;exact Ev.ifn (by decide) k
end Go.Proofs.YtdombjceoocnhaaGreatDoor.Pure
