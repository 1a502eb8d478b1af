import Derived.Shelf.Strings.Builder1
import Derived.Shelf.Strings.Builder2
import Derived.Shelf.Strings.OnBuilder
import Derived.Shelf.Strings.Trim
import Derived.Shelf.Small.Utf8
import Derived.Shelf.Small.Strs
import Derived.Shelf.Strings.BuilderF
import Derived.Shelf.Strconv.Atoi
import Derived.Shelf.Strconv.Itoa0
import Derived.Shelf.Strconv.Itoa1
import Derived.Shelf.LaysM
import Derived.Shelf.Strconv.Itoa2
import Derived.Shelf.Strconv.Itoa3
import Derived.Shelf.Strconv.AtoiErrFast
import Derived.Shelf.Strconv.ParseIntEmpty
import Derived.Shelf.Strconv.AtoiFail
import Derived.Shelf.Strconv.Clone
import Derived.Shelf.Strconv.SyntaxError
import Derived.Shelf.LaysC
import Derived.Shelf.Strconv.ToError
import Derived.Shelf.Strconv.AtoiErr
import Derived.Shelf.Strconv.Lower
import Derived.Shelf.Strconv.ParseUint10
import Derived.Shelf.Strconv.ParseUint10Empty
import Derived.Shelf.Strconv.ParseUint10Any
import Derived.Shelf.Strconv.ParseInt10
import Derived.Shelf.Strconv.AtoiLong
import Derived.Shelf.Strconv.AtoiInnerAll
import Derived.Shelf.Strconv.RangeError
import Derived.Shelf.Strconv.ToErrorRange
import Derived.Shelf.Strconv.AtoiAll
import Derived.Shelf.Strings.Search1
import Derived.Shelf.Strings.Search2
import Derived.Shelf.Strings.Search3
import Derived.Shelf.Strings.Shaped
import Derived.Shelf.GgClosure.StringsIndexFunc
import Derived.Ground.GgwProg
import Derived.Shelf.GgClosure.StringsIndexFuncTop
import Derived.Shelf.GgClosure.StringsRunes
import Derived.Shelf.Strings.Prefix
import Derived.Shelf.Unicode.Decode
import Derived.Shelf.Strings.Runes
import Derived.Shelf.Strings.AsciiSet
import Derived.Shelf.Bits.Mul64
import Derived.Shelf.Strings.Repeat
import Derived.Shelf.Unicode.DecodeSlow
import Derived.Shelf.Unicode.DecodeAny
import Derived.Shelf.Unicode.DecodeLast
import Derived.Shelf.Strings.FuncGrows
import Derived.Ground.Names2Prog
import Derived.Shelf.Slices.Clone
import Derived.Ground.SlgnProg
import Derived.Shelf.SlicesE.Clone
import Derived.Test.YtdombjceoocnhaaGreatDoorProg
set_option linter.unusedSectionVars false
set_option linter.unusedSimpArgs false
set_option linter.unusedVariables false
namespace Go.Proofs
open Go.Shelf
def Tryz.Uz:Go.Shelf.Ren:=⟨fun | 156=>91 | 165=>62 | 166=>63 | 169=>65 | 240=>99 | 241=>100 | 276=>127 | 277=>128 | n=>n,fun | 31=>133 | 9=>9 | 3=>3 | 4=>4 | 0=>0 | 20=>20 | 72=>100 | 76=>104 | 70=>98 | 37=>64 | 75=>103 | 127=>147 | 164=>173 | 5=>5 | 80=>107 | n=>n,fun | n=>n⟩
theorem Tryz.WG:Go.Proofs.Lays.n156 Tryz.prog Tryz.Uz:={
  mixed:=by kernel_rfl
  f156:=Tryz.func91.trans (congrArg some (by kernel_rfl))
  f165:=Tryz.func62.trans (congrArg some (by kernel_rfl))
  f166:=Tryz.func63.trans (congrArg some (by kernel_rfl))
  f169:=Tryz.func65.trans (congrArg some (by kernel_rfl))
  f240:=Tryz.func99.trans (congrArg some (by kernel_rfl))
  f241:=Tryz.func100.trans (congrArg some (by kernel_rfl))
  f276:=Tryz.func127.trans (congrArg some (by kernel_rfl))
  f277:=Tryz.func128.trans (congrArg some (by kernel_rfl))
  t0:=Tryz.underlying0
  a0:=Tryz.isAgg0
  z0:=Tryz.sizeOf0
  v0:=Tryz.zeroValue0
  t3:=Tryz.underlying3
  a3:=Tryz.isAgg3
  z3:=Tryz.sizeOf3
  v3:=Tryz.zeroValue3
  t4:=Tryz.underlying4
  a4:=Tryz.isAgg4
  z4:=Tryz.sizeOf4
  v4:=Tryz.zeroValue4
  t9:=Tryz.underlying9
  a9:=Tryz.isAgg9
  z9:=Tryz.sizeOf9
  v9:=Tryz.zeroValue9
  t20:=Tryz.underlying20
  a20:=Tryz.isAgg20
  z20:=Tryz.sizeOf20
  v20:=Tryz.zeroValue20
  t31:=Tryz.underlying133
  a31:=Tryz.isAgg133
  z31:=Tryz.sizeOf133
  v31:=Tryz.zeroValue133
  t37:=Tryz.underlying64
  a37:=Tryz.isAgg64
  z37:=Tryz.sizeOf64
  v37:=Tryz.zeroValue64
  t70:=Tryz.underlying98
  a70:=Tryz.isAgg98
  z70:=Tryz.sizeOf98
  v70:=Tryz.zeroValue98
  t72:=Tryz.underlying100
  a72:=Tryz.isAgg100
  z72:=Tryz.sizeOf100
  v72:=Tryz.zeroValue100
  t75:=Tryz.underlying103
  a75:=Tryz.isAgg103
  z75:=Tryz.sizeOf103
  v75:=Tryz.zeroValue103
  t76:=Tryz.underlying104
  a76:=Tryz.isAgg104
  z76:=Tryz.sizeOf104
  v76:=Tryz.zeroValue104
  t127:=Tryz.underlying147
  a127:=Tryz.isAgg147
  z127:=Tryz.sizeOf147
  v127:=Tryz.zeroValue147
  t164:=Tryz.underlying173
  a164:=Tryz.isAgg173
  z164:=Tryz.sizeOf173
  v164:=Tryz.zeroValue173 }
theorem Tryz.T9:Builder.Extra Tryz.prog Tryz.Uz:={
  sizeBuilder:=by kernel_rfl
  liesBuilder:=by kernel_rfl
  t5:=Tryz.underlying5
  a5:=Tryz.isAgg5
  z5:=Tryz.sizeOf5
  v5:=Tryz.zeroValue5
  infoByte:=by kernel_rfl
  cellsByte:=by kernel_rfl
  sizeByte:=by kernel_rfl
  neB5:=by decide }
open Go.RowKit in
theorem Tryz.strings_Join_none (a:Option Addr) (c:Nat) (sep:ByteArray) (w:World) :
 Calls Tryz.prog 91 #[.slice a 0 c,.string sep] w fun e w'=>e=.returned (.string ⟨#[]⟩)∧w'=w:=Any.strings_Join_none Tryz.WG Tryz.T9 a c sep w
open Go.RowKit in
theorem Tryz.strings_Join (bk o c:Nat) (xs:List ByteArray) (sep:ByteArray) (w:World) (hcells:∀ (j:Nat) x,xs[j]? = some x→w.cell? ⟨bk,o+j,none⟩=some (.string x)) (hbk:bk < w.heap.size) (hN:xs.length≤140737488355328) (hcap:xs.length≤c) (hlen:(Lib.join (xs.map (·.data.toList)) sep.data.toList).length≤140737488355328) :
 Calls Tryz.prog 91 #[.slice (some ⟨bk,o,none⟩) xs.length c,.string sep] w fun e w'=>e=.returned (.string ⟨(Lib.join (xs.map (·.data.toList)) sep.data.toList).toArray⟩)∧Below w.heap.size w w':=Any.strings_Join Tryz.WG Tryz.T9 bk o c xs sep w hcells hbk hN hcap hlen
def Tryz.abR:Go.Shelf.Ren:=⟨fun | 160=>66 | 232=>102 | 231=>101 | 227=>103 | 234=>105 | 233=>104 | 236=>107 | 235=>106 | 228=>129 | 271=>132 | 151=>131 | 197=>130 | 120=>152 | 152=>151 | 260=>150 | 137=>153 | 119=>165 | 224=>166 | 225=>167 | 217=>168 | 266=>181 | n=>n,fun | 9=>9 | 4=>4 | 3=>3 | 5=>5 | 117=>151 | 116=>150 | 0=>0 | 124=>154 | 21=>21 | 105=>177 | 46=>94 | 119=>200 | 139=>203 | 138=>202 | n=>n,fun | 3=>1 | 4=>2 | n=>n⟩
theorem Tryz.ae5:Go.Proofs.Lays.n160 Tryz.prog Tryz.abR:={
  mixed:=by kernel_rfl
  f119:=Tryz.func165.trans (congrArg some (by kernel_rfl))
  f120:=Tryz.func152.trans (congrArg some (by kernel_rfl))
  f137:=Tryz.func153.trans (congrArg some (by kernel_rfl))
  f151:=Tryz.func131.trans (congrArg some (by kernel_rfl))
  f152:=Tryz.func151.trans (congrArg some (by kernel_rfl))
  f160:=Tryz.func66.trans (congrArg some (by kernel_rfl))
  f197:=Tryz.func130.trans (congrArg some (by kernel_rfl))
  f217:=Tryz.func168.trans (congrArg some (by kernel_rfl))
  f224:=Tryz.func166.trans (congrArg some (by kernel_rfl))
  f225:=Tryz.func167.trans (congrArg some (by kernel_rfl))
  f227:=Tryz.func103.trans (congrArg some (by kernel_rfl))
  f228:=Tryz.func129.trans (congrArg some (by kernel_rfl))
  f231:=Tryz.func101.trans (congrArg some (by kernel_rfl))
  f232:=Tryz.func102.trans (congrArg some (by kernel_rfl))
  f233:=Tryz.func104.trans (congrArg some (by kernel_rfl))
  f234:=Tryz.func105.trans (congrArg some (by kernel_rfl))
  f235:=Tryz.func106.trans (congrArg some (by kernel_rfl))
  f236:=Tryz.func107.trans (congrArg some (by kernel_rfl))
  f260:=Tryz.func150.trans (congrArg some (by kernel_rfl))
  f266:=Tryz.func181.trans (congrArg some (by kernel_rfl))
  f271:=Tryz.func132.trans (congrArg some (by kernel_rfl))
  t0:=Tryz.underlying0
  a0:=Tryz.isAgg0
  z0:=Tryz.sizeOf0
  v0:=Tryz.zeroValue0
  t3:=Tryz.underlying3
  a3:=Tryz.isAgg3
  z3:=Tryz.sizeOf3
  v3:=Tryz.zeroValue3
  t4:=Tryz.underlying4
  a4:=Tryz.isAgg4
  z4:=Tryz.sizeOf4
  v4:=Tryz.zeroValue4
  t5:=Tryz.underlying5
  a5:=Tryz.isAgg5
  z5:=Tryz.sizeOf5
  v5:=Tryz.zeroValue5
  t9:=Tryz.underlying9
  a9:=Tryz.isAgg9
  z9:=Tryz.sizeOf9
  v9:=Tryz.zeroValue9
  t21:=Tryz.underlying21
  a21:=Tryz.isAgg21
  z21:=Tryz.sizeOf21
  v21:=Tryz.zeroValue21
  t46:=Tryz.underlying94
  a46:=Tryz.isAgg94
  z46:=Tryz.sizeOf94
  v46:=Tryz.zeroValue94
  t105:=Tryz.underlying177
  a105:=Tryz.isAgg177
  z105:=Tryz.sizeOf177
  v105:=Tryz.zeroValue177
  t116:=Tryz.underlying150
  a116:=Tryz.isAgg150
  z116:=Tryz.sizeOf150
  t117:=Tryz.underlying151
  a117:=Tryz.isAgg151
  z117:=Tryz.sizeOf151
  v117:=Tryz.zeroValue151
  t119:=Tryz.underlying200
  a119:=Tryz.isAgg200
  z119:=Tryz.sizeOf200
  t124:=Tryz.underlying154
  a124:=Tryz.isAgg154
  z124:=Tryz.sizeOf154
  v124:=Tryz.zeroValue154
  t138:=Tryz.underlying202
  a138:=Tryz.isAgg202
  z138:=Tryz.sizeOf202
  v138:=Tryz.zeroValue202
  t139:=Tryz.underlying203
  a139:=Tryz.isAgg203
  z139:=Tryz.sizeOf203
  v139:=Tryz.zeroValue203
  g3:=by kernel_rfl
  g4:=by kernel_rfl }
open Go.RowKit in
theorem Tryz.strings_Trim_one (s:ByteArray) (c:UInt8) (hc:c.toNat < 128) (w:World) (hs:s.size≤9223372036854775807) :
 Calls Tryz.prog 66 #[.string s,.string ⟨#[c]⟩] w fun e w'=>e=.returned (.string ⟨(Lib.trimB s.data.toList c).toArray⟩)∧(w'=w∨w'=w.drew):=Any.strings_Trim_one Tryz.ae5 s c hc w hs
def Tryz.abS:Go.Shelf.Ren:=⟨fun | 119=>165 | n=>n,fun | 21=>21 | 4=>4 | n=>n,fun | n=>n⟩
theorem Tryz.ae6:Go.Proofs.Lays.n119 Tryz.prog Tryz.abS:={
  mixed:=by kernel_rfl
  f119:=Tryz.func165.trans (congrArg some (by kernel_rfl))
  t4:=Tryz.underlying4
  a4:=Tryz.isAgg4
  z4:=Tryz.sizeOf4
  v4:=Tryz.zeroValue4
  t21:=Tryz.underlying21
  a21:=Tryz.isAgg21
  z21:=Tryz.sizeOf21
  v21:=Tryz.zeroValue21 }
theorem Tryz.utf8_ValidRune (r:Int) (w:World) :
 Calls Tryz.prog 165 #[.int .i32 r] w fun e w'=>e=.returned (.bool (Lib.validRune r))∧w'=w:=Any.utf8_ValidRune Tryz.ae6 r w
def Tryz.abT:Go.Shelf.Ren:=⟨fun | 106=>67 | 213=>108 | 265=>133 | n=>n,fun | 9=>9 | 3=>3 | n=>n,fun | n=>n⟩
theorem Tryz.ae7:Go.Proofs.Lays.n106 Tryz.prog Tryz.abT:={
  mixed:=by kernel_rfl
  f106:=Tryz.func67.trans (congrArg some (by kernel_rfl))
  f213:=Tryz.func108.trans (congrArg some (by kernel_rfl))
  f265:=Tryz.func133.trans (congrArg some (by kernel_rfl))
  t3:=Tryz.underlying3
  a3:=Tryz.isAgg3
  z3:=Tryz.sizeOf3
  v3:=Tryz.zeroValue3
  t9:=Tryz.underlying9
  a9:=Tryz.isAgg9
  z9:=Tryz.sizeOf9
  v9:=Tryz.zeroValue9 }
open Go.RowKit in
theorem Tryz.strings_Compare (a b:ByteArray) (w:World) :
 Calls Tryz.prog 67 #[.string a,.string b] w fun e w'=>e=.returned (.int .i64 (Lib.compareBytes a.data.toList b.data.toList))∧w'=w:=Any.strings_Compare Tryz.ae7 a b w
def Tryz.abU:Go.Shelf.Ren:=⟨fun | 137=>153 | 217=>168 | 266=>181 | n=>n,fun | 9=>9 | 5=>5 | 3=>3 | n=>n,fun | n=>n⟩
theorem Tryz.ae8:Go.Proofs.Lays.n137 Tryz.prog Tryz.abU:={
  mixed:=by kernel_rfl
  f137:=Tryz.func153.trans (congrArg some (by kernel_rfl))
  f217:=Tryz.func168.trans (congrArg some (by kernel_rfl))
  f266:=Tryz.func181.trans (congrArg some (by kernel_rfl))
  t3:=Tryz.underlying3
  a3:=Tryz.isAgg3
  z3:=Tryz.sizeOf3
  v3:=Tryz.zeroValue3
  t5:=Tryz.underlying5
  a5:=Tryz.isAgg5
  z5:=Tryz.sizeOf5
  v5:=Tryz.zeroValue5
  t9:=Tryz.underlying9
  a9:=Tryz.isAgg9
  z9:=Tryz.sizeOf9
  v9:=Tryz.zeroValue9 }
open Go.RowKit in
theorem Tryz.strings_IndexByte (s:ByteArray) (c:Int) (w:World) :
 Calls Tryz.prog 153 #[.string s,.int .u8 c] w fun e w'=>e=.returned (.int .i64 (Lib.indexByte s.data.toList c.toNat.toUInt8))∧w'=w:=Any.strings_IndexByte Tryz.ae8 s c w
def Tryz.abj:Go.Shelf.Ren:=⟨fun | 171=>124 | 243=>142 | 246=>162 | 283=>177 | 284=>178 | 285=>179 | 286=>180 | 129=>188 | 317=>187 | 318=>189 | 319=>190 | 320=>191 | 337=>195 | 338=>196 | n=>n,fun | 3=>3 | 9=>9 | 2=>2 | 4=>4 | 171=>212 | 0=>0 | 53=>116 | 37=>64 | 5=>5 | 173=>215 | 212=>225 | 51=>142 | 20=>20 | 213=>226 | 46=>94 | 232=>234 | 233=>235 | n=>n,fun | 17=>5 | 18=>6 | 19=>7 | n=>n⟩
theorem Tryz.ad6:Go.Proofs.LaysM.n171 Tryz.prog Tryz.abj:={
  mixed:=by kernel_rfl
  f129:=Tryz.func188.trans (congrArg some (by kernel_rfl))
  f171:=Tryz.func124.trans (congrArg some (by kernel_rfl))
  f243:=Tryz.func142.trans (congrArg some (by kernel_rfl))
  f246:=Tryz.func162.trans (congrArg some (by kernel_rfl))
  f283:=Tryz.func177.trans (congrArg some (by kernel_rfl))
  f284:=Tryz.func178.trans (congrArg some (by kernel_rfl))
  f285:=Tryz.func179.trans (congrArg some (by kernel_rfl))
  f286:=Tryz.func180.trans (congrArg some (by kernel_rfl))
  f317:=Tryz.func187.trans (congrArg some (by kernel_rfl))
  f318:=Tryz.func189.trans (congrArg some (by kernel_rfl))
  f319:=Tryz.func190.trans (congrArg some (by kernel_rfl))
  f320:=Tryz.func191.trans (congrArg some (by kernel_rfl))
  f337:=Tryz.func195.trans (congrArg some (by kernel_rfl))
  f338:=Tryz.func196.trans (congrArg some (by kernel_rfl))
  t0:=Tryz.underlying0
  a0:=Tryz.isAgg0
  z0:=Tryz.sizeOf0
  v0:=Tryz.zeroValue0
  t2:=Tryz.underlying2
  a2:=Tryz.isAgg2
  z2:=Tryz.sizeOf2
  v2:=Tryz.zeroValue2
  t3:=Tryz.underlying3
  a3:=Tryz.isAgg3
  z3:=Tryz.sizeOf3
  v3:=Tryz.zeroValue3
  t4:=Tryz.underlying4
  a4:=Tryz.isAgg4
  z4:=Tryz.sizeOf4
  v4:=Tryz.zeroValue4
  t5:=Tryz.underlying5
  a5:=Tryz.isAgg5
  z5:=Tryz.sizeOf5
  v5:=Tryz.zeroValue5
  t9:=Tryz.underlying9
  a9:=Tryz.isAgg9
  z9:=Tryz.sizeOf9
  v9:=Tryz.zeroValue9
  t20:=Tryz.underlying20
  a20:=Tryz.isAgg20
  z20:=Tryz.sizeOf20
  v20:=Tryz.zeroValue20
  t37:=Tryz.underlying64
  a37:=Tryz.isAgg64
  z37:=Tryz.sizeOf64
  v37:=Tryz.zeroValue64
  t46:=Tryz.underlying94
  a46:=Tryz.isAgg94
  z46:=Tryz.sizeOf94
  v46:=Tryz.zeroValue94
  t51:=Tryz.underlying142
  a51:=Tryz.isAgg142
  z51:=Tryz.sizeOf142
  v51:=Tryz.zeroValue142
  t53:=Tryz.underlying116
  a53:=Tryz.isAgg116
  z53:=Tryz.sizeOf116
  v53:=Tryz.zeroValue116
  t171:=Tryz.underlying212
  a171:=Tryz.isAgg212
  z171:=Tryz.sizeOf212
  v171:=Tryz.zeroValue212
  t173:=Tryz.underlying215
  a173:=Tryz.isAgg215
  z173:=Tryz.sizeOf215
  v173:=Tryz.zeroValue215
  t212:=Tryz.underlying225
  a212:=Tryz.isAgg225
  z212:=Tryz.sizeOf225
  v212:=Tryz.zeroValue225
  t213:=Tryz.underlying226
  a213:=Tryz.isAgg226
  z213:=Tryz.sizeOf226
  t232:=Tryz.underlying234
  a232:=Tryz.isAgg234
  z232:=Tryz.sizeOf234
  v232:=Tryz.zeroValue234
  t233:=Tryz.underlying235
  a233:=Tryz.isAgg235
  z233:=Tryz.sizeOf235
  v233:=Tryz.zeroValue235
  g17:=by kernel_rfl
  g18:=by kernel_rfl
  g19:=by kernel_rfl
  i0:=by kernel_rfl
  i2:=by kernel_rfl
  i3:=by kernel_rfl
  i4:=by kernel_rfl
  i5:=by kernel_rfl
  i9:=by kernel_rfl
  i20:=by kernel_rfl
  i37:=by kernel_rfl
  i46:=by kernel_rfl
  i51:=by kernel_rfl
  i53:=by kernel_rfl
  i171:=by kernel_rfl
  i173:=by kernel_rfl
  i212:=by kernel_rfl
  i232:=by kernel_rfl
  i233:=by kernel_rfl
  m17:=by kernel_rfl
  m18:=by kernel_rfl
  m19:=by kernel_rfl }
open Go.RowKit Go.Sort Go.Lib in
theorem Tryz.strconv_Itoa (n:Int) (h0 : -9223372036854775808≤n) (h1:n≤9223372036854775807) (w:World) (htab:Lib.TabIs Tryz.prog w "internal/strconv.uint64pow10" .u64 Lib.pow10Tab) :
 Calls Tryz.prog 124 #[.int .i64 n] w fun e w'=>e=.returned (.string ⟨(Lib.itoa n).toArray⟩)∧∃ k os,w'=grow (w.drewN k) os:=Any.strconv_Itoa Tryz.ad6 n h0 h1 w htab
def Tryz.abk:Go.Shelf.Ren:=⟨fun | 172=>136 | 244=>156 | 245=>157 | 247=>170 | 279=>171 | 280=>172 | 281=>173 | 282=>174 | 287=>183 | 316=>184 | 171=>124 | 205=>185 | 321=>193 | 322=>194 | 243=>142 | 246=>162 | 283=>177 | 284=>178 | 285=>179 | 286=>180 | 129=>188 | 317=>187 | 318=>189 | 319=>190 | 320=>191 | 337=>195 | 338=>196 | n=>n,fun | 9=>9 | 3=>3 | 75=>103 | 76=>104 | 4=>4 | 5=>5 | 167=>204 | 37=>64 | 0=>0 | 85=>205 | 2=>2 | 168=>207 | 53=>116 | 175=>217 | 46=>94 | 210=>221 | 127=>147 | 145=>232 | 143=>230 | 21=>21 | 171=>212 | 173=>215 | 212=>225 | 51=>142 | 20=>20 | 213=>226 | 232=>234 | 233=>235 | 80=>107 | n=>n,fun | 15=>3 | 16=>4 | 17=>5 | 18=>6 | 19=>7 | n=>n⟩
theorem Tryz.IU:Go.Proofs.LaysC.n172 Tryz.prog Tryz.abk:={
  mixed:=by kernel_rfl
  f129:=Tryz.func188.trans (congrArg some (by kernel_rfl))
  f171:=Tryz.func124.trans (congrArg some (by kernel_rfl))
  f172:=Tryz.func136.trans (congrArg some (by kernel_rfl))
  f205:=Tryz.func185.trans (congrArg some (by kernel_rfl))
  f243:=Tryz.func142.trans (congrArg some (by kernel_rfl))
  f244:=Tryz.func156.trans (congrArg some (by kernel_rfl))
  f245:=Tryz.func157.trans (congrArg some (by kernel_rfl))
  f246:=Tryz.func162.trans (congrArg some (by kernel_rfl))
  f247:=Tryz.func170.trans (congrArg some (by kernel_rfl))
  f279:=Tryz.func171.trans (congrArg some (by kernel_rfl))
  f280:=Tryz.func172.trans (congrArg some (by kernel_rfl))
  f281:=Tryz.func173.trans (congrArg some (by kernel_rfl))
  f282:=Tryz.func174.trans (congrArg some (by kernel_rfl))
  f283:=Tryz.func177.trans (congrArg some (by kernel_rfl))
  f284:=Tryz.func178.trans (congrArg some (by kernel_rfl))
  f285:=Tryz.func179.trans (congrArg some (by kernel_rfl))
  f286:=Tryz.func180.trans (congrArg some (by kernel_rfl))
  f287:=Tryz.func183.trans (congrArg some (by kernel_rfl))
  f316:=Tryz.func184.trans (congrArg some (by kernel_rfl))
  f317:=Tryz.func187.trans (congrArg some (by kernel_rfl))
  f318:=Tryz.func189.trans (congrArg some (by kernel_rfl))
  f319:=Tryz.func190.trans (congrArg some (by kernel_rfl))
  f320:=Tryz.func191.trans (congrArg some (by kernel_rfl))
  f321:=Tryz.func193.trans (congrArg some (by kernel_rfl))
  f322:=Tryz.func194.trans (congrArg some (by kernel_rfl))
  f337:=Tryz.func195.trans (congrArg some (by kernel_rfl))
  f338:=Tryz.func196.trans (congrArg some (by kernel_rfl))
  t0:=Tryz.underlying0
  a0:=Tryz.isAgg0
  z0:=Tryz.sizeOf0
  v0:=Tryz.zeroValue0
  t2:=Tryz.underlying2
  a2:=Tryz.isAgg2
  z2:=Tryz.sizeOf2
  v2:=Tryz.zeroValue2
  t3:=Tryz.underlying3
  a3:=Tryz.isAgg3
  z3:=Tryz.sizeOf3
  v3:=Tryz.zeroValue3
  t4:=Tryz.underlying4
  a4:=Tryz.isAgg4
  z4:=Tryz.sizeOf4
  v4:=Tryz.zeroValue4
  t5:=Tryz.underlying5
  a5:=Tryz.isAgg5
  z5:=Tryz.sizeOf5
  v5:=Tryz.zeroValue5
  t9:=Tryz.underlying9
  a9:=Tryz.isAgg9
  z9:=Tryz.sizeOf9
  v9:=Tryz.zeroValue9
  t20:=Tryz.underlying20
  a20:=Tryz.isAgg20
  z20:=Tryz.sizeOf20
  v20:=Tryz.zeroValue20
  t21:=Tryz.underlying21
  a21:=Tryz.isAgg21
  z21:=Tryz.sizeOf21
  v21:=Tryz.zeroValue21
  t37:=Tryz.underlying64
  a37:=Tryz.isAgg64
  z37:=Tryz.sizeOf64
  v37:=Tryz.zeroValue64
  t46:=Tryz.underlying94
  a46:=Tryz.isAgg94
  z46:=Tryz.sizeOf94
  v46:=Tryz.zeroValue94
  t51:=Tryz.underlying142
  a51:=Tryz.isAgg142
  z51:=Tryz.sizeOf142
  v51:=Tryz.zeroValue142
  t53:=Tryz.underlying116
  a53:=Tryz.isAgg116
  z53:=Tryz.sizeOf116
  v53:=Tryz.zeroValue116
  t75:=Tryz.underlying103
  a75:=Tryz.isAgg103
  z75:=Tryz.sizeOf103
  v75:=Tryz.zeroValue103
  t76:=Tryz.underlying104
  a76:=Tryz.isAgg104
  z76:=Tryz.sizeOf104
  v76:=Tryz.zeroValue104
  t85:=Tryz.underlying205
  a85:=Tryz.isAgg205
  z85:=Tryz.sizeOf205
  v85:=Tryz.zeroValue205
  t127:=Tryz.underlying147
  a127:=Tryz.isAgg147
  z127:=Tryz.sizeOf147
  v127:=Tryz.zeroValue147
  t143:=Tryz.underlying230
  a143:=Tryz.isAgg230
  z143:=Tryz.sizeOf230
  v143:=Tryz.zeroValue230
  t145:=Tryz.underlying232
  a145:=Tryz.isAgg232
  z145:=Tryz.sizeOf232
  v145:=Tryz.zeroValue232
  t167:=Tryz.underlying204
  a167:=Tryz.isAgg204
  z167:=Tryz.sizeOf204
  v167:=Tryz.zeroValue204
  t168:=Tryz.underlying207
  a168:=Tryz.isAgg207
  z168:=Tryz.sizeOf207
  v168:=Tryz.zeroValue207
  t171:=Tryz.underlying212
  a171:=Tryz.isAgg212
  z171:=Tryz.sizeOf212
  v171:=Tryz.zeroValue212
  t173:=Tryz.underlying215
  a173:=Tryz.isAgg215
  z173:=Tryz.sizeOf215
  v173:=Tryz.zeroValue215
  t175:=Tryz.underlying217
  a175:=Tryz.isAgg217
  z175:=Tryz.sizeOf217
  v175:=Tryz.zeroValue217
  t210:=Tryz.underlying221
  a210:=Tryz.isAgg221
  z210:=Tryz.sizeOf221
  v210:=Tryz.zeroValue221
  t212:=Tryz.underlying225
  a212:=Tryz.isAgg225
  z212:=Tryz.sizeOf225
  v212:=Tryz.zeroValue225
  t213:=Tryz.underlying226
  a213:=Tryz.isAgg226
  z213:=Tryz.sizeOf226
  t232:=Tryz.underlying234
  a232:=Tryz.isAgg234
  z232:=Tryz.sizeOf234
  v232:=Tryz.zeroValue234
  t233:=Tryz.underlying235
  a233:=Tryz.isAgg235
  z233:=Tryz.sizeOf235
  v233:=Tryz.zeroValue235
  g15:=by kernel_rfl
  g16:=by kernel_rfl
  g17:=by kernel_rfl
  g18:=by kernel_rfl
  g19:=by kernel_rfl
  t80:=Tryz.underlying107
  a80:=Tryz.isAgg107
  z80:=Tryz.sizeOf107
  v80:=Tryz.zeroValue107
  i0:=by kernel_rfl
  i2:=by kernel_rfl
  i3:=by kernel_rfl
  i4:=by kernel_rfl
  i5:=by kernel_rfl
  i9:=by kernel_rfl
  i20:=by kernel_rfl
  i21:=by kernel_rfl
  i37:=by kernel_rfl
  i46:=by kernel_rfl
  i51:=by kernel_rfl
  i53:=by kernel_rfl
  i75:=by kernel_rfl
  i76:=by kernel_rfl
  i80:=by kernel_rfl
  i85:=by kernel_rfl
  i127:=by kernel_rfl
  i143:=by kernel_rfl
  i145:=by kernel_rfl
  i167:=by kernel_rfl
  i168:=by kernel_rfl
  i171:=by kernel_rfl
  i173:=by kernel_rfl
  i175:=by kernel_rfl
  i210:=by kernel_rfl
  i212:=by kernel_rfl
  i232:=by kernel_rfl
  i233:=by kernel_rfl
  m15:=by kernel_rfl
  m16:=by kernel_rfl
  m17:=by kernel_rfl
  m18:=by kernel_rfl
  m19:=by kernel_rfl
  c0:=by kernel_rfl
  c2:=by kernel_rfl
  c3:=by kernel_rfl
  c4:=by kernel_rfl
  c5:=by kernel_rfl
  c9:=by kernel_rfl
  c20:=by kernel_rfl
  c21:=by kernel_rfl
  c37:=by kernel_rfl
  c46:=by kernel_rfl
  c51:=by kernel_rfl
  c53:=by kernel_rfl
  c75:=by kernel_rfl
  c76:=by kernel_rfl
  c80:=by kernel_rfl
  c85:=by kernel_rfl
  c127:=by kernel_rfl
  c143:=by kernel_rfl
  c145:=by kernel_rfl
  c167:=by kernel_rfl
  c168:=by kernel_rfl
  c171:=by kernel_rfl
  c173:=by kernel_rfl
  c175:=by kernel_rfl
  c210:=by kernel_rfl
  c212:=by kernel_rfl
  c213:=by kernel_rfl
  c232:=by kernel_rfl
  c233:=by kernel_rfl }
open Go.RowKit in
theorem Tryz.strconv_Atoi_ok (s:ByteArray) (hmax:s.size≤9223372036854775806) (v:Int) (h:Lib.atoiAll s.data.toList=.ok v) (w:World) :
 Calls Tryz.prog 136 #[.string s] w fun e w'=>e=.returned (.tuple #[.int .i64 v,.nilIface])∧(w'=w∨∃ t,w'=Lib.bytesWorld w 5 t):=Any.strconv_Atoi_ok Tryz.IU s hmax v h w
open Go.RowKit in
theorem Tryz.strconv_Atoi_syntax (s:ByteArray) (hlim:s.size≤281474976710656) (h:Lib.atoiAll s.data.toList=.«syntax») (ev:Value) (w:World) (hv:w.cell? ⟨3,0,none⟩=some ev) (hev:ev=.nilIface∨∃ te pe,ev=.iface te pe) :
 Calls Tryz.prog 136 #[.string s] w fun e w'=>∃ N,e=.returned (.tuple #[.int .i64 (0),.iface 207 (.pointer (some ⟨N,0,none⟩))])∧w.heap.size≤N∧w'.heap[N]? = some (.cells #[.string ⟨#[65,116,111,105]⟩,.string s,ev] 221 (0,0))∧Below w.heap.size w w':=Any.strconv_Atoi_syntax Tryz.IU s hlim h ev w hv hev
open Go.RowKit in
theorem Tryz.strconv_Atoi_range (s:ByteArray) (hlim:s.size≤281474976710656) (h:Lib.atoiAll s.data.toList=.range) (ev:Value) (w:World) (hv:w.cell? ⟨4,0,none⟩=some ev) (hev:ev=.nilIface∨∃ te pe,ev=.iface te pe) :
 Calls Tryz.prog 136 #[.string s] w fun e w'=>∃ N,e=.returned (.tuple #[.int .i64 (Lib.atoiSat s.data.toList),.iface 207 (.pointer (some ⟨N,0,none⟩))])∧w.heap.size≤N∧w'.heap[N]? = some (.cells #[.string ⟨#[65,116,111,105]⟩,.string s,ev] 221 (0,0))∧Below w.heap.size w w':=Any.strconv_Atoi_range Tryz.IU s hlim h ev w hv hev
def Tryz.abV:Go.Shelf.Ren:=⟨fun | 224=>166 | n=>n,fun | 3=>3 | n=>n,fun | n=>n⟩
theorem Tryz.ae9:Go.Proofs.Lays.n224 Tryz.prog Tryz.abV:={
  mixed:=by kernel_rfl
  f224:=Tryz.func166.trans (congrArg some (by kernel_rfl))
  t3:=Tryz.underlying3
  a3:=Tryz.isAgg3
  z3:=Tryz.sizeOf3
  v3:=Tryz.zeroValue3 }
open Go.RowKit Go.Lib in
theorem Tryz.bytealg_Cutover (n:Int) (h0:0≤n) (h1:n < 4611686018427387904) (w:World) :
 Calls Tryz.prog 166 #[.int .i64 n] w fun e w'=>e=.returned (.int .i64 ((n+16) / 8))∧w'=w:=Any.bytealg_Cutover Tryz.ae9 n h0 h1 w
def Tryz.abW:Go.Shelf.Ren:=⟨fun | 143=>155 | 219=>169 | 217=>168 | 225=>167 | 224=>166 | 267=>182 | 266=>181 | 314=>192 | n=>n,fun | 9=>9 | 3=>3 | 4=>4 | 5=>5 | 46=>94 | 146=>143 | 51=>142 | n=>n,fun | 1=>0 | n=>n⟩
theorem Tryz.afa:Go.Proofs.Lays.n143 Tryz.prog Tryz.abW:={
  mixed:=by kernel_rfl
  f143:=Tryz.func155.trans (congrArg some (by kernel_rfl))
  f217:=Tryz.func168.trans (congrArg some (by kernel_rfl))
  f219:=Tryz.func169.trans (congrArg some (by kernel_rfl))
  f224:=Tryz.func166.trans (congrArg some (by kernel_rfl))
  f225:=Tryz.func167.trans (congrArg some (by kernel_rfl))
  f266:=Tryz.func181.trans (congrArg some (by kernel_rfl))
  f267:=Tryz.func182.trans (congrArg some (by kernel_rfl))
  f314:=Tryz.func192.trans (congrArg some (by kernel_rfl))
  t3:=Tryz.underlying3
  a3:=Tryz.isAgg3
  z3:=Tryz.sizeOf3
  v3:=Tryz.zeroValue3
  t4:=Tryz.underlying4
  a4:=Tryz.isAgg4
  z4:=Tryz.sizeOf4
  v4:=Tryz.zeroValue4
  t5:=Tryz.underlying5
  a5:=Tryz.isAgg5
  z5:=Tryz.sizeOf5
  v5:=Tryz.zeroValue5
  t9:=Tryz.underlying9
  a9:=Tryz.isAgg9
  z9:=Tryz.sizeOf9
  v9:=Tryz.zeroValue9
  t46:=Tryz.underlying94
  a46:=Tryz.isAgg94
  z46:=Tryz.sizeOf94
  v46:=Tryz.zeroValue94
  t51:=Tryz.underlying142
  a51:=Tryz.isAgg142
  z51:=Tryz.sizeOf142
  v51:=Tryz.zeroValue142
  t146:=Tryz.underlying143
  a146:=Tryz.isAgg143
  z146:=Tryz.sizeOf143
  v146:=Tryz.zeroValue143
  g1:=by kernel_rfl }
open Go.RowKit Go.Lib in
theorem Tryz.strings_Index_one (s:ByteArray) (c:UInt8) (w:World) :
 Calls Tryz.prog 155 #[.string s,.string ⟨#[c]⟩] w fun e w'=>e=.returned (.int .i64 (Lib.indexByte s.data.toList c))∧w'=w:=Any.strings_Index_one Tryz.afa s c w
def Tryz.abX:Go.Shelf.Ren:=⟨fun | 315=>186 | n=>n,fun | 9=>9 | 40=>194 | 4=>4 | 3=>3 | 0=>0 | 21=>21 | n=>n,fun | n=>n⟩
theorem Tryz.afb:Go.Proofs.Lays.n315 Tryz.prog Tryz.abX:={
  mixed:=by kernel_rfl
  f315:=Tryz.func186.trans (congrArg some (by kernel_rfl))
  t0:=Tryz.underlying0
  a0:=Tryz.isAgg0
  z0:=Tryz.sizeOf0
  v0:=Tryz.zeroValue0
  t3:=Tryz.underlying3
  a3:=Tryz.isAgg3
  z3:=Tryz.sizeOf3
  v3:=Tryz.zeroValue3
  t4:=Tryz.underlying4
  a4:=Tryz.isAgg4
  z4:=Tryz.sizeOf4
  v4:=Tryz.zeroValue4
  t9:=Tryz.underlying9
  a9:=Tryz.isAgg9
  z9:=Tryz.sizeOf9
  v9:=Tryz.zeroValue9
  t21:=Tryz.underlying21
  a21:=Tryz.isAgg21
  z21:=Tryz.sizeOf21
  v21:=Tryz.zeroValue21
  t40:=Tryz.underlying194
  a40:=Tryz.isAgg194
  z40:=Tryz.sizeOf194
  v40:=Tryz.zeroValue194 }
open Go.RowKit Go.Lib in
theorem Tryz.strings_indexFunc (g:Nat) (lb:Array Value) (eg:∀ args w,(callFunc g args).run Tryz.prog w=.ok (.enter g args) w) (p:Nat→Bool) (truth:Bool) (s:ByteArray) (w:World) (hp:PredAt Tryz.prog g lb encR p w) :
 Calls Tryz.prog 186 #[.string s,.func (.func g) #[] lb,.bool truth] w fun e w'=>e=.returned (.int .i64 (Lib.idxFunc p truth s))∧Below w.heap.size w w':=Any.strings_indexFunc Tryz.afb g lb eg p truth s w hp
def Tryz.abl:Go.Shelf.Ren:=⟨fun | 15=>176 | 20=>186 | n=>n,fun | 9=>9 | 23=>194 | 3=>3 | 4=>4 | 0=>0 | 21=>21 | n=>n,fun | n=>n⟩
theorem Tryz.ad7:Go.Proofs.LaysGw.n15 Tryz.prog Tryz.abl:={
  mixed:=by kernel_rfl
  f15:=Tryz.func176.trans (congrArg some (by kernel_rfl))
  f20:=Tryz.func186.trans (congrArg some (by kernel_rfl))
  t0:=Tryz.underlying0
  a0:=Tryz.isAgg0
  z0:=Tryz.sizeOf0
  v0:=Tryz.zeroValue0
  i0:=by kernel_rfl
  t3:=Tryz.underlying3
  a3:=Tryz.isAgg3
  z3:=Tryz.sizeOf3
  v3:=Tryz.zeroValue3
  i3:=by kernel_rfl
  t4:=Tryz.underlying4
  a4:=Tryz.isAgg4
  z4:=Tryz.sizeOf4
  v4:=Tryz.zeroValue4
  i4:=by kernel_rfl
  t9:=Tryz.underlying9
  a9:=Tryz.isAgg9
  z9:=Tryz.sizeOf9
  v9:=Tryz.zeroValue9
  i9:=by kernel_rfl
  t21:=Tryz.underlying21
  a21:=Tryz.isAgg21
  z21:=Tryz.sizeOf21
  v21:=Tryz.zeroValue21
  i21:=by kernel_rfl
  t23:=Tryz.underlying194
  a23:=Tryz.isAgg194
  z23:=Tryz.sizeOf194
  v23:=Tryz.zeroValue194
  i23:=by kernel_rfl }
open Go.RowKit Go.Lib in
theorem Tryz.strings_IndexFunc (g:Nat) (lb:Array Value) (eg:∀ args w,(callFunc g args).run Tryz.prog w=.ok (.enter g args) w) (p:Nat→Bool) (s:ByteArray) (w:World) (hp:PredAt Tryz.prog g lb encR p w) :
 Calls Tryz.prog 176 #[.string s,.func (.func g) #[] lb] w fun e w'=>e=.returned (.int .i64 (Lib.idxFunc p true s))∧Below w.heap.size w w':=Any.strings_IndexFunc Tryz.ad7 g lb eg p s w hp
def Tryz.abm:Go.Shelf.Ren:=⟨fun | 17=>160 | 15=>176 | 20=>186 | n=>n,fun | 9=>9 | 23=>194 | 4=>4 | 3=>3 | 0=>0 | 21=>21 | n=>n,fun | n=>n⟩
theorem Tryz.ad8:Go.Proofs.LaysGw.n17 Tryz.prog Tryz.abm:={
  mixed:=by kernel_rfl
  f15:=Tryz.func176.trans (congrArg some (by kernel_rfl))
  f17:=Tryz.func160.trans (congrArg some (by kernel_rfl))
  f20:=Tryz.func186.trans (congrArg some (by kernel_rfl))
  t0:=Tryz.underlying0
  a0:=Tryz.isAgg0
  z0:=Tryz.sizeOf0
  v0:=Tryz.zeroValue0
  i0:=by kernel_rfl
  t3:=Tryz.underlying3
  a3:=Tryz.isAgg3
  z3:=Tryz.sizeOf3
  v3:=Tryz.zeroValue3
  i3:=by kernel_rfl
  t4:=Tryz.underlying4
  a4:=Tryz.isAgg4
  z4:=Tryz.sizeOf4
  v4:=Tryz.zeroValue4
  i4:=by kernel_rfl
  t9:=Tryz.underlying9
  a9:=Tryz.isAgg9
  z9:=Tryz.sizeOf9
  v9:=Tryz.zeroValue9
  i9:=by kernel_rfl
  t21:=Tryz.underlying21
  a21:=Tryz.isAgg21
  z21:=Tryz.sizeOf21
  v21:=Tryz.zeroValue21
  i21:=by kernel_rfl
  t23:=Tryz.underlying194
  a23:=Tryz.isAgg194
  z23:=Tryz.sizeOf194
  v23:=Tryz.zeroValue194
  i23:=by kernel_rfl }
open Go.RowKit Go.Lib in
theorem Tryz.strings_ContainsFunc (g:Nat) (lb:Array Value) (eg:∀ args w,(callFunc g args).run Tryz.prog w=.ok (.enter g args) w) (p:Nat→Bool) (s:ByteArray) (w:World) (hp:PredAt Tryz.prog g lb encR p w) :
 Calls Tryz.prog 160 #[.string s,.func (.func g) #[] lb] w fun e w'=>e=.returned (.bool (decide (0≤Lib.idxFunc p true s)))∧Below w.heap.size w w':=Any.strings_ContainsFunc Tryz.ad8 g lb eg p s w hp
def Tryz.UA:Go.Shelf.Ren:=⟨fun | 105=>32 | 212=>60 | 99=>61 | 165=>62 | 166=>63 | 170=>64 | 169=>65 | 263=>96 | 264=>97 | 206=>98 | 240=>99 | 241=>100 | 276=>127 | 277=>128 | n=>n,fun | 9=>9 | 3=>3 | 4=>4 | 20=>20 | 0=>0 | 46=>94 | 109=>95 | 5=>5 | 72=>100 | 76=>104 | 51=>142 | 146=>143 | 53=>116 | 148=>145 | 70=>98 | 37=>64 | 75=>103 | 127=>147 | 164=>173 | 80=>107 | n=>n,fun | n=>n⟩
theorem Tryz.afc:Go.Proofs.Lays.n105 Tryz.prog Tryz.UA:={
  mixed:=by kernel_rfl
  f99:=Tryz.func61.trans (congrArg some (by kernel_rfl))
  f105:=Tryz.func32.trans (congrArg some (by kernel_rfl))
  f165:=Tryz.func62.trans (congrArg some (by kernel_rfl))
  f166:=Tryz.func63.trans (congrArg some (by kernel_rfl))
  f169:=Tryz.func65.trans (congrArg some (by kernel_rfl))
  f170:=Tryz.func64.trans (congrArg some (by kernel_rfl))
  f206:=Tryz.func98.trans (congrArg some (by kernel_rfl))
  f212:=Tryz.func60.trans (congrArg some (by kernel_rfl))
  f240:=Tryz.func99.trans (congrArg some (by kernel_rfl))
  f241:=Tryz.func100.trans (congrArg some (by kernel_rfl))
  f263:=Tryz.func96.trans (congrArg some (by kernel_rfl))
  f264:=Tryz.func97.trans (congrArg some (by kernel_rfl))
  f276:=Tryz.func127.trans (congrArg some (by kernel_rfl))
  f277:=Tryz.func128.trans (congrArg some (by kernel_rfl))
  t0:=Tryz.underlying0
  a0:=Tryz.isAgg0
  z0:=Tryz.sizeOf0
  v0:=Tryz.zeroValue0
  t3:=Tryz.underlying3
  a3:=Tryz.isAgg3
  z3:=Tryz.sizeOf3
  v3:=Tryz.zeroValue3
  t4:=Tryz.underlying4
  a4:=Tryz.isAgg4
  z4:=Tryz.sizeOf4
  v4:=Tryz.zeroValue4
  t5:=Tryz.underlying5
  a5:=Tryz.isAgg5
  z5:=Tryz.sizeOf5
  v5:=Tryz.zeroValue5
  t9:=Tryz.underlying9
  a9:=Tryz.isAgg9
  z9:=Tryz.sizeOf9
  v9:=Tryz.zeroValue9
  t20:=Tryz.underlying20
  a20:=Tryz.isAgg20
  z20:=Tryz.sizeOf20
  v20:=Tryz.zeroValue20
  t37:=Tryz.underlying64
  a37:=Tryz.isAgg64
  z37:=Tryz.sizeOf64
  v37:=Tryz.zeroValue64
  t46:=Tryz.underlying94
  a46:=Tryz.isAgg94
  z46:=Tryz.sizeOf94
  v46:=Tryz.zeroValue94
  t51:=Tryz.underlying142
  a51:=Tryz.isAgg142
  z51:=Tryz.sizeOf142
  v51:=Tryz.zeroValue142
  t53:=Tryz.underlying116
  a53:=Tryz.isAgg116
  z53:=Tryz.sizeOf116
  v53:=Tryz.zeroValue116
  t70:=Tryz.underlying98
  a70:=Tryz.isAgg98
  z70:=Tryz.sizeOf98
  v70:=Tryz.zeroValue98
  t72:=Tryz.underlying100
  a72:=Tryz.isAgg100
  z72:=Tryz.sizeOf100
  v72:=Tryz.zeroValue100
  t75:=Tryz.underlying103
  a75:=Tryz.isAgg103
  z75:=Tryz.sizeOf103
  v75:=Tryz.zeroValue103
  t76:=Tryz.underlying104
  a76:=Tryz.isAgg104
  z76:=Tryz.sizeOf104
  v76:=Tryz.zeroValue104
  t109:=Tryz.underlying95
  a109:=Tryz.isAgg95
  z109:=Tryz.sizeOf95
  v109:=Tryz.zeroValue95
  t127:=Tryz.underlying147
  a127:=Tryz.isAgg147
  z127:=Tryz.sizeOf147
  v127:=Tryz.zeroValue147
  t146:=Tryz.underlying143
  a146:=Tryz.isAgg143
  z146:=Tryz.sizeOf143
  v146:=Tryz.zeroValue143
  t148:=Tryz.underlying145
  a148:=Tryz.isAgg145
  z148:=Tryz.sizeOf145
  v148:=Tryz.zeroValue145
  t164:=Tryz.underlying173
  a164:=Tryz.isAgg173
  z164:=Tryz.sizeOf173
  v164:=Tryz.zeroValue173 }
theorem Tryz.aaD:Builder.Extra Tryz.prog Tryz.UA:={
  sizeBuilder:=by kernel_rfl
  liesBuilder:=by kernel_rfl
  t5:=Tryz.underlying5
  a5:=Tryz.isAgg5
  z5:=Tryz.sizeOf5
  v5:=Tryz.zeroValue5
  infoByte:=by kernel_rfl
  cellsByte:=by kernel_rfl
  sizeByte:=by kernel_rfl
  neB5:=by decide }
open Go.RowKit Go.Lib in
theorem Tryz.strings_Repeat (s:ByteArray) (c:Nat) (w:World) (hc:c≤9223372036854775807) (hlen:s.size*c≤140737488355328) :
 Calls Tryz.prog 32 #[.string s,.int .i64 c] w fun e w'=>e=.returned (.string ⟨(Lib.repeatL s.data.toList c).toArray⟩)∧Below w.heap.size w w':=Any.strings_Repeat Tryz.afc Tryz.aaD s c w hc hlen
def Tryz.aaZ:Go.Shelf.Ren:=⟨fun | 196=>158 | 259=>175 | n=>n,fun | 9=>9 | 4=>4 | 3=>3 | 5=>5 | 12=>12 | 119=>200 | 0=>0 | 46=>94 | 139=>203 | 138=>202 | 53=>116 | n=>n,fun | 3=>1 | 4=>2 | n=>n⟩
theorem Tryz.Vg:Go.Proofs.Lays.n196 Tryz.prog Tryz.aaZ:={
  mixed:=by kernel_rfl
  f196:=Tryz.func158.trans (congrArg some (by kernel_rfl))
  f259:=Tryz.func175.trans (congrArg some (by kernel_rfl))
  t0:=Tryz.underlying0
  a0:=Tryz.isAgg0
  z0:=Tryz.sizeOf0
  v0:=Tryz.zeroValue0
  t3:=Tryz.underlying3
  a3:=Tryz.isAgg3
  z3:=Tryz.sizeOf3
  v3:=Tryz.zeroValue3
  t4:=Tryz.underlying4
  a4:=Tryz.isAgg4
  z4:=Tryz.sizeOf4
  v4:=Tryz.zeroValue4
  t5:=Tryz.underlying5
  a5:=Tryz.isAgg5
  z5:=Tryz.sizeOf5
  v5:=Tryz.zeroValue5
  t9:=Tryz.underlying9
  a9:=Tryz.isAgg9
  z9:=Tryz.sizeOf9
  v9:=Tryz.zeroValue9
  t12:=Tryz.underlying12
  a12:=Tryz.isAgg12
  z12:=Tryz.sizeOf12
  v12:=Tryz.zeroValue12
  t46:=Tryz.underlying94
  a46:=Tryz.isAgg94
  z46:=Tryz.sizeOf94
  v46:=Tryz.zeroValue94
  t53:=Tryz.underlying116
  a53:=Tryz.isAgg116
  z53:=Tryz.sizeOf116
  v53:=Tryz.zeroValue116
  t119:=Tryz.underlying200
  a119:=Tryz.isAgg200
  z119:=Tryz.sizeOf200
  t138:=Tryz.underlying202
  a138:=Tryz.isAgg202
  z138:=Tryz.sizeOf202
  v138:=Tryz.zeroValue202
  t139:=Tryz.underlying203
  a139:=Tryz.isAgg203
  z139:=Tryz.sizeOf203
  v139:=Tryz.zeroValue203
  g3:=by kernel_rfl
  g4:=by kernel_rfl }
end Go.Proofs
