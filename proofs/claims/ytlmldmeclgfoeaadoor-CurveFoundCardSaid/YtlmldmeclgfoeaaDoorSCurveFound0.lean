import Derived.Shelf.Strings.Builder1
import Derived.Shelf.Strings.Builder2
import Derived.Shelf.Strings.OnBuilder
import Derived.Shelf.Strings.Trim
import Derived.Shelf.Small.Utf8
import Derived.Shelf.Small.Strs
import Derived.Shelf.Strings.BuilderF
import Derived.Shelf.Strconv.Atoi
import Derived.Shelf.Strconv.Itoa0
import Derived.Shelf.Strconv.Itoa1
import Derived.Shelf.LaysM
import Derived.Shelf.Strconv.Itoa2
import Derived.Shelf.Strconv.Itoa3
import Derived.Shelf.Strconv.AtoiErrFast
import Derived.Shelf.Strconv.ParseIntEmpty
import Derived.Shelf.Strconv.AtoiFail
import Derived.Shelf.Strconv.Clone
import Derived.Shelf.Strconv.SyntaxError
import Derived.Shelf.LaysC
import Derived.Shelf.Strconv.ToError
import Derived.Shelf.Strconv.AtoiErr
import Derived.Shelf.Strconv.Lower
import Derived.Shelf.Strconv.ParseUint10
import Derived.Shelf.Strconv.ParseUint10Empty
import Derived.Shelf.Strconv.ParseUint10Any
import Derived.Shelf.Strconv.ParseInt10
import Derived.Shelf.Strconv.AtoiLong
import Derived.Shelf.Strconv.AtoiInnerAll
import Derived.Shelf.Strconv.RangeError
import Derived.Shelf.Strconv.ToErrorRange
import Derived.Shelf.Strconv.AtoiAll
import Derived.Shelf.Strconv.ParseUintEmpty
import Derived.Shelf.Strings.Search1
import Derived.Shelf.Strings.Search2
import Derived.Shelf.Strings.Search3
import Derived.Shelf.Strings.Shaped
import Derived.Shelf.Unicode.Decode
import Derived.Shelf.Strings.Runes
import Derived.Shelf.Strings.AsciiSet
import Derived.Shelf.Unicode.DecodeSlow
import Derived.Shelf.Unicode.DecodeAny
import Derived.Shelf.Unicode.DecodeLast
import Derived.Test.YtlmldmeclgfoeaaDoorProg
set_option linter.unusedSectionVars false
set_option linter.unusedSimpArgs false
set_option linter.unusedVariables false
namespace Go.Proofs
open Go.Shelf
def Tryd.lays156_ren:Go.Shelf.Ren:=⟨fun | 156=>27 | 165=>42 | 166=>43 | 169=>44 | 240=>56 | 241=>57 | 276=>69 | 277=>70 | n=>n,fun | 31=>55 | 9=>9 | 3=>3 | 4=>4 | 0=>0 | 20=>20 | 72=>75 | 76=>69 | 70=>73 | 37=>30 | 75=>68 | 127=>84 | 164=>93 | 5=>5 | 80=>77 | n=>n,fun | n=>n⟩
theorem Tryd.lays156:Go.Proofs.Lays.n156 Tryd.prog Tryd.lays156_ren:={
  mixed:=by kernel_rfl
  f156:=Tryd.func27.trans (congrArg some (by kernel_rfl))
  f165:=Tryd.func42.trans (congrArg some (by kernel_rfl))
  f166:=Tryd.func43.trans (congrArg some (by kernel_rfl))
  f169:=Tryd.func44.trans (congrArg some (by kernel_rfl))
  f240:=Tryd.func56.trans (congrArg some (by kernel_rfl))
  f241:=Tryd.func57.trans (congrArg some (by kernel_rfl))
  f276:=Tryd.func69.trans (congrArg some (by kernel_rfl))
  f277:=Tryd.func70.trans (congrArg some (by kernel_rfl))
  t0:=Tryd.underlying0
  a0:=Tryd.isAgg0
  z0:=Tryd.sizeOf0
  v0:=Tryd.zeroValue0
  t3:=Tryd.underlying3
  a3:=Tryd.isAgg3
  z3:=Tryd.sizeOf3
  v3:=Tryd.zeroValue3
  t4:=Tryd.underlying4
  a4:=Tryd.isAgg4
  z4:=Tryd.sizeOf4
  v4:=Tryd.zeroValue4
  t9:=Tryd.underlying9
  a9:=Tryd.isAgg9
  z9:=Tryd.sizeOf9
  v9:=Tryd.zeroValue9
  t20:=Tryd.underlying20
  a20:=Tryd.isAgg20
  z20:=Tryd.sizeOf20
  v20:=Tryd.zeroValue20
  t31:=Tryd.underlying55
  a31:=Tryd.isAgg55
  z31:=Tryd.sizeOf55
  v31:=Tryd.zeroValue55
  t37:=Tryd.underlying30
  a37:=Tryd.isAgg30
  z37:=Tryd.sizeOf30
  v37:=Tryd.zeroValue30
  t70:=Tryd.underlying73
  a70:=Tryd.isAgg73
  z70:=Tryd.sizeOf73
  v70:=Tryd.zeroValue73
  t72:=Tryd.underlying75
  a72:=Tryd.isAgg75
  z72:=Tryd.sizeOf75
  v72:=Tryd.zeroValue75
  t75:=Tryd.underlying68
  a75:=Tryd.isAgg68
  z75:=Tryd.sizeOf68
  v75:=Tryd.zeroValue68
  t76:=Tryd.underlying69
  a76:=Tryd.isAgg69
  z76:=Tryd.sizeOf69
  v76:=Tryd.zeroValue69
  t127:=Tryd.underlying84
  a127:=Tryd.isAgg84
  z127:=Tryd.sizeOf84
  v127:=Tryd.zeroValue84
  t164:=Tryd.underlying93
  a164:=Tryd.isAgg93
  z164:=Tryd.sizeOf93
  v164:=Tryd.zeroValue93 }
theorem Tryd.Builder_Extra_156:Builder.Extra Tryd.prog Tryd.lays156_ren:={
  sizeBuilder:=by kernel_rfl
  liesBuilder:=by kernel_rfl
  t5:=Tryd.underlying5
  a5:=Tryd.isAgg5
  z5:=Tryd.sizeOf5
  v5:=Tryd.zeroValue5
  infoByte:=by kernel_rfl
  cellsByte:=by kernel_rfl
  sizeByte:=by kernel_rfl
  neB5:=by decide }
open Go.RowKit in
theorem Tryd.strings_Join_none (a:Option Addr) (c:Nat) (sep:ByteArray) (w:World) :
 Calls Tryd.prog 27 #[.slice a 0 c,.string sep] w fun e w'=>e=.returned (.string ⟨#[]⟩)∧w'=w:=Any.strings_Join_none Tryd.lays156 Tryd.Builder_Extra_156 a c sep w
open Go.RowKit in
theorem Tryd.strings_Join (bk o c:Nat) (xs:List ByteArray) (sep:ByteArray) (w:World) (hcells:∀ (j:Nat) x,xs[j]? = some x→w.cell? ⟨bk,o+j,none⟩=some (.string x)) (hbk:bk < w.heap.size) (hN:xs.length≤140737488355328) (hcap:xs.length≤c) (hlen:(Lib.join (xs.map (·.data.toList)) sep.data.toList).length≤140737488355328) :
 Calls Tryd.prog 27 #[.slice (some ⟨bk,o,none⟩) xs.length c,.string sep] w fun e w'=>e=.returned (.string ⟨(Lib.join (xs.map (·.data.toList)) sep.data.toList).toArray⟩)∧Below w.heap.size w w':=Any.strings_Join Tryd.lays156 Tryd.Builder_Extra_156 bk o c xs sep w hcells hbk hN hcap hlen
def Tryd.lays160_ren:Go.Shelf.Ren:=⟨fun | 160=>19 | 232=>30 | 231=>29 | 227=>31 | 234=>33 | 233=>32 | 236=>35 | 235=>34 | 228=>45 | 271=>48 | 151=>47 | 197=>46 | 120=>60 | 152=>59 | 260=>58 | 137=>40 | 119=>71 | 224=>72 | 225=>73 | 217=>54 | 266=>67 | n=>n,fun | 9=>9 | 4=>4 | 3=>3 | 5=>5 | 117=>62 | 116=>61 | 0=>0 | 124=>65 | 21=>21 | 105=>79 | 46=>54 | 119=>96 | 139=>99 | 138=>98 | n=>n,fun | 3=>1 | 4=>2 | n=>n⟩
theorem Tryd.lays160:Go.Proofs.Lays.n160 Tryd.prog Tryd.lays160_ren:={
  mixed:=by kernel_rfl
  f119:=Tryd.func71.trans (congrArg some (by kernel_rfl))
  f120:=Tryd.func60.trans (congrArg some (by kernel_rfl))
  f137:=Tryd.func40.trans (congrArg some (by kernel_rfl))
  f151:=Tryd.func47.trans (congrArg some (by kernel_rfl))
  f152:=Tryd.func59.trans (congrArg some (by kernel_rfl))
  f160:=Tryd.func19.trans (congrArg some (by kernel_rfl))
  f197:=Tryd.func46.trans (congrArg some (by kernel_rfl))
  f217:=Tryd.func54.trans (congrArg some (by kernel_rfl))
  f224:=Tryd.func72.trans (congrArg some (by kernel_rfl))
  f225:=Tryd.func73.trans (congrArg some (by kernel_rfl))
  f227:=Tryd.func31.trans (congrArg some (by kernel_rfl))
  f228:=Tryd.func45.trans (congrArg some (by kernel_rfl))
  f231:=Tryd.func29.trans (congrArg some (by kernel_rfl))
  f232:=Tryd.func30.trans (congrArg some (by kernel_rfl))
  f233:=Tryd.func32.trans (congrArg some (by kernel_rfl))
  f234:=Tryd.func33.trans (congrArg some (by kernel_rfl))
  f235:=Tryd.func34.trans (congrArg some (by kernel_rfl))
  f236:=Tryd.func35.trans (congrArg some (by kernel_rfl))
  f260:=Tryd.func58.trans (congrArg some (by kernel_rfl))
  f266:=Tryd.func67.trans (congrArg some (by kernel_rfl))
  f271:=Tryd.func48.trans (congrArg some (by kernel_rfl))
  t0:=Tryd.underlying0
  a0:=Tryd.isAgg0
  z0:=Tryd.sizeOf0
  v0:=Tryd.zeroValue0
  t3:=Tryd.underlying3
  a3:=Tryd.isAgg3
  z3:=Tryd.sizeOf3
  v3:=Tryd.zeroValue3
  t4:=Tryd.underlying4
  a4:=Tryd.isAgg4
  z4:=Tryd.sizeOf4
  v4:=Tryd.zeroValue4
  t5:=Tryd.underlying5
  a5:=Tryd.isAgg5
  z5:=Tryd.sizeOf5
  v5:=Tryd.zeroValue5
  t9:=Tryd.underlying9
  a9:=Tryd.isAgg9
  z9:=Tryd.sizeOf9
  v9:=Tryd.zeroValue9
  t21:=Tryd.underlying21
  a21:=Tryd.isAgg21
  z21:=Tryd.sizeOf21
  v21:=Tryd.zeroValue21
  t46:=Tryd.underlying54
  a46:=Tryd.isAgg54
  z46:=Tryd.sizeOf54
  v46:=Tryd.zeroValue54
  t105:=Tryd.underlying79
  a105:=Tryd.isAgg79
  z105:=Tryd.sizeOf79
  v105:=Tryd.zeroValue79
  t116:=Tryd.underlying61
  a116:=Tryd.isAgg61
  z116:=Tryd.sizeOf61
  t117:=Tryd.underlying62
  a117:=Tryd.isAgg62
  z117:=Tryd.sizeOf62
  v117:=Tryd.zeroValue62
  t119:=Tryd.underlying96
  a119:=Tryd.isAgg96
  z119:=Tryd.sizeOf96
  t124:=Tryd.underlying65
  a124:=Tryd.isAgg65
  z124:=Tryd.sizeOf65
  v124:=Tryd.zeroValue65
  t138:=Tryd.underlying98
  a138:=Tryd.isAgg98
  z138:=Tryd.sizeOf98
  v138:=Tryd.zeroValue98
  t139:=Tryd.underlying99
  a139:=Tryd.isAgg99
  z139:=Tryd.sizeOf99
  v139:=Tryd.zeroValue99
  g3:=by kernel_rfl
  g4:=by kernel_rfl }
open Go.RowKit in
theorem Tryd.strings_Trim_one (s:ByteArray) (c:UInt8) (hc:c.toNat < 128) (w:World) (hs:s.size≤9223372036854775807) :
 Calls Tryd.prog 19 #[.string s,.string ⟨#[c]⟩] w fun e w'=>e=.returned (.string ⟨(Lib.trimB s.data.toList c).toArray⟩)∧(w'=w∨w'=w.drew):=Any.strings_Trim_one Tryd.lays160 s c hc w hs
def Tryd.lays106_ren:Go.Shelf.Ren:=⟨fun | 106=>20 | 213=>36 | 265=>49 | n=>n,fun | 9=>9 | 3=>3 | n=>n,fun | n=>n⟩
theorem Tryd.lays106:Go.Proofs.Lays.n106 Tryd.prog Tryd.lays106_ren:={
  mixed:=by kernel_rfl
  f106:=Tryd.func20.trans (congrArg some (by kernel_rfl))
  f213:=Tryd.func36.trans (congrArg some (by kernel_rfl))
  f265:=Tryd.func49.trans (congrArg some (by kernel_rfl))
  t3:=Tryd.underlying3
  a3:=Tryd.isAgg3
  z3:=Tryd.sizeOf3
  v3:=Tryd.zeroValue3
  t9:=Tryd.underlying9
  a9:=Tryd.isAgg9
  z9:=Tryd.sizeOf9
  v9:=Tryd.zeroValue9 }
open Go.RowKit in
theorem Tryd.strings_Compare (a b:ByteArray) (w:World) :
 Calls Tryd.prog 20 #[.string a,.string b] w fun e w'=>e=.returned (.int .i64 (Lib.compareBytes a.data.toList b.data.toList))∧w'=w:=Any.strings_Compare Tryd.lays106 a b w
def Tryd.lays137_ren:Go.Shelf.Ren:=⟨fun | 137=>40 | 217=>54 | 266=>67 | n=>n,fun | 9=>9 | 5=>5 | 3=>3 | n=>n,fun | n=>n⟩
theorem Tryd.lays137:Go.Proofs.Lays.n137 Tryd.prog Tryd.lays137_ren:={
  mixed:=by kernel_rfl
  f137:=Tryd.func40.trans (congrArg some (by kernel_rfl))
  f217:=Tryd.func54.trans (congrArg some (by kernel_rfl))
  f266:=Tryd.func67.trans (congrArg some (by kernel_rfl))
  t3:=Tryd.underlying3
  a3:=Tryd.isAgg3
  z3:=Tryd.sizeOf3
  v3:=Tryd.zeroValue3
  t5:=Tryd.underlying5
  a5:=Tryd.isAgg5
  z5:=Tryd.sizeOf5
  v5:=Tryd.zeroValue5
  t9:=Tryd.underlying9
  a9:=Tryd.isAgg9
  z9:=Tryd.sizeOf9
  v9:=Tryd.zeroValue9 }
open Go.RowKit in
theorem Tryd.strings_IndexByte (s:ByteArray) (c:Int) (w:World) :
 Calls Tryd.prog 40 #[.string s,.int .u8 c] w fun e w'=>e=.returned (.int .i64 (Lib.indexByte s.data.toList c.toNat.toUInt8))∧w'=w:=Any.strings_IndexByte Tryd.lays137 s c w
def Tryd.laysM171_ren:Go.Shelf.Ren:=⟨fun | 171=>41 | 243=>55 | 246=>68 | 283=>78 | 284=>79 | 285=>80 | 286=>81 | 129=>86 | 317=>85 | 318=>87 | 319=>88 | 320=>89 | 337=>90 | 338=>91 | n=>n,fun | 3=>3 | 9=>9 | 2=>2 | 4=>4 | 171=>108 | 0=>0 | 53=>101 | 37=>30 | 5=>5 | 173=>111 | 212=>121 | 51=>113 | 20=>20 | 213=>122 | 46=>54 | 232=>125 | 233=>126 | n=>n,fun | 17=>5 | 18=>6 | 19=>7 | n=>n⟩
theorem Tryd.laysM171:Go.Proofs.LaysM.n171 Tryd.prog Tryd.laysM171_ren:={
  mixed:=by kernel_rfl
  f129:=Tryd.func86.trans (congrArg some (by kernel_rfl))
  f171:=Tryd.func41.trans (congrArg some (by kernel_rfl))
  f243:=Tryd.func55.trans (congrArg some (by kernel_rfl))
  f246:=Tryd.func68.trans (congrArg some (by kernel_rfl))
  f283:=Tryd.func78.trans (congrArg some (by kernel_rfl))
  f284:=Tryd.func79.trans (congrArg some (by kernel_rfl))
  f285:=Tryd.func80.trans (congrArg some (by kernel_rfl))
  f286:=Tryd.func81.trans (congrArg some (by kernel_rfl))
  f317:=Tryd.func85.trans (congrArg some (by kernel_rfl))
  f318:=Tryd.func87.trans (congrArg some (by kernel_rfl))
  f319:=Tryd.func88.trans (congrArg some (by kernel_rfl))
  f320:=Tryd.func89.trans (congrArg some (by kernel_rfl))
  f337:=Tryd.func90.trans (congrArg some (by kernel_rfl))
  f338:=Tryd.func91.trans (congrArg some (by kernel_rfl))
  t0:=Tryd.underlying0
  a0:=Tryd.isAgg0
  z0:=Tryd.sizeOf0
  v0:=Tryd.zeroValue0
  t2:=Tryd.underlying2
  a2:=Tryd.isAgg2
  z2:=Tryd.sizeOf2
  v2:=Tryd.zeroValue2
  t3:=Tryd.underlying3
  a3:=Tryd.isAgg3
  z3:=Tryd.sizeOf3
  v3:=Tryd.zeroValue3
  t4:=Tryd.underlying4
  a4:=Tryd.isAgg4
  z4:=Tryd.sizeOf4
  v4:=Tryd.zeroValue4
  t5:=Tryd.underlying5
  a5:=Tryd.isAgg5
  z5:=Tryd.sizeOf5
  v5:=Tryd.zeroValue5
  t9:=Tryd.underlying9
  a9:=Tryd.isAgg9
  z9:=Tryd.sizeOf9
  v9:=Tryd.zeroValue9
  t20:=Tryd.underlying20
  a20:=Tryd.isAgg20
  z20:=Tryd.sizeOf20
  v20:=Tryd.zeroValue20
  t37:=Tryd.underlying30
  a37:=Tryd.isAgg30
  z37:=Tryd.sizeOf30
  v37:=Tryd.zeroValue30
  t46:=Tryd.underlying54
  a46:=Tryd.isAgg54
  z46:=Tryd.sizeOf54
  v46:=Tryd.zeroValue54
  t51:=Tryd.underlying113
  a51:=Tryd.isAgg113
  z51:=Tryd.sizeOf113
  v51:=Tryd.zeroValue113
  t53:=Tryd.underlying101
  a53:=Tryd.isAgg101
  z53:=Tryd.sizeOf101
  v53:=Tryd.zeroValue101
  t171:=Tryd.underlying108
  a171:=Tryd.isAgg108
  z171:=Tryd.sizeOf108
  v171:=Tryd.zeroValue108
  t173:=Tryd.underlying111
  a173:=Tryd.isAgg111
  z173:=Tryd.sizeOf111
  v173:=Tryd.zeroValue111
  t212:=Tryd.underlying121
  a212:=Tryd.isAgg121
  z212:=Tryd.sizeOf121
  v212:=Tryd.zeroValue121
  t213:=Tryd.underlying122
  a213:=Tryd.isAgg122
  z213:=Tryd.sizeOf122
  t232:=Tryd.underlying125
  a232:=Tryd.isAgg125
  z232:=Tryd.sizeOf125
  v232:=Tryd.zeroValue125
  t233:=Tryd.underlying126
  a233:=Tryd.isAgg126
  z233:=Tryd.sizeOf126
  v233:=Tryd.zeroValue126
  g17:=by kernel_rfl
  g18:=by kernel_rfl
  g19:=by kernel_rfl
  i0:=by kernel_rfl
  i2:=by kernel_rfl
  i3:=by kernel_rfl
  i4:=by kernel_rfl
  i5:=by kernel_rfl
  i9:=by kernel_rfl
  i20:=by kernel_rfl
  i37:=by kernel_rfl
  i46:=by kernel_rfl
  i51:=by kernel_rfl
  i53:=by kernel_rfl
  i171:=by kernel_rfl
  i173:=by kernel_rfl
  i212:=by kernel_rfl
  i232:=by kernel_rfl
  i233:=by kernel_rfl
  m17:=by kernel_rfl
  m18:=by kernel_rfl
  m19:=by kernel_rfl }
open Go.RowKit Go.Sort Go.Lib in
theorem Tryd.strconv_Itoa (n:Int) (h0 : -9223372036854775808≤n) (h1:n≤9223372036854775807) (w:World) (htab:Lib.TabIs Tryd.prog w "internal/strconv.uint64pow10" .u64 Lib.pow10Tab) :
 Calls Tryd.prog 41 #[.int .i64 n] w fun e w'=>e=.returned (.string ⟨(Lib.itoa n).toArray⟩)∧∃ k os,w'=grow (w.drewN k) os:=Any.strconv_Itoa Tryd.laysM171 n h0 h1 w htab
def Tryd.laysC172_ren:Go.Shelf.Ren:=⟨fun | 172=>38 | 244=>52 | 245=>53 | 247=>62 | 279=>63 | 280=>64 | 281=>65 | 282=>66 | 287=>75 | 316=>76 | 171=>41 | 205=>77 | 321=>83 | 322=>84 | 243=>55 | 246=>68 | 283=>78 | 284=>79 | 285=>80 | 286=>81 | 129=>86 | 317=>85 | 318=>87 | 319=>88 | 320=>89 | 337=>90 | 338=>91 | n=>n,fun | 9=>9 | 3=>3 | 75=>68 | 76=>69 | 4=>4 | 5=>5 | 167=>86 | 37=>30 | 0=>0 | 85=>87 | 2=>2 | 168=>89 | 53=>101 | 175=>102 | 46=>54 | 210=>106 | 127=>84 | 145=>119 | 143=>117 | 21=>21 | 171=>108 | 173=>111 | 212=>121 | 51=>113 | 20=>20 | 213=>122 | 232=>125 | 233=>126 | 80=>77 | n=>n,fun | 15=>3 | 16=>4 | 17=>5 | 18=>6 | 19=>7 | n=>n⟩
theorem Tryd.laysC172:Go.Proofs.LaysC.n172 Tryd.prog Tryd.laysC172_ren:={
  mixed:=by kernel_rfl
  f129:=Tryd.func86.trans (congrArg some (by kernel_rfl))
  f171:=Tryd.func41.trans (congrArg some (by kernel_rfl))
  f172:=Tryd.func38.trans (congrArg some (by kernel_rfl))
  f205:=Tryd.func77.trans (congrArg some (by kernel_rfl))
  f243:=Tryd.func55.trans (congrArg some (by kernel_rfl))
  f244:=Tryd.func52.trans (congrArg some (by kernel_rfl))
  f245:=Tryd.func53.trans (congrArg some (by kernel_rfl))
  f246:=Tryd.func68.trans (congrArg some (by kernel_rfl))
  f247:=Tryd.func62.trans (congrArg some (by kernel_rfl))
  f279:=Tryd.func63.trans (congrArg some (by kernel_rfl))
  f280:=Tryd.func64.trans (congrArg some (by kernel_rfl))
  f281:=Tryd.func65.trans (congrArg some (by kernel_rfl))
  f282:=Tryd.func66.trans (congrArg some (by kernel_rfl))
  f283:=Tryd.func78.trans (congrArg some (by kernel_rfl))
  f284:=Tryd.func79.trans (congrArg some (by kernel_rfl))
  f285:=Tryd.func80.trans (congrArg some (by kernel_rfl))
  f286:=Tryd.func81.trans (congrArg some (by kernel_rfl))
  f287:=Tryd.func75.trans (congrArg some (by kernel_rfl))
  f316:=Tryd.func76.trans (congrArg some (by kernel_rfl))
  f317:=Tryd.func85.trans (congrArg some (by kernel_rfl))
  f318:=Tryd.func87.trans (congrArg some (by kernel_rfl))
  f319:=Tryd.func88.trans (congrArg some (by kernel_rfl))
  f320:=Tryd.func89.trans (congrArg some (by kernel_rfl))
  f321:=Tryd.func83.trans (congrArg some (by kernel_rfl))
  f322:=Tryd.func84.trans (congrArg some (by kernel_rfl))
  f337:=Tryd.func90.trans (congrArg some (by kernel_rfl))
  f338:=Tryd.func91.trans (congrArg some (by kernel_rfl))
  t0:=Tryd.underlying0
  a0:=Tryd.isAgg0
  z0:=Tryd.sizeOf0
  v0:=Tryd.zeroValue0
  t2:=Tryd.underlying2
  a2:=Tryd.isAgg2
  z2:=Tryd.sizeOf2
  v2:=Tryd.zeroValue2
  t3:=Tryd.underlying3
  a3:=Tryd.isAgg3
  z3:=Tryd.sizeOf3
  v3:=Tryd.zeroValue3
  t4:=Tryd.underlying4
  a4:=Tryd.isAgg4
  z4:=Tryd.sizeOf4
  v4:=Tryd.zeroValue4
  t5:=Tryd.underlying5
  a5:=Tryd.isAgg5
  z5:=Tryd.sizeOf5
  v5:=Tryd.zeroValue5
  t9:=Tryd.underlying9
  a9:=Tryd.isAgg9
  z9:=Tryd.sizeOf9
  v9:=Tryd.zeroValue9
  t20:=Tryd.underlying20
  a20:=Tryd.isAgg20
  z20:=Tryd.sizeOf20
  v20:=Tryd.zeroValue20
  t21:=Tryd.underlying21
  a21:=Tryd.isAgg21
  z21:=Tryd.sizeOf21
  v21:=Tryd.zeroValue21
  t37:=Tryd.underlying30
  a37:=Tryd.isAgg30
  z37:=Tryd.sizeOf30
  v37:=Tryd.zeroValue30
  t46:=Tryd.underlying54
  a46:=Tryd.isAgg54
  z46:=Tryd.sizeOf54
  v46:=Tryd.zeroValue54
  t51:=Tryd.underlying113
  a51:=Tryd.isAgg113
  z51:=Tryd.sizeOf113
  v51:=Tryd.zeroValue113
  t53:=Tryd.underlying101
  a53:=Tryd.isAgg101
  z53:=Tryd.sizeOf101
  v53:=Tryd.zeroValue101
  t75:=Tryd.underlying68
  a75:=Tryd.isAgg68
  z75:=Tryd.sizeOf68
  v75:=Tryd.zeroValue68
  t76:=Tryd.underlying69
  a76:=Tryd.isAgg69
  z76:=Tryd.sizeOf69
  v76:=Tryd.zeroValue69
  t85:=Tryd.underlying87
  a85:=Tryd.isAgg87
  z85:=Tryd.sizeOf87
  v85:=Tryd.zeroValue87
  t127:=Tryd.underlying84
  a127:=Tryd.isAgg84
  z127:=Tryd.sizeOf84
  v127:=Tryd.zeroValue84
  t143:=Tryd.underlying117
  a143:=Tryd.isAgg117
  z143:=Tryd.sizeOf117
  v143:=Tryd.zeroValue117
  t145:=Tryd.underlying119
  a145:=Tryd.isAgg119
  z145:=Tryd.sizeOf119
  v145:=Tryd.zeroValue119
  t167:=Tryd.underlying86
  a167:=Tryd.isAgg86
  z167:=Tryd.sizeOf86
  v167:=Tryd.zeroValue86
  t168:=Tryd.underlying89
  a168:=Tryd.isAgg89
  z168:=Tryd.sizeOf89
  v168:=Tryd.zeroValue89
  t171:=Tryd.underlying108
  a171:=Tryd.isAgg108
  z171:=Tryd.sizeOf108
  v171:=Tryd.zeroValue108
  t173:=Tryd.underlying111
  a173:=Tryd.isAgg111
  z173:=Tryd.sizeOf111
  v173:=Tryd.zeroValue111
  t175:=Tryd.underlying102
  a175:=Tryd.isAgg102
  z175:=Tryd.sizeOf102
  v175:=Tryd.zeroValue102
  t210:=Tryd.underlying106
  a210:=Tryd.isAgg106
  z210:=Tryd.sizeOf106
  v210:=Tryd.zeroValue106
  t212:=Tryd.underlying121
  a212:=Tryd.isAgg121
  z212:=Tryd.sizeOf121
  v212:=Tryd.zeroValue121
  t213:=Tryd.underlying122
  a213:=Tryd.isAgg122
  z213:=Tryd.sizeOf122
  t232:=Tryd.underlying125
  a232:=Tryd.isAgg125
  z232:=Tryd.sizeOf125
  v232:=Tryd.zeroValue125
  t233:=Tryd.underlying126
  a233:=Tryd.isAgg126
  z233:=Tryd.sizeOf126
  v233:=Tryd.zeroValue126
  g15:=by kernel_rfl
  g16:=by kernel_rfl
  g17:=by kernel_rfl
  g18:=by kernel_rfl
  g19:=by kernel_rfl
  t80:=Tryd.underlying77
  a80:=Tryd.isAgg77
  z80:=Tryd.sizeOf77
  v80:=Tryd.zeroValue77
  i0:=by kernel_rfl
  i2:=by kernel_rfl
  i3:=by kernel_rfl
  i4:=by kernel_rfl
  i5:=by kernel_rfl
  i9:=by kernel_rfl
  i20:=by kernel_rfl
  i21:=by kernel_rfl
  i37:=by kernel_rfl
  i46:=by kernel_rfl
  i51:=by kernel_rfl
  i53:=by kernel_rfl
  i75:=by kernel_rfl
  i76:=by kernel_rfl
  i80:=by kernel_rfl
  i85:=by kernel_rfl
  i127:=by kernel_rfl
  i143:=by kernel_rfl
  i145:=by kernel_rfl
  i167:=by kernel_rfl
  i168:=by kernel_rfl
  i171:=by kernel_rfl
  i173:=by kernel_rfl
  i175:=by kernel_rfl
  i210:=by kernel_rfl
  i212:=by kernel_rfl
  i232:=by kernel_rfl
  i233:=by kernel_rfl
  m15:=by kernel_rfl
  m16:=by kernel_rfl
  m17:=by kernel_rfl
  m18:=by kernel_rfl
  m19:=by kernel_rfl
  c0:=by kernel_rfl
  c2:=by kernel_rfl
  c3:=by kernel_rfl
  c4:=by kernel_rfl
  c5:=by kernel_rfl
  c9:=by kernel_rfl
  c20:=by kernel_rfl
  c21:=by kernel_rfl
  c37:=by kernel_rfl
  c46:=by kernel_rfl
  c51:=by kernel_rfl
  c53:=by kernel_rfl
  c75:=by kernel_rfl
  c76:=by kernel_rfl
  c80:=by kernel_rfl
  c85:=by kernel_rfl
  c127:=by kernel_rfl
  c143:=by kernel_rfl
  c145:=by kernel_rfl
  c167:=by kernel_rfl
  c168:=by kernel_rfl
  c171:=by kernel_rfl
  c173:=by kernel_rfl
  c175:=by kernel_rfl
  c210:=by kernel_rfl
  c212:=by kernel_rfl
  c213:=by kernel_rfl
  c232:=by kernel_rfl
  c233:=by kernel_rfl }
open Go.RowKit in
theorem Tryd.strconv_Atoi_ok (s:ByteArray) (hmax:s.size≤9223372036854775806) (v:Int) (h:Lib.atoiAll s.data.toList=.ok v) (w:World) :
 Calls Tryd.prog 38 #[.string s] w fun e w'=>e=.returned (.tuple #[.int .i64 v,.nilIface])∧(w'=w∨∃ t,w'=Lib.bytesWorld w 5 t):=Any.strconv_Atoi_ok Tryd.laysC172 s hmax v h w
open Go.RowKit in
theorem Tryd.strconv_Atoi_syntax (s:ByteArray) (hlim:s.size≤281474976710656) (h:Lib.atoiAll s.data.toList=.«syntax») (ev:Value) (w:World) (hv:w.cell? ⟨3,0,none⟩=some ev) (hev:ev=.nilIface∨∃ te pe,ev=.iface te pe) :
 Calls Tryd.prog 38 #[.string s] w fun e w'=>∃ N,e=.returned (.tuple #[.int .i64 (0),.iface 89 (.pointer (some ⟨N,0,none⟩))])∧w.heap.size≤N∧w'.heap[N]? = some (.cells #[.string ⟨#[65,116,111,105]⟩,.string s,ev] 106 (0,0))∧Below w.heap.size w w':=Any.strconv_Atoi_syntax Tryd.laysC172 s hlim h ev w hv hev
open Go.RowKit in
theorem Tryd.strconv_Atoi_range (s:ByteArray) (hlim:s.size≤281474976710656) (h:Lib.atoiAll s.data.toList=.range) (ev:Value) (w:World) (hv:w.cell? ⟨4,0,none⟩=some ev) (hev:ev=.nilIface∨∃ te pe,ev=.iface te pe) :
 Calls Tryd.prog 38 #[.string s] w fun e w'=>∃ N,e=.returned (.tuple #[.int .i64 (Lib.atoiSat s.data.toList),.iface 89 (.pointer (some ⟨N,0,none⟩))])∧w.heap.size≤N∧w'.heap[N]? = some (.cells #[.string ⟨#[65,116,111,105]⟩,.string s,ev] 106 (0,0))∧Below w.heap.size w w':=Any.strconv_Atoi_range Tryd.laysC172 s hlim h ev w hv hev
def Tryd.lays143_ren:Go.Shelf.Ren:=⟨fun | 143=>51 | 219=>61 | 217=>54 | 225=>73 | 224=>72 | 267=>74 | 266=>67 | 314=>82 | n=>n,fun | 9=>9 | 3=>3 | 4=>4 | 5=>5 | 46=>54 | 146=>114 | 51=>113 | n=>n,fun | 1=>0 | n=>n⟩
theorem Tryd.lays143:Go.Proofs.Lays.n143 Tryd.prog Tryd.lays143_ren:={
  mixed:=by kernel_rfl
  f143:=Tryd.func51.trans (congrArg some (by kernel_rfl))
  f217:=Tryd.func54.trans (congrArg some (by kernel_rfl))
  f219:=Tryd.func61.trans (congrArg some (by kernel_rfl))
  f224:=Tryd.func72.trans (congrArg some (by kernel_rfl))
  f225:=Tryd.func73.trans (congrArg some (by kernel_rfl))
  f266:=Tryd.func67.trans (congrArg some (by kernel_rfl))
  f267:=Tryd.func74.trans (congrArg some (by kernel_rfl))
  f314:=Tryd.func82.trans (congrArg some (by kernel_rfl))
  t3:=Tryd.underlying3
  a3:=Tryd.isAgg3
  z3:=Tryd.sizeOf3
  v3:=Tryd.zeroValue3
  t4:=Tryd.underlying4
  a4:=Tryd.isAgg4
  z4:=Tryd.sizeOf4
  v4:=Tryd.zeroValue4
  t5:=Tryd.underlying5
  a5:=Tryd.isAgg5
  z5:=Tryd.sizeOf5
  v5:=Tryd.zeroValue5
  t9:=Tryd.underlying9
  a9:=Tryd.isAgg9
  z9:=Tryd.sizeOf9
  v9:=Tryd.zeroValue9
  t46:=Tryd.underlying54
  a46:=Tryd.isAgg54
  z46:=Tryd.sizeOf54
  v46:=Tryd.zeroValue54
  t51:=Tryd.underlying113
  a51:=Tryd.isAgg113
  z51:=Tryd.sizeOf113
  v51:=Tryd.zeroValue113
  t146:=Tryd.underlying114
  a146:=Tryd.isAgg114
  z146:=Tryd.sizeOf114
  v146:=Tryd.zeroValue114
  g1:=by kernel_rfl }
open Go.RowKit Go.Lib in
theorem Tryd.strings_Index_one (s:ByteArray) (c:UInt8) (w:World) :
 Calls Tryd.prog 51 #[.string s,.string ⟨#[c]⟩] w fun e w'=>e=.returned (.int .i64 (Lib.indexByte s.data.toList c))∧w'=w:=Any.strings_Index_one Tryd.lays143 s c w
end Go.Proofs
