/-
 The walks and plain laws that the claim rests on, part 2.
-/
import Derived.Test.YtfogfaagjpebcaaGreatDoorP00
import Derived.Test.YtfogfaagjpebcaaGreatDoorP01
import Derived.Shelf.Strings.Builder1
import Derived.Shelf.Strings.Builder2
import Derived.Shelf.Strings.OnBuilder
import Derived.Shelf.Strings.Trim
import Derived.Shelf.Small.Utf8
import Derived.Shelf.Small.Strs
import Derived.Shelf.Strings.BuilderF
import Derived.Shelf.Strings.BuilderK
import Derived.Shelf.Utf8.AppendRune
import Derived.Shelf.Utf8.AppendRunePlain
import Derived.Shelf.Strings.Builder2Cap
import Derived.Shelf.Strconv.Atoi
import Derived.Shelf.Strconv.Itoa0
import Derived.Shelf.Strconv.Itoa1
import Derived.Shelf.LaysM
import Derived.Shelf.Strconv.Itoa2
import Derived.Shelf.Strconv.Itoa3
import Derived.Shelf.Strconv.Itoa4
import Derived.Shelf.Strconv.ParseIntEmpty
import Derived.Shelf.Strconv.Clone
import Derived.Shelf.Strconv.SyntaxError
import Derived.Shelf.LaysC
import Derived.Shelf.Strconv.ToError
import Derived.Shelf.Strconv.Lower
import Derived.Shelf.Strconv.ParseUint10
import Derived.Shelf.Strconv.ParseUint10Empty
import Derived.Shelf.Strconv.ParseUint10Any
import Derived.Shelf.Strconv.ParseInt10
import Derived.Shelf.Strconv.RangeError
import Derived.Shelf.Strconv.ToErrorRange
import Derived.Shelf.Strconv.ParseUintEmpty
import Derived.Shelf.Strconv.ParseUint10b64
import Derived.Shelf.Strconv.ParseUint10b32
import Derived.Shelf.Strconv.ParseUint10b16
import Derived.Shelf.Strconv.ParseUint10b8
import Derived.Shelf.Strconv.ParseUint10At
import Derived.Shelf.Strconv.ParseInt10At64
import Derived.Shelf.Strconv.ParseInt10At32
import Derived.Shelf.Strconv.ParseInt10At16
import Derived.Shelf.Strconv.ParseInt10At8
import Derived.Shelf.Strconv.ParseInt10All
import Derived.Shelf.Strconv.ParseIntPublic10
import Derived.Shelf.Strconv.ErrVarParseInt
import Derived.Shelf.Strings.Search1
import Derived.Shelf.Strings.Search2
import Derived.Shelf.Strings.Search3
import Derived.Shelf.Strings.Count
import Derived.Shelf.Strings.Shaped
import Derived.Shelf.GgClosure.StringsIndexFunc
import Derived.Shelf.GgClosure.StringsTrimFunc
import Derived.Ground.GgwProg
import Derived.Shelf.GgClosure.StringsIndexFuncTop
import Derived.Shelf.GgClosure.StringsRunes
import Derived.Shelf.Strings.Prefix
import Derived.Shelf.Strings.Split
import Derived.Shelf.Strings.Replace
import Derived.Shelf.Strings.SplitShaped
import Derived.Shelf.Unicode.Latin
import Derived.Shelf.Strings.Runes
import Derived.Shelf.Strings.RuneCount
import Derived.Shelf.Strings.IndexAny
import Derived.Shelf.Strings.AsciiSet
import Derived.Shelf.Strings.IndexAnyAll
import Derived.Shelf.Bits.Mul64
import Derived.Shelf.Strings.Repeat
import Derived.Shelf.Unicode.DecodeSlow
import Derived.Shelf.Unicode.DecodeAny
import Derived.Shelf.Unicode.DecodeLast
import Derived.Shelf.Unicode.CaseLookup
import Derived.Shelf.Unicode.CaseConvert
import Derived.Shelf.Unicode.CaseTo
import Derived.Shelf.Unicode.CaseLaid
import Derived.Shelf.Strings.FuncGrows
import Derived.Shelf.Strings.BuilderCap
import Derived.Shelf.Slices.Turned
import Derived.Shelf.Strings.SlTrimAscii
import Derived.Test.YtfogfaagjpebcaaGreatDoorProg
set_option maxHeartbeats 16000000
set_option linter.all false
set_option linter.unusedVariables false
set_option linter.unusedSimpArgs false
namespace Go.Proofs
open Go.Shelf
def Tryz.lays158_ren:Go.Shelf.Ren:=⟨fun|158=>159|165=>10|166=>11|167=>177|169=>13|230=>178|203=>179|240=>21|241=>22|197=>78|118=>191|168=>192|270=>193|262=>194|276=>31|277=>32|260=>102|242=>105|313=>206|278=>124|274=>208|275=>209|n=>n,fun|9=>9|4=>4|3=>3|5=>5|72=>42|0=>0|76=>46|75=>45|107=>249|70=>40|20=>20|37=>34|127=>69|21=>21|105=>144|164=>95|162=>279|203=>277|119=>188|46=>36|139=>191|138=>190|51=>63|160=>283|208=>290|206=>288|80=>49|n=>n,fun|13=>14|3=>2|4=>3|n=>n⟩
theorem Tryz.lays158:Go.Proofs.Lays.n158 Tryz.prog Tryz.lays158_ren:={
 mixed:=by kernel_rfl
 f118:=Tryz.func191.trans (congrArg some (by kernel_rfl))
 f158:=Tryz.func159.trans (congrArg some (by kernel_rfl))
 f165:=Tryz.func10.trans (congrArg some (by kernel_rfl))
 f166:=Tryz.func11.trans (congrArg some (by kernel_rfl))
 f167:=Tryz.func177.trans (congrArg some (by kernel_rfl))
 f168:=Tryz.func192.trans (congrArg some (by kernel_rfl))
 f169:=Tryz.func13.trans (congrArg some (by kernel_rfl))
 f197:=Tryz.func78.trans (congrArg some (by kernel_rfl))
 f203:=Tryz.func179.trans (congrArg some (by kernel_rfl))
 f230:=Tryz.func178.trans (congrArg some (by kernel_rfl))
 f240:=Tryz.func21.trans (congrArg some (by kernel_rfl))
 f241:=Tryz.func22.trans (congrArg some (by kernel_rfl))
 f242:=Tryz.func105.trans (congrArg some (by kernel_rfl))
 f260:=Tryz.func102.trans (congrArg some (by kernel_rfl))
 f262:=Tryz.func194.trans (congrArg some (by kernel_rfl))
 f270:=Tryz.func193.trans (congrArg some (by kernel_rfl))
 f274:=Tryz.func208.trans (congrArg some (by kernel_rfl))
 f275:=Tryz.func209.trans (congrArg some (by kernel_rfl))
 f276:=Tryz.func31.trans (congrArg some (by kernel_rfl))
 f277:=Tryz.func32.trans (congrArg some (by kernel_rfl))
 f278:=Tryz.func124.trans (congrArg some (by kernel_rfl))
 f313:=Tryz.func206.trans (congrArg some (by kernel_rfl))
 t0:=Tryz.underlying0
 a0:=Tryz.isAgg0
 z0:=Tryz.sizeOf0
 v0:=Tryz.zeroValue0
 t3:=Tryz.underlying3
 a3:=Tryz.isAgg3
 z3:=Tryz.sizeOf3
 v3:=Tryz.zeroValue3
 t4:=Tryz.underlying4
 a4:=Tryz.isAgg4
 z4:=Tryz.sizeOf4
 v4:=Tryz.zeroValue4
 t5:=Tryz.underlying5
 a5:=Tryz.isAgg5
 z5:=Tryz.sizeOf5
 v5:=Tryz.zeroValue5
 t9:=Tryz.underlying9
 a9:=Tryz.isAgg9
 z9:=Tryz.sizeOf9
 v9:=Tryz.zeroValue9
 t20:=Tryz.underlying20
 a20:=Tryz.isAgg20
 z20:=Tryz.sizeOf20
 v20:=Tryz.zeroValue20
 t21:=Tryz.underlying21
 a21:=Tryz.isAgg21
 z21:=Tryz.sizeOf21
 v21:=Tryz.zeroValue21
 t37:=Tryz.underlying34
 a37:=Tryz.isAgg34
 z37:=Tryz.sizeOf34
 v37:=Tryz.zeroValue34
 t46:=Tryz.underlying36
 a46:=Tryz.isAgg36
 z46:=Tryz.sizeOf36
 v46:=Tryz.zeroValue36
 t51:=Tryz.underlying63
 a51:=Tryz.isAgg63
 z51:=Tryz.sizeOf63
 v51:=Tryz.zeroValue63
 t70:=Tryz.underlying40
 a70:=Tryz.isAgg40
 z70:=Tryz.sizeOf40
 v70:=Tryz.zeroValue40
 t72:=Tryz.underlying42
 a72:=Tryz.isAgg42
 z72:=Tryz.sizeOf42
 v72:=Tryz.zeroValue42
 t75:=Tryz.underlying45
 a75:=Tryz.isAgg45
 z75:=Tryz.sizeOf45
 v75:=Tryz.zeroValue45
 t76:=Tryz.underlying46
 a76:=Tryz.isAgg46
 z76:=Tryz.sizeOf46
 v76:=Tryz.zeroValue46
 t105:=Tryz.underlying144
 a105:=Tryz.isAgg144
 z105:=Tryz.sizeOf144
 v105:=Tryz.zeroValue144
 t107:=Tryz.underlying249
 a107:=Tryz.isAgg249
 z107:=Tryz.sizeOf249
 v107:=Tryz.zeroValue249
 t119:=Tryz.underlying188
 a119:=Tryz.isAgg188
 z119:=Tryz.sizeOf188
 t127:=Tryz.underlying69
 a127:=Tryz.isAgg69
 z127:=Tryz.sizeOf69
 v127:=Tryz.zeroValue69
 t138:=Tryz.underlying190
 a138:=Tryz.isAgg190
 z138:=Tryz.sizeOf190
 v138:=Tryz.zeroValue190
 t139:=Tryz.underlying191
 a139:=Tryz.isAgg191
 z139:=Tryz.sizeOf191
 v139:=Tryz.zeroValue191
 t160:=Tryz.underlying283
 a160:=Tryz.isAgg283
 z160:=Tryz.sizeOf283
 v160:=Tryz.zeroValue283
 t162:=Tryz.underlying279
 a162:=Tryz.isAgg279
 z162:=Tryz.sizeOf279
 v162:=Tryz.zeroValue279
 t164:=Tryz.underlying95
 a164:=Tryz.isAgg95
 z164:=Tryz.sizeOf95
 v164:=Tryz.zeroValue95
 t203:=Tryz.underlying277
 a203:=Tryz.isAgg277
 z203:=Tryz.sizeOf277
 v203:=Tryz.zeroValue277
 t206:=Tryz.underlying288
 a206:=Tryz.isAgg288
 z206:=Tryz.sizeOf288
 v206:=Tryz.zeroValue288
 t208:=Tryz.underlying290
 a208:=Tryz.isAgg290
 z208:=Tryz.sizeOf290
 v208:=Tryz.zeroValue290
 g3:=by kernel_rfl
 g4:=by kernel_rfl
 g13:=by kernel_rfl }
theorem Tryz.Builder_Extra_158:Builder.Extra Tryz.prog Tryz.lays158_ren:={
 sizeBuilder:=by kernel_rfl
 liesBuilder:=by kernel_rfl
 t5:=Tryz.underlying5
 a5:=Tryz.isAgg5
 z5:=Tryz.sizeOf5
 v5:=Tryz.zeroValue5
 infoByte:=by kernel_rfl
 cellsByte:=by kernel_rfl
 sizeByte:=by kernel_rfl
 neB5:=by decide }
open Go.RowKit in
theorem Tryz.strings_ToUpper_ascii (s:ByteArray) (w:World) (hs:s.size≤140737488355328) (hascii:∀(j:Nat) (b:UInt8),s.data.toList[j]?=some b→b.toNat<128) :
    Calls Tryz.prog 159 #[.string s] w fun e w'=>e = .returned (.string ⟨(Lib.toUpperA s.data.toList).toArray⟩)∧Below w.heap.size w w':=Any.strings_ToUpper_ascii Tryz.lays158 Tryz.Builder_Extra_158 s w hs hascii
def Tryz.lays119_ren:Go.Shelf.Ren:=⟨fun|119=>106|n=>n,fun|21=>21|4=>4|n=>n,fun|n=>n⟩
theorem Tryz.lays119:Go.Proofs.Lays.n119 Tryz.prog Tryz.lays119_ren:={
 mixed:=by kernel_rfl
 f119:=Tryz.func106.trans (congrArg some (by kernel_rfl))
 t4:=Tryz.underlying4
 a4:=Tryz.isAgg4
 z4:=Tryz.sizeOf4
 v4:=Tryz.zeroValue4
 t21:=Tryz.underlying21
 a21:=Tryz.isAgg21
 z21:=Tryz.sizeOf21
 v21:=Tryz.zeroValue21 }
theorem Tryz.utf8_ValidRune (r:Int) (w:World) :
    Calls Tryz.prog 106 #[.int .i32 r] w fun e w'=>e = .returned (.bool (Lib.validRune r))∧w'=w:=Any.utf8_ValidRune Tryz.lays119 r w
def Tryz.lays137_ren:Go.Shelf.Ren:=⟨fun|137=>43|217=>57|266=>84|n=>n,fun|9=>9|5=>5|3=>3|n=>n,fun|n=>n⟩
theorem Tryz.lays137:Go.Proofs.Lays.n137 Tryz.prog Tryz.lays137_ren:={
 mixed:=by kernel_rfl
 f137:=Tryz.func43.trans (congrArg some (by kernel_rfl))
 f217:=Tryz.func57.trans (congrArg some (by kernel_rfl))
 f266:=Tryz.func84.trans (congrArg some (by kernel_rfl))
 t3:=Tryz.underlying3
 a3:=Tryz.isAgg3
 z3:=Tryz.sizeOf3
 v3:=Tryz.zeroValue3
 t5:=Tryz.underlying5
 a5:=Tryz.isAgg5
 z5:=Tryz.sizeOf5
 v5:=Tryz.zeroValue5
 t9:=Tryz.underlying9
 a9:=Tryz.isAgg9
 z9:=Tryz.sizeOf9
 v9:=Tryz.zeroValue9 }
open Go.RowKit in
theorem Tryz.strings_IndexByte (s:ByteArray) (c:Int) (w:World) :
    Calls Tryz.prog 43 #[.string s,.int .u8 c] w fun e w'=>e = .returned (.int .i64 (Lib.indexByte s.data.toList c.toNat.toUInt8))∧w'=w:=Any.strings_IndexByte Tryz.lays137 s c w
def Tryz.lays242_ren:Go.Shelf.Ren:=⟨fun|242=>105|278=>124|n=>n,fun|37=>34|21=>21|51=>63|4=>4|5=>5|46=>36|n=>n,fun|n=>n⟩
theorem Tryz.lays242:Go.Proofs.Lays.n242 Tryz.prog Tryz.lays242_ren:={
 mixed:=by kernel_rfl
 f242:=Tryz.func105.trans (congrArg some (by kernel_rfl))
 f278:=Tryz.func124.trans (congrArg some (by kernel_rfl))
 t4:=Tryz.underlying4
 a4:=Tryz.isAgg4
 z4:=Tryz.sizeOf4
 v4:=Tryz.zeroValue4
 t5:=Tryz.underlying5
 a5:=Tryz.isAgg5
 z5:=Tryz.sizeOf5
 v5:=Tryz.zeroValue5
 t21:=Tryz.underlying21
 a21:=Tryz.isAgg21
 z21:=Tryz.sizeOf21
 v21:=Tryz.zeroValue21
 t37:=Tryz.underlying34
 a37:=Tryz.isAgg34
 z37:=Tryz.sizeOf34
 v37:=Tryz.zeroValue34
 t46:=Tryz.underlying36
 a46:=Tryz.isAgg36
 z46:=Tryz.sizeOf36
 v46:=Tryz.zeroValue36
 t51:=Tryz.underlying63
 a51:=Tryz.isAgg63
 z51:=Tryz.sizeOf63
 v51:=Tryz.zeroValue63 }
open Go.RowKit in
theorem Tryz.utf8_AppendRune_plain (B:Nat) (v:Value) (n:Nat) (xs:List Value) (r:Int) (hr0 : -2147483648≤r) (hr1:r≤2147483647) (w:World) (hown:w.ownsRow B 5 1 v n xs) (hlen:n+4≤140737488355328) (hBw:B≤w.heap.size) :
    Calls Tryz.prog 105 #[v,.int .i32 r] w fun e w'=>∃v',e = .returned v'∧w'.ownsRow B 5 1 v' (n+(Lib.runeCells r).length) (xs++Lib.runeCells r)∧∃o,(w.alloc o).grownBy w' v.ownBlock:=Any.utf8_AppendRune_plain Tryz.lays242 (by kernel_rfl) B v n xs r hr0 hr1 w hown hlen hBw
def Tryz.lays272_ren:Go.Shelf.Ren:=⟨fun|272=>113|315=>119|n=>n,fun|9=>9|40=>162|4=>4|3=>3|0=>0|21=>21|n=>n,fun|n=>n⟩
theorem Tryz.lays272:Go.Proofs.Lays.n272 Tryz.prog Tryz.lays272_ren:={
 mixed:=by kernel_rfl
 f272:=Tryz.func113.trans (congrArg some (by kernel_rfl))
 f315:=Tryz.func119.trans (congrArg some (by kernel_rfl))
 t0:=Tryz.underlying0
 a0:=Tryz.isAgg0
 z0:=Tryz.sizeOf0
 v0:=Tryz.zeroValue0
 t3:=Tryz.underlying3
 a3:=Tryz.isAgg3
 z3:=Tryz.sizeOf3
 v3:=Tryz.zeroValue3
 t4:=Tryz.underlying4
 a4:=Tryz.isAgg4
 z4:=Tryz.sizeOf4
 v4:=Tryz.zeroValue4
 t9:=Tryz.underlying9
 a9:=Tryz.isAgg9
 z9:=Tryz.sizeOf9
 v9:=Tryz.zeroValue9
 t21:=Tryz.underlying21
 a21:=Tryz.isAgg21
 z21:=Tryz.sizeOf21
 v21:=Tryz.zeroValue21
 t40:=Tryz.underlying162
 a40:=Tryz.isAgg162
 z40:=Tryz.sizeOf162
 v40:=Tryz.zeroValue162 }
def Tryz.laysGw15_ren:Go.Shelf.Ren:=⟨fun|15=>95|20=>119|n=>n,fun|9=>9|23=>162|3=>3|4=>4|0=>0|21=>21|n=>n,fun|n=>n⟩
theorem Tryz.laysGw15:Go.Proofs.LaysGw.n15 Tryz.prog Tryz.laysGw15_ren:={
 mixed:=by kernel_rfl
 f15:=Tryz.func95.trans (congrArg some (by kernel_rfl))
 f20:=Tryz.func119.trans (congrArg some (by kernel_rfl))
 t0:=Tryz.underlying0
 a0:=Tryz.isAgg0
 z0:=Tryz.sizeOf0
 v0:=Tryz.zeroValue0
 i0:=by kernel_rfl
 t3:=Tryz.underlying3
 a3:=Tryz.isAgg3
 z3:=Tryz.sizeOf3
 v3:=Tryz.zeroValue3
 i3:=by kernel_rfl
 t4:=Tryz.underlying4
 a4:=Tryz.isAgg4
 z4:=Tryz.sizeOf4
 v4:=Tryz.zeroValue4
 i4:=by kernel_rfl
 t9:=Tryz.underlying9
 a9:=Tryz.isAgg9
 z9:=Tryz.sizeOf9
 v9:=Tryz.zeroValue9
 i9:=by kernel_rfl
 t21:=Tryz.underlying21
 a21:=Tryz.isAgg21
 z21:=Tryz.sizeOf21
 v21:=Tryz.zeroValue21
 i21:=by kernel_rfl
 t23:=Tryz.underlying162
 a23:=Tryz.isAgg162
 z23:=Tryz.sizeOf162
 v23:=Tryz.zeroValue162
 i23:=by kernel_rfl }
open Go.RowKit Go.Lib in
theorem Tryz.strings_IndexFunc_runes (g:Nat) (lb:Array Value) (eg:∀args w,(callFunc g args).run Tryz.prog w = .ok (.enter g args) w) (p:Nat→Bool) (s:ByteArray) (w:World) (hp:PredAtRunes Tryz.prog g lb p w) :
    Calls Tryz.prog 95 #[.string s,.func (.func g) #[] lb] w fun e w'=>e = .returned (.int .i64 (Lib.idxFunc p true s))∧Below w.heap.size w w':=Any.strings_IndexFunc_runes Tryz.laysGw15 g lb eg p s w hp
def Tryz.lays99_ren:Go.Shelf.Ren:=⟨fun|99=>9|206=>20|n=>n,fun|9=>9|4=>4|3=>3|n=>n,fun|n=>n⟩
theorem Tryz.lays99:Go.Proofs.Lays.n99 Tryz.prog Tryz.lays99_ren:={
 mixed:=by kernel_rfl
 f99:=Tryz.func9.trans (congrArg some (by kernel_rfl))
 f206:=Tryz.func20.trans (congrArg some (by kernel_rfl))
 t3:=Tryz.underlying3
 a3:=Tryz.isAgg3
 z3:=Tryz.sizeOf3
 v3:=Tryz.zeroValue3
 t4:=Tryz.underlying4
 a4:=Tryz.isAgg4
 z4:=Tryz.sizeOf4
 v4:=Tryz.zeroValue4
 t9:=Tryz.underlying9
 a9:=Tryz.isAgg9
 z9:=Tryz.sizeOf9
 v9:=Tryz.zeroValue9 }
open Go.RowKit Go.Lib in
theorem Tryz.strings_HasPrefix (s p:ByteArray) (w:World) :
    Calls Tryz.prog 9 #[.string s,.string p] w fun e w'=>e = .returned (.bool (Lib.hasPrefix s.data.toList p.data.toList))∧w'=w:=Any.strings_HasPrefix Tryz.lays99 s p w
def Tryz.lays101_ren:Go.Shelf.Ren:=⟨fun|101=>44|208=>58|206=>20|n=>n,fun|9=>9|4=>4|3=>3|n=>n,fun|n=>n⟩
theorem Tryz.lays101:Go.Proofs.Lays.n101 Tryz.prog Tryz.lays101_ren:={
 mixed:=by kernel_rfl
 f101:=Tryz.func44.trans (congrArg some (by kernel_rfl))
 f206:=Tryz.func20.trans (congrArg some (by kernel_rfl))
 f208:=Tryz.func58.trans (congrArg some (by kernel_rfl))
 t3:=Tryz.underlying3
 a3:=Tryz.isAgg3
 z3:=Tryz.sizeOf3
 v3:=Tryz.zeroValue3
 t4:=Tryz.underlying4
 a4:=Tryz.isAgg4
 z4:=Tryz.sizeOf4
 v4:=Tryz.zeroValue4
 t9:=Tryz.underlying9
 a9:=Tryz.isAgg9
 z9:=Tryz.sizeOf9
 v9:=Tryz.zeroValue9 }
open Go.RowKit Go.Lib in
theorem Tryz.strings_TrimPrefix (s p:ByteArray) (w:World) :
    Calls Tryz.prog 44 #[.string s,.string p] w fun e w'=>e = .returned (.string ⟨(Lib.trimPrefix s.data.toList p.data.toList).toArray⟩)∧w'=w:=Any.strings_TrimPrefix Tryz.lays101 s p w
def Tryz.lays151_ren:Go.Shelf.Ren:=⟨fun|151=>108|152=>125|137=>43|119=>106|224=>132|225=>133|217=>57|266=>84|n=>n,fun|9=>9|21=>21|4=>4|3=>3|5=>5|0=>0|46=>36|n=>n,fun|n=>n⟩
theorem Tryz.lays151:Go.Proofs.Lays.n151 Tryz.prog Tryz.lays151_ren:={
 mixed:=by kernel_rfl
 f119:=Tryz.func106.trans (congrArg some (by kernel_rfl))
 f137:=Tryz.func43.trans (congrArg some (by kernel_rfl))
 f151:=Tryz.func108.trans (congrArg some (by kernel_rfl))
 f152:=Tryz.func125.trans (congrArg some (by kernel_rfl))
 f217:=Tryz.func57.trans (congrArg some (by kernel_rfl))
 f224:=Tryz.func132.trans (congrArg some (by kernel_rfl))
 f225:=Tryz.func133.trans (congrArg some (by kernel_rfl))
 f266:=Tryz.func84.trans (congrArg some (by kernel_rfl))
 t0:=Tryz.underlying0
 a0:=Tryz.isAgg0
 z0:=Tryz.sizeOf0
 v0:=Tryz.zeroValue0
 t3:=Tryz.underlying3
 a3:=Tryz.isAgg3
 z3:=Tryz.sizeOf3
 v3:=Tryz.zeroValue3
 t4:=Tryz.underlying4
 a4:=Tryz.isAgg4
 z4:=Tryz.sizeOf4
 v4:=Tryz.zeroValue4
 t5:=Tryz.underlying5
 a5:=Tryz.isAgg5
 z5:=Tryz.sizeOf5
 v5:=Tryz.zeroValue5
 t9:=Tryz.underlying9
 a9:=Tryz.isAgg9
 z9:=Tryz.sizeOf9
 v9:=Tryz.zeroValue9
 t21:=Tryz.underlying21
 a21:=Tryz.isAgg21
 z21:=Tryz.sizeOf21
 v21:=Tryz.zeroValue21
 t46:=Tryz.underlying36
 a46:=Tryz.isAgg36
 z46:=Tryz.sizeOf36
 v46:=Tryz.zeroValue36 }
open Go.RowKit Go.Lib in
theorem Tryz.strings_ContainsRune_ascii (s:ByteArray) (r:Int) (w:World) (h0:0≤r) (h1:r<128) :
    Calls Tryz.prog 108 #[.string s,.int .i32 r] w fun e w'=>e = .returned (.bool (decide (0≤Lib.indexByte s.data.toList r.toNat.toUInt8)))∧w'=w:=Any.strings_ContainsRune_ascii Tryz.lays151 s r w h0 h1
def Tryz.lays153_ren:Go.Shelf.Ren:=⟨fun|153=>167|152=>125|226=>188|227=>81|228=>107|137=>43|119=>106|224=>132|225=>133|217=>57|266=>84|n=>n,fun|9=>9|3=>3|4=>4|5=>5|21=>21|117=>150|116=>149|0=>0|46=>36|124=>153|n=>n,fun|n=>n⟩
theorem Tryz.lays153:Go.Proofs.Lays.n153 Tryz.prog Tryz.lays153_ren:={
 mixed:=by kernel_rfl
 f119:=Tryz.func106.trans (congrArg some (by kernel_rfl))
 f137:=Tryz.func43.trans (congrArg some (by kernel_rfl))
 f152:=Tryz.func125.trans (congrArg some (by kernel_rfl))
 f153:=Tryz.func167.trans (congrArg some (by kernel_rfl))
 f217:=Tryz.func57.trans (congrArg some (by kernel_rfl))
 f224:=Tryz.func132.trans (congrArg some (by kernel_rfl))
 f225:=Tryz.func133.trans (congrArg some (by kernel_rfl))
 f226:=Tryz.func188.trans (congrArg some (by kernel_rfl))
 f227:=Tryz.func81.trans (congrArg some (by kernel_rfl))
 f228:=Tryz.func107.trans (congrArg some (by kernel_rfl))
 f266:=Tryz.func84.trans (congrArg some (by kernel_rfl))
 t0:=Tryz.underlying0
 a0:=Tryz.isAgg0
 z0:=Tryz.sizeOf0
 v0:=Tryz.zeroValue0
 t3:=Tryz.underlying3
 a3:=Tryz.isAgg3
 z3:=Tryz.sizeOf3
 v3:=Tryz.zeroValue3
 t4:=Tryz.underlying4
 a4:=Tryz.isAgg4
 z4:=Tryz.sizeOf4
 v4:=Tryz.zeroValue4
 t5:=Tryz.underlying5
 a5:=Tryz.isAgg5
 z5:=Tryz.sizeOf5
 v5:=Tryz.zeroValue5
 t9:=Tryz.underlying9
 a9:=Tryz.isAgg9
 z9:=Tryz.sizeOf9
 v9:=Tryz.zeroValue9
 t21:=Tryz.underlying21
 a21:=Tryz.isAgg21
 z21:=Tryz.sizeOf21
 v21:=Tryz.zeroValue21
 t46:=Tryz.underlying36
 a46:=Tryz.isAgg36
 z46:=Tryz.sizeOf36
 v46:=Tryz.zeroValue36
 t116:=Tryz.underlying149
 a116:=Tryz.isAgg149
 z116:=Tryz.sizeOf149
 t117:=Tryz.underlying150
 a117:=Tryz.isAgg150
 z117:=Tryz.sizeOf150
 v117:=Tryz.zeroValue150
 t124:=Tryz.underlying153
 a124:=Tryz.isAgg153
 z124:=Tryz.sizeOf153
 v124:=Tryz.zeroValue153 }
def Tryz.lays105_ren:Go.Shelf.Ren:=⟨fun|105=>4|212=>8|99=>9|165=>10|166=>11|170=>12|169=>13|263=>18|264=>19|206=>20|240=>21|241=>22|276=>31|277=>32|n=>n,fun|9=>9|3=>3|4=>4|20=>20|0=>0|46=>36|109=>37|5=>5|72=>42|76=>46|51=>63|146=>64|53=>66|148=>67|70=>40|37=>34|75=>45|127=>69|164=>95|80=>49|n=>n,fun|n=>n⟩
theorem Tryz.lays105:Go.Proofs.Lays.n105 Tryz.prog Tryz.lays105_ren:={
 mixed:=by kernel_rfl
 f99:=Tryz.func9.trans (congrArg some (by kernel_rfl))
 f105:=Tryz.func4.trans (congrArg some (by kernel_rfl))
 f165:=Tryz.func10.trans (congrArg some (by kernel_rfl))
 f166:=Tryz.func11.trans (congrArg some (by kernel_rfl))
 f169:=Tryz.func13.trans (congrArg some (by kernel_rfl))
 f170:=Tryz.func12.trans (congrArg some (by kernel_rfl))
 f206:=Tryz.func20.trans (congrArg some (by kernel_rfl))
 f212:=Tryz.func8.trans (congrArg some (by kernel_rfl))
 f240:=Tryz.func21.trans (congrArg some (by kernel_rfl))
 f241:=Tryz.func22.trans (congrArg some (by kernel_rfl))
 f263:=Tryz.func18.trans (congrArg some (by kernel_rfl))
 f264:=Tryz.func19.trans (congrArg some (by kernel_rfl))
 f276:=Tryz.func31.trans (congrArg some (by kernel_rfl))
 f277:=Tryz.func32.trans (congrArg some (by kernel_rfl))
 t0:=Tryz.underlying0
 a0:=Tryz.isAgg0
 z0:=Tryz.sizeOf0
 v0:=Tryz.zeroValue0
 t3:=Tryz.underlying3
 a3:=Tryz.isAgg3
 z3:=Tryz.sizeOf3
 v3:=Tryz.zeroValue3
 t4:=Tryz.underlying4
 a4:=Tryz.isAgg4
 z4:=Tryz.sizeOf4
 v4:=Tryz.zeroValue4
 t5:=Tryz.underlying5
 a5:=Tryz.isAgg5
 z5:=Tryz.sizeOf5
 v5:=Tryz.zeroValue5
 t9:=Tryz.underlying9
 a9:=Tryz.isAgg9
 z9:=Tryz.sizeOf9
 v9:=Tryz.zeroValue9
 t20:=Tryz.underlying20
 a20:=Tryz.isAgg20
 z20:=Tryz.sizeOf20
 v20:=Tryz.zeroValue20
 t37:=Tryz.underlying34
 a37:=Tryz.isAgg34
 z37:=Tryz.sizeOf34
 v37:=Tryz.zeroValue34
 t46:=Tryz.underlying36
 a46:=Tryz.isAgg36
 z46:=Tryz.sizeOf36
 v46:=Tryz.zeroValue36
 t51:=Tryz.underlying63
 a51:=Tryz.isAgg63
 z51:=Tryz.sizeOf63
 v51:=Tryz.zeroValue63
 t53:=Tryz.underlying66
 a53:=Tryz.isAgg66
 z53:=Tryz.sizeOf66
 v53:=Tryz.zeroValue66
 t70:=Tryz.underlying40
 a70:=Tryz.isAgg40
 z70:=Tryz.sizeOf40
 v70:=Tryz.zeroValue40
 t72:=Tryz.underlying42
 a72:=Tryz.isAgg42
 z72:=Tryz.sizeOf42
 v72:=Tryz.zeroValue42
 t75:=Tryz.underlying45
 a75:=Tryz.isAgg45
 z75:=Tryz.sizeOf45
 v75:=Tryz.zeroValue45
 t76:=Tryz.underlying46
 a76:=Tryz.isAgg46
 z76:=Tryz.sizeOf46
 v76:=Tryz.zeroValue46
 t109:=Tryz.underlying37
 a109:=Tryz.isAgg37
 z109:=Tryz.sizeOf37
 v109:=Tryz.zeroValue37
 t127:=Tryz.underlying69
 a127:=Tryz.isAgg69
 z127:=Tryz.sizeOf69
 v127:=Tryz.zeroValue69
 t146:=Tryz.underlying64
 a146:=Tryz.isAgg64
 z146:=Tryz.sizeOf64
 v146:=Tryz.zeroValue64
 t148:=Tryz.underlying67
 a148:=Tryz.isAgg67
 z148:=Tryz.sizeOf67
 v148:=Tryz.zeroValue67
 t164:=Tryz.underlying95
 a164:=Tryz.isAgg95
 z164:=Tryz.sizeOf95
 v164:=Tryz.zeroValue95 }
theorem Tryz.Builder_Extra_105:Builder.Extra Tryz.prog Tryz.lays105_ren:={
 sizeBuilder:=by kernel_rfl
 liesBuilder:=by kernel_rfl
 t5:=Tryz.underlying5
 a5:=Tryz.isAgg5
 z5:=Tryz.sizeOf5
 v5:=Tryz.zeroValue5
 infoByte:=by kernel_rfl
 cellsByte:=by kernel_rfl
 sizeByte:=by kernel_rfl
 neB5:=by decide }
open Go.RowKit Go.Lib in
theorem Tryz.strings_Repeat_main (s:ByteArray) (c:Nat) (w:World) (hc2:2≤c) (hc:c≤9223372036854775807) (hlen:s.size*c≤140737488355328) (h0:0<s.size) :
    Calls Tryz.prog 4 #[.string s,.int .i64 c] w fun e w'=>e = .returned (.string ⟨(Lib.repeatL s.data.toList c).toArray⟩)∧Below w.heap.size w w':=Any.strings_Repeat_main Tryz.lays105 Tryz.Builder_Extra_105 s c w hc2 hc hlen h0
open Go.RowKit Go.Lib in
theorem Tryz.strings_Repeat_zero (s:ByteArray) (w:World) :
    Calls Tryz.prog 4 #[.string s,.int .i64 0] w fun e w'=>e = .returned (.string ⟨#[]⟩)∧w'=w:=Any.strings_Repeat_zero Tryz.lays105 s w
open Go.RowKit Go.Lib in
theorem Tryz.strings_Repeat_one (s:ByteArray) (w:World) :
    Calls Tryz.prog 4 #[.string s,.int .i64 1] w fun e w'=>e = .returned (.string s)∧w'=w:=Any.strings_Repeat_one Tryz.lays105 s w
def Tryz.lays109_ren:Go.Shelf.Ren:=⟨fun|109=>89|n=>n,fun|31=>74|9=>9|3=>3|0=>0|4=>4|n=>n,fun|n=>n⟩
theorem Tryz.lays109:Go.Proofs.Lays.n109 Tryz.prog Tryz.lays109_ren:={
 mixed:=by kernel_rfl
 f109:=Tryz.func89.trans (congrArg some (by kernel_rfl))
 t0:=Tryz.underlying0
 a0:=Tryz.isAgg0
 z0:=Tryz.sizeOf0
 v0:=Tryz.zeroValue0
 t3:=Tryz.underlying3
 a3:=Tryz.isAgg3
 z3:=Tryz.sizeOf3
 v3:=Tryz.zeroValue3
 t4:=Tryz.underlying4
 a4:=Tryz.isAgg4
 z4:=Tryz.sizeOf4
 v4:=Tryz.zeroValue4
 t9:=Tryz.underlying9
 a9:=Tryz.isAgg9
 z9:=Tryz.sizeOf9
 v9:=Tryz.zeroValue9
 t31:=Tryz.underlying74
 a31:=Tryz.isAgg74
 z31:=Tryz.sizeOf74
 v31:=Tryz.zeroValue74 }
open Go.Lib in
theorem Tryz.slices_Index_string (b off n c:Nat) (zs:List ByteArray) (x:ByteArray) (w:World) (hz:n≤zs.length) (hbig:n≤9223372036854775807) (hc:∀j,j<zs.length→w.cell? ⟨b,off+j,none⟩=some (.string (zs.getD j ByteArray.empty))) :
    Calls Tryz.prog 89 #[.slice (some ⟨b,off,none⟩) n c,.string x] w fun e w'=>e = .returned (.int .i64 (Lib.idxOfS (zs.take n) x))∧w'=w:=Any.slices_Index_string Tryz.lays109 b off n c zs x w hz hbig hc
open Go.Lib in
theorem Tryz.slices_Index_string_empty (a:Option Addr) (c:Nat) (x:ByteArray) (w:World) :
    Calls Tryz.prog 89 #[.slice a 0 c,.string x] w fun e w'=>e = .returned (.int .i64 (Lib.idxOfS [] x))∧w'=w:=Any.slices_Index_string_empty Tryz.lays109 a c x w
def Tryz.lays161_ren:Go.Shelf.Ren:=⟨fun|161=>56|231=>80|227=>81|233=>82|235=>83|228=>107|197=>78|151=>108|260=>102|152=>125|137=>43|119=>106|224=>132|225=>133|217=>57|266=>84|n=>n,fun|9=>9|4=>4|3=>3|5=>5|117=>150|116=>149|0=>0|124=>153|105=>144|21=>21|119=>188|46=>36|139=>191|138=>190|n=>n,fun|3=>2|4=>3|n=>n⟩
theorem Tryz.lays161:Go.Proofs.Lays.n161 Tryz.prog Tryz.lays161_ren:={
 mixed:=by kernel_rfl
 f119:=Tryz.func106.trans (congrArg some (by kernel_rfl))
 f137:=Tryz.func43.trans (congrArg some (by kernel_rfl))
 f151:=Tryz.func108.trans (congrArg some (by kernel_rfl))
 f152:=Tryz.func125.trans (congrArg some (by kernel_rfl))
 f161:=Tryz.func56.trans (congrArg some (by kernel_rfl))
 f197:=Tryz.func78.trans (congrArg some (by kernel_rfl))
 f217:=Tryz.func57.trans (congrArg some (by kernel_rfl))
 f224:=Tryz.func132.trans (congrArg some (by kernel_rfl))
 f225:=Tryz.func133.trans (congrArg some (by kernel_rfl))
 f227:=Tryz.func81.trans (congrArg some (by kernel_rfl))
 f228:=Tryz.func107.trans (congrArg some (by kernel_rfl))
 f231:=Tryz.func80.trans (congrArg some (by kernel_rfl))
 f233:=Tryz.func82.trans (congrArg some (by kernel_rfl))
 f235:=Tryz.func83.trans (congrArg some (by kernel_rfl))
 f260:=Tryz.func102.trans (congrArg some (by kernel_rfl))
 f266:=Tryz.func84.trans (congrArg some (by kernel_rfl))
 t0:=Tryz.underlying0
 a0:=Tryz.isAgg0
 z0:=Tryz.sizeOf0
 v0:=Tryz.zeroValue0
 t3:=Tryz.underlying3
 a3:=Tryz.isAgg3
 z3:=Tryz.sizeOf3
 v3:=Tryz.zeroValue3
 t4:=Tryz.underlying4
 a4:=Tryz.isAgg4
 z4:=Tryz.sizeOf4
 v4:=Tryz.zeroValue4
 t5:=Tryz.underlying5
 a5:=Tryz.isAgg5
 z5:=Tryz.sizeOf5
 v5:=Tryz.zeroValue5
 t9:=Tryz.underlying9
 a9:=Tryz.isAgg9
 z9:=Tryz.sizeOf9
 v9:=Tryz.zeroValue9
 t21:=Tryz.underlying21
 a21:=Tryz.isAgg21
 z21:=Tryz.sizeOf21
 v21:=Tryz.zeroValue21
 t46:=Tryz.underlying36
 a46:=Tryz.isAgg36
 z46:=Tryz.sizeOf36
 v46:=Tryz.zeroValue36
 t105:=Tryz.underlying144
 a105:=Tryz.isAgg144
 z105:=Tryz.sizeOf144
 v105:=Tryz.zeroValue144
 t116:=Tryz.underlying149
 a116:=Tryz.isAgg149
 z116:=Tryz.sizeOf149
 t117:=Tryz.underlying150
 a117:=Tryz.isAgg150
 z117:=Tryz.sizeOf150
 v117:=Tryz.zeroValue150
 t119:=Tryz.underlying188
 a119:=Tryz.isAgg188
 z119:=Tryz.sizeOf188
 t124:=Tryz.underlying153
 a124:=Tryz.isAgg153
 z124:=Tryz.sizeOf153
 v124:=Tryz.zeroValue153
 t138:=Tryz.underlying190
 a138:=Tryz.isAgg190
 z138:=Tryz.sizeOf190
 v138:=Tryz.zeroValue190
 t139:=Tryz.underlying191
 a139:=Tryz.isAgg191
 z139:=Tryz.sizeOf191
 v139:=Tryz.zeroValue191
 g3:=by kernel_rfl
 g4:=by kernel_rfl }
def Tryz.lays162_ren:Go.Shelf.Ren:=⟨fun|162=>158|232=>174|227=>81|234=>175|236=>176|228=>107|271=>190|151=>108|120=>205|197=>78|152=>125|260=>102|137=>43|119=>106|224=>132|225=>133|217=>57|266=>84|n=>n,fun|9=>9|4=>4|3=>3|5=>5|117=>150|116=>149|0=>0|124=>153|21=>21|105=>144|46=>36|119=>188|139=>191|138=>190|n=>n,fun|3=>2|4=>3|n=>n⟩
theorem Tryz.lays162:Go.Proofs.Lays.n162 Tryz.prog Tryz.lays162_ren:={
 mixed:=by kernel_rfl
 f119:=Tryz.func106.trans (congrArg some (by kernel_rfl))
 f120:=Tryz.func205.trans (congrArg some (by kernel_rfl))
 f137:=Tryz.func43.trans (congrArg some (by kernel_rfl))
 f151:=Tryz.func108.trans (congrArg some (by kernel_rfl))
 f152:=Tryz.func125.trans (congrArg some (by kernel_rfl))
 f162:=Tryz.func158.trans (congrArg some (by kernel_rfl))
 f197:=Tryz.func78.trans (congrArg some (by kernel_rfl))
 f217:=Tryz.func57.trans (congrArg some (by kernel_rfl))
 f224:=Tryz.func132.trans (congrArg some (by kernel_rfl))
 f225:=Tryz.func133.trans (congrArg some (by kernel_rfl))
 f227:=Tryz.func81.trans (congrArg some (by kernel_rfl))
 f228:=Tryz.func107.trans (congrArg some (by kernel_rfl))
 f232:=Tryz.func174.trans (congrArg some (by kernel_rfl))
 f234:=Tryz.func175.trans (congrArg some (by kernel_rfl))
 f236:=Tryz.func176.trans (congrArg some (by kernel_rfl))
 f260:=Tryz.func102.trans (congrArg some (by kernel_rfl))
 f266:=Tryz.func84.trans (congrArg some (by kernel_rfl))
 f271:=Tryz.func190.trans (congrArg some (by kernel_rfl))
 t0:=Tryz.underlying0
 a0:=Tryz.isAgg0
 z0:=Tryz.sizeOf0
 v0:=Tryz.zeroValue0
 t3:=Tryz.underlying3
 a3:=Tryz.isAgg3
 z3:=Tryz.sizeOf3
 v3:=Tryz.zeroValue3
 t4:=Tryz.underlying4
 a4:=Tryz.isAgg4
 z4:=Tryz.sizeOf4
 v4:=Tryz.zeroValue4
 t5:=Tryz.underlying5
 a5:=Tryz.isAgg5
 z5:=Tryz.sizeOf5
 v5:=Tryz.zeroValue5
 t9:=Tryz.underlying9
 a9:=Tryz.isAgg9
 z9:=Tryz.sizeOf9
 v9:=Tryz.zeroValue9
 t21:=Tryz.underlying21
 a21:=Tryz.isAgg21
 z21:=Tryz.sizeOf21
 v21:=Tryz.zeroValue21
 t46:=Tryz.underlying36
 a46:=Tryz.isAgg36
 z46:=Tryz.sizeOf36
 v46:=Tryz.zeroValue36
 t105:=Tryz.underlying144
 a105:=Tryz.isAgg144
 z105:=Tryz.sizeOf144
 v105:=Tryz.zeroValue144
 t116:=Tryz.underlying149
 a116:=Tryz.isAgg149
 z116:=Tryz.sizeOf149
 t117:=Tryz.underlying150
 a117:=Tryz.isAgg150
 z117:=Tryz.sizeOf150
 v117:=Tryz.zeroValue150
 t119:=Tryz.underlying188
 a119:=Tryz.isAgg188
 z119:=Tryz.sizeOf188
 t124:=Tryz.underlying153
 a124:=Tryz.isAgg153
 z124:=Tryz.sizeOf153
 v124:=Tryz.zeroValue153
 t138:=Tryz.underlying190
 a138:=Tryz.isAgg190
 z138:=Tryz.sizeOf190
 v138:=Tryz.zeroValue190
 t139:=Tryz.underlying191
 a139:=Tryz.isAgg191
 z139:=Tryz.sizeOf191
 v139:=Tryz.zeroValue191
 g3:=by kernel_rfl
 g4:=by kernel_rfl }
def Tryz.lays160_ren:Go.Shelf.Ren:=⟨fun|160=>161|232=>174|231=>80|227=>81|234=>175|233=>82|236=>176|235=>83|228=>107|271=>190|151=>108|197=>78|120=>205|152=>125|260=>102|137=>43|119=>106|224=>132|225=>133|217=>57|266=>84|n=>n,fun|9=>9|4=>4|3=>3|5=>5|117=>150|116=>149|0=>0|124=>153|21=>21|105=>144|46=>36|119=>188|139=>191|138=>190|n=>n,fun|3=>2|4=>3|n=>n⟩
theorem Tryz.lays160:Go.Proofs.Lays.n160 Tryz.prog Tryz.lays160_ren:={
 mixed:=by kernel_rfl
 f119:=Tryz.func106.trans (congrArg some (by kernel_rfl))
 f120:=Tryz.func205.trans (congrArg some (by kernel_rfl))
 f137:=Tryz.func43.trans (congrArg some (by kernel_rfl))
 f151:=Tryz.func108.trans (congrArg some (by kernel_rfl))
 f152:=Tryz.func125.trans (congrArg some (by kernel_rfl))
 f160:=Tryz.func161.trans (congrArg some (by kernel_rfl))
 f197:=Tryz.func78.trans (congrArg some (by kernel_rfl))
 f217:=Tryz.func57.trans (congrArg some (by kernel_rfl))
 f224:=Tryz.func132.trans (congrArg some (by kernel_rfl))
 f225:=Tryz.func133.trans (congrArg some (by kernel_rfl))
 f227:=Tryz.func81.trans (congrArg some (by kernel_rfl))
 f228:=Tryz.func107.trans (congrArg some (by kernel_rfl))
 f231:=Tryz.func80.trans (congrArg some (by kernel_rfl))
 f232:=Tryz.func174.trans (congrArg some (by kernel_rfl))
 f233:=Tryz.func82.trans (congrArg some (by kernel_rfl))
 f234:=Tryz.func175.trans (congrArg some (by kernel_rfl))
 f235:=Tryz.func83.trans (congrArg some (by kernel_rfl))
 f236:=Tryz.func176.trans (congrArg some (by kernel_rfl))
 f260:=Tryz.func102.trans (congrArg some (by kernel_rfl))
 f266:=Tryz.func84.trans (congrArg some (by kernel_rfl))
 f271:=Tryz.func190.trans (congrArg some (by kernel_rfl))
 t0:=Tryz.underlying0
 a0:=Tryz.isAgg0
 z0:=Tryz.sizeOf0
 v0:=Tryz.zeroValue0
 t3:=Tryz.underlying3
 a3:=Tryz.isAgg3
 z3:=Tryz.sizeOf3
 v3:=Tryz.zeroValue3
 t4:=Tryz.underlying4
 a4:=Tryz.isAgg4
 z4:=Tryz.sizeOf4
 v4:=Tryz.zeroValue4
 t5:=Tryz.underlying5
 a5:=Tryz.isAgg5
 z5:=Tryz.sizeOf5
 v5:=Tryz.zeroValue5
 t9:=Tryz.underlying9
 a9:=Tryz.isAgg9
 z9:=Tryz.sizeOf9
 v9:=Tryz.zeroValue9
 t21:=Tryz.underlying21
 a21:=Tryz.isAgg21
 z21:=Tryz.sizeOf21
 v21:=Tryz.zeroValue21
 t46:=Tryz.underlying36
 a46:=Tryz.isAgg36
 z46:=Tryz.sizeOf36
 v46:=Tryz.zeroValue36
 t105:=Tryz.underlying144
 a105:=Tryz.isAgg144
 z105:=Tryz.sizeOf144
 v105:=Tryz.zeroValue144
 t116:=Tryz.underlying149
 a116:=Tryz.isAgg149
 z116:=Tryz.sizeOf149
 t117:=Tryz.underlying150
 a117:=Tryz.isAgg150
 z117:=Tryz.sizeOf150
 v117:=Tryz.zeroValue150
 t119:=Tryz.underlying188
 a119:=Tryz.isAgg188
 z119:=Tryz.sizeOf188
 t124:=Tryz.underlying153
 a124:=Tryz.isAgg153
 z124:=Tryz.sizeOf153
 v124:=Tryz.zeroValue153
 t138:=Tryz.underlying190
 a138:=Tryz.isAgg190
 z138:=Tryz.sizeOf190
 v138:=Tryz.zeroValue190
 t139:=Tryz.underlying191
 a139:=Tryz.isAgg191
 z139:=Tryz.sizeOf191
 v139:=Tryz.zeroValue191
 g3:=by kernel_rfl
 g4:=by kernel_rfl }
end Go.Proofs
namespace Go.Proofs.YtfogfaagjpebcaaGreatDoor.Pl
inductive Res (α : Type) where
 | non
 | ok (a : α)
 | bad (c p:Nat)
structure Nd where
 kind:Nat
 text:Bs
 keys:List Bs
 spots:List (Nat × Nat)
 subs:List Nat
 sp:Int × Int
 owner:Nat
abbrev Nds:=List Nd
structure Env where
 str:Bs→Res (Bs × Nat)
 scal:Bs→Res (Nat × Bs × Nat)
def byteAt (s:Bs) (n:Nat):Nat:=match s[n]? with
 | some c=>c.toNat
 | none=>0
def isBare (c:UInt8):Bool:=decide (97≤c.toNat) && decide (c.toNat≤122) || decide (65≤c.toNat) && decide (c.toNat≤90) || decide (48≤c.toNat) && decide (c.toNat≤57) || c.toNat==95 || c.toNat==45
def bareRun (l:Bs):Nat:=(l.takeWhile isBare).length
def word (E:Env) (s:Bs) (n:Nat):Res (Bs × Nat) :=
 if longAt s n then .ok ([],n+2) else
 if bareRun (s.drop n)=0 then
  match E.str (s.drop n) with
  | .non => .non
  | .bad c p => .bad c (n+p)
  | .ok (t,k) => .ok (t,n+k)
 else .ok ((s.drop n).take (bareRun (s.drop n)),n+bareRun (s.drop n))
abbrev KW:=Bs × Nat × Nat
def keyF (E:Env) (s:Bs):Nat→Nat→List KW→Res (List KW × Nat)
 | 0,_,_ => .non
 | f+1,n,acc =>
  match word E s n with
  | .non => .non
  | .bad c p => .bad c p
  | .ok (t,e) =>
   let a:=blanksAt s e
   if byteAt s a=46 then keyF E s f (blanksAt s (a+1)) (acc++[(t,n,e)])
   else .ok (acc++[(t,n,e)],e)
def keyS (E:Env) (s:Bs) (n:Nat):Res (List KW × Nat):=keyF E s (s.length+2) n []
inductive Sub where
 | non
 | no
 | yes (i:Nat)
def subOf (st:Nds) (t:Nat) (w:Bs):Sub :=
 match st[t]? with
 | none => .non
 | some nd =>
  match nd.keys.findIdx? (fun x=>x==w) with
  | none => .no
  | some j =>
   match nd.subs[j]? with
   | none => .non
   | some i=>if i<st.length then .yes i else .non
def putNd (nd:Nd) (w:Bs) (sp:Nat × Nat) (i:Nat):Nd:={ nd with keys:=nd.keys++[w],spots:=nd.spots++[sp],subs:=nd.subs++[i] }
def putAt (st:Nds) (t:Nat) (w:Bs) (sp:Nat × Nat) (i:Nat):Nds:=st.modify t fun nd=>putNd nd w sp i
def ownerOf (st:Nds) (i:Nat):Nat:=match st[i]? with
 | some nd=>nd.owner
 | none=>0
def leaf (k:Nat) (t:Bs) (a b:Nat):Nd:=⟨k,t,[],[],[],(a,b),0⟩
def listNd (subs:List Nat) (a b:Nat):Nd:=⟨7,[],[],[],subs,(a,b),0⟩
def tabNd:Nd:=⟨8,[],[],[],[],(0,0),0⟩
def dotNd (owner:Nat):Nd:=⟨8,[],[],[],[],(-1,-1),owner⟩
end Go.Proofs.YtfogfaagjpebcaaGreatDoor.Pl
namespace Go.Proofs.YtfogfaagjpebcaaGreatDoor
theorem word_le (E:Pl.Env) (s:Pl.Bs) (n:Nat) (t:Pl.Bs) (e:Nat) (h:Pl.word E s n = .ok (t,e)):n≤e:=by
 unfold Pl.word at h
 split at h
 · exact J36
 split at h
 · split at h
   · cases h
   · cases h
   exact J36
 exact J36
end Go.Proofs.YtfogfaagjpebcaaGreatDoor
