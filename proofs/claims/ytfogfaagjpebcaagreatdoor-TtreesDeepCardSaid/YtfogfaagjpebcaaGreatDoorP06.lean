/-
 The walks and plain laws that the claim rests on, part 6.
-/
import Derived.Test.YtfogfaagjpebcaaGreatDoorP00
import Derived.Test.YtfogfaagjpebcaaGreatDoorP02
import Derived.Test.YtfogfaagjpebcaaGreatDoorP08
import Derived.Shelf.Strings.Builder1
import Derived.Shelf.Strings.Builder2
import Derived.Shelf.Strings.OnBuilder
import Derived.Shelf.Strings.Trim
import Derived.Shelf.Small.Utf8
import Derived.Shelf.Small.Strs
import Derived.Shelf.Strings.BuilderF
import Derived.Shelf.Strings.BuilderK
import Derived.Shelf.Utf8.AppendRune
import Derived.Shelf.Utf8.AppendRunePlain
import Derived.Shelf.Strings.Builder2Cap
import Derived.Shelf.Strconv.Atoi
import Derived.Shelf.Strconv.Itoa0
import Derived.Shelf.Strconv.Itoa1
import Derived.Shelf.LaysM
import Derived.Shelf.Strconv.Itoa2
import Derived.Shelf.Strconv.Itoa3
import Derived.Shelf.Strconv.Itoa4
import Derived.Shelf.Strconv.ParseIntEmpty
import Derived.Shelf.Strconv.Clone
import Derived.Shelf.Strconv.SyntaxError
import Derived.Shelf.LaysC
import Derived.Shelf.Strconv.ToError
import Derived.Shelf.Strconv.Lower
import Derived.Shelf.Strconv.ParseUint10
import Derived.Shelf.Strconv.ParseUint10Empty
import Derived.Shelf.Strconv.ParseUint10Any
import Derived.Shelf.Strconv.ParseInt10
import Derived.Shelf.Strconv.RangeError
import Derived.Shelf.Strconv.ToErrorRange
import Derived.Shelf.Strconv.ParseUintEmpty
import Derived.Shelf.Strconv.ParseUint10b64
import Derived.Shelf.Strconv.ParseUint10b32
import Derived.Shelf.Strconv.ParseUint10b16
import Derived.Shelf.Strconv.ParseUint10b8
import Derived.Shelf.Strconv.ParseUint10At
import Derived.Shelf.Strconv.ParseInt10At64
import Derived.Shelf.Strconv.ParseInt10At32
import Derived.Shelf.Strconv.ParseInt10At16
import Derived.Shelf.Strconv.ParseInt10At8
import Derived.Shelf.Strconv.ParseInt10All
import Derived.Shelf.Strconv.ParseIntPublic10
import Derived.Shelf.Strconv.ErrVarParseInt
import Derived.Shelf.Strings.Search1
import Derived.Shelf.Strings.Search2
import Derived.Shelf.Strings.Search3
import Derived.Shelf.Strings.Count
import Derived.Shelf.Strings.Shaped
import Derived.Shelf.GgClosure.StringsIndexFunc
import Derived.Shelf.GgClosure.StringsTrimFunc
import Derived.Ground.GgwProg
import Derived.Shelf.GgClosure.StringsIndexFuncTop
import Derived.Shelf.GgClosure.StringsRunes
import Derived.Shelf.Strings.Prefix
import Derived.Shelf.Strings.Split
import Derived.Shelf.Strings.Replace
import Derived.Shelf.Strings.SplitShaped
import Derived.Shelf.Unicode.Latin
import Derived.Shelf.Strings.Runes
import Derived.Shelf.Strings.RuneCount
import Derived.Shelf.Strings.IndexAny
import Derived.Shelf.Strings.AsciiSet
import Derived.Shelf.Strings.IndexAnyAll
import Derived.Shelf.Bits.Mul64
import Derived.Shelf.Strings.Repeat
import Derived.Shelf.Unicode.DecodeSlow
import Derived.Shelf.Unicode.DecodeAny
import Derived.Shelf.Unicode.DecodeLast
import Derived.Shelf.Unicode.CaseLookup
import Derived.Shelf.Unicode.CaseConvert
import Derived.Shelf.Unicode.CaseTo
import Derived.Shelf.Unicode.CaseLaid
import Derived.Shelf.Strings.FuncGrows
import Derived.Shelf.Strings.BuilderCap
import Derived.Shelf.Slices.Turned
import Derived.Shelf.Strings.SlTrimAscii
import Derived.Laws.RangeString
import Derived.Lib.SmallJoins
set_option maxHeartbeats 16000000
set_option linter.all false
set_option linter.unusedVariables false
set_option linter.unusedSimpArgs false
namespace Go.Proofs
open Go.Shelf
def Tryz.laysM171_ren:Go.Shelf.Ren:=⟨fun|171=>33|243=>40|246=>54|283=>74|284=>75|285=>76|286=>77|129=>98|317=>97|318=>99|319=>100|320=>101|337=>120|338=>121|n=>n,fun|3=>3|9=>9|2=>2|4=>4|171=>139|0=>0|53=>66|37=>34|5=>5|173=>142|212=>164|51=>63|20=>20|213=>165|46=>36|232=>209|233=>210|n=>n,fun|17=>1|18=>9|19=>10|n=>n⟩
theorem Tryz.laysM171:Go.Proofs.LaysM.n171 Tryz.prog Tryz.laysM171_ren:={
 mixed:=by kernel_rfl
 f129:=Tryz.func98.trans (congrArg some (by kernel_rfl))
 f171:=Tryz.func33.trans (congrArg some (by kernel_rfl))
 f243:=Tryz.func40.trans (congrArg some (by kernel_rfl))
 f246:=Tryz.func54.trans (congrArg some (by kernel_rfl))
 f283:=Tryz.func74.trans (congrArg some (by kernel_rfl))
 f284:=Tryz.func75.trans (congrArg some (by kernel_rfl))
 f285:=Tryz.func76.trans (congrArg some (by kernel_rfl))
 f286:=Tryz.func77.trans (congrArg some (by kernel_rfl))
 f317:=Tryz.func97.trans (congrArg some (by kernel_rfl))
 f318:=Tryz.func99.trans (congrArg some (by kernel_rfl))
 f319:=Tryz.func100.trans (congrArg some (by kernel_rfl))
 f320:=Tryz.func101.trans (congrArg some (by kernel_rfl))
 f337:=Tryz.func120.trans (congrArg some (by kernel_rfl))
 f338:=Tryz.func121.trans (congrArg some (by kernel_rfl))
 t0:=Tryz.underlying0
 a0:=Tryz.isAgg0
 z0:=Tryz.sizeOf0
 v0:=Tryz.zeroValue0
 t2:=Tryz.underlying2
 a2:=Tryz.isAgg2
 z2:=Tryz.sizeOf2
 v2:=Tryz.zeroValue2
 t3:=Tryz.underlying3
 a3:=Tryz.isAgg3
 z3:=Tryz.sizeOf3
 v3:=Tryz.zeroValue3
 t4:=Tryz.underlying4
 a4:=Tryz.isAgg4
 z4:=Tryz.sizeOf4
 v4:=Tryz.zeroValue4
 t5:=Tryz.underlying5
 a5:=Tryz.isAgg5
 z5:=Tryz.sizeOf5
 v5:=Tryz.zeroValue5
 t9:=Tryz.underlying9
 a9:=Tryz.isAgg9
 z9:=Tryz.sizeOf9
 v9:=Tryz.zeroValue9
 t20:=Tryz.underlying20
 a20:=Tryz.isAgg20
 z20:=Tryz.sizeOf20
 v20:=Tryz.zeroValue20
 t37:=Tryz.underlying34
 a37:=Tryz.isAgg34
 z37:=Tryz.sizeOf34
 v37:=Tryz.zeroValue34
 t46:=Tryz.underlying36
 a46:=Tryz.isAgg36
 z46:=Tryz.sizeOf36
 v46:=Tryz.zeroValue36
 t51:=Tryz.underlying63
 a51:=Tryz.isAgg63
 z51:=Tryz.sizeOf63
 v51:=Tryz.zeroValue63
 t53:=Tryz.underlying66
 a53:=Tryz.isAgg66
 z53:=Tryz.sizeOf66
 v53:=Tryz.zeroValue66
 t171:=Tryz.underlying139
 a171:=Tryz.isAgg139
 z171:=Tryz.sizeOf139
 v171:=Tryz.zeroValue139
 t173:=Tryz.underlying142
 a173:=Tryz.isAgg142
 z173:=Tryz.sizeOf142
 v173:=Tryz.zeroValue142
 t212:=Tryz.underlying164
 a212:=Tryz.isAgg164
 z212:=Tryz.sizeOf164
 v212:=Tryz.zeroValue164
 t213:=Tryz.underlying165
 a213:=Tryz.isAgg165
 z213:=Tryz.sizeOf165
 t232:=Tryz.underlying209
 a232:=Tryz.isAgg209
 z232:=Tryz.sizeOf209
 v232:=Tryz.zeroValue209
 t233:=Tryz.underlying210
 a233:=Tryz.isAgg210
 z233:=Tryz.sizeOf210
 v233:=Tryz.zeroValue210
 g17:=by kernel_rfl
 g18:=by kernel_rfl
 g19:=by kernel_rfl
 i0:=by kernel_rfl
 i2:=by kernel_rfl
 i3:=by kernel_rfl
 i4:=by kernel_rfl
 i5:=by kernel_rfl
 i9:=by kernel_rfl
 i20:=by kernel_rfl
 i37:=by kernel_rfl
 i46:=by kernel_rfl
 i51:=by kernel_rfl
 i53:=by kernel_rfl
 i171:=by kernel_rfl
 i173:=by kernel_rfl
 i212:=by kernel_rfl
 i232:=by kernel_rfl
 i233:=by kernel_rfl
 m17:=by kernel_rfl
 m18:=by kernel_rfl
 m19:=by kernel_rfl }
open Go.RowKit Go.Sort Go.Lib in
theorem Tryz.strconv_Itoa (n:Int) (h0 : -9223372036854775808≤n) (h1:n≤9223372036854775807) (w:World) (htab:Lib.TabIs Tryz.prog w "internal/strconv.uint64pow10" .u64 Lib.pow10Tab) :
    Calls Tryz.prog 33 #[.int .i64 n] w fun e w'=>e = .returned (.string ⟨(Lib.itoa n).toArray⟩)∧∃k os,w'=grow (w.drewN k) os:=Any.strconv_Itoa Tryz.laysM171 n h0 h1 w htab
def Tryz.laysM173_ren:Go.Shelf.Ren:=⟨fun|173=>146|246=>54|283=>74|284=>75|285=>76|286=>77|129=>98|317=>97|318=>99|319=>100|320=>101|337=>120|338=>121|n=>n,fun|2=>2|3=>3|9=>9|4=>4|171=>139|0=>0|53=>66|37=>34|5=>5|173=>142|212=>164|51=>63|20=>20|213=>165|46=>36|232=>209|233=>210|n=>n,fun|17=>1|18=>9|19=>10|n=>n⟩
theorem Tryz.laysM173:Go.Proofs.LaysM.n173 Tryz.prog Tryz.laysM173_ren:={
 mixed:=by kernel_rfl
 f129:=Tryz.func98.trans (congrArg some (by kernel_rfl))
 f173:=Tryz.func146.trans (congrArg some (by kernel_rfl))
 f246:=Tryz.func54.trans (congrArg some (by kernel_rfl))
 f283:=Tryz.func74.trans (congrArg some (by kernel_rfl))
 f284:=Tryz.func75.trans (congrArg some (by kernel_rfl))
 f285:=Tryz.func76.trans (congrArg some (by kernel_rfl))
 f286:=Tryz.func77.trans (congrArg some (by kernel_rfl))
 f317:=Tryz.func97.trans (congrArg some (by kernel_rfl))
 f318:=Tryz.func99.trans (congrArg some (by kernel_rfl))
 f319:=Tryz.func100.trans (congrArg some (by kernel_rfl))
 f320:=Tryz.func101.trans (congrArg some (by kernel_rfl))
 f337:=Tryz.func120.trans (congrArg some (by kernel_rfl))
 f338:=Tryz.func121.trans (congrArg some (by kernel_rfl))
 t0:=Tryz.underlying0
 a0:=Tryz.isAgg0
 z0:=Tryz.sizeOf0
 v0:=Tryz.zeroValue0
 t2:=Tryz.underlying2
 a2:=Tryz.isAgg2
 z2:=Tryz.sizeOf2
 v2:=Tryz.zeroValue2
 t3:=Tryz.underlying3
 a3:=Tryz.isAgg3
 z3:=Tryz.sizeOf3
 v3:=Tryz.zeroValue3
 t4:=Tryz.underlying4
 a4:=Tryz.isAgg4
 z4:=Tryz.sizeOf4
 v4:=Tryz.zeroValue4
 t5:=Tryz.underlying5
 a5:=Tryz.isAgg5
 z5:=Tryz.sizeOf5
 v5:=Tryz.zeroValue5
 t9:=Tryz.underlying9
 a9:=Tryz.isAgg9
 z9:=Tryz.sizeOf9
 v9:=Tryz.zeroValue9
 t20:=Tryz.underlying20
 a20:=Tryz.isAgg20
 z20:=Tryz.sizeOf20
 v20:=Tryz.zeroValue20
 t37:=Tryz.underlying34
 a37:=Tryz.isAgg34
 z37:=Tryz.sizeOf34
 v37:=Tryz.zeroValue34
 t46:=Tryz.underlying36
 a46:=Tryz.isAgg36
 z46:=Tryz.sizeOf36
 v46:=Tryz.zeroValue36
 t51:=Tryz.underlying63
 a51:=Tryz.isAgg63
 z51:=Tryz.sizeOf63
 v51:=Tryz.zeroValue63
 t53:=Tryz.underlying66
 a53:=Tryz.isAgg66
 z53:=Tryz.sizeOf66
 v53:=Tryz.zeroValue66
 t171:=Tryz.underlying139
 a171:=Tryz.isAgg139
 z171:=Tryz.sizeOf139
 v171:=Tryz.zeroValue139
 t173:=Tryz.underlying142
 a173:=Tryz.isAgg142
 z173:=Tryz.sizeOf142
 v173:=Tryz.zeroValue142
 t212:=Tryz.underlying164
 a212:=Tryz.isAgg164
 z212:=Tryz.sizeOf164
 v212:=Tryz.zeroValue164
 t213:=Tryz.underlying165
 a213:=Tryz.isAgg165
 z213:=Tryz.sizeOf165
 t232:=Tryz.underlying209
 a232:=Tryz.isAgg209
 z232:=Tryz.sizeOf209
 v232:=Tryz.zeroValue209
 t233:=Tryz.underlying210
 a233:=Tryz.isAgg210
 z233:=Tryz.sizeOf210
 v233:=Tryz.zeroValue210
 g17:=by kernel_rfl
 g18:=by kernel_rfl
 g19:=by kernel_rfl
 i0:=by kernel_rfl
 i2:=by kernel_rfl
 i3:=by kernel_rfl
 i4:=by kernel_rfl
 i5:=by kernel_rfl
 i9:=by kernel_rfl
 i20:=by kernel_rfl
 i37:=by kernel_rfl
 i46:=by kernel_rfl
 i51:=by kernel_rfl
 i53:=by kernel_rfl
 i171:=by kernel_rfl
 i173:=by kernel_rfl
 i212:=by kernel_rfl
 i232:=by kernel_rfl
 i233:=by kernel_rfl
 m17:=by kernel_rfl
 m18:=by kernel_rfl
 m19:=by kernel_rfl }
open Go.RowKit Go.Sort Go.Lib in
theorem Tryz.strconv_FormatInt_10 (n:Int) (h0 : -9223372036854775808≤n) (h1:n≤9223372036854775807) (w:World) (htab:Lib.TabIs Tryz.prog w "internal/strconv.uint64pow10" .u64 Lib.pow10Tab) :
    Calls Tryz.prog 146 #[.int .i64 n,.int .i64 10] w fun e w'=>e = .returned (.string ⟨(Lib.itoa n).toArray⟩)∧∃k os,w'=grow (w.drewN k) os:=Any.strconv_FormatInt_10 Tryz.laysM173 n h0 h1 w htab
def Tryz.laysC245_ren:Go.Shelf.Ren:=⟨fun|245=>163|279=>182|280=>183|281=>184|282=>185|316=>198|171=>33|205=>199|243=>40|246=>54|283=>74|284=>75|285=>76|286=>77|129=>98|317=>97|318=>99|319=>100|320=>101|337=>120|338=>121|n=>n,fun|9=>9|3=>3|75=>45|167=>251|4=>4|168=>254|210=>275|37=>34|0=>0|127=>69|145=>282|143=>280|2=>2|171=>139|53=>66|5=>5|173=>142|212=>164|51=>63|20=>20|213=>165|46=>36|232=>209|233=>210|80=>49|n=>n,fun|15=>13|16=>11|17=>1|18=>9|19=>10|n=>n⟩
theorem Tryz.laysC245:Go.Proofs.LaysC.n245 Tryz.prog Tryz.laysC245_ren:={
 mixed:=by kernel_rfl
 f129:=Tryz.func98.trans (congrArg some (by kernel_rfl))
 f171:=Tryz.func33.trans (congrArg some (by kernel_rfl))
 f205:=Tryz.func199.trans (congrArg some (by kernel_rfl))
 f243:=Tryz.func40.trans (congrArg some (by kernel_rfl))
 f245:=Tryz.func163.trans (congrArg some (by kernel_rfl))
 f246:=Tryz.func54.trans (congrArg some (by kernel_rfl))
 f279:=Tryz.func182.trans (congrArg some (by kernel_rfl))
 f280:=Tryz.func183.trans (congrArg some (by kernel_rfl))
 f281:=Tryz.func184.trans (congrArg some (by kernel_rfl))
 f282:=Tryz.func185.trans (congrArg some (by kernel_rfl))
 f283:=Tryz.func74.trans (congrArg some (by kernel_rfl))
 f284:=Tryz.func75.trans (congrArg some (by kernel_rfl))
 f285:=Tryz.func76.trans (congrArg some (by kernel_rfl))
 f286:=Tryz.func77.trans (congrArg some (by kernel_rfl))
 f316:=Tryz.func198.trans (congrArg some (by kernel_rfl))
 f317:=Tryz.func97.trans (congrArg some (by kernel_rfl))
 f318:=Tryz.func99.trans (congrArg some (by kernel_rfl))
 f319:=Tryz.func100.trans (congrArg some (by kernel_rfl))
 f320:=Tryz.func101.trans (congrArg some (by kernel_rfl))
 f337:=Tryz.func120.trans (congrArg some (by kernel_rfl))
 f338:=Tryz.func121.trans (congrArg some (by kernel_rfl))
 t0:=Tryz.underlying0
 a0:=Tryz.isAgg0
 z0:=Tryz.sizeOf0
 v0:=Tryz.zeroValue0
 t2:=Tryz.underlying2
 a2:=Tryz.isAgg2
 z2:=Tryz.sizeOf2
 v2:=Tryz.zeroValue2
 t3:=Tryz.underlying3
 a3:=Tryz.isAgg3
 z3:=Tryz.sizeOf3
 v3:=Tryz.zeroValue3
 t4:=Tryz.underlying4
 a4:=Tryz.isAgg4
 z4:=Tryz.sizeOf4
 v4:=Tryz.zeroValue4
 t5:=Tryz.underlying5
 a5:=Tryz.isAgg5
 z5:=Tryz.sizeOf5
 v5:=Tryz.zeroValue5
 t9:=Tryz.underlying9
 a9:=Tryz.isAgg9
 z9:=Tryz.sizeOf9
 v9:=Tryz.zeroValue9
 t20:=Tryz.underlying20
 a20:=Tryz.isAgg20
 z20:=Tryz.sizeOf20
 v20:=Tryz.zeroValue20
 t37:=Tryz.underlying34
 a37:=Tryz.isAgg34
 z37:=Tryz.sizeOf34
 v37:=Tryz.zeroValue34
 t46:=Tryz.underlying36
 a46:=Tryz.isAgg36
 z46:=Tryz.sizeOf36
 v46:=Tryz.zeroValue36
 t51:=Tryz.underlying63
 a51:=Tryz.isAgg63
 z51:=Tryz.sizeOf63
 v51:=Tryz.zeroValue63
 t53:=Tryz.underlying66
 a53:=Tryz.isAgg66
 z53:=Tryz.sizeOf66
 v53:=Tryz.zeroValue66
 t75:=Tryz.underlying45
 a75:=Tryz.isAgg45
 z75:=Tryz.sizeOf45
 v75:=Tryz.zeroValue45
 t127:=Tryz.underlying69
 a127:=Tryz.isAgg69
 z127:=Tryz.sizeOf69
 v127:=Tryz.zeroValue69
 t143:=Tryz.underlying280
 a143:=Tryz.isAgg280
 z143:=Tryz.sizeOf280
 v143:=Tryz.zeroValue280
 t145:=Tryz.underlying282
 a145:=Tryz.isAgg282
 z145:=Tryz.sizeOf282
 v145:=Tryz.zeroValue282
 t167:=Tryz.underlying251
 a167:=Tryz.isAgg251
 z167:=Tryz.sizeOf251
 v167:=Tryz.zeroValue251
 t168:=Tryz.underlying254
 a168:=Tryz.isAgg254
 z168:=Tryz.sizeOf254
 v168:=Tryz.zeroValue254
 t171:=Tryz.underlying139
 a171:=Tryz.isAgg139
 z171:=Tryz.sizeOf139
 v171:=Tryz.zeroValue139
 t173:=Tryz.underlying142
 a173:=Tryz.isAgg142
 z173:=Tryz.sizeOf142
 v173:=Tryz.zeroValue142
 t210:=Tryz.underlying275
 a210:=Tryz.isAgg275
 z210:=Tryz.sizeOf275
 v210:=Tryz.zeroValue275
 t212:=Tryz.underlying164
 a212:=Tryz.isAgg164
 z212:=Tryz.sizeOf164
 v212:=Tryz.zeroValue164
 t213:=Tryz.underlying165
 a213:=Tryz.isAgg165
 z213:=Tryz.sizeOf165
 t232:=Tryz.underlying209
 a232:=Tryz.isAgg209
 z232:=Tryz.sizeOf209
 v232:=Tryz.zeroValue209
 t233:=Tryz.underlying210
 a233:=Tryz.isAgg210
 z233:=Tryz.sizeOf210
 v233:=Tryz.zeroValue210
 g15:=by kernel_rfl
 g16:=by kernel_rfl
 g17:=by kernel_rfl
 g18:=by kernel_rfl
 g19:=by kernel_rfl
 t80:=Tryz.underlying49
 a80:=Tryz.isAgg49
 z80:=Tryz.sizeOf49
 v80:=Tryz.zeroValue49
 i0:=by kernel_rfl
 i2:=by kernel_rfl
 i3:=by kernel_rfl
 i4:=by kernel_rfl
 i5:=by kernel_rfl
 i9:=by kernel_rfl
 i20:=by kernel_rfl
 i37:=by kernel_rfl
 i46:=by kernel_rfl
 i51:=by kernel_rfl
 i53:=by kernel_rfl
 i75:=by kernel_rfl
 i80:=by kernel_rfl
 i127:=by kernel_rfl
 i143:=by kernel_rfl
 i145:=by kernel_rfl
 i167:=by kernel_rfl
 i168:=by kernel_rfl
 i171:=by kernel_rfl
 i173:=by kernel_rfl
 i210:=by kernel_rfl
 i212:=by kernel_rfl
 i232:=by kernel_rfl
 i233:=by kernel_rfl
 m15:=by kernel_rfl
 m16:=by kernel_rfl
 m17:=by kernel_rfl
 m18:=by kernel_rfl
 m19:=by kernel_rfl
 c0:=by kernel_rfl
 c2:=by kernel_rfl
 c3:=by kernel_rfl
 c4:=by kernel_rfl
 c5:=by kernel_rfl
 c9:=by kernel_rfl
 c20:=by kernel_rfl
 c37:=by kernel_rfl
 c46:=by kernel_rfl
 c51:=by kernel_rfl
 c53:=by kernel_rfl
 c75:=by kernel_rfl
 c80:=by kernel_rfl
 c127:=by kernel_rfl
 c143:=by kernel_rfl
 c145:=by kernel_rfl
 c167:=by kernel_rfl
 c168:=by kernel_rfl
 c171:=by kernel_rfl
 c173:=by kernel_rfl
 c210:=by kernel_rfl
 c212:=by kernel_rfl
 c213:=by kernel_rfl
 c232:=by kernel_rfl
 c233:=by kernel_rfl }
open Go.RowKit in
theorem Tryz.strconv_toError_syntax (fn s:ByteArray) (base bits:Int) (ev:Value) (w:World) (hlim:s.size≤281474976710656) (hv:w.cell? ⟨13,0,none⟩=some ev) (hev:ev = .nilIface∨∃te pe,ev = .iface te pe) :
    Calls Tryz.prog 163 #[.string fn,.string s,.int .i64 base,.int .i64 bits,.iface 251 (.int .i64 2)] w fun e w'=>∃N,e = .returned (.iface 254 (.pointer (some ⟨N,0,none⟩)))∧w.heap.size≤N∧w'.heap[N]?=some (.cells #[.string fn,.string s,ev] 275 (0,0))∧Below w.heap.size w w':=Any.strconv_toError_syntax Tryz.laysC245 fn s base bits ev w hlim hv hev
open Go.RowKit in
theorem Tryz.strconv_toError_range (fn s:ByteArray) (base bits:Int) (ev:Value) (w:World) (hlim:s.size≤281474976710656) (hv:w.cell? ⟨11,0,none⟩=some ev) (hev:ev = .nilIface∨∃te pe,ev = .iface te pe) :
    Calls Tryz.prog 163 #[.string fn,.string s,.int .i64 base,.int .i64 bits,.iface 251 (.int .i64 1)] w fun e w'=>∃N,e = .returned (.iface 254 (.pointer (some ⟨N,0,none⟩)))∧w.heap.size≤N∧w'.heap[N]?=some (.cells #[.string fn,.string s,ev] 275 (0,0))∧Below w.heap.size w w':=Any.strconv_toError_range Tryz.laysC245 fn s base bits ev w hlim hv hev
def Tryz.laysC174_ren:Go.Shelf.Ren:=⟨fun|174=>143|247=>162|245=>163|287=>181|279=>182|280=>183|281=>184|282=>185|321=>196|322=>197|316=>198|171=>33|205=>199|243=>40|246=>54|283=>74|284=>75|285=>76|286=>77|129=>98|317=>97|318=>99|319=>100|320=>101|337=>120|338=>121|n=>n,fun|9=>9|3=>3|2=>2|75=>45|85=>219|4=>4|167=>251|5=>5|53=>66|175=>252|46=>36|168=>254|37=>34|0=>0|210=>275|21=>21|127=>69|145=>282|143=>280|171=>139|173=>142|212=>164|51=>63|20=>20|213=>165|232=>209|233=>210|80=>49|n=>n,fun|15=>13|16=>11|17=>1|18=>9|19=>10|n=>n⟩
theorem Tryz.laysC174:Go.Proofs.LaysC.n174 Tryz.prog Tryz.laysC174_ren:={
 mixed:=by kernel_rfl
 f129:=Tryz.func98.trans (congrArg some (by kernel_rfl))
 f171:=Tryz.func33.trans (congrArg some (by kernel_rfl))
 f174:=Tryz.func143.trans (congrArg some (by kernel_rfl))
 f205:=Tryz.func199.trans (congrArg some (by kernel_rfl))
 f243:=Tryz.func40.trans (congrArg some (by kernel_rfl))
 f245:=Tryz.func163.trans (congrArg some (by kernel_rfl))
 f246:=Tryz.func54.trans (congrArg some (by kernel_rfl))
 f247:=Tryz.func162.trans (congrArg some (by kernel_rfl))
 f279:=Tryz.func182.trans (congrArg some (by kernel_rfl))
 f280:=Tryz.func183.trans (congrArg some (by kernel_rfl))
 f281:=Tryz.func184.trans (congrArg some (by kernel_rfl))
 f282:=Tryz.func185.trans (congrArg some (by kernel_rfl))
 f283:=Tryz.func74.trans (congrArg some (by kernel_rfl))
 f284:=Tryz.func75.trans (congrArg some (by kernel_rfl))
 f285:=Tryz.func76.trans (congrArg some (by kernel_rfl))
 f286:=Tryz.func77.trans (congrArg some (by kernel_rfl))
 f287:=Tryz.func181.trans (congrArg some (by kernel_rfl))
 f316:=Tryz.func198.trans (congrArg some (by kernel_rfl))
 f317:=Tryz.func97.trans (congrArg some (by kernel_rfl))
 f318:=Tryz.func99.trans (congrArg some (by kernel_rfl))
 f319:=Tryz.func100.trans (congrArg some (by kernel_rfl))
 f320:=Tryz.func101.trans (congrArg some (by kernel_rfl))
 f321:=Tryz.func196.trans (congrArg some (by kernel_rfl))
 f322:=Tryz.func197.trans (congrArg some (by kernel_rfl))
 f337:=Tryz.func120.trans (congrArg some (by kernel_rfl))
 f338:=Tryz.func121.trans (congrArg some (by kernel_rfl))
 t0:=Tryz.underlying0
 a0:=Tryz.isAgg0
 z0:=Tryz.sizeOf0
 v0:=Tryz.zeroValue0
 t2:=Tryz.underlying2
 a2:=Tryz.isAgg2
 z2:=Tryz.sizeOf2
 v2:=Tryz.zeroValue2
 t3:=Tryz.underlying3
 a3:=Tryz.isAgg3
 z3:=Tryz.sizeOf3
 v3:=Tryz.zeroValue3
 t4:=Tryz.underlying4
 a4:=Tryz.isAgg4
 z4:=Tryz.sizeOf4
 v4:=Tryz.zeroValue4
 t5:=Tryz.underlying5
 a5:=Tryz.isAgg5
 z5:=Tryz.sizeOf5
 v5:=Tryz.zeroValue5
 t9:=Tryz.underlying9
 a9:=Tryz.isAgg9
 z9:=Tryz.sizeOf9
 v9:=Tryz.zeroValue9
 t20:=Tryz.underlying20
 a20:=Tryz.isAgg20
 z20:=Tryz.sizeOf20
 v20:=Tryz.zeroValue20
 t21:=Tryz.underlying21
 a21:=Tryz.isAgg21
 z21:=Tryz.sizeOf21
 v21:=Tryz.zeroValue21
 t37:=Tryz.underlying34
 a37:=Tryz.isAgg34
 z37:=Tryz.sizeOf34
 v37:=Tryz.zeroValue34
 t46:=Tryz.underlying36
 a46:=Tryz.isAgg36
 z46:=Tryz.sizeOf36
 v46:=Tryz.zeroValue36
 t51:=Tryz.underlying63
 a51:=Tryz.isAgg63
 z51:=Tryz.sizeOf63
 v51:=Tryz.zeroValue63
 t53:=Tryz.underlying66
 a53:=Tryz.isAgg66
 z53:=Tryz.sizeOf66
 v53:=Tryz.zeroValue66
 t75:=Tryz.underlying45
 a75:=Tryz.isAgg45
 z75:=Tryz.sizeOf45
 v75:=Tryz.zeroValue45
 t85:=Tryz.underlying219
 a85:=Tryz.isAgg219
 z85:=Tryz.sizeOf219
 v85:=Tryz.zeroValue219
 t127:=Tryz.underlying69
 a127:=Tryz.isAgg69
 z127:=Tryz.sizeOf69
 v127:=Tryz.zeroValue69
 t143:=Tryz.underlying280
 a143:=Tryz.isAgg280
 z143:=Tryz.sizeOf280
 v143:=Tryz.zeroValue280
 t145:=Tryz.underlying282
 a145:=Tryz.isAgg282
 z145:=Tryz.sizeOf282
 v145:=Tryz.zeroValue282
 t167:=Tryz.underlying251
 a167:=Tryz.isAgg251
 z167:=Tryz.sizeOf251
 v167:=Tryz.zeroValue251
 t168:=Tryz.underlying254
 a168:=Tryz.isAgg254
 z168:=Tryz.sizeOf254
 v168:=Tryz.zeroValue254
 t171:=Tryz.underlying139
 a171:=Tryz.isAgg139
 z171:=Tryz.sizeOf139
 v171:=Tryz.zeroValue139
 t173:=Tryz.underlying142
 a173:=Tryz.isAgg142
 z173:=Tryz.sizeOf142
 v173:=Tryz.zeroValue142
 t175:=Tryz.underlying252
 a175:=Tryz.isAgg252
 z175:=Tryz.sizeOf252
 v175:=Tryz.zeroValue252
 t210:=Tryz.underlying275
 a210:=Tryz.isAgg275
 z210:=Tryz.sizeOf275
 v210:=Tryz.zeroValue275
 t212:=Tryz.underlying164
 a212:=Tryz.isAgg164
 z212:=Tryz.sizeOf164
 v212:=Tryz.zeroValue164
 t213:=Tryz.underlying165
 a213:=Tryz.isAgg165
 z213:=Tryz.sizeOf165
 t232:=Tryz.underlying209
 a232:=Tryz.isAgg209
 z232:=Tryz.sizeOf209
 v232:=Tryz.zeroValue209
 t233:=Tryz.underlying210
 a233:=Tryz.isAgg210
 z233:=Tryz.sizeOf210
 v233:=Tryz.zeroValue210
 g15:=by kernel_rfl
 g16:=by kernel_rfl
 g17:=by kernel_rfl
 g18:=by kernel_rfl
 g19:=by kernel_rfl
 t80:=Tryz.underlying49
 a80:=Tryz.isAgg49
 z80:=Tryz.sizeOf49
 v80:=Tryz.zeroValue49
 i0:=by kernel_rfl
 i2:=by kernel_rfl
 i3:=by kernel_rfl
 i4:=by kernel_rfl
 i5:=by kernel_rfl
 i9:=by kernel_rfl
 i20:=by kernel_rfl
 i21:=by kernel_rfl
 i37:=by kernel_rfl
 i46:=by kernel_rfl
 i51:=by kernel_rfl
 i53:=by kernel_rfl
 i75:=by kernel_rfl
 i80:=by kernel_rfl
 i85:=by kernel_rfl
 i127:=by kernel_rfl
 i143:=by kernel_rfl
 i145:=by kernel_rfl
 i167:=by kernel_rfl
 i168:=by kernel_rfl
 i171:=by kernel_rfl
 i173:=by kernel_rfl
 i175:=by kernel_rfl
 i210:=by kernel_rfl
 i212:=by kernel_rfl
 i232:=by kernel_rfl
 i233:=by kernel_rfl
 m15:=by kernel_rfl
 m16:=by kernel_rfl
 m17:=by kernel_rfl
 m18:=by kernel_rfl
 m19:=by kernel_rfl
 c0:=by kernel_rfl
 c2:=by kernel_rfl
 c3:=by kernel_rfl
 c4:=by kernel_rfl
 c5:=by kernel_rfl
 c9:=by kernel_rfl
 c20:=by kernel_rfl
 c21:=by kernel_rfl
 c37:=by kernel_rfl
 c46:=by kernel_rfl
 c51:=by kernel_rfl
 c53:=by kernel_rfl
 c75:=by kernel_rfl
 c80:=by kernel_rfl
 c85:=by kernel_rfl
 c127:=by kernel_rfl
 c143:=by kernel_rfl
 c145:=by kernel_rfl
 c167:=by kernel_rfl
 c168:=by kernel_rfl
 c171:=by kernel_rfl
 c173:=by kernel_rfl
 c175:=by kernel_rfl
 c210:=by kernel_rfl
 c212:=by kernel_rfl
 c213:=by kernel_rfl
 c232:=by kernel_rfl
 c233:=by kernel_rfl }
open Go.RowKit in
theorem Tryz.strconv_ParseInt_10_at64_ok (s:ByteArray) (hmax:s.size≤9223372036854775806) (v:Int) (h:Lib.parseIntB 64 s.data.toList = .ok v) (w:World) :
    Calls Tryz.prog 143 #[.string s,.int .i64 10,.int .i64 64] w fun e w'=>e = .returned (.tuple #[.int .i64 v,.nilIface])∧(w'=w∨∃t,w'=Lib.bytesWorld w 5 t):=Any.strconv_ParseInt_10_at64_ok Tryz.laysC174 s hmax v h w
open Go.RowKit in
theorem Tryz.strconv_ParseInt_10_at64_range (s:ByteArray) (hlim:s.size≤281474976710656) (h:Lib.parseIntB 64 s.data.toList = .range) (ev:Value) (w:World) (hv:w.cell? ⟨11,0,none⟩=some ev) (hev:ev = .nilIface∨∃te pe,ev = .iface te pe) :
    Calls Tryz.prog 143 #[.string s,.int .i64 10,.int .i64 64] w fun e w'=>∃N,e = .returned (.tuple #[.int .i64 (Lib.intSat 64 s.data.toList),.iface 254 (.pointer (some ⟨N,0,none⟩))])∧w.heap.size≤N∧w'.heap[N]?=some (.cells #[.string ⟨#[80,97,114,115,101,73,110,116]⟩,.string s,ev] 275 (0,0))∧Below w.heap.size w w':=Any.strconv_ParseInt_10_at64_range Tryz.laysC174 s hlim h ev w hv hev
def Tryz.lays143_ren:Go.Shelf.Ren:=⟨fun|143=>187|219=>202|217=>57|225=>133|224=>132|267=>207|266=>84|314=>210|n=>n,fun|9=>9|3=>3|4=>4|5=>5|46=>36|146=>64|51=>63|n=>n,fun|1=>0|n=>n⟩
theorem Tryz.lays143:Go.Proofs.Lays.n143 Tryz.prog Tryz.lays143_ren:={
 mixed:=by kernel_rfl
 f143:=Tryz.func187.trans (congrArg some (by kernel_rfl))
 f217:=Tryz.func57.trans (congrArg some (by kernel_rfl))
 f219:=Tryz.func202.trans (congrArg some (by kernel_rfl))
 f224:=Tryz.func132.trans (congrArg some (by kernel_rfl))
 f225:=Tryz.func133.trans (congrArg some (by kernel_rfl))
 f266:=Tryz.func84.trans (congrArg some (by kernel_rfl))
 f267:=Tryz.func207.trans (congrArg some (by kernel_rfl))
 f314:=Tryz.func210.trans (congrArg some (by kernel_rfl))
 t3:=Tryz.underlying3
 a3:=Tryz.isAgg3
 z3:=Tryz.sizeOf3
 v3:=Tryz.zeroValue3
 t4:=Tryz.underlying4
 a4:=Tryz.isAgg4
 z4:=Tryz.sizeOf4
 v4:=Tryz.zeroValue4
 t5:=Tryz.underlying5
 a5:=Tryz.isAgg5
 z5:=Tryz.sizeOf5
 v5:=Tryz.zeroValue5
 t9:=Tryz.underlying9
 a9:=Tryz.isAgg9
 z9:=Tryz.sizeOf9
 v9:=Tryz.zeroValue9
 t46:=Tryz.underlying36
 a46:=Tryz.isAgg36
 z46:=Tryz.sizeOf36
 v46:=Tryz.zeroValue36
 t51:=Tryz.underlying63
 a51:=Tryz.isAgg63
 z51:=Tryz.sizeOf63
 v51:=Tryz.zeroValue63
 t146:=Tryz.underlying64
 a146:=Tryz.isAgg64
 z146:=Tryz.sizeOf64
 v146:=Tryz.zeroValue64
 g1:=by kernel_rfl }
open Go.RowKit Go.Lib in
theorem Tryz.strings_Index_one (s:ByteArray) (c:UInt8) (w:World) :
    Calls Tryz.prog 187 #[.string s,.string ⟨#[c]⟩] w fun e w'=>e = .returned (.int .i64 (Lib.indexByte s.data.toList c))∧w'=w:=Any.strings_Index_one Tryz.lays143 s c w
end Go.Proofs
namespace Go.Proofs
open Go.Shelf
def Tryz.lays155_ren:Go.Shelf.Ren:=⟨fun|155=>144|154=>164|138=>186|165=>10|143=>187|166=>11|197=>78|169=>13|195=>200|218=>201|240=>21|241=>22|219=>202|260=>102|276=>31|277=>32|217=>57|225=>133|224=>132|267=>207|266=>84|314=>210|n=>n,fun|9=>9|3=>3|4=>4|72=>42|0=>0|76=>46|105=>144|21=>21|5=>5|70=>40|20=>20|37=>34|75=>45|127=>69|164=>95|46=>36|119=>188|139=>191|138=>190|146=>64|51=>63|80=>49|n=>n,fun|1=>0|3=>2|4=>3|n=>n⟩
theorem Tryz.lays155:Go.Proofs.Lays.n155 Tryz.prog Tryz.lays155_ren:={
 mixed:=by kernel_rfl
 f138:=Tryz.func186.trans (congrArg some (by kernel_rfl))
 f143:=Tryz.func187.trans (congrArg some (by kernel_rfl))
 f154:=Tryz.func164.trans (congrArg some (by kernel_rfl))
 f155:=Tryz.func144.trans (congrArg some (by kernel_rfl))
 f165:=Tryz.func10.trans (congrArg some (by kernel_rfl))
 f166:=Tryz.func11.trans (congrArg some (by kernel_rfl))
 f169:=Tryz.func13.trans (congrArg some (by kernel_rfl))
 f195:=Tryz.func200.trans (congrArg some (by kernel_rfl))
 f197:=Tryz.func78.trans (congrArg some (by kernel_rfl))
 f217:=Tryz.func57.trans (congrArg some (by kernel_rfl))
 f218:=Tryz.func201.trans (congrArg some (by kernel_rfl))
 f219:=Tryz.func202.trans (congrArg some (by kernel_rfl))
 f224:=Tryz.func132.trans (congrArg some (by kernel_rfl))
 f225:=Tryz.func133.trans (congrArg some (by kernel_rfl))
 f240:=Tryz.func21.trans (congrArg some (by kernel_rfl))
 f241:=Tryz.func22.trans (congrArg some (by kernel_rfl))
 f260:=Tryz.func102.trans (congrArg some (by kernel_rfl))
 f266:=Tryz.func84.trans (congrArg some (by kernel_rfl))
 f267:=Tryz.func207.trans (congrArg some (by kernel_rfl))
 f276:=Tryz.func31.trans (congrArg some (by kernel_rfl))
 f277:=Tryz.func32.trans (congrArg some (by kernel_rfl))
 f314:=Tryz.func210.trans (congrArg some (by kernel_rfl))
 t0:=Tryz.underlying0
 a0:=Tryz.isAgg0
 z0:=Tryz.sizeOf0
 v0:=Tryz.zeroValue0
 t3:=Tryz.underlying3
 a3:=Tryz.isAgg3
 z3:=Tryz.sizeOf3
 v3:=Tryz.zeroValue3
 t4:=Tryz.underlying4
 a4:=Tryz.isAgg4
 z4:=Tryz.sizeOf4
 v4:=Tryz.zeroValue4
 t5:=Tryz.underlying5
 a5:=Tryz.isAgg5
 z5:=Tryz.sizeOf5
 v5:=Tryz.zeroValue5
 t9:=Tryz.underlying9
 a9:=Tryz.isAgg9
 z9:=Tryz.sizeOf9
 v9:=Tryz.zeroValue9
 t20:=Tryz.underlying20
 a20:=Tryz.isAgg20
 z20:=Tryz.sizeOf20
 v20:=Tryz.zeroValue20
 t21:=Tryz.underlying21
 a21:=Tryz.isAgg21
 z21:=Tryz.sizeOf21
 v21:=Tryz.zeroValue21
 t37:=Tryz.underlying34
 a37:=Tryz.isAgg34
 z37:=Tryz.sizeOf34
 v37:=Tryz.zeroValue34
 t46:=Tryz.underlying36
 a46:=Tryz.isAgg36
 z46:=Tryz.sizeOf36
 v46:=Tryz.zeroValue36
 t51:=Tryz.underlying63
 a51:=Tryz.isAgg63
 z51:=Tryz.sizeOf63
 v51:=Tryz.zeroValue63
 t70:=Tryz.underlying40
 a70:=Tryz.isAgg40
 z70:=Tryz.sizeOf40
 v70:=Tryz.zeroValue40
 t72:=Tryz.underlying42
 a72:=Tryz.isAgg42
 z72:=Tryz.sizeOf42
 v72:=Tryz.zeroValue42
 t75:=Tryz.underlying45
 a75:=Tryz.isAgg45
 z75:=Tryz.sizeOf45
 v75:=Tryz.zeroValue45
 t76:=Tryz.underlying46
 a76:=Tryz.isAgg46
 z76:=Tryz.sizeOf46
 v76:=Tryz.zeroValue46
 t105:=Tryz.underlying144
 a105:=Tryz.isAgg144
 z105:=Tryz.sizeOf144
 v105:=Tryz.zeroValue144
 t119:=Tryz.underlying188
 a119:=Tryz.isAgg188
 z119:=Tryz.sizeOf188
 t127:=Tryz.underlying69
 a127:=Tryz.isAgg69
 z127:=Tryz.sizeOf69
 v127:=Tryz.zeroValue69
 t138:=Tryz.underlying190
 a138:=Tryz.isAgg190
 z138:=Tryz.sizeOf190
 v138:=Tryz.zeroValue190
 t139:=Tryz.underlying191
 a139:=Tryz.isAgg191
 z139:=Tryz.sizeOf191
 v139:=Tryz.zeroValue191
 t146:=Tryz.underlying64
 a146:=Tryz.isAgg64
 z146:=Tryz.sizeOf64
 v146:=Tryz.zeroValue64
 t164:=Tryz.underlying95
 a164:=Tryz.isAgg95
 z164:=Tryz.sizeOf95
 v164:=Tryz.zeroValue95
 g1:=by kernel_rfl
 g3:=by kernel_rfl
 g4:=by kernel_rfl }
theorem Tryz.Builder_Extra_155:Builder.Extra Tryz.prog Tryz.lays155_ren:={
 sizeBuilder:=by kernel_rfl
 liesBuilder:=by kernel_rfl
 t5:=Tryz.underlying5
 a5:=Tryz.isAgg5
 z5:=Tryz.sizeOf5
 v5:=Tryz.zeroValue5
 infoByte:=by kernel_rfl
 cellsByte:=by kernel_rfl
 sizeByte:=by kernel_rfl
 neB5:=by decide }
open Go.RowKit Go.Lib in
theorem Tryz.strings_ReplaceAll (s old new:ByteArray) (m:Int) (w:World) (hs:s.size<4294967281) (hm:w.cell? ⟨0,0,none⟩=some (.int .i64 m)) (h1:1≤old.size) (hlen:s.size+Lib.countB s old*new.size≤140737488355328) :
    Calls Tryz.prog 144 #[.string s,.string old,.string new] w fun e w' =>
     e = .returned (.string ⟨(Lib.replaceAll s.data.toList old.data.toList new.data.toList).toArray⟩)∧Below w.heap.size w w':=Any.strings_ReplaceAll Tryz.lays155 Tryz.Builder_Extra_155 s old new m w hs hm h1 hlen
end Go.Proofs
namespace Go.Proofs
open Go.Shelf
def Tryz.lays172_ren:Go.Shelf.Ren:=⟨fun|172=>155|244=>173|245=>163|247=>162|279=>182|280=>183|281=>184|282=>185|287=>181|316=>198|171=>33|205=>199|321=>196|322=>197|243=>40|246=>54|283=>74|284=>75|285=>76|286=>77|129=>98|317=>97|318=>99|319=>100|320=>101|337=>120|338=>121|n=>n,fun|9=>9|3=>3|75=>45|76=>46|4=>4|5=>5|167=>251|37=>34|0=>0|85=>219|2=>2|168=>254|53=>66|175=>252|46=>36|210=>275|127=>69|145=>282|143=>280|21=>21|171=>139|173=>142|212=>164|51=>63|20=>20|213=>165|232=>209|233=>210|80=>49|n=>n,fun|15=>13|16=>11|17=>1|18=>9|19=>10|n=>n⟩
theorem Tryz.lays172:Go.Proofs.Lays.n172 Tryz.prog Tryz.lays172_ren:={
 mixed:=by kernel_rfl
 f129:=Tryz.func98.trans (congrArg some (by kernel_rfl))
 f171:=Tryz.func33.trans (congrArg some (by kernel_rfl))
 f172:=Tryz.func155.trans (congrArg some (by kernel_rfl))
 f205:=Tryz.func199.trans (congrArg some (by kernel_rfl))
 f243:=Tryz.func40.trans (congrArg some (by kernel_rfl))
 f244:=Tryz.func173.trans (congrArg some (by kernel_rfl))
 f245:=Tryz.func163.trans (congrArg some (by kernel_rfl))
 f246:=Tryz.func54.trans (congrArg some (by kernel_rfl))
 f247:=Tryz.func162.trans (congrArg some (by kernel_rfl))
 f279:=Tryz.func182.trans (congrArg some (by kernel_rfl))
 f280:=Tryz.func183.trans (congrArg some (by kernel_rfl))
 f281:=Tryz.func184.trans (congrArg some (by kernel_rfl))
 f282:=Tryz.func185.trans (congrArg some (by kernel_rfl))
 f283:=Tryz.func74.trans (congrArg some (by kernel_rfl))
 f284:=Tryz.func75.trans (congrArg some (by kernel_rfl))
 f285:=Tryz.func76.trans (congrArg some (by kernel_rfl))
 f286:=Tryz.func77.trans (congrArg some (by kernel_rfl))
 f287:=Tryz.func181.trans (congrArg some (by kernel_rfl))
 f316:=Tryz.func198.trans (congrArg some (by kernel_rfl))
 f317:=Tryz.func97.trans (congrArg some (by kernel_rfl))
 f318:=Tryz.func99.trans (congrArg some (by kernel_rfl))
 f319:=Tryz.func100.trans (congrArg some (by kernel_rfl))
 f320:=Tryz.func101.trans (congrArg some (by kernel_rfl))
 f321:=Tryz.func196.trans (congrArg some (by kernel_rfl))
 f322:=Tryz.func197.trans (congrArg some (by kernel_rfl))
 f337:=Tryz.func120.trans (congrArg some (by kernel_rfl))
 f338:=Tryz.func121.trans (congrArg some (by kernel_rfl))
 t0:=Tryz.underlying0
 a0:=Tryz.isAgg0
 z0:=Tryz.sizeOf0
 v0:=Tryz.zeroValue0
 t2:=Tryz.underlying2
 a2:=Tryz.isAgg2
 z2:=Tryz.sizeOf2
 v2:=Tryz.zeroValue2
 t3:=Tryz.underlying3
 a3:=Tryz.isAgg3
 z3:=Tryz.sizeOf3
 v3:=Tryz.zeroValue3
 t4:=Tryz.underlying4
 a4:=Tryz.isAgg4
 z4:=Tryz.sizeOf4
 v4:=Tryz.zeroValue4
 t5:=Tryz.underlying5
 a5:=Tryz.isAgg5
 z5:=Tryz.sizeOf5
 v5:=Tryz.zeroValue5
 t9:=Tryz.underlying9
 a9:=Tryz.isAgg9
 z9:=Tryz.sizeOf9
 v9:=Tryz.zeroValue9
 t20:=Tryz.underlying20
 a20:=Tryz.isAgg20
 z20:=Tryz.sizeOf20
 v20:=Tryz.zeroValue20
 t21:=Tryz.underlying21
 a21:=Tryz.isAgg21
 z21:=Tryz.sizeOf21
 v21:=Tryz.zeroValue21
 t37:=Tryz.underlying34
 a37:=Tryz.isAgg34
 z37:=Tryz.sizeOf34
 v37:=Tryz.zeroValue34
 t46:=Tryz.underlying36
 a46:=Tryz.isAgg36
 z46:=Tryz.sizeOf36
 v46:=Tryz.zeroValue36
 t51:=Tryz.underlying63
 a51:=Tryz.isAgg63
 z51:=Tryz.sizeOf63
 v51:=Tryz.zeroValue63
 t53:=Tryz.underlying66
 a53:=Tryz.isAgg66
 z53:=Tryz.sizeOf66
 v53:=Tryz.zeroValue66
 t75:=Tryz.underlying45
 a75:=Tryz.isAgg45
 z75:=Tryz.sizeOf45
 v75:=Tryz.zeroValue45
 t76:=Tryz.underlying46
 a76:=Tryz.isAgg46
 z76:=Tryz.sizeOf46
 v76:=Tryz.zeroValue46
 t85:=Tryz.underlying219
 a85:=Tryz.isAgg219
 z85:=Tryz.sizeOf219
 v85:=Tryz.zeroValue219
 t127:=Tryz.underlying69
 a127:=Tryz.isAgg69
 z127:=Tryz.sizeOf69
 v127:=Tryz.zeroValue69
 t143:=Tryz.underlying280
 a143:=Tryz.isAgg280
 z143:=Tryz.sizeOf280
 v143:=Tryz.zeroValue280
 t145:=Tryz.underlying282
 a145:=Tryz.isAgg282
 z145:=Tryz.sizeOf282
 v145:=Tryz.zeroValue282
 t167:=Tryz.underlying251
 a167:=Tryz.isAgg251
 z167:=Tryz.sizeOf251
 v167:=Tryz.zeroValue251
 t168:=Tryz.underlying254
 a168:=Tryz.isAgg254
 z168:=Tryz.sizeOf254
 v168:=Tryz.zeroValue254
 t171:=Tryz.underlying139
 a171:=Tryz.isAgg139
 z171:=Tryz.sizeOf139
 v171:=Tryz.zeroValue139
 t173:=Tryz.underlying142
 a173:=Tryz.isAgg142
 z173:=Tryz.sizeOf142
 v173:=Tryz.zeroValue142
 t175:=Tryz.underlying252
 a175:=Tryz.isAgg252
 z175:=Tryz.sizeOf252
 v175:=Tryz.zeroValue252
 t210:=Tryz.underlying275
 a210:=Tryz.isAgg275
 z210:=Tryz.sizeOf275
 v210:=Tryz.zeroValue275
 t212:=Tryz.underlying164
 a212:=Tryz.isAgg164
 z212:=Tryz.sizeOf164
 v212:=Tryz.zeroValue164
 t213:=Tryz.underlying165
 a213:=Tryz.isAgg165
 z213:=Tryz.sizeOf165
 t232:=Tryz.underlying209
 a232:=Tryz.isAgg209
 z232:=Tryz.sizeOf209
 v232:=Tryz.zeroValue209
 t233:=Tryz.underlying210
 a233:=Tryz.isAgg210
 z233:=Tryz.sizeOf210
 v233:=Tryz.zeroValue210
 g15:=by kernel_rfl
 g16:=by kernel_rfl
 g17:=by kernel_rfl
 g18:=by kernel_rfl
 g19:=by kernel_rfl }
open Go.RowKit in
theorem Tryz.strconv_Atoi (s:ByteArray) (n:Int) (hl:s.size≤18) (h:Lib.atoi s.data.toList=some n) (w:World) :
    Calls Tryz.prog 155 #[.string s] w fun e w'=>e = .returned (.tuple #[.int .i64 n,.nilIface])∧∃t,w'=Lib.bytesWorld w 5 t:=Any.strconv_Atoi Tryz.lays172 s n hl h w
end Go.Proofs
namespace Go.Proofs.YtfogfaagjpebcaaGreatDoor
open Go.RowKit Go.Joins
namespace Pl
def fits (w c:UInt8):Bool:=if w.toNat==57 then decide (48≤c.toNat) && decide (c.toNat≤57) else c.toNat==w.toNat
def formM:List UInt8→List UInt8→Bool
 | _,[]=>true
 | [],_::_=>false
 | c::l,w::m=>fits w c && formM l m
def dateF:List UInt8:=[57,57,57,57,45,57,57,45,57,57]
def timeF:List UInt8:=[57,57,58,57,57,58,57,57]
theorem formM_short (l m:List UInt8) (h:l.length<m.length):formM l m=false:=by
 induction l generalizing m with
 | nil=>cases m with
  | nil=>simp at h
  | cons w m=>rfl
 | cons c l ih =>
  cases m with
  | nil=>simp at h
  | cons w m=>simp only[formM,ih m (by simpa using h),Bool.and_false]
end Pl
theorem fits_cases (w c:UInt8):(Pl.fits w c=true∧((((w.toNat:Int)==57)=true∧decide ((c.toNat:Int)<48)=false∧decide ((57:Int)<(c.toNat:Int))=false∧((w.toNat:Int) != 57)=false)∨(((w.toNat:Int)==57)=false∧((w.toNat:Int) != 57)=true∧((c.toNat:Int) != (w.toNat:Int))=false))) ∨
    (Pl.fits w c=false∧((((w.toNat:Int)==57)=true∧decide ((c.toNat:Int)<48)=true)∨(((w.toNat:Int)==57)=true∧decide ((c.toNat:Int)<48)=false∧decide ((57:Int)<(c.toNat:Int))=true)∨(((w.toNat:Int)==57)=false∧((w.toNat:Int) != 57)=true∧((c.toNat:Int) != (w.toNat:Int))=true))):=by
 unfold Pl.fits;by_cases h:w.toNat=57
 · by_cases h1:c.toNat<48
   · right;refine⟨by simp[h];omega,.inl ⟨by simp;omega,by simp;omega⟩⟩
   by_cases h2:57<c.toNat
   · right;refine⟨by simp[h];omega,.inr (.inl ⟨by simp;omega,by simp;omega,by simp;omega⟩)⟩
   left;refine⟨by simp[h];omega,.inl ⟨by simp;omega,by simp;omega,by simp;omega,by simp;omega⟩⟩
 by_cases h1:c.toNat=w.toNat
 · left;refine⟨by simp[h,h1],.inr ⟨by simp;omega,by simp;omega,by simp;omega⟩⟩
 right;refine⟨by simp[h,h1],.inr (.inr ⟨by simp;omega,by simp;omega,by simp;omega⟩)⟩
theorem extract_zero (s:ByteArray) (n:Nat):s.extract 0 n=⟨((bs s).take n).toArray⟩:=by
 apply ByteArray.ext;apply Array.toList_inj.1;rw[Lib.extract_data,Nat.sub_zero,List.drop_zero]
set_option maxRecDepth 100000 in
theorem dt_form (s want:ByteArray) (hw:∀h:Nat,(h1:h<want.size)→(want[h]'h1).toNat<128) (hs:s.size≤2147483647) (w:World) :
    Calls Tryz.prog 134 #[.string s,.string want] w fun e w'=>e = .returned (.string (if Pl.formM (bs s) (bs want)=true then s.extract 0 want.size else ⟨#[]⟩))∧Gr w w':=by
 obtain⟨X,hX⟩:∃X,Pl.formM (bs s) (bs want)=X:=⟨_,rfl⟩
 rw[hX];by_cases hlen:s.size<want.size
 · have:X=false:=by rw[←hX];exact Pl.formM_short _ _ (by rw[bs_length,bs_length];exact hlen)
   subst this;clear hX;have hd:decide ((s.size:Int)<(want.size:Int))=true:=by simp;omega
   go_enter Tryz.func134,Tryz.ntmps134;exact J16
 have hd:decide ((s.size:Int)<(want.size:Int))=false:=by simp;omega
 have HX:=Lib.hid hX;have HW:=Lib.hid hw;have hls:want.size≤s.size:=by omega
 clear hX hw hlen;go_enter Tryz.func134,Tryz.ntmps134;go_wp2_with fail
 go_loopw [5] (fun _ wr=>∃pos:Nat,wr=w.iter want pos∧pos≤want.size∧Pl.formM ((bs s).drop pos) ((bs want).drop pos)=X) (fun _ wr=>want.size-wr.iterPos w.heap.size)
 case atStart=>exact⟨0,rfl,by omega,by simpa using HX.out⟩
 case round =>
  obtain⟨pos,rfl,hpl,hx⟩:=hrel;have HX2:=Lib.hid hx;clear hx;by_cases hp:pos<want.size
  · have hnx:∀ty,(Instr.next (.pointer (some ⟨w.heap.size,0,none⟩)) true ty).run Tryz.prog (w.iter want pos)=_:=fun ty=>run_next_ascii w want pos ty hp (HW.out pos hp)
    have hk1:(0:Int)≤(pos:Int):=by omega
    have hk2:(pos:Int)<(s.size:Int):=by omega
    have hx2:=HX2.out;rw[idx_bs s pos (by omega),idx_bs want pos hp]at hx2;simp only[Pl.formM]at hx2;have hb1:(s[pos].toNat:Int)<256:=by have:=UInt8.toNat_lt s[pos];omega
    have hb2:(want[pos].toNat:Int)<256:=by have:=UInt8.toNat_lt want[pos];omega
    rcases fits_cases want[pos] s[pos] with⟨hf,hc⟩|⟨hf,hc⟩
    · rw[hf,Bool.true_and]at hx2;have HX3:=Lib.hid hx2;clear hx2 hf;rcases hc with⟨q1,q2,q3,q4⟩|⟨q1,q2,q3⟩
      all_goals
       go_wp2_with fail
       go_roundw
       case rel=>exact⟨pos+1,rfl,by omega,HX3.out⟩
       case measure=>simp;omega
    rw[hf,Bool.false_and]at hx2;have hX3:X=false:=hx2.symm;subst hX3;clear hx2 hf;rcases hc with⟨q1,q2⟩|⟨q1,q2,q3⟩|⟨q1,q2,q3⟩
    all_goals
     go_wp2_with fail
     go_ret
     exact⟨rfl,(Gr.refl w).alloc _⟩
  have hnx:∀ty,(Instr.next (.pointer (some ⟨w.heap.size,0,none⟩)) true ty).run Tryz.prog (w.iter want pos)=_:=fun ty=>run_next_end w want pos ty hp
  have hX3:X=true:=by
   have:=HX2.out;have e0:(bs want).drop pos=[]:=List.drop_eq_nil_of_le (by rw[bs_length];omega);rw[e0]at this;rw[←this];cases (bs s).drop pos <;> rfl
  subst hX3;have hk1:(0:Int)≤(want.size:Int):=by omega
  have hk2:(want.size:Int)≤(s.size:Int):=by omega
  go_wp2_with fail
  go_ret
  exact⟨rfl,(Gr.refl w).alloc _⟩
theorem dt_form_no (s want:ByteArray) (hw:∀h:Nat,(h1:h<want.size)→(want[h]'h1).toNat<128) (hs:s.size≤2147483647) (hf:Pl.formM (bs s) (bs want)=false) (w:World) :
    Calls Tryz.prog 134 #[.string s,.string want] w fun e w'=>e = .returned (.string ⟨#[]⟩)∧Gr w w' :=
 (dt_form s want hw hs w).mono fun e w' ⟨h1,h2⟩=>⟨by rw[h1,hf];rfl,h2⟩
theorem low_of (s:ByteArray) (h:((bs s).all fun c=>decide (c.toNat<128))=true):∀i:Nat,(h1:i<s.size)→(s[i]'h1).toNat<128:=by
 intro i h1;rw[List.all_eq_true]at h;have:=h (s[i]'h1) (by
  have h2:i<(bs s).length:=by rw[bs_length];exact h1
  exact List.getElem_mem h2)
 exact J14
theorem dt_clock0 (s:ByteArray) (hs:s.size≤2147483647) (hf:Pl.formM (bs s) Pl.timeF=false) (w:World) :
    Calls Tryz.prog 135 #[.string s] w fun e w'=>e = .returned (.tuple #[.string ⟨#[]⟩,.string ⟨#[]⟩])∧Gr w w':=by
 have HF:=Lib.hid hf;clear hf;go_enter Tryz.func135,Tryz.ntmps135;go_wp2_with (go_at_call 134;refine (dt_form_no s ⟨#[57,57,58,57,57,58,57,57]⟩ (low_of _ (by decide)) hs HF.out _).mono ?_;rintro e w1 ⟨rfl,g1⟩)
 go_ret2
 exact⟨rfl,Gr.auto⟩
end Go.Proofs.YtfogfaagjpebcaaGreatDoor
