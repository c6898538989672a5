/- The proof's part 02. -/
import Derived.Test.YtnkgknbdaiakgaaGreatDoorQ01
import Derived.Shelf.Strings.OnBuilder
import Derived.Shelf.Utf8.AppendRune
import Derived.Shelf.Utf8.AppendRunePlain
import Derived.Shelf.Strconv.Atoi
import Derived.Shelf.Strconv.Itoa4
import Derived.Shelf.Strconv.ErrVarParseInt
import Derived.Shelf.Strings.Shaped
import Derived.Shelf.GgClosure.StringsRunes
import Derived.Shelf.Strings.SplitShaped
import Derived.Shelf.Strings.RuneCount
import Derived.Shelf.Strings.Repeat
import Derived.Shelf.Unicode.CaseLaid
import Derived.Shelf.Strings.FuncGrows
import Derived.Shelf.Strings.BuilderCap
import Derived.Shelf.Slices.Turned
import Derived.Shelf.Slices.Clone
import Derived.Shelf.Strings.SlTrimAscii
import Derived.Test.YtnkgknbdaiakgaaGreatDoorProg
set_option maxHeartbeats 16000000
set_option linter.all false
namespace Go.Proofs
open Go.Proofs.Tryz Go.Shelf
theorem LaZ{P:Prop}(h:P:=by repeat' (first|kernel_rfl|(intro w;kernel_rfl)|constructor)):P:=h
def Tryz.lays158_ren:Go.Shelf.Ren:=⟨λ|158=>165|165=>52|166=>53|167=>188|169=>54|230=>189|203=>190|240=>80|241=>81|197=>95|118=>202|168=>203|270=>204|262=>205|276=>109|277=>110|260=>123|242=>154|313=>217|278=>183|274=>219|275=>220|n=>n,λ|9=>9|4=>4|3=>3|5=>5|72=>112|0=>0|76=>116|75=>115|107=>255|70=>110|20=>20|37=>22|127=>157|21=>21|105=>173|164=>189|162=>287|203=>285|119=>223|46=>109|139=>226|138=>225|51=>158|160=>291|208=>298|206=>296|80=>118|n=>n,λ|13=>15|3=>4|4=>5|n=>n⟩
theorem Tryz.lays158:Go.Proofs.Lays.n158 prog lays158_ren:=LaZ
theorem Tryz.Builder_Extra_158:Builder.Extra prog lays158_ren:={
 sizeBuilder:=Yc
 liesBuilder:=Yc
 t5:=underlying5
 a5:=isAgg5
 z5:=sizeOf5
 v5:=zeroValue5
 infoByte:=Yc
 cellsByte:=Yc
 sizeByte:=Yc
 neB5:=by decide }
open Go.RowKit in
theorem Tryz.strings_ToUpper_ascii(s:ByteArray)(w:World)(hs:s.size<=140737488355328)(yj:∀(j:Nat)(b:UInt8),s.data.toList[j]?=some b->b.toNat<128):Calls prog 165 #[.string s] w λ e w'=>e=.returned (.string ⟨(Lib.toUpperA s.data.toList).toArray⟩)/\Below w w w':=Any.strings_ToUpper_ascii lays158 Builder_Extra_158 s w hs yj
def Tryz.lays119_ren:Go.Shelf.Ren:=⟨λ|119=>155|n=>n,λ|21=>21|4=>4|n=>n,λ|n=>n⟩
theorem Tryz.lays119:Go.Proofs.Lays.n119 prog lays119_ren:=LaZ
theorem Tryz.utf8_ValidRune(r:Int)(w:World):Calls prog 155 #[.int .i32 r] w λ e w'=>e=.returned (.bool (Lib.validRune r))/\w'=w:=Any.utf8_ValidRune lays119 r w
def Tryz.lays137_ren:Go.Shelf.Ren:=⟨λ|137=>85|217=>111|266=>156|n=>n,λ|9=>9|5=>5|3=>3|n=>n,λ|n=>n⟩
theorem Tryz.lays137:Go.Proofs.Lays.n137 prog lays137_ren:=LaZ
open Go.RowKit in
theorem Tryz.strings_IndexByte(s:ByteArray)(c:Int)(w:World):Calls prog 85 #[.string s,.int .u8 c] w λ e w'=>e=.returned (.int .i64 (Lib.indexByte s.data.toList c.toNat.toUInt8))/\w'=w:=Any.strings_IndexByte lays137 s c w
def Tryz.lays242_ren:Go.Shelf.Ren:=⟨λ|242=>154|278=>183|n=>n,λ|37=>22|21=>21|51=>158|4=>4|5=>5|46=>109|n=>n,λ|n=>n⟩
theorem Tryz.lays242:Go.Proofs.Lays.n242 prog lays242_ren:=LaZ
open Go.RowKit in
theorem Tryz.utf8_AppendRune_plain(B:Nat)(v:Value)(n:Nat)(xs:List Value)(r:Int)(EZ : -2147483648<=r)(aZ:r<=2147483647)(w:World)(bL:w.ownsRow B 5 1 v n xs)(ap:n+4<=140737488355328)(PR:B<=w.heap.size):Calls prog 154 #[v,.int .i32 r] w λ e w'=>∃v',e=.returned v'/\w'.ownsRow B 5 1 v' (n+(Lib.runeCells r).length) (xs++Lib.runeCells r)/\∃o,(w.alloc o).grownBy w' v.ownBlock:=Any.utf8_AppendRune_plain lays242 Yc B v n xs r EZ aZ w bL ap PR
def Tryz.lays272_ren:Go.Shelf.Ren:=⟨λ|272=>71|315=>79|n=>n,λ|9=>9|40=>105|4=>4|3=>3|0=>0|21=>21|n=>n,λ|n=>n⟩
theorem Tryz.lays272:Go.Proofs.Lays.n272 prog lays272_ren:=LaZ
def Tryz.laysGw15_ren:Go.Shelf.Ren:=⟨λ|15=>49|20=>79|n=>n,λ|9=>9|23=>105|3=>3|4=>4|0=>0|21=>21|n=>n,λ|n=>n⟩
theorem Tryz.laysGw15:Go.Proofs.LaysGw.n15 prog laysGw15_ren:=LaZ
open Go.RowKit Go.Lib in
theorem Tryz.strings_IndexFunc_runes(g:Nat)(lb:Array Value)(eg:∀args w,(callFunc g args).run prog w=.ok (.enter g args) w)(p:Nat->Bool)(s:ByteArray)(w:World)(hp:PredAtRunes prog g lb p w):Calls prog 49 #[.string s,.func (.func g) #[] lb] w λ e w'=>e=.returned (.int .i64 (Lib.idxFunc p true s))/\Below w w w':=Any.strings_IndexFunc_runes laysGw15 g lb eg p s w hp
def Tryz.lays99_ren:Go.Shelf.Ren:=⟨λ|99=>56|206=>84|n=>n,λ|9=>9|4=>4|3=>3|n=>n,λ|n=>n⟩
theorem Tryz.lays99:Go.Proofs.Lays.n99 prog lays99_ren:=LaZ
open Go.RowKit Go.Lib in
theorem Tryz.strings_HasPrefix(s p:ByteArray)(w:World):Calls prog 56 #[.string s,.string p] w λ e w'=>e=.returned (.bool (Lib.hasPrefix s.data.toList p.data.toList))/\w'=w:=Any.strings_HasPrefix lays99 s p w
def Tryz.lays101_ren:Go.Shelf.Ren:=⟨λ|101=>86|208=>112|206=>84|n=>n,λ|9=>9|4=>4|3=>3|n=>n,λ|n=>n⟩
theorem Tryz.lays101:Go.Proofs.Lays.n101 prog lays101_ren:=LaZ
open Go.RowKit Go.Lib in
theorem Tryz.strings_TrimPrefix(s p:ByteArray)(w:World):Calls prog 86 #[.string s,.string p] w λ e w'=>e=.returned (.string ⟨(Lib.trimPrefix s.data.toList p.data.toList).toArray⟩)/\w'=w:=Any.strings_TrimPrefix lays101 s p w
def Tryz.lays151_ren:Go.Shelf.Ren:=⟨λ|151=>96|152=>124|137=>85|119=>155|224=>158|225=>159|217=>111|266=>156|n=>n,λ|9=>9|21=>21|4=>4|3=>3|5=>5|0=>0|46=>109|n=>n,λ|n=>n⟩
theorem Tryz.lays151:Go.Proofs.Lays.n151 prog lays151_ren:=LaZ
open Go.RowKit Go.Lib in
theorem Tryz.strings_ContainsRune_ascii(s:ByteArray)(r:Int)(w:World)(h0:0<=r)(h1:r<128):Calls prog 96 #[.string s,.int .i32 r] w λ e w'=>e=.returned (.bool (decide (0<=Lib.indexByte s.data.toList r.toNat.toUInt8)))/\w'=w:=Any.strings_ContainsRune_ascii lays151 s r w h0 h1
def Tryz.lays153_ren:Go.Shelf.Ren:=⟨λ|153=>173|152=>124|226=>199|227=>67|228=>94|137=>85|119=>155|224=>158|225=>159|217=>111|266=>156|n=>n,λ|9=>9|3=>3|4=>4|5=>5|21=>21|117=>143|116=>142|0=>0|46=>109|124=>146|n=>n,λ|n=>n⟩
theorem Tryz.lays153:Go.Proofs.Lays.n153 prog lays153_ren:=LaZ
def Tryz.lays109_ren:Go.Shelf.Ren:=⟨λ|109=>146|n=>n,λ|31=>34|9=>9|3=>3|0=>0|4=>4|n=>n,λ|n=>n⟩
theorem Tryz.lays109:Go.Proofs.Lays.n109 prog lays109_ren:=LaZ
open Go.Lib in
theorem Tryz.slices_Index_string(b off n c:Nat)(zs:List ByteArray)(x:ByteArray)(w:World)(hz:n<=zs.length)(nM:n<=9223372036854775807)(hc:∀j,j<zs.length->w.cell? ⟨b,off+j,none⟩=some (.string (zs.getD j ByteArray.empty))):Calls prog 146 #[.slice (some ⟨b,off,none⟩) n c,.string x] w λ e w'=>e=.returned (.int .i64 (Lib.idxOfS (zs.take n) x))/\w'=w:=Any.slices_Index_string lays109 b off n c zs x w hz nM hc
open Go.Lib in
theorem Tryz.slices_Index_string_empty(a:Option Addr)(c:Nat)(x:ByteArray)(w:World):Calls prog 146 #[.slice a 0 c,.string x] w λ e w'=>e=.returned (.int .i64 (Lib.idxOfS [] x))/\w'=w:=Any.slices_Index_string_empty lays109 a c x w
def Tryz.lays161_ren:Go.Shelf.Ren:=⟨λ|161=>41|231=>66|227=>67|233=>68|235=>69|228=>94|197=>95|151=>96|260=>123|152=>124|137=>85|119=>155|224=>158|225=>159|217=>111|266=>156|n=>n,λ|9=>9|4=>4|3=>3|5=>5|117=>143|116=>142|0=>0|124=>146|105=>173|21=>21|119=>223|46=>109|139=>226|138=>225|n=>n,λ|3=>4|4=>5|n=>n⟩
theorem Tryz.lays161:Go.Proofs.Lays.n161 prog lays161_ren:=LaZ
def Tryz.lays162_ren:Go.Shelf.Ren:=⟨λ|162=>164|232=>185|227=>67|234=>186|236=>187|228=>94|271=>201|151=>96|120=>216|197=>95|152=>124|260=>123|137=>85|119=>155|224=>158|225=>159|217=>111|266=>156|n=>n,λ|9=>9|4=>4|3=>3|5=>5|117=>143|116=>142|0=>0|124=>146|21=>21|105=>173|46=>109|119=>223|139=>226|138=>225|n=>n,λ|3=>4|4=>5|n=>n⟩
theorem Tryz.lays162:Go.Proofs.Lays.n162 prog lays162_ren:=LaZ
def Tryz.lays160_ren:Go.Shelf.Ren:=⟨λ|160=>167|232=>185|231=>66|227=>67|234=>186|233=>68|236=>187|235=>69|228=>94|271=>201|151=>96|197=>95|120=>216|152=>124|260=>123|137=>85|119=>155|224=>158|225=>159|217=>111|266=>156|n=>n,λ|9=>9|4=>4|3=>3|5=>5|117=>143|116=>142|0=>0|124=>146|21=>21|105=>173|46=>109|119=>223|139=>226|138=>225|n=>n,λ|3=>4|4=>5|n=>n⟩
theorem Tryz.lays160:Go.Proofs.Lays.n160 prog lays160_ren:=LaZ
end Go.Proofs
namespace Go.Proofs.YtnkgknbdaiakgaaGreatDoor.Pl
inductive V9 (α : Type) where
 |non
 |ok (a : α)
 |bad (c p:Nat)
structure Nd where
 kind:Nat
 text:Bs
 keys:List Bs
 spots:List (Nat×Nat)
 subs:List Nat
 sp:Int×Int
 owner:Nat
abbrev Vc:=List Nd
structure Vv where
 str:Bs->V9 (Bs×Nat)
 scal:Bs->V9 (Nat×Bs×Nat)
def Va(s:Bs)(n:Nat):Nat:=match s[n]? with
 |some c=>c.toNat
 |none=>0
def V2h(c:UInt8):Bool:=decide (97<=c.toNat)&&decide (c.toNat<=122) || decide (65<=c.toNat)&&decide (c.toNat<=90) || decide (48<=c.toNat)&&decide (c.toNat<=57) || c.toNat==95 || c.toNat==45
def Vs(l:Bs):Nat:=(l.takeWhile V2h).length
def word(E:Vv)(s:Bs)(n:Nat):V9 (Bs×Nat) :=
 if V35 s n then .ok ([],n+2) else
 if Vs (s.drop n)=0 then
  match E.str (s.drop n) with
  |.non => .non
  |.bad c p => .bad c (n+p)
  |.ok (t,k) => .ok (t,n+k)
 else .ok ((s.drop n).take (Vs (s.drop n)),n+Vs (s.drop n))
abbrev KW:=Bs×Nat×Nat
def V3r(E:Vv)(s:Bs):Nat->Nat->List KW->V9 (List KW×Nat)
 |0,_,_ => .non
 |f+1,n,acc =>
  match word E s n with
  |.non => .non
  |.bad c p => .bad c p
  |.ok (t,e) =>
   let a:=V7 s e
   if Va s a=46 then V3r E s f (V7 s (a+1)) (acc++[(t,n,e)])
   else .ok (acc++[(t,n,e)],e)
def V1q(E:Vv)(s:Bs)(n:Nat):V9 (List KW×Nat):=V3r E s (s.length+2) n []
inductive V7u where
 |non
 |no
 |yes (i:Nat)
def V1a(st:Vc)(t:Nat)(w:Bs):V7u :=
 match st[t]? with
 |none => .non
 |some nd =>
  match nd.keys.findIdx? (λ x=>x==w) with
  |none => .no
  |some j =>
   match nd.subs[j]? with
   |none => .non
   |some i=>if i<st.length then .yes i else .non
def V10(nd:Nd)(w:Bs)(sp:Nat×Nat)(i:Nat):Nd:={ nd with keys:=nd.keys++[w],spots:=nd.spots++[sp],subs:=nd.subs++[i] }
def Vf(st:Vc)(t:Nat)(w:Bs)(sp:Nat×Nat)(i:Nat):Vc:=st.modify t λ nd=>V10 nd w sp i
def V2c(st:Vc)(i:Nat):Nat:=match st[i]? with
 |some nd=>nd.owner
 |none=>0
def V4t(k:Nat)(t:Bs)(a b:Nat):Nd:=⟨k,t,[],[],[],(a,b),0⟩
def V4e(subs:List Nat)(a b:Nat):Nd:=⟨7,[],[],[],subs,(a,b),0⟩
def V16:Nd:=⟨8,[],[],[],[],(0,0),0⟩
def V1s(owner:Nat):Nd:=⟨8,[],[],[],[],(-1,-1),owner⟩
end Go.Proofs.YtnkgknbdaiakgaaGreatDoor.Pl
namespace Go.Proofs.YtnkgknbdaiakgaaGreatDoor
open Pl Go.Proofs.Tryz 
theorem word_le(E:Vv)(s:Pl.Bs)(n:Nat)(t:Pl.Bs)(e:Nat)(h:Pl.word E s n=.ok (t,e)):n<=e:=by
 unfold Pl.word at h
 split at h;exact J1
 split at h
 split at h;cases h
 cases h
 exact J1
 exact J1
end Go.Proofs.YtnkgknbdaiakgaaGreatDoor
namespace Go.Proofs
open Go.Proofs.Tryz Go.Shelf
def Tryz.laysM171_ren:Go.Shelf.Ren:=⟨λ|171=>28|243=>47|246=>77|283=>104|284=>105|285=>106|286=>107|129=>148|317=>147|318=>149|319=>150|320=>151|337=>179|338=>180|n=>n,λ|3=>3|9=>9|2=>2|4=>4|171=>183|0=>0|53=>161|37=>22|5=>5|173=>186|212=>217|51=>158|20=>20|213=>218|46=>109|232=>276|233=>277|n=>n,λ|17=>2|18=>12|19=>13|n=>n⟩
theorem Tryz.laysM171:Go.Proofs.LaysM.n171 prog laysM171_ren:=LaZ
open Go.RowKit Go.Sort Go.Lib in
theorem Tryz.strconv_Itoa(n:Int)(h0 : -9223372036854775808<=n)(h1:n<=9223372036854775807)(w:World)(yk:Lib.TabIs prog w "internal/strconv.uint64pow10" .u64 Lib.pow10Tab):Calls prog 28 #[n] w λ e w'=>e=.returned (.string ⟨(Lib.itoa n).toArray⟩)/\∃k os,w'=grow (w.drewN k) os:=Any.strconv_Itoa laysM171 n h0 h1 w yk
def Tryz.laysM173_ren:Go.Shelf.Ren:=⟨λ|173=>137|246=>77|283=>104|284=>105|285=>106|286=>107|129=>148|317=>147|318=>149|319=>150|320=>151|337=>179|338=>180|n=>n,λ|2=>2|3=>3|9=>9|4=>4|171=>183|0=>0|53=>161|37=>22|5=>5|173=>186|212=>217|51=>158|20=>20|213=>218|46=>109|232=>276|233=>277|n=>n,λ|17=>2|18=>12|19=>13|n=>n⟩
theorem Tryz.laysM173:Go.Proofs.LaysM.n173 prog laysM173_ren:=LaZ
open Go.RowKit Go.Sort Go.Lib in
theorem Tryz.strconv_FormatInt_10(n:Int)(h0 : -9223372036854775808<=n)(h1:n<=9223372036854775807)(w:World)(yk:Lib.TabIs prog w "internal/strconv.uint64pow10" .u64 Lib.pow10Tab):Calls prog 137 #[n,(10:Int)] w λ e w'=>e=.returned (.string ⟨(Lib.itoa n).toArray⟩)/\∃k os,w'=grow (w.drewN k) os:=Any.strconv_FormatInt_10 laysM173 n h0 h1 w yk
def Tryz.laysC245_ren:Go.Shelf.Ren:=⟨λ|245=>169|279=>193|280=>194|281=>195|282=>196|316=>209|171=>28|205=>210|243=>47|246=>77|283=>104|284=>105|285=>106|286=>107|129=>148|317=>147|318=>149|319=>150|320=>151|337=>179|338=>180|n=>n,λ|9=>9|3=>3|75=>115|167=>257|4=>4|168=>260|210=>283|37=>22|0=>0|127=>157|145=>290|143=>288|2=>2|171=>183|53=>161|5=>5|173=>186|212=>217|51=>158|20=>20|213=>218|46=>109|232=>276|233=>277|80=>118|n=>n,λ|15=>14|16=>1|17=>2|18=>12|19=>13|n=>n⟩
theorem Tryz.laysC245:Go.Proofs.LaysC.n245 prog laysC245_ren:=LaZ
open Go.RowKit in
theorem Tryz.strconv_toError_syntax(fn s:ByteArray)(base bits:Int)(ev:Value)(w:World)(pZ:s.size<=281474976710656)(hv:w.cell? ⟨14,0,none⟩=some ev)(q8:ev=.nilIface\/∃te pe,ev=.iface te pe):Calls prog 169 #[.string fn,.string s,base,bits,.iface 257 (2:Int)] w λ e w'=>∃N,e=.returned (.iface 260 (.pointer (some ⟨N,0,none⟩)))/\w.heap.size<=N/\w'.heap[N]?=some (.cells #[.string fn,.string s,ev] 283 (0,0))/\Below w w w':=Any.strconv_toError_syntax laysC245 fn s base bits ev w pZ hv q8
open Go.RowKit in
theorem Tryz.strconv_toError_range(fn s:ByteArray)(base bits:Int)(ev:Value)(w:World)(pZ:s.size<=281474976710656)(hv:w.cell? ⟨1,0,none⟩=some ev)(q8:ev=.nilIface\/∃te pe,ev=.iface te pe):Calls prog 169 #[.string fn,.string s,base,bits,.iface 257 (1:Int)] w λ e w'=>∃N,e=.returned (.iface 260 (.pointer (some ⟨N,0,none⟩)))/\w.heap.size<=N/\w'.heap[N]?=some (.cells #[.string fn,.string s,ev] 283 (0,0))/\Below w w w':=Any.strconv_toError_range laysC245 fn s base bits ev w pZ hv q8
def Tryz.laysC174_ren:Go.Shelf.Ren:=⟨λ|174=>134|247=>168|245=>169|287=>192|279=>193|280=>194|281=>195|282=>196|321=>207|322=>208|316=>209|171=>28|205=>210|243=>47|246=>77|283=>104|284=>105|285=>106|286=>107|129=>148|317=>147|318=>149|319=>150|320=>151|337=>179|338=>180|n=>n,λ|9=>9|3=>3|2=>2|75=>115|85=>208|4=>4|167=>257|5=>5|53=>161|175=>258|46=>109|168=>260|37=>22|0=>0|210=>283|21=>21|127=>157|145=>290|143=>288|171=>183|173=>186|212=>217|51=>158|20=>20|213=>218|232=>276|233=>277|80=>118|n=>n,λ|15=>14|16=>1|17=>2|18=>12|19=>13|n=>n⟩
theorem Tryz.laysC174:Go.Proofs.LaysC.n174 prog laysC174_ren:=LaZ
open Go.RowKit in
theorem Tryz.strconv_ParseInt_10_at64_ok(s:ByteArray)(nN:s.size<=9223372036854775806)(v:Int)(h:Lib.parseIntB 64 s.data.toList=.ok v)(w:World):Calls prog 134 #[.string s,(10:Int),(64:Int)] w λ e w'=>e=.returned (.tuple #[v,.nilIface])/\(w'=w\/∃t,w'=Lib.bytesWorld w 5 t):=Any.strconv_ParseInt_10_at64_ok laysC174 s nN v h w
open Go.RowKit in
theorem Tryz.strconv_ParseInt_10_at64_range(s:ByteArray)(pZ:s.size<=281474976710656)(h:Lib.parseIntB 64 s.data.toList=.range)(ev:Value)(w:World)(hv:w.cell? ⟨1,0,none⟩=some ev)(q8:ev=.nilIface\/∃te pe,ev=.iface te pe):Calls prog 134 #[.string s,(10:Int),(64:Int)] w λ e w'=>∃N,e=.returned (.tuple #[.int .i64 (Lib.intSat 64 s.data.toList),.iface 260 (.pointer (some ⟨N,0,none⟩))])/\w.heap.size<=N/\w'.heap[N]?=some (.cells #[.string ⟨#[80,97,114,115,101,73,110,116]⟩,.string s,ev] 283 (0,0))/\Below w w w':=Any.strconv_ParseInt_10_at64_range laysC174 s pZ h ev w hv q8
def Tryz.lays143_ren:Go.Shelf.Ren:=⟨λ|143=>198|219=>213|217=>111|225=>159|224=>158|267=>218|266=>156|314=>221|n=>n,λ|9=>9|3=>3|4=>4|5=>5|46=>109|146=>159|51=>158|n=>n,λ|1=>3|n=>n⟩
theorem Tryz.lays143:Go.Proofs.Lays.n143 prog lays143_ren:=LaZ
open Go.RowKit Go.Lib in
theorem Tryz.strings_Index_one(s:ByteArray)(c:UInt8)(w:World):Calls prog 198 #[.string s,.string ⟨#[c]⟩] w λ e w'=>e=.returned (.int .i64 (Lib.indexByte s.data.toList c))/\w'=w:=Any.strings_Index_one lays143 s c w
end Go.Proofs
namespace Go.Proofs
open Go.Proofs.Tryz Go.Shelf
def Tryz.lays155_ren:Go.Shelf.Ren:=⟨λ|155=>135|154=>170|138=>197|165=>52|143=>198|166=>53|197=>95|169=>54|195=>211|218=>212|240=>80|241=>81|219=>213|260=>123|276=>109|277=>110|217=>111|225=>159|224=>158|267=>218|266=>156|314=>221|n=>n,λ|9=>9|3=>3|4=>4|72=>112|0=>0|76=>116|105=>173|21=>21|5=>5|70=>110|20=>20|37=>22|75=>115|127=>157|164=>189|46=>109|119=>223|139=>226|138=>225|146=>159|51=>158|80=>118|n=>n,λ|1=>3|3=>4|4=>5|n=>n⟩
theorem Tryz.lays155:Go.Proofs.Lays.n155 prog lays155_ren:=LaZ
theorem Tryz.Builder_Extra_155:Builder.Extra prog lays155_ren:={
 sizeBuilder:=Yc
 liesBuilder:=Yc
 t5:=underlying5
 a5:=isAgg5
 z5:=sizeOf5
 v5:=zeroValue5
 infoByte:=Yc
 cellsByte:=Yc
 sizeByte:=Yc
 neB5:=by decide }
open Go.RowKit Go.Lib in
theorem Tryz.strings_ReplaceAll(s old new:ByteArray)(m:Int)(w:World)(hs:s.size<4294967281)(hm:w.cell? ⟨3,0,none⟩=some (.int .i64 m))(h1:1<=old.size)(ap:s.size+Lib.countB s old*new.size<=140737488355328):Calls prog 135 #[.string s,.string old,.string new] w λ e w' => e=.returned (.string ⟨(Lib.replaceAll s.data.toList old.data.toList new.data.toList).toArray⟩)/\Below w w w':=Any.strings_ReplaceAll lays155 Builder_Extra_155 s old new m w hs hm h1 ap
end Go.Proofs
namespace Go.Proofs
open Go.Proofs.Tryz Go.Shelf
def Tryz.lays172_ren:Go.Shelf.Ren:=⟨λ|172=>161|244=>184|245=>169|247=>168|279=>193|280=>194|281=>195|282=>196|287=>192|316=>209|171=>28|205=>210|321=>207|322=>208|243=>47|246=>77|283=>104|284=>105|285=>106|286=>107|129=>148|317=>147|318=>149|319=>150|320=>151|337=>179|338=>180|n=>n,λ|9=>9|3=>3|75=>115|76=>116|4=>4|5=>5|167=>257|37=>22|0=>0|85=>208|2=>2|168=>260|53=>161|175=>258|46=>109|210=>283|127=>157|145=>290|143=>288|21=>21|171=>183|173=>186|212=>217|51=>158|20=>20|213=>218|232=>276|233=>277|80=>118|n=>n,λ|15=>14|16=>1|17=>2|18=>12|19=>13|n=>n⟩
theorem Tryz.lays172:Go.Proofs.Lays.n172 prog lays172_ren:=LaZ
open Go.RowKit in
theorem Tryz.strconv_Atoi(s:ByteArray)(n:Int)(hl:s.size<=18)(h:Lib.atoi s.data.toList=some n)(w:World):Calls prog 161 #[.string s] w λ e w'=>e=.returned (.tuple #[n,.nilIface])/\∃t,w'=Lib.bytesWorld w 5 t:=Any.strconv_Atoi lays172 s n hl h w
