/-
 The walks and plain laws that the claim rests on, part 5.
-/
import Derived.Test.YtdgjgcepbkanhaaGreatDoorM02
import Derived.Test.YtdgjgcepbkanhaaGreatDoorM04
import Derived.RangeFuncNested
import Derived.RangeFuncBound
import Derived.RangeFuncCalls
import Derived.RangeFuncLeaves
import Derived.Shelf.Abstract
import Derived.Shelf.RegionOpen
import Derived.WalkKit
import Derived.OwnWalkIn
import Derived.TacticsInMore
import Derived.LoopNIn
import Derived.LoopIn
import Derived.Lib.SmallJoins
import Derived.Shelf.Strings.Builder1
import Derived.Shelf.Strings.Builder2
import Derived.Shelf.Strings.OnBuilder
import Derived.Shelf.Strings.Trim
import Derived.Shelf.Small.Utf8
import Derived.Shelf.Small.Strs
import Derived.Shelf.Strings.BuilderF
import Derived.Shelf.Strings.BuilderK
import Derived.Shelf.Strings.BuilderRune
import Derived.Shelf.Utf8.AppendRunePlain
import Derived.Shelf.Strings.Builder2Cap
import Derived.Shelf.Strconv.Atoi
import Derived.Shelf.Strconv.Itoa0
import Derived.Shelf.Strconv.Itoa1
import Derived.Shelf.LaysM
import Derived.Shelf.Strconv.Itoa2
import Derived.Shelf.Strconv.Itoa3
import Derived.Shelf.Strconv.Itoa4
import Derived.Shelf.Strconv.AtoiErrFast
import Derived.Shelf.Strconv.ParseIntEmpty
import Derived.Shelf.Strconv.AtoiFail
import Derived.Shelf.Strconv.Clone
import Derived.Shelf.Strconv.SyntaxError
import Derived.Shelf.LaysC
import Derived.Shelf.Strconv.ToError
import Derived.Shelf.Strconv.Lower
import Derived.Shelf.Strconv.ParseUint10
import Derived.Shelf.Strconv.ParseUint10Empty
import Derived.Shelf.Strconv.ParseUint10Any
import Derived.Shelf.Strconv.ParseInt10
import Derived.Shelf.Strconv.AtoiLong
import Derived.Shelf.Strconv.AtoiInnerAll
import Derived.Shelf.Strconv.RangeError
import Derived.Shelf.Strconv.ToErrorRange
import Derived.Shelf.Strconv.AtoiAll
import Derived.Shelf.Strconv.ErrVarAll
import Derived.Shelf.Strconv.ParseUintEmpty
import Derived.Shelf.Strconv.ParseUint10b64
import Derived.Shelf.Strconv.ParseUint10b32
import Derived.Shelf.Strconv.ParseUint10b16
import Derived.Shelf.Strconv.ParseUint10b8
import Derived.Shelf.Strconv.ParseUint10At
import Derived.Shelf.Strconv.ParseInt10At64
import Derived.Shelf.Strconv.ParseInt10At32
import Derived.Shelf.Strconv.ParseInt10At16
import Derived.Shelf.Strconv.ParseInt10At8
import Derived.Shelf.Strconv.ParseInt10All
import Derived.Shelf.Strconv.ParseIntPublic10
import Derived.Shelf.Strconv.ErrVarParseInt
import Derived.Shelf.Strings.Search1
import Derived.Shelf.Strings.Search2
import Derived.Shelf.Strings.Search3
import Derived.Shelf.Strings.Count
import Derived.Shelf.Strings.Shaped
import Derived.Shelf.GgClosure.StringsIndexFunc
import Derived.Shelf.GgClosure.StringsTrimFunc
import Derived.Ground.GgwProg
import Derived.Shelf.GgClosure.StringsIndexFuncTop
import Derived.Shelf.GgClosure.StringsRunes
import Derived.Shelf.Strings.Prefix
import Derived.Shelf.Strings.Split
import Derived.Shelf.Strings.Replace
import Derived.Shelf.Strings.SplitShaped
import Derived.Shelf.Unicode.Latin
import Derived.Shelf.Strings.Runes
import Derived.Shelf.Strings.RuneCount
import Derived.Shelf.Strings.IndexAny
import Derived.Shelf.Strings.AsciiSet
import Derived.Shelf.Strings.IndexAnyAll
import Derived.Shelf.Bits.Mul64
import Derived.Shelf.Strings.Repeat
import Derived.Shelf.Unicode.DecodeSlow
import Derived.Shelf.Unicode.DecodeAny
import Derived.Shelf.Unicode.DecodeLast
import Derived.Shelf.Unicode.CaseLookup
import Derived.Shelf.Unicode.CaseConvert
import Derived.Shelf.Unicode.CaseTo
import Derived.Shelf.Unicode.CaseLaid
import Derived.Shelf.Strings.FuncGrows
import Derived.Shelf.Strings.BuilderCap
import Derived.Shelf.Slices.Turned
import Derived.Ground.Names2Prog
import Derived.Shelf.Slices.Clone
import Derived.Shelf.Strings.SlTrimAscii
import Derived.Shelf.Strings.MapAny
import Derived.Deep.RegionHeld3
import Derived.Laws.StructEq
set_option maxHeartbeats 16000000
set_option linter.all false
set_option linter.unusedVariables false
set_option linter.unusedSimpArgs false
namespace Go.Proofs.YtdgjgcepbkanhaaGreatDoor
open Go.RowKit
theorem bool256:(Tryz.prog.info? 147).map (fun i=>(i.zero,i.size))=some (some (.agg (Array.replicate 256 (.bool false))),256):=by kernel_rfl
theorem trimLeft_blanks (s:ByteArray) (w:World) :
    Calls Tryz.prog 63 #[.string s,.string ⟨#[32,9]⟩] w fun e w'=>e = .returned (.string ⟨((bs s).dropWhile Pl.isBlank).toArray⟩)∧Gr w w':=by
 refine (Any.strings_TrimLeft_laid Tryz.lays161 bool256 s ⟨#[32,9]⟩ w (by decide) ?_).mono ?_
 · intro j b h
   match j,h with
   | 0,h=>simp at h;subst h;decide
   | 1,h=>simp at h;subst h;decide
 rintro e w' ⟨rfl,hb⟩;refine⟨?_,hb⟩;have:(fun c:UInt8=>([32,9]:List UInt8).contains c)=Pl.isBlank:=by
  funext c
  rw[Bool.eq_iff_iff];simp[Pl.isBlank,←UInt8.toNat_inj]
 unfold Lib.trimLeftS;rw[show (⟨#[32,9]⟩:ByteArray).data.toList=[32,9] from rfl,this]
theorem tk_Blanks (s:ByteArray) (i:Int) (n:Nat) (hi:i=n) (hn:n≤s.size) (hs:s.size≤2147483647) (w:World) :
    Calls Tryz.prog 40 #[.string s,.int .i64 i] w fun e w'=>e = .returned (.int .i64 (Pl.blanksAt (bs s) n))∧Gr w w':=by
 subst hi;go_enter Tryz.func40,Tryz.ntmps40;go_wp2_with (go_at_call 63;refine (trimLeft_blanks _ _).mono ?_;rintro e w' ⟨rfl,hb⟩)
 go_ret
 refine⟨ret_int ?_,hb⟩;have h1:=Pl.takeWhile_dropWhile Pl.isBlank ((bs s).drop n);have h2:=bs_length s;rw[List.length_drop]at h1;rw[bs_extract,IntWalk.wrap64_in _ ⟨by omega,by omega⟩];unfold Pl.blanksAt Pl.blanks;omega
theorem decode_all_high (s:ByteArray) (pos:Nat) (h:pos<s.size) (ha:128≤(s[pos]'h).toNat) :
    pos+(Utf8.decode s pos).2≤s.size∧∀j,j<(Utf8.decode s pos).2→∀hj:pos+j<s.size,128≤(s[pos+j]'hj).toNat:=by
 have hg:∀k (hk:pos+k<s.size),(s[pos+k]'hk).toNat=(s.get! (pos+k)).toNat:=by
  intro k hk;show _=(s.data[pos+k]!).toNat;rw[getElem!_pos s.data (pos+k) hk];rfl
 have h0:128≤(s.get! (pos+0)).toNat:=by rw[←hg 0 h];exact ha
 have hn:¬(s.get! (pos+0)).toNat<128:=by omega
 simp only[Utf8.decode,hn,if_false]
 repeat' split
 all_goals (
  simp only[Bool.and_eq_true,decide_eq_true_eq,beq_iff_eq]at *;refine⟨by omega,fun j hj hjs=>?_⟩;rw[hg j hjs])
 all_goals (
  match j,hj with
  | 0,_=>exact h0
  | 1,hj=>omega
  | 2,hj=>omega
  | 3,hj=>omega
  | j+4,hj=>omega)
theorem tw_step (p:UInt8→Bool) (l:List UInt8) (n:Nat) (h:n<l.length) (hp:p (l[n]'h)=true) :
    n+((l.drop n).takeWhile p).length=n+1+((l.drop (n+1)).takeWhile p).length:=by
 rw[List.drop_eq_getElem_cons h,List.takeWhile_cons,if_pos hp];simp;omega
theorem tw_skip (p:UInt8→Bool) (l:List UInt8):∀k n,n+k≤l.length→(∀j,j<k→∀h:n+j<l.length,p (l[n+j]'h)=true) →
    n+((l.drop n).takeWhile p).length=n+k+((l.drop (n+k)).takeWhile p).length:=by
 intro k
 induction k with
 | zero=>intro n _ _;simp
 | succ k ih =>
  intro n h1 h2;rw[tw_step p l n (by omega) (by simpa using h2 0 (by omega) (by omega)),ih (n+1) (by omega) (fun j hj h=>by
   have:=h2 (j+1) (by omega) (by omega)
   simpa [Nat.add_assoc,Nat.add_comm 1 j]using this),show n+1+k=n+(k+1) from by omega]
theorem decode_low (s:ByteArray) (pos:Nat) (h:pos<s.size) (ha:(s[pos]'h).toNat<128):Utf8.decode s pos=((s[pos]'h).toNat,1):=by
 have hg:(s.get! (pos+0)).toNat=(s[pos]'h).toNat:=by
  show (s.data[pos]!).toNat=_;rw[getElem!_pos s.data pos h];rfl
 unfold Utf8.decode;simp only[hg];rw[if_pos ha]
theorem idx_ctl (s:ByteArray):∀f pos,pos≤s.size→s.size-pos≤f →
    Lib.idxFuncFrom Pl.ctl true s f pos=if pos+(((bs s).drop pos).takeWhile fun c => !Pl.isCtl c).length<s.size then ((pos+(((bs s).drop pos).takeWhile fun c => !Pl.isCtl c).length:Nat):Int) else -1:=by
 intro f
 induction f with
 | zero =>
  intro pos h1 h2;have:¬pos<s.size:=by omega
  rw[Lib.idxFuncFrom,if_neg (by omega)]
 | succ f ih =>
  intro pos h1 h2;rw[Lib.idxFuncFrom];by_cases hp:pos<s.size
  · rw[if_pos hp];have hl:pos<(bs s).length:=by rw[bs_length];exact hp
    have hget:(bs s)[pos]'hl=s[pos]'hp:=rfl;by_cases hlow:(s[pos]'hp).toNat<128
    · rw[decode_low s pos hp hlow];by_cases hc:Pl.ctl (s[pos]'hp).toNat=true
      · rw[if_pos hc];have:(((bs s).drop pos).takeWhile fun c => !Pl.isCtl c)=[]:=by
         rw[List.drop_eq_getElem_cons hl,List.takeWhile_cons,if_neg];rw[hget];simp[Pl.isCtl,hc]
        rw[this,if_pos (by simpa using hp)];simp
      rw[if_neg hc,ih (pos+1) (by omega) (by omega),tw_step (fun c => !Pl.isCtl c) (bs s) pos hl (by rw[hget];simp[Pl.isCtl,hc])]
    have hd:=decode_high s pos hp (by omega);have ha:=decode_all_high s pos hp (by omega);rw[if_neg (by simp[Pl.ctl];omega),ih _ ha.1 (by omega),tw_skip (fun c => !Pl.isCtl c) (bs s) _ pos (by rw[bs_length];exact ha.1) (fun j hj h=>by
     have:=ha.2 j hj (by rw[←bs_length];exact h);have e:(bs s)[pos+j]'h=s[pos+j]'(by rw[←bs_length];exact h):=rfl;rw[e];simp[Pl.isCtl,Pl.ctl];omega)]
  rw[if_neg hp,if_neg (by omega)]
end Go.Proofs.YtdgjgcepbkanhaaGreatDoor
namespace Go.Proofs.YtdgjgcepbkanhaaGreatDoor
open Go.RowKit Go.Shelf Go.Joins
attribute [local go_sem] Oper.semAt_some
abbrev decD:ByteArray:=⟨#[48,49,50,51,52,53,54,55,56,57]⟩
abbrev tensV:Value := .agg #[.string ⟨#[]⟩,.int .i64 10,.string decD]
theorem in_tens (w:World):Calls Tryz.prog 123 #[] w fun e w'=>e = .returned tensV∧Gr w w':=by
 go_enter Tryz.func123,Tryz.ntmps123;go_wp2_with fail;exact bodyPost_ret (v:=tensV) (by simp[results,Tryz.results123,go_sem]) rfl ⟨rfl,Gr.auto⟩
def radC:Array Value:=#[.string ⟨#[48,120]⟩,.int .i64 16,.string ⟨#[48,49,50,51,52,53,54,55,56,57,97,98,99,100,101,102,65,66,67,68,69,70]⟩,.string ⟨#[48,111]⟩,.int .i64 8,.string ⟨#[48,49,50,51,52,53,54,55]⟩,.string ⟨#[48,98]⟩,.int .i64 2,.string ⟨#[48,49]⟩]
def RadW (w:World):Prop:=∀j v,radC[j]?=some v→w.cell? ⟨6,j,none⟩=some v
def noRad (l:List UInt8):Prop:=Pl.pre l [48,120]=false∧Pl.pre l [48,111]=false∧Pl.pre l [48,98]=false
theorem prefix_whole (s p:ByteArray) (b:Bool) (h:Pl.pre (bs s) (bs p)=b) (w:World) :
    Calls Tryz.prog 44 #[.string s,.string p] w fun e w'=>e = .returned (.bool b)∧w=w':=by
 refine (Tryz.strings_HasPrefix _ _ w).mono ?_;rintro e w' ⟨rfl,rfl⟩;exact⟨by rw[hasPrefix_pre];exact ret_bool h,rfl⟩
set_option maxRecDepth 100000 in
theorem in_of (s:ByteArray) (hn:noRad (bs s)) (w:World) (hr:RadW w) :
    Calls Tryz.prog 122 #[.string s] w fun e w'=>e = .returned tensV∧Gr w w':=by
 have r0:w.cell? ⟨6,0,none⟩=some (.string ⟨#[48,120]⟩):=hr 0 _ rfl;have r1:w.cell? ⟨6,1,none⟩=some (.int .i64 16):=hr 1 _ rfl;have r2:w.cell? ⟨6,2,none⟩=some (.string ⟨#[48,49,50,51,52,53,54,55,56,57,97,98,99,100,101,102,65,66,67,68,69,70]⟩):=hr 2 _ rfl;have r3:w.cell? ⟨6,3,none⟩=some (.string ⟨#[48,111]⟩):=hr 3 _ rfl;have r4:w.cell? ⟨6,4,none⟩=some (.int .i64 8):=hr 4 _ rfl;have r5:w.cell? ⟨6,5,none⟩=some (.string ⟨#[48,49,50,51,52,53,54,55]⟩):=hr 5 _ rfl;have r6:w.cell? ⟨6,6,none⟩=some (.string ⟨#[48,98]⟩):=hr 6 _ rfl;have r7:w.cell? ⟨6,7,none⟩=some (.int .i64 2):=hr 7 _ rfl;have r8:w.cell? ⟨6,8,none⟩=some (.string ⟨#[48,49]⟩):=hr 8 _ rfl;have hlt:6<w.heap.size:=Lib.lt_of_cell r0;have H1:=Lib.hid hn.1;have H2:=Lib.hid hn.2.1;have H3:=Lib.hid hn.2.2;have i0:∀W,(Instr.index 208 (.agg radC) (.int .i64 0)).run Tryz.prog W = .ok (.agg #[.string ⟨#[48,120]⟩,.int .i64 16,.string ⟨#[48,49,50,51,52,53,54,55,56,57,97,98,99,100,101,102,65,66,67,68,69,70]⟩]) W:=fun _=>by kernel_rfl
 have i1:∀W,(Instr.index 208 (.agg radC) (.int .i64 1)).run Tryz.prog W = .ok (.agg #[.string ⟨#[48,111]⟩,.int .i64 8,.string ⟨#[48,49,50,51,52,53,54,55]⟩]) W:=fun _=>by kernel_rfl
 have i2:∀W,(Instr.index 208 (.agg radC) (.int .i64 2)).run Tryz.prog W = .ok (.agg #[.string ⟨#[48,98]⟩,.int .i64 2,.string ⟨#[48,49]⟩]) W:=fun _=>by kernel_rfl
 unfold radC at i0 i1 i2;clear hn hr;go_enter Tryz.func122,Tryz.ntmps122;go_wp2_with fail
 go_loopw [6] (fun v wr=>∃k:Nat,v = .int .i64 k∧(k=0∨k=1∨k=2∨k=3)∧Gr (w.alloc (.cells #[.string ⟨#[]⟩,.int .i64 0,.string ⟨#[]⟩] 189)) wr) (fun v _=>3-(intOf v).toNat)
 case atStart=>exact⟨0,rfl,.inl rfl,Gr.refl _⟩
 case round =>
  obtain⟨k,rfl,hk,hg⟩:=hrel;obtain⟨hc,hf,hz⟩:=hg.use;rcases hk with rfl|rfl|rfl|rfl
  · clear hc hf;go_wp2_with (go_at_call 44;refine (prefix_whole s ⟨#[48,120]⟩ false H1.out _).mono ?_;rintro e w1 ⟨rfl,rfl⟩)
    go_roundw
    case rel=>exact⟨1,rfl,.inr (.inl rfl),hg.alloc _⟩
    case measure=>simp[intOf]
  · clear hc hf;go_wp2_with (go_at_call 44;refine (prefix_whole s ⟨#[48,111]⟩ false H2.out _).mono ?_;rintro e w1 ⟨rfl,rfl⟩)
    go_roundw
    case rel=>exact⟨2,rfl,.inr (.inr (.inl rfl)),hg.alloc _⟩
    case measure=>simp[intOf]
  · clear hc hf;go_wp2_with (go_at_call 44;refine (prefix_whole s ⟨#[48,98]⟩ false H3.out _).mono ?_;rintro e w1 ⟨rfl,rfl⟩)
    go_roundw
    case rel=>exact⟨3,rfl,.inr (.inr (.inr rfl)),hg.alloc _⟩
    case measure=>simp[intOf]
  have p0:wr.cell? ⟨w.heap.size,0,none⟩=some (.string ⟨#[]⟩):=(hc _ _ (by simp)).trans (by simp);have p1:wr.cell? ⟨w.heap.size,1,none⟩=some (.int .i64 0):=(hc _ _ (by simp)).trans (by simp);have p2:wr.cell? ⟨w.heap.size,2,none⟩=some (.string ⟨#[]⟩):=(hc _ _ (by simp)).trans (by simp);have pf:∀o,wr.frozen? ⟨w.heap.size,o,none⟩=false:=fun o=>(hf _ _ (by simp)).trans (by simp[go_sem])
  simp only[World.size_alloc]at hz;go_wp2_with (go_at_call 123;refine (in_tens _).mono ?_;rintro e w2 ⟨rfl,g2⟩;obtain⟨hc2,hf2,hz2⟩:=g2.use;have q0:w2.cell? ⟨w.heap.size,0,none⟩=some (.string ⟨#[]⟩):=(hc2 _ _ (by omega)).trans p0;have q1:w2.cell? ⟨w.heap.size,1,none⟩=some (.int .i64 0):=(hc2 _ _ (by omega)).trans p1;have q2:w2.cell? ⟨w.heap.size,2,none⟩=some (.string ⟨#[]⟩):=(hc2 _ _ (by omega)).trans p2;have qf:∀o,w2.frozen? ⟨w.heap.size,o,none⟩=false:=fun o=>(hf2 _ _ (by omega)).trans (pf o);have hlw:w.heap.size<w2.heap.size:=by omega);have hg2:Gr w w2:=(((Gr.refl w).alloc _).trans hg).trans g2;exact bodyPost_ret (v:=tensV) (by simp[results,Tryz.results122,go_sem,q0,q1,q2,qf,hlw]) rfl ⟨rfl,by (repeat refine Gr.setCell ?_ (Nat.le_refl _) _);exact hg2⟩
end Go.Proofs.YtdgjgcepbkanhaaGreatDoor
namespace Go.Proofs
open Go.Shelf
def Tryz.laysM171_ren:Go.Shelf.Ren:=⟨fun|171=>178|243=>194|246=>49|283=>71|284=>72|285=>73|286=>74|129=>94|317=>93|318=>95|319=>96|320=>97|337=>113|338=>114|n=>n,fun|3=>3|9=>9|2=>2|4=>4|171=>129|0=>0|53=>124|37=>23|5=>5|173=>132|212=>157|51=>121|20=>20|213=>158|46=>94|232=>205|233=>206|n=>n,fun|17=>1|18=>4|19=>5|n=>n⟩
theorem Tryz.laysM171:Go.Proofs.LaysM.n171 Tryz.prog Tryz.laysM171_ren:={
 mixed:=by kernel_rfl
 f129:=Tryz.func94.trans (congrArg some (by kernel_rfl))
 f171:=Tryz.func178.trans (congrArg some (by kernel_rfl))
 f243:=Tryz.func194.trans (congrArg some (by kernel_rfl))
 f246:=Tryz.func49.trans (congrArg some (by kernel_rfl))
 f283:=Tryz.func71.trans (congrArg some (by kernel_rfl))
 f284:=Tryz.func72.trans (congrArg some (by kernel_rfl))
 f285:=Tryz.func73.trans (congrArg some (by kernel_rfl))
 f286:=Tryz.func74.trans (congrArg some (by kernel_rfl))
 f317:=Tryz.func93.trans (congrArg some (by kernel_rfl))
 f318:=Tryz.func95.trans (congrArg some (by kernel_rfl))
 f319:=Tryz.func96.trans (congrArg some (by kernel_rfl))
 f320:=Tryz.func97.trans (congrArg some (by kernel_rfl))
 f337:=Tryz.func113.trans (congrArg some (by kernel_rfl))
 f338:=Tryz.func114.trans (congrArg some (by kernel_rfl))
 t0:=Tryz.underlying0
 a0:=Tryz.isAgg0
 z0:=Tryz.sizeOf0
 v0:=Tryz.zeroValue0
 t2:=Tryz.underlying2
 a2:=Tryz.isAgg2
 z2:=Tryz.sizeOf2
 v2:=Tryz.zeroValue2
 t3:=Tryz.underlying3
 a3:=Tryz.isAgg3
 z3:=Tryz.sizeOf3
 v3:=Tryz.zeroValue3
 t4:=Tryz.underlying4
 a4:=Tryz.isAgg4
 z4:=Tryz.sizeOf4
 v4:=Tryz.zeroValue4
 t5:=Tryz.underlying5
 a5:=Tryz.isAgg5
 z5:=Tryz.sizeOf5
 v5:=Tryz.zeroValue5
 t9:=Tryz.underlying9
 a9:=Tryz.isAgg9
 z9:=Tryz.sizeOf9
 v9:=Tryz.zeroValue9
 t20:=Tryz.underlying20
 a20:=Tryz.isAgg20
 z20:=Tryz.sizeOf20
 v20:=Tryz.zeroValue20
 t37:=Tryz.underlying23
 a37:=Tryz.isAgg23
 z37:=Tryz.sizeOf23
 v37:=Tryz.zeroValue23
 t46:=Tryz.underlying94
 a46:=Tryz.isAgg94
 z46:=Tryz.sizeOf94
 v46:=Tryz.zeroValue94
 t51:=Tryz.underlying121
 a51:=Tryz.isAgg121
 z51:=Tryz.sizeOf121
 v51:=Tryz.zeroValue121
 t53:=Tryz.underlying124
 a53:=Tryz.isAgg124
 z53:=Tryz.sizeOf124
 v53:=Tryz.zeroValue124
 t171:=Tryz.underlying129
 a171:=Tryz.isAgg129
 z171:=Tryz.sizeOf129
 v171:=Tryz.zeroValue129
 t173:=Tryz.underlying132
 a173:=Tryz.isAgg132
 z173:=Tryz.sizeOf132
 v173:=Tryz.zeroValue132
 t212:=Tryz.underlying157
 a212:=Tryz.isAgg157
 z212:=Tryz.sizeOf157
 v212:=Tryz.zeroValue157
 t213:=Tryz.underlying158
 a213:=Tryz.isAgg158
 z213:=Tryz.sizeOf158
 t232:=Tryz.underlying205
 a232:=Tryz.isAgg205
 z232:=Tryz.sizeOf205
 v232:=Tryz.zeroValue205
 t233:=Tryz.underlying206
 a233:=Tryz.isAgg206
 z233:=Tryz.sizeOf206
 v233:=Tryz.zeroValue206
 g17:=by kernel_rfl
 g18:=by kernel_rfl
 g19:=by kernel_rfl
 i0:=by kernel_rfl
 i2:=by kernel_rfl
 i3:=by kernel_rfl
 i4:=by kernel_rfl
 i5:=by kernel_rfl
 i9:=by kernel_rfl
 i20:=by kernel_rfl
 i37:=by kernel_rfl
 i46:=by kernel_rfl
 i51:=by kernel_rfl
 i53:=by kernel_rfl
 i171:=by kernel_rfl
 i173:=by kernel_rfl
 i212:=by kernel_rfl
 i232:=by kernel_rfl
 i233:=by kernel_rfl
 m17:=by kernel_rfl
 m18:=by kernel_rfl
 m19:=by kernel_rfl }
open Go.RowKit Go.Sort Go.Lib in
theorem Tryz.strconv_Itoa (n:Int) (h0 : -9223372036854775808≤n) (h1:n≤9223372036854775807) (w:World) (htab:Lib.TabIs Tryz.prog w "internal/strconv.uint64pow10" .u64 Lib.pow10Tab) :
    Calls Tryz.prog 178 #[.int .i64 n] w fun e w'=>e = .returned (.string ⟨(Lib.itoa n).toArray⟩)∧∃k os,w'=grow (w.drewN k) os:=Any.strconv_Itoa Tryz.laysM171 n h0 h1 w htab
def Tryz.laysM173_ren:Go.Shelf.Ren:=⟨fun|173=>21|246=>49|283=>71|284=>72|285=>73|286=>74|129=>94|317=>93|318=>95|319=>96|320=>97|337=>113|338=>114|n=>n,fun|2=>2|3=>3|9=>9|4=>4|171=>129|0=>0|53=>124|37=>23|5=>5|173=>132|212=>157|51=>121|20=>20|213=>158|46=>94|232=>205|233=>206|n=>n,fun|17=>1|18=>4|19=>5|n=>n⟩
theorem Tryz.laysM173:Go.Proofs.LaysM.n173 Tryz.prog Tryz.laysM173_ren:={
 mixed:=by kernel_rfl
 f129:=Tryz.func94.trans (congrArg some (by kernel_rfl))
 f173:=Tryz.func21.trans (congrArg some (by kernel_rfl))
 f246:=Tryz.func49.trans (congrArg some (by kernel_rfl))
 f283:=Tryz.func71.trans (congrArg some (by kernel_rfl))
 f284:=Tryz.func72.trans (congrArg some (by kernel_rfl))
 f285:=Tryz.func73.trans (congrArg some (by kernel_rfl))
 f286:=Tryz.func74.trans (congrArg some (by kernel_rfl))
 f317:=Tryz.func93.trans (congrArg some (by kernel_rfl))
 f318:=Tryz.func95.trans (congrArg some (by kernel_rfl))
 f319:=Tryz.func96.trans (congrArg some (by kernel_rfl))
 f320:=Tryz.func97.trans (congrArg some (by kernel_rfl))
 f337:=Tryz.func113.trans (congrArg some (by kernel_rfl))
 f338:=Tryz.func114.trans (congrArg some (by kernel_rfl))
 t0:=Tryz.underlying0
 a0:=Tryz.isAgg0
 z0:=Tryz.sizeOf0
 v0:=Tryz.zeroValue0
 t2:=Tryz.underlying2
 a2:=Tryz.isAgg2
 z2:=Tryz.sizeOf2
 v2:=Tryz.zeroValue2
 t3:=Tryz.underlying3
 a3:=Tryz.isAgg3
 z3:=Tryz.sizeOf3
 v3:=Tryz.zeroValue3
 t4:=Tryz.underlying4
 a4:=Tryz.isAgg4
 z4:=Tryz.sizeOf4
 v4:=Tryz.zeroValue4
 t5:=Tryz.underlying5
 a5:=Tryz.isAgg5
 z5:=Tryz.sizeOf5
 v5:=Tryz.zeroValue5
 t9:=Tryz.underlying9
 a9:=Tryz.isAgg9
 z9:=Tryz.sizeOf9
 v9:=Tryz.zeroValue9
 t20:=Tryz.underlying20
 a20:=Tryz.isAgg20
 z20:=Tryz.sizeOf20
 v20:=Tryz.zeroValue20
 t37:=Tryz.underlying23
 a37:=Tryz.isAgg23
 z37:=Tryz.sizeOf23
 v37:=Tryz.zeroValue23
 t46:=Tryz.underlying94
 a46:=Tryz.isAgg94
 z46:=Tryz.sizeOf94
 v46:=Tryz.zeroValue94
 t51:=Tryz.underlying121
 a51:=Tryz.isAgg121
 z51:=Tryz.sizeOf121
 v51:=Tryz.zeroValue121
 t53:=Tryz.underlying124
 a53:=Tryz.isAgg124
 z53:=Tryz.sizeOf124
 v53:=Tryz.zeroValue124
 t171:=Tryz.underlying129
 a171:=Tryz.isAgg129
 z171:=Tryz.sizeOf129
 v171:=Tryz.zeroValue129
 t173:=Tryz.underlying132
 a173:=Tryz.isAgg132
 z173:=Tryz.sizeOf132
 v173:=Tryz.zeroValue132
 t212:=Tryz.underlying157
 a212:=Tryz.isAgg157
 z212:=Tryz.sizeOf157
 v212:=Tryz.zeroValue157
 t213:=Tryz.underlying158
 a213:=Tryz.isAgg158
 z213:=Tryz.sizeOf158
 t232:=Tryz.underlying205
 a232:=Tryz.isAgg205
 z232:=Tryz.sizeOf205
 v232:=Tryz.zeroValue205
 t233:=Tryz.underlying206
 a233:=Tryz.isAgg206
 z233:=Tryz.sizeOf206
 v233:=Tryz.zeroValue206
 g17:=by kernel_rfl
 g18:=by kernel_rfl
 g19:=by kernel_rfl
 i0:=by kernel_rfl
 i2:=by kernel_rfl
 i3:=by kernel_rfl
 i4:=by kernel_rfl
 i5:=by kernel_rfl
 i9:=by kernel_rfl
 i20:=by kernel_rfl
 i37:=by kernel_rfl
 i46:=by kernel_rfl
 i51:=by kernel_rfl
 i53:=by kernel_rfl
 i171:=by kernel_rfl
 i173:=by kernel_rfl
 i212:=by kernel_rfl
 i232:=by kernel_rfl
 i233:=by kernel_rfl
 m17:=by kernel_rfl
 m18:=by kernel_rfl
 m19:=by kernel_rfl }
open Go.RowKit Go.Sort Go.Lib in
theorem Tryz.strconv_FormatInt_10 (n:Int) (h0 : -9223372036854775808≤n) (h1:n≤9223372036854775807) (w:World) (htab:Lib.TabIs Tryz.prog w "internal/strconv.uint64pow10" .u64 Lib.pow10Tab) :
    Calls Tryz.prog 21 #[.int .i64 n,.int .i64 10] w fun e w'=>e = .returned (.string ⟨(Lib.itoa n).toArray⟩)∧∃k os,w'=grow (w.drewN k) os:=Any.strconv_FormatInt_10 Tryz.laysM173 n h0 h1 w htab
def Tryz.laysC245_ren:Go.Shelf.Ren:=⟨fun|245=>150|279=>170|280=>171|281=>172|282=>173|316=>187|171=>178|205=>188|243=>194|246=>49|283=>71|284=>72|285=>73|286=>74|129=>94|317=>93|318=>95|319=>96|320=>97|337=>113|338=>114|n=>n,fun|9=>9|3=>3|75=>102|167=>234|4=>4|168=>237|210=>258|37=>23|0=>0|127=>127|145=>266|143=>264|2=>2|171=>129|53=>124|5=>5|173=>132|212=>157|51=>121|20=>20|213=>158|46=>94|232=>205|233=>206|80=>106|n=>n,fun|15=>9|16=>3|17=>1|18=>4|19=>5|n=>n⟩
theorem Tryz.laysC245:Go.Proofs.LaysC.n245 Tryz.prog Tryz.laysC245_ren:={
 mixed:=by kernel_rfl
 f129:=Tryz.func94.trans (congrArg some (by kernel_rfl))
 f171:=Tryz.func178.trans (congrArg some (by kernel_rfl))
 f205:=Tryz.func188.trans (congrArg some (by kernel_rfl))
 f243:=Tryz.func194.trans (congrArg some (by kernel_rfl))
 f245:=Tryz.func150.trans (congrArg some (by kernel_rfl))
 f246:=Tryz.func49.trans (congrArg some (by kernel_rfl))
 f279:=Tryz.func170.trans (congrArg some (by kernel_rfl))
 f280:=Tryz.func171.trans (congrArg some (by kernel_rfl))
 f281:=Tryz.func172.trans (congrArg some (by kernel_rfl))
 f282:=Tryz.func173.trans (congrArg some (by kernel_rfl))
 f283:=Tryz.func71.trans (congrArg some (by kernel_rfl))
 f284:=Tryz.func72.trans (congrArg some (by kernel_rfl))
 f285:=Tryz.func73.trans (congrArg some (by kernel_rfl))
 f286:=Tryz.func74.trans (congrArg some (by kernel_rfl))
 f316:=Tryz.func187.trans (congrArg some (by kernel_rfl))
 f317:=Tryz.func93.trans (congrArg some (by kernel_rfl))
 f318:=Tryz.func95.trans (congrArg some (by kernel_rfl))
 f319:=Tryz.func96.trans (congrArg some (by kernel_rfl))
 f320:=Tryz.func97.trans (congrArg some (by kernel_rfl))
 f337:=Tryz.func113.trans (congrArg some (by kernel_rfl))
 f338:=Tryz.func114.trans (congrArg some (by kernel_rfl))
 t0:=Tryz.underlying0
 a0:=Tryz.isAgg0
 z0:=Tryz.sizeOf0
 v0:=Tryz.zeroValue0
 t2:=Tryz.underlying2
 a2:=Tryz.isAgg2
 z2:=Tryz.sizeOf2
 v2:=Tryz.zeroValue2
 t3:=Tryz.underlying3
 a3:=Tryz.isAgg3
 z3:=Tryz.sizeOf3
 v3:=Tryz.zeroValue3
 t4:=Tryz.underlying4
 a4:=Tryz.isAgg4
 z4:=Tryz.sizeOf4
 v4:=Tryz.zeroValue4
 t5:=Tryz.underlying5
 a5:=Tryz.isAgg5
 z5:=Tryz.sizeOf5
 v5:=Tryz.zeroValue5
 t9:=Tryz.underlying9
 a9:=Tryz.isAgg9
 z9:=Tryz.sizeOf9
 v9:=Tryz.zeroValue9
 t20:=Tryz.underlying20
 a20:=Tryz.isAgg20
 z20:=Tryz.sizeOf20
 v20:=Tryz.zeroValue20
 t37:=Tryz.underlying23
 a37:=Tryz.isAgg23
 z37:=Tryz.sizeOf23
 v37:=Tryz.zeroValue23
 t46:=Tryz.underlying94
 a46:=Tryz.isAgg94
 z46:=Tryz.sizeOf94
 v46:=Tryz.zeroValue94
 t51:=Tryz.underlying121
 a51:=Tryz.isAgg121
 z51:=Tryz.sizeOf121
 v51:=Tryz.zeroValue121
 t53:=Tryz.underlying124
 a53:=Tryz.isAgg124
 z53:=Tryz.sizeOf124
 v53:=Tryz.zeroValue124
 t75:=Tryz.underlying102
 a75:=Tryz.isAgg102
 z75:=Tryz.sizeOf102
 v75:=Tryz.zeroValue102
 t127:=Tryz.underlying127
 a127:=Tryz.isAgg127
 z127:=Tryz.sizeOf127
 v127:=Tryz.zeroValue127
 t143:=Tryz.underlying264
 a143:=Tryz.isAgg264
 z143:=Tryz.sizeOf264
 v143:=Tryz.zeroValue264
 t145:=Tryz.underlying266
 a145:=Tryz.isAgg266
 z145:=Tryz.sizeOf266
 v145:=Tryz.zeroValue266
 t167:=Tryz.underlying234
 a167:=Tryz.isAgg234
 z167:=Tryz.sizeOf234
 v167:=Tryz.zeroValue234
 t168:=Tryz.underlying237
 a168:=Tryz.isAgg237
 z168:=Tryz.sizeOf237
 v168:=Tryz.zeroValue237
 t171:=Tryz.underlying129
 a171:=Tryz.isAgg129
 z171:=Tryz.sizeOf129
 v171:=Tryz.zeroValue129
 t173:=Tryz.underlying132
 a173:=Tryz.isAgg132
 z173:=Tryz.sizeOf132
 v173:=Tryz.zeroValue132
 t210:=Tryz.underlying258
 a210:=Tryz.isAgg258
 z210:=Tryz.sizeOf258
 v210:=Tryz.zeroValue258
 t212:=Tryz.underlying157
 a212:=Tryz.isAgg157
 z212:=Tryz.sizeOf157
 v212:=Tryz.zeroValue157
 t213:=Tryz.underlying158
 a213:=Tryz.isAgg158
 z213:=Tryz.sizeOf158
 t232:=Tryz.underlying205
 a232:=Tryz.isAgg205
 z232:=Tryz.sizeOf205
 v232:=Tryz.zeroValue205
 t233:=Tryz.underlying206
 a233:=Tryz.isAgg206
 z233:=Tryz.sizeOf206
 v233:=Tryz.zeroValue206
 g15:=by kernel_rfl
 g16:=by kernel_rfl
 g17:=by kernel_rfl
 g18:=by kernel_rfl
 g19:=by kernel_rfl
 t80:=Tryz.underlying106
 a80:=Tryz.isAgg106
 z80:=Tryz.sizeOf106
 v80:=Tryz.zeroValue106
 i0:=by kernel_rfl
 i2:=by kernel_rfl
 i3:=by kernel_rfl
 i4:=by kernel_rfl
 i5:=by kernel_rfl
 i9:=by kernel_rfl
 i20:=by kernel_rfl
 i37:=by kernel_rfl
 i46:=by kernel_rfl
 i51:=by kernel_rfl
 i53:=by kernel_rfl
 i75:=by kernel_rfl
 i80:=by kernel_rfl
 i127:=by kernel_rfl
 i143:=by kernel_rfl
 i145:=by kernel_rfl
 i167:=by kernel_rfl
 i168:=by kernel_rfl
 i171:=by kernel_rfl
 i173:=by kernel_rfl
 i210:=by kernel_rfl
 i212:=by kernel_rfl
 i232:=by kernel_rfl
 i233:=by kernel_rfl
 m15:=by kernel_rfl
 m16:=by kernel_rfl
 m17:=by kernel_rfl
 m18:=by kernel_rfl
 m19:=by kernel_rfl
 c0:=by kernel_rfl
 c2:=by kernel_rfl
 c3:=by kernel_rfl
 c4:=by kernel_rfl
 c5:=by kernel_rfl
 c9:=by kernel_rfl
 c20:=by kernel_rfl
 c37:=by kernel_rfl
 c46:=by kernel_rfl
 c51:=by kernel_rfl
 c53:=by kernel_rfl
 c75:=by kernel_rfl
 c80:=by kernel_rfl
 c127:=by kernel_rfl
 c143:=by kernel_rfl
 c145:=by kernel_rfl
 c167:=by kernel_rfl
 c168:=by kernel_rfl
 c171:=by kernel_rfl
 c173:=by kernel_rfl
 c210:=by kernel_rfl
 c212:=by kernel_rfl
 c213:=by kernel_rfl
 c232:=by kernel_rfl
 c233:=by kernel_rfl }
open Go.RowKit in
theorem Tryz.strconv_toError_syntax (fn s:ByteArray) (base bits:Int) (ev:Value) (w:World) (hlim:s.size≤281474976710656) (hv:w.cell? ⟨9,0,none⟩=some ev) (hev:ev = .nilIface∨∃te pe,ev = .iface te pe) :
    Calls Tryz.prog 150 #[.string fn,.string s,.int .i64 base,.int .i64 bits,.iface 234 (.int .i64 2)] w fun e w'=>∃N,e = .returned (.iface 237 (.pointer (some ⟨N,0,none⟩)))∧w.heap.size≤N∧w'.heap[N]?=some (.cells #[.string fn,.string s,ev] 258 (0,0))∧Below w.heap.size w w':=Any.strconv_toError_syntax Tryz.laysC245 fn s base bits ev w hlim hv hev
open Go.RowKit in
theorem Tryz.strconv_toError_range (fn s:ByteArray) (base bits:Int) (ev:Value) (w:World) (hlim:s.size≤281474976710656) (hv:w.cell? ⟨3,0,none⟩=some ev) (hev:ev = .nilIface∨∃te pe,ev = .iface te pe) :
    Calls Tryz.prog 150 #[.string fn,.string s,.int .i64 base,.int .i64 bits,.iface 234 (.int .i64 1)] w fun e w'=>∃N,e = .returned (.iface 237 (.pointer (some ⟨N,0,none⟩)))∧w.heap.size≤N∧w'.heap[N]?=some (.cells #[.string fn,.string s,ev] 258 (0,0))∧Below w.heap.size w w':=Any.strconv_toError_range Tryz.laysC245 fn s base bits ev w hlim hv hev
def Tryz.laysC174_ren:Go.Shelf.Ren:=⟨fun|174=>125|247=>149|245=>150|287=>169|279=>170|280=>171|281=>172|282=>173|321=>185|322=>186|316=>187|171=>178|205=>188|243=>194|246=>49|283=>71|284=>72|285=>73|286=>74|129=>94|317=>93|318=>95|319=>96|320=>97|337=>113|338=>114|n=>n,fun|9=>9|3=>3|2=>2|75=>102|85=>192|4=>4|167=>234|5=>5|53=>124|175=>235|46=>94|168=>237|37=>23|0=>0|210=>258|21=>21|127=>127|145=>266|143=>264|171=>129|173=>132|212=>157|51=>121|20=>20|213=>158|232=>205|233=>206|80=>106|n=>n,fun|15=>9|16=>3|17=>1|18=>4|19=>5|n=>n⟩
theorem Tryz.laysC174:Go.Proofs.LaysC.n174 Tryz.prog Tryz.laysC174_ren:={
 mixed:=by kernel_rfl
 f129:=Tryz.func94.trans (congrArg some (by kernel_rfl))
 f171:=Tryz.func178.trans (congrArg some (by kernel_rfl))
 f174:=Tryz.func125.trans (congrArg some (by kernel_rfl))
 f205:=Tryz.func188.trans (congrArg some (by kernel_rfl))
 f243:=Tryz.func194.trans (congrArg some (by kernel_rfl))
 f245:=Tryz.func150.trans (congrArg some (by kernel_rfl))
 f246:=Tryz.func49.trans (congrArg some (by kernel_rfl))
 f247:=Tryz.func149.trans (congrArg some (by kernel_rfl))
 f279:=Tryz.func170.trans (congrArg some (by kernel_rfl))
 f280:=Tryz.func171.trans (congrArg some (by kernel_rfl))
 f281:=Tryz.func172.trans (congrArg some (by kernel_rfl))
 f282:=Tryz.func173.trans (congrArg some (by kernel_rfl))
 f283:=Tryz.func71.trans (congrArg some (by kernel_rfl))
 f284:=Tryz.func72.trans (congrArg some (by kernel_rfl))
 f285:=Tryz.func73.trans (congrArg some (by kernel_rfl))
 f286:=Tryz.func74.trans (congrArg some (by kernel_rfl))
 f287:=Tryz.func169.trans (congrArg some (by kernel_rfl))
 f316:=Tryz.func187.trans (congrArg some (by kernel_rfl))
 f317:=Tryz.func93.trans (congrArg some (by kernel_rfl))
 f318:=Tryz.func95.trans (congrArg some (by kernel_rfl))
 f319:=Tryz.func96.trans (congrArg some (by kernel_rfl))
 f320:=Tryz.func97.trans (congrArg some (by kernel_rfl))
 f321:=Tryz.func185.trans (congrArg some (by kernel_rfl))
 f322:=Tryz.func186.trans (congrArg some (by kernel_rfl))
 f337:=Tryz.func113.trans (congrArg some (by kernel_rfl))
 f338:=Tryz.func114.trans (congrArg some (by kernel_rfl))
 t0:=Tryz.underlying0
 a0:=Tryz.isAgg0
 z0:=Tryz.sizeOf0
 v0:=Tryz.zeroValue0
 t2:=Tryz.underlying2
 a2:=Tryz.isAgg2
 z2:=Tryz.sizeOf2
 v2:=Tryz.zeroValue2
 t3:=Tryz.underlying3
 a3:=Tryz.isAgg3
 z3:=Tryz.sizeOf3
 v3:=Tryz.zeroValue3
 t4:=Tryz.underlying4
 a4:=Tryz.isAgg4
 z4:=Tryz.sizeOf4
 v4:=Tryz.zeroValue4
 t5:=Tryz.underlying5
 a5:=Tryz.isAgg5
 z5:=Tryz.sizeOf5
 v5:=Tryz.zeroValue5
 t9:=Tryz.underlying9
 a9:=Tryz.isAgg9
 z9:=Tryz.sizeOf9
 v9:=Tryz.zeroValue9
 t20:=Tryz.underlying20
 a20:=Tryz.isAgg20
 z20:=Tryz.sizeOf20
 v20:=Tryz.zeroValue20
 t21:=Tryz.underlying21
 a21:=Tryz.isAgg21
 z21:=Tryz.sizeOf21
 v21:=Tryz.zeroValue21
 t37:=Tryz.underlying23
 a37:=Tryz.isAgg23
 z37:=Tryz.sizeOf23
 v37:=Tryz.zeroValue23
 t46:=Tryz.underlying94
 a46:=Tryz.isAgg94
 z46:=Tryz.sizeOf94
 v46:=Tryz.zeroValue94
 t51:=Tryz.underlying121
 a51:=Tryz.isAgg121
 z51:=Tryz.sizeOf121
 v51:=Tryz.zeroValue121
 t53:=Tryz.underlying124
 a53:=Tryz.isAgg124
 z53:=Tryz.sizeOf124
 v53:=Tryz.zeroValue124
 t75:=Tryz.underlying102
 a75:=Tryz.isAgg102
 z75:=Tryz.sizeOf102
 v75:=Tryz.zeroValue102
 t85:=Tryz.underlying192
 a85:=Tryz.isAgg192
 z85:=Tryz.sizeOf192
 v85:=Tryz.zeroValue192
 t127:=Tryz.underlying127
 a127:=Tryz.isAgg127
 z127:=Tryz.sizeOf127
 v127:=Tryz.zeroValue127
 t143:=Tryz.underlying264
 a143:=Tryz.isAgg264
 z143:=Tryz.sizeOf264
 v143:=Tryz.zeroValue264
 t145:=Tryz.underlying266
 a145:=Tryz.isAgg266
 z145:=Tryz.sizeOf266
 v145:=Tryz.zeroValue266
 t167:=Tryz.underlying234
 a167:=Tryz.isAgg234
 z167:=Tryz.sizeOf234
 v167:=Tryz.zeroValue234
 t168:=Tryz.underlying237
 a168:=Tryz.isAgg237
 z168:=Tryz.sizeOf237
 v168:=Tryz.zeroValue237
 t171:=Tryz.underlying129
 a171:=Tryz.isAgg129
 z171:=Tryz.sizeOf129
 v171:=Tryz.zeroValue129
 t173:=Tryz.underlying132
 a173:=Tryz.isAgg132
 z173:=Tryz.sizeOf132
 v173:=Tryz.zeroValue132
 t175:=Tryz.underlying235
 a175:=Tryz.isAgg235
 z175:=Tryz.sizeOf235
 v175:=Tryz.zeroValue235
 t210:=Tryz.underlying258
 a210:=Tryz.isAgg258
 z210:=Tryz.sizeOf258
 v210:=Tryz.zeroValue258
 t212:=Tryz.underlying157
 a212:=Tryz.isAgg157
 z212:=Tryz.sizeOf157
 v212:=Tryz.zeroValue157
 t213:=Tryz.underlying158
 a213:=Tryz.isAgg158
 z213:=Tryz.sizeOf158
 t232:=Tryz.underlying205
 a232:=Tryz.isAgg205
 z232:=Tryz.sizeOf205
 v232:=Tryz.zeroValue205
 t233:=Tryz.underlying206
 a233:=Tryz.isAgg206
 z233:=Tryz.sizeOf206
 v233:=Tryz.zeroValue206
 g15:=by kernel_rfl
 g16:=by kernel_rfl
 g17:=by kernel_rfl
 g18:=by kernel_rfl
 g19:=by kernel_rfl
 t80:=Tryz.underlying106
 a80:=Tryz.isAgg106
 z80:=Tryz.sizeOf106
 v80:=Tryz.zeroValue106
 i0:=by kernel_rfl
 i2:=by kernel_rfl
 i3:=by kernel_rfl
 i4:=by kernel_rfl
 i5:=by kernel_rfl
 i9:=by kernel_rfl
 i20:=by kernel_rfl
 i21:=by kernel_rfl
 i37:=by kernel_rfl
 i46:=by kernel_rfl
 i51:=by kernel_rfl
 i53:=by kernel_rfl
 i75:=by kernel_rfl
 i80:=by kernel_rfl
 i85:=by kernel_rfl
 i127:=by kernel_rfl
 i143:=by kernel_rfl
 i145:=by kernel_rfl
 i167:=by kernel_rfl
 i168:=by kernel_rfl
 i171:=by kernel_rfl
 i173:=by kernel_rfl
 i175:=by kernel_rfl
 i210:=by kernel_rfl
 i212:=by kernel_rfl
 i232:=by kernel_rfl
 i233:=by kernel_rfl
 m15:=by kernel_rfl
 m16:=by kernel_rfl
 m17:=by kernel_rfl
 m18:=by kernel_rfl
 m19:=by kernel_rfl
 c0:=by kernel_rfl
 c2:=by kernel_rfl
 c3:=by kernel_rfl
 c4:=by kernel_rfl
 c5:=by kernel_rfl
 c9:=by kernel_rfl
 c20:=by kernel_rfl
 c21:=by kernel_rfl
 c37:=by kernel_rfl
 c46:=by kernel_rfl
 c51:=by kernel_rfl
 c53:=by kernel_rfl
 c75:=by kernel_rfl
 c80:=by kernel_rfl
 c85:=by kernel_rfl
 c127:=by kernel_rfl
 c143:=by kernel_rfl
 c145:=by kernel_rfl
 c167:=by kernel_rfl
 c168:=by kernel_rfl
 c171:=by kernel_rfl
 c173:=by kernel_rfl
 c175:=by kernel_rfl
 c210:=by kernel_rfl
 c212:=by kernel_rfl
 c213:=by kernel_rfl
 c232:=by kernel_rfl
 c233:=by kernel_rfl }
open Go.RowKit in
theorem Tryz.strconv_ParseInt_10_at64_ok (s:ByteArray) (hmax:s.size≤9223372036854775806) (v:Int) (h:Lib.parseIntB 64 s.data.toList = .ok v) (w:World) :
    Calls Tryz.prog 125 #[.string s,.int .i64 10,.int .i64 64] w fun e w'=>e = .returned (.tuple #[.int .i64 v,.nilIface])∧(w'=w∨∃t,w'=Lib.bytesWorld w 5 t):=Any.strconv_ParseInt_10_at64_ok Tryz.laysC174 s hmax v h w
open Go.RowKit in
theorem Tryz.strconv_ParseInt_10_at64_range (s:ByteArray) (hlim:s.size≤281474976710656) (h:Lib.parseIntB 64 s.data.toList = .range) (ev:Value) (w:World) (hv:w.cell? ⟨3,0,none⟩=some ev) (hev:ev = .nilIface∨∃te pe,ev = .iface te pe) :
    Calls Tryz.prog 125 #[.string s,.int .i64 10,.int .i64 64] w fun e w'=>∃N,e = .returned (.tuple #[.int .i64 (Lib.intSat 64 s.data.toList),.iface 237 (.pointer (some ⟨N,0,none⟩))])∧w.heap.size≤N∧w'.heap[N]?=some (.cells #[.string ⟨#[80,97,114,115,101,73,110,116]⟩,.string s,ev] 258 (0,0))∧Below w.heap.size w w':=Any.strconv_ParseInt_10_at64_range Tryz.laysC174 s hlim h ev w hv hev
def Tryz.lays143_ren:Go.Shelf.Ren:=⟨fun|143=>175|219=>191|217=>85|225=>141|224=>140|267=>198|266=>110|314=>202|n=>n,fun|9=>9|3=>3|4=>4|5=>5|46=>94|146=>122|51=>121|n=>n,fun|1=>2|n=>n⟩
theorem Tryz.lays143:Go.Proofs.Lays.n143 Tryz.prog Tryz.lays143_ren:={
 mixed:=by kernel_rfl
 f143:=Tryz.func175.trans (congrArg some (by kernel_rfl))
 f217:=Tryz.func85.trans (congrArg some (by kernel_rfl))
 f219:=Tryz.func191.trans (congrArg some (by kernel_rfl))
 f224:=Tryz.func140.trans (congrArg some (by kernel_rfl))
 f225:=Tryz.func141.trans (congrArg some (by kernel_rfl))
 f266:=Tryz.func110.trans (congrArg some (by kernel_rfl))
 f267:=Tryz.func198.trans (congrArg some (by kernel_rfl))
 f314:=Tryz.func202.trans (congrArg some (by kernel_rfl))
 t3:=Tryz.underlying3
 a3:=Tryz.isAgg3
 z3:=Tryz.sizeOf3
 v3:=Tryz.zeroValue3
 t4:=Tryz.underlying4
 a4:=Tryz.isAgg4
 z4:=Tryz.sizeOf4
 v4:=Tryz.zeroValue4
 t5:=Tryz.underlying5
 a5:=Tryz.isAgg5
 z5:=Tryz.sizeOf5
 v5:=Tryz.zeroValue5
 t9:=Tryz.underlying9
 a9:=Tryz.isAgg9
 z9:=Tryz.sizeOf9
 v9:=Tryz.zeroValue9
 t46:=Tryz.underlying94
 a46:=Tryz.isAgg94
 z46:=Tryz.sizeOf94
 v46:=Tryz.zeroValue94
 t51:=Tryz.underlying121
 a51:=Tryz.isAgg121
 z51:=Tryz.sizeOf121
 v51:=Tryz.zeroValue121
 t146:=Tryz.underlying122
 a146:=Tryz.isAgg122
 z146:=Tryz.sizeOf122
 v146:=Tryz.zeroValue122
 g1:=by kernel_rfl }
open Go.RowKit Go.Lib in
theorem Tryz.strings_Index_one (s:ByteArray) (c:UInt8) (w:World) :
    Calls Tryz.prog 175 #[.string s,.string ⟨#[c]⟩] w fun e w'=>e = .returned (.int .i64 (Lib.indexByte s.data.toList c))∧w'=w:=Any.strings_Index_one Tryz.lays143 s c w
end Go.Proofs
namespace Go.Proofs.YtdgjgcepbkanhaaGreatDoor
open Go.RowKit Go.Shelf Go.Joins
attribute [local go_sem] Oper.semAt_some
theorem sp_make (s:ByteArray) (w:World) :
    Calls Tryz.prog 147 #[.string s,.string ⟨#[95]⟩] w fun e w'=>e = .returned (.func (.func 184) #[] #[.pointer (some ⟨w.heap.size+1,0,none⟩),.pointer (some ⟨w.heap.size,0,none⟩),.pointer (some ⟨w.heap.size+1+1,0,none⟩)]) ∧
     w'=((w.alloc (.cells #[.string s] 9)).alloc (.cells #[.string ⟨#[95]⟩] 9)).alloc (.cells #[.int .i64 0] 3):=by
 go_enter Tryz.func147,Tryz.ntmps147
 go_wp2
 go_ret
 exact⟨rfl,rfl⟩
theorem KeepsOthers.of_gr {W W':World} (g:Gr W W'):KeepsOthers W W':=⟨g.size,fun k o hk _=>(g.block (Array.getElem?_eq_some_iff.1 hk).1).trans hk⟩
def isDec (c:UInt8):Bool:=decide (48≤c.toNat) && decide (c.toNat≤57)
end Go.Proofs.YtdgjgcepbkanhaaGreatDoor
namespace Go.Proofs
open Go.Shelf
def Tryz.lays155_ren:Go.Shelf.Ren:=⟨fun|155=>126|154=>151|138=>174|165=>45|143=>175|166=>46|197=>112|169=>48|195=>189|218=>190|240=>69|241=>70|219=>191|260=>137|276=>91|277=>92|217=>85|225=>141|224=>140|267=>198|266=>110|314=>202|n=>n,fun|9=>9|3=>3|4=>4|72=>99|0=>0|76=>103|105=>181|21=>21|5=>5|70=>97|20=>20|37=>23|75=>102|127=>127|164=>152|46=>94|119=>226|139=>229|138=>228|146=>122|51=>121|80=>106|n=>n,fun|1=>2|3=>7|4=>8|n=>n⟩
theorem Tryz.lays155:Go.Proofs.Lays.n155 Tryz.prog Tryz.lays155_ren:={
 mixed:=by kernel_rfl
 f138:=Tryz.func174.trans (congrArg some (by kernel_rfl))
 f143:=Tryz.func175.trans (congrArg some (by kernel_rfl))
 f154:=Tryz.func151.trans (congrArg some (by kernel_rfl))
 f155:=Tryz.func126.trans (congrArg some (by kernel_rfl))
 f165:=Tryz.func45.trans (congrArg some (by kernel_rfl))
 f166:=Tryz.func46.trans (congrArg some (by kernel_rfl))
 f169:=Tryz.func48.trans (congrArg some (by kernel_rfl))
 f195:=Tryz.func189.trans (congrArg some (by kernel_rfl))
 f197:=Tryz.func112.trans (congrArg some (by kernel_rfl))
 f217:=Tryz.func85.trans (congrArg some (by kernel_rfl))
 f218:=Tryz.func190.trans (congrArg some (by kernel_rfl))
 f219:=Tryz.func191.trans (congrArg some (by kernel_rfl))
 f224:=Tryz.func140.trans (congrArg some (by kernel_rfl))
 f225:=Tryz.func141.trans (congrArg some (by kernel_rfl))
 f240:=Tryz.func69.trans (congrArg some (by kernel_rfl))
 f241:=Tryz.func70.trans (congrArg some (by kernel_rfl))
 f260:=Tryz.func137.trans (congrArg some (by kernel_rfl))
 f266:=Tryz.func110.trans (congrArg some (by kernel_rfl))
 f267:=Tryz.func198.trans (congrArg some (by kernel_rfl))
 f276:=Tryz.func91.trans (congrArg some (by kernel_rfl))
 f277:=Tryz.func92.trans (congrArg some (by kernel_rfl))
 f314:=Tryz.func202.trans (congrArg some (by kernel_rfl))
 t0:=Tryz.underlying0
 a0:=Tryz.isAgg0
 z0:=Tryz.sizeOf0
 v0:=Tryz.zeroValue0
 t3:=Tryz.underlying3
 a3:=Tryz.isAgg3
 z3:=Tryz.sizeOf3
 v3:=Tryz.zeroValue3
 t4:=Tryz.underlying4
 a4:=Tryz.isAgg4
 z4:=Tryz.sizeOf4
 v4:=Tryz.zeroValue4
 t5:=Tryz.underlying5
 a5:=Tryz.isAgg5
 z5:=Tryz.sizeOf5
 v5:=Tryz.zeroValue5
 t9:=Tryz.underlying9
 a9:=Tryz.isAgg9
 z9:=Tryz.sizeOf9
 v9:=Tryz.zeroValue9
 t20:=Tryz.underlying20
 a20:=Tryz.isAgg20
 z20:=Tryz.sizeOf20
 v20:=Tryz.zeroValue20
 t21:=Tryz.underlying21
 a21:=Tryz.isAgg21
 z21:=Tryz.sizeOf21
 v21:=Tryz.zeroValue21
 t37:=Tryz.underlying23
 a37:=Tryz.isAgg23
 z37:=Tryz.sizeOf23
 v37:=Tryz.zeroValue23
 t46:=Tryz.underlying94
 a46:=Tryz.isAgg94
 z46:=Tryz.sizeOf94
 v46:=Tryz.zeroValue94
 t51:=Tryz.underlying121
 a51:=Tryz.isAgg121
 z51:=Tryz.sizeOf121
 v51:=Tryz.zeroValue121
 t70:=Tryz.underlying97
 a70:=Tryz.isAgg97
 z70:=Tryz.sizeOf97
 v70:=Tryz.zeroValue97
 t72:=Tryz.underlying99
 a72:=Tryz.isAgg99
 z72:=Tryz.sizeOf99
 v72:=Tryz.zeroValue99
 t75:=Tryz.underlying102
 a75:=Tryz.isAgg102
 z75:=Tryz.sizeOf102
 v75:=Tryz.zeroValue102
 t76:=Tryz.underlying103
 a76:=Tryz.isAgg103
 z76:=Tryz.sizeOf103
 v76:=Tryz.zeroValue103
 t105:=Tryz.underlying181
 a105:=Tryz.isAgg181
 z105:=Tryz.sizeOf181
 v105:=Tryz.zeroValue181
 t119:=Tryz.underlying226
 a119:=Tryz.isAgg226
 z119:=Tryz.sizeOf226
 t127:=Tryz.underlying127
 a127:=Tryz.isAgg127
 z127:=Tryz.sizeOf127
 v127:=Tryz.zeroValue127
 t138:=Tryz.underlying228
 a138:=Tryz.isAgg228
 z138:=Tryz.sizeOf228
 v138:=Tryz.zeroValue228
 t139:=Tryz.underlying229
 a139:=Tryz.isAgg229
 z139:=Tryz.sizeOf229
 v139:=Tryz.zeroValue229
 t146:=Tryz.underlying122
 a146:=Tryz.isAgg122
 z146:=Tryz.sizeOf122
 v146:=Tryz.zeroValue122
 t164:=Tryz.underlying152
 a164:=Tryz.isAgg152
 z164:=Tryz.sizeOf152
 v164:=Tryz.zeroValue152
 g1:=by kernel_rfl
 g3:=by kernel_rfl
 g4:=by kernel_rfl }
theorem Tryz.Builder_Extra_155:Builder.Extra Tryz.prog Tryz.lays155_ren:={
 sizeBuilder:=by kernel_rfl
 liesBuilder:=by kernel_rfl
 t5:=Tryz.underlying5
 a5:=Tryz.isAgg5
 z5:=Tryz.sizeOf5
 v5:=Tryz.zeroValue5
 infoByte:=by kernel_rfl
 cellsByte:=by kernel_rfl
 sizeByte:=by kernel_rfl
 neB5:=by decide }
open Go.RowKit Go.Lib in
theorem Tryz.strings_ReplaceAll (s old new:ByteArray) (m:Int) (w:World) (hs:s.size<4294967281) (hm:w.cell? ⟨2,0,none⟩=some (.int .i64 m)) (h1:1≤old.size) (hlen:s.size+Lib.countB s old*new.size≤140737488355328) :
    Calls Tryz.prog 126 #[.string s,.string old,.string new] w fun e w' =>
     e = .returned (.string ⟨(Lib.replaceAll s.data.toList old.data.toList new.data.toList).toArray⟩)∧Below w.heap.size w w':=Any.strings_ReplaceAll Tryz.lays155 Tryz.Builder_Extra_155 s old new m w hs hm h1 hlen
end Go.Proofs
namespace Go.Proofs.YtdgjgcepbkanhaaGreatDoor
open Go.RowKit Go.Shelf Go.Joins
attribute [local go_sem] Oper.semAt_some
theorem err_is_none (t:TypeId) (v:Value) (w:World):Calls Tryz.prog 127 #[.nilIface,.iface t v] w fun e w'=>e = .returned (.bool false)∧Gr w w':=by
 have q:∀W,(Go.binOp .eql 102 .nilIface (.iface t v)).run Tryz.prog W = .ok (.bool false) W:=fun W=>run_eql_iface_nil_left W t v Tryz.underlying102
 go_enter Tryz.func127,Tryz.ntmps127;go_wp2_with fail
 go_ret
 exact⟨rfl,Gr.auto⟩
structure IntW (w:World):Prop where
 rad:RadW w
 max:∃m:Int,w.cell? ⟨2,0,none⟩=some (.int .i64 m)
 err:∃p,w.cell? ⟨3,0,none⟩=some (.iface 264 (.pointer (some p)))
 pow:Lib.TabIs Tryz.prog w "internal/strconv.uint64pow10" .u64 Lib.pow10Tab
theorem IntW.gr {w w':World} (h:IntW w) (g:Gr w w'):IntW w':=by
 have hc:=g.use.1;have hl:∀ {b o:Nat} {v},w.cell? ⟨b,o,none⟩=some v→b<w.heap.size:=fun e=>Lib.lt_of_cell e
 obtain⟨m,hm⟩:=h.max;obtain⟨p,he⟩:=h.err;refine⟨fun j v hj=>(hc _ _ (hl (h.rad j v hj))).trans (h.rad j v hj),⟨m,(hc _ _ (hl hm)).trans hm⟩,⟨p,(hc _ _ (hl he)).trans he⟩,?_⟩;have hp:=h.pow;have hgn:Tryz.prog.globalNamed "internal/strconv.uint64pow10" = some 1:=by kernel_rfl
 unfold Lib.TabIs World.var? at hp ⊢;rw[hgn]at hp ⊢;simp only[Option.bind_some]at hp ⊢;have hlt:1<w.heap.size:=by
  rcases Nat.lt_or_ge 1 w.heap.size with h'|h'
  · exact h'
  rw[Array.getElem?_eq_none h']at hp;cases hp
 rw[g.block hlt];exact hp
theorem replace_low (s:ByteArray) (hz:s.size≤20000000) (w:World) (hw:IntW w) :
    Calls Tryz.prog 126 #[.string s,.string ⟨#[95]⟩,.string ⟨#[]⟩] w fun e w'=>e = .returned (.string ⟨(Lib.replaceAll (bs s) [95] []).toArray⟩)∧Gr w w':=by
 obtain⟨m,hm⟩:=hw.max;refine (Tryz.strings_ReplaceAll s ⟨#[95]⟩ ⟨#[]⟩ m w (by omega) hm (by decide) (by rw[show (⟨#[]⟩:ByteArray).size=0 from rfl];omega)).mono ?_;rintro e w' ⟨rfl,hb⟩;exact⟨rfl,hb⟩
theorem grow_gr (w:World) (k:Nat) (os):Gr w (Sort.grow (w.drewN k) os):=by
 refine⟨rfl,rfl,rfl,by simp[Sort.grow,World.drewN],fun j hj=>?_⟩;simp[Sort.grow,World.drewN,Array.getElem?_append_left hj]
theorem parse_ok (s:ByteArray) (hs:s.size≤20000000) (v:Int) (h:Lib.parseIntB 64 s.data.toList = .ok v) (w:World) :
    Calls Tryz.prog 125 #[.string s,.int .i64 10,.int .i64 64] w fun e w'=>e = .returned (.tuple #[.int .i64 v,.nilIface])∧Gr w w':=by
 refine (Tryz.strconv_ParseInt_10_at64_ok s (by omega) v h w).mono ?_;rintro e w' ⟨rfl,h⟩;refine⟨rfl,?_⟩;rcases h with rfl|⟨t,rfl⟩
 · exact Gr.refl _
 exact Lib.bytesWorld_below _ _ _
end Go.Proofs.YtdgjgcepbkanhaaGreatDoor
