/-
 The walks and plain laws that the claim rests on, part 23.
-/
import Derived.Test.YtfogfaagjpebcaaGreatDoorP00
import Derived.Test.YtfogfaagjpebcaaGreatDoorP04
import Derived.Test.YtfogfaagjpebcaaGreatDoorP17
import Derived.Test.YtfogfaagjpebcaaGreatDoorP21
import Derived.Test.YtfogfaagjpebcaaGreatDoorP22
import Derived.Test.YtfogfaagjpebcaaGreatDoorP24
import Derived.Lib.ItoaLen
set_option maxHeartbeats 16000000
set_option linter.all false
set_option linter.unusedVariables false
set_option linter.unusedSimpArgs false
namespace Go.Proofs.YtfogfaagjpebcaaGreatDoor
open Go.RowKit Go.Shelf Go.Joins
attribute [local go_sem] Oper.semAt_some
def decS (a:Nat) (b:Bool) (d:ByteArray) (n:Int) (w:World):Prop:=w.cell? ⟨a,0,none⟩=some (.bool b)∧w.cell? ⟨a,1,none⟩=some (.string d)∧w.cell? ⟨a,2,none⟩=some (.int .i64 n)
theorem decS.gr {a b d n w w'} (h:decS a b d n w) (g:Gr w w'):decS a b d n w':=by
 obtain⟨h0,h1,h2⟩:=h;exact⟨(g.use.1 _ _ (Lib.lt_of_cell h0)).trans h0,(g.use.1 _ _ (Lib.lt_of_cell h1)).trans h1,(g.use.1 _ _ (Lib.lt_of_cell h2)).trans h2⟩
def textL (b:Bool) (l:List UInt8) (n:Int):List UInt8:=(if b then [45] else [])++l++[101]++Lib.itoa n
theorem dc_text0 (w:World):Calls Tryz.prog 172 #[.agg #[.bool false,.string ⟨#[48]⟩,.int .i64 0]] w fun e w'=>e = .returned (.string ⟨#[48]⟩)∧Gr w w':=by
 have q:∀W,(Go.binOp .eql 245 (.agg #[.bool false,.string ⟨#[48]⟩,.int .i64 0]) (.agg #[.bool false,.string ⟨#[48]⟩,.int .i64 0])).run Tryz.prog W = .ok (.bool true) W:=fun _=>by kernel_rfl
 go_enter Tryz.func172,Tryz.ntmps172;go_wp2_with fail;exact bodyPost_ret (v := .string ⟨#[48]⟩) (by simp[results,Tryz.results172,go_sem]) rfl ⟨rfl,Gr.auto⟩
theorem dec_eql (b:Bool) (d:ByteArray) (n:Int) (h:¬bs d=[48]) (W:World):(Go.binOp .eql 245 (.agg #[.bool b,.string d,.int .i64 n]) (.agg #[.bool false,.string ⟨#[48]⟩,.int .i64 0])).run Tryz.prog W = .ok (.bool false) W:=by
 have d3:(d.toList==[48])=false:=by
  rw[Lib.toList_data]
  simpa using h
 cases b <;> go_simp
set_option maxRecDepth 100000 in
theorem dc_text (b:Bool) (d:ByteArray) (n:Int) (hz:d.size≤20000000) (hd:¬bs d=[48]) (hn0 : -9223372036854775808≤n) (hn1:n≤9223372036854775807) (w:World) (hw:IntW w) :
    Calls Tryz.prog 172 #[.agg #[.bool b,.string d,.int .i64 n]] w fun e w'=>(∃t:ByteArray,e = .returned (.string t)∧bs t=textL b (bs d) n)∧Gr w w':=by
 have q:=fun W=>dec_eql b d n hd W
 have HW:=Lib.hid hw;have HI:=Lib.hid (fun W (hW:IntW W)=>Tryz.strconv_Itoa n hn0 hn1 W hW.pow);obtain⟨I,hI⟩:∃I:ByteArray,(⟨(Lib.itoa n).toArray⟩:ByteArray)=I:=⟨_,rfl⟩
 have hbI:bs I=Lib.itoa n:=by rw[←hI,bs_of]
 have hIz:I.size≤21:=by rw[←bs_length,hbI];exact Lib.itoa_length_le n hn0 hn1
 obtain⟨P,hP⟩:∃P:ByteArray,(⟨if b then #[45] else #[]⟩:ByteArray)++d=P:=⟨_,rfl⟩
 have hbP:bs P=(if b then [45] else [])++bs d:=by rw[←hP];cases b <;> simp[bs,ByteArray.data_append]
 have hPz:P.size≤20000001:=by rw[←bs_length,hbP,List.length_append,bs_length];cases b <;> simp <;> omega
 obtain⟨Q,hQ⟩:∃Q:ByteArray,P++(⟨#[101]⟩:ByteArray)=Q:=⟨_,rfl⟩
 have hbQ:bs Q=bs P++[101]:=by rw[←hQ];simp[bs,ByteArray.data_append]
 have hQz:Q.size≤20000002:=by rw[←bs_length,hbQ,List.length_append,bs_length];simp;omega
 obtain⟨R,hR⟩:∃R:ByteArray,Q++I=R:=⟨_,rfl⟩
 have hbR:bs R=textL b (bs d) n:=by
  have:bs R=bs Q++bs I:=by rw[←hR];simp[bs,ByteArray.data_append]
  rw[this,hbQ,hbP,hbI];rfl
 have HR:=Lib.hid hbR;have hz1:¬ 9223372036854775807<d.size:=by omega
 have hz2:¬ 9223372036854775807<1+d.size:=by omega
 have hz3:¬ 9223372036854775807<P.size+1:=by omega
 have hz4:¬ 9223372036854775807<Q.size+I.size:=by omega
 have hz5:¬ 9223372036854775807<d.size+1:=by omega
 rw[hI]at HI;clear hw hd hbI hbP hbQ hbR hI;go_enter Tryz.func172,Tryz.ntmps172;cases b with
 | true =>
  have hP2:(⟨#[45]⟩:ByteArray)++d=P:=hP;clear hP;go_wp2_with fail;have hS:decS w.heap.size true d n (w.alloc (.cells #[.bool true,.string d,.int .i64 n] 245)).drew:=⟨(by show (w.alloc _).cell? _=_;simp),(by show (w.alloc _).cell? _=_;simp),(by show (w.alloc _).cell? _=_;simp)⟩
  have hG:Gr w (w.alloc (.cells #[.bool true,.string d,.int .i64 n] 245)).drew:=((Gr.refl w).alloc _).drew;refine Reg.begin' (W:=fun _=>true) (S:=decS w.heap.size true d n) (by kernel_rfl) ?_;exact J107
 | false =>
  have hP1:(⟨#[]⟩:ByteArray)++d=P:=hP;have hPd:d=P:=by rw[←hP1];apply ByteArray.ext;simp[ByteArray.data_append]
  subst hPd;clear hP;go_wp2_with fail;have hS:decS w.heap.size false d n (w.alloc (.cells #[.bool false,.string d,.int .i64 n] 245)).drew:=⟨(by show (w.alloc _).cell? _=_;simp),(by show (w.alloc _).cell? _=_;simp),(by show (w.alloc _).cell? _=_;simp)⟩
  have hG:Gr w (w.alloc (.cells #[.bool false,.string d,.int .i64 n] 245)).drew:=((Gr.refl w).alloc _).drew;refine Reg.begin' (W:=fun _=>true) (S:=decS w.heap.size false d n) (by kernel_rfl) ?_;exact J107
end Go.Proofs.YtfogfaagjpebcaaGreatDoor
namespace Go.Proofs.YtfogfaagjpebcaaGreatDoor
open Go.RowKit Go.Shelf Go.Joins
namespace Pl
theorem tk_len (p:UInt8→Bool) (m:Nat) (l:Bs):(tk p m l).1.length+(tk p m l).2.length=l.length:=by
 unfold tk;simp only[List.length_take,List.length_drop];have:=takeN_le p m l;omega
theorem takeWhile_all (p:UInt8→Bool):∀(l:Bs),∀c∈l.takeWhile p,p c=true:=by
 intro l
 induction l with
 | nil=>intro c hc;simp at hc
 | cons a l ih =>
  intro c hc;rw[List.takeWhile_cons]at hc
  split at hc
  · rename_i ha
    rcases List.mem_cons.1 hc with rfl|h
    · exact ha
    exact ih c h
  simp at hc
theorem tk_mem (p:UInt8→Bool) (m:Nat) (l:Bs):∀c∈(tk p m l).1,p c=true:=by
 intro c hc;have h1:(tk p m l).1=(l.takeWhile p).take (takeN p m l):=by
  unfold tk;simp only;have h2:takeN p m l≤(l.takeWhile p).length:=by unfold takeN;omega
  have h3:=List.prefix_iff_eq_take.1 (List.takeWhile_prefix p (l:=l));obtain⟨n,hn⟩:∃n,(l.takeWhile p).length=n:=⟨_,rfl⟩
  rw[hn]at h2 h3;rw[h3,List.take_take,Nat.min_eq_left h2]
 rw[h1]at hc;exact takeWhile_all p l c (List.mem_of_mem_take hc)
theorem dSplit_len (N:Nat) (l:Bs) (d:Dw) (h:dSplit N l=some d):d.whole.length+d.part.length+d.power.length≤l.length∧(∀c∈d.power,isDec c=true):=by
 unfold dSplit at h;simp only at h;simp only[Option.ite_none_left_eq_some,Option.ite_none_right_eq_some,Option.some.injEq]at h;obtain⟨_,_,rfl⟩:=h;simp only;have t1:=tk_len isMinus 1 l;generalize tk isMinus 1 l=a1 at *;have t2:=tk_len isDec N a1.2;generalize tk isDec N a1.2=a2 at *;have t3:=tk_len isDot 1 a2.2;generalize tk isDot 1 a2.2=a3 at *;have t4:∀b:Bool,(if b then ([],a3.2) else tk isDec N a3.2).1.length+(if b then ([],a3.2) else tk isDec N a3.2).2.length=a3.2.length:=by
  intro b;cases b
  · exact tk_len isDec N a3.2
  simp
 have t4:=t4 a3.1.isEmpty;generalize (if a3.1.isEmpty=true then ([],a3.2) else tk isDec N a3.2)=a4 at *;have t5:=tk_len isRaise 1 a4.2;generalize tk isRaise 1 a4.2=a5 at *;have t6:∀b:Bool,(if b then ([],a5.2) else tk isSign 1 a5.2).1.length+(if b then ([],a5.2) else tk isSign 1 a5.2).2.length=a5.2.length:=by
  intro b;cases b
  · exact tk_len isSign 1 a5.2
  simp
 have t6:=t6 a5.1.isEmpty;generalize (if a5.1.isEmpty=true then ([],a5.2) else tk isSign 1 a5.2)=a6 at *;have t7:∀b:Bool,(if b then ([],a6.2) else tk isDec N a6.2).1.length+(if b then ([],a6.2) else tk isDec N a6.2).2.length=a6.2.length∧∀c∈(if b then ([],a6.2) else tk isDec N a6.2).1,isDec c=true:=by
  intro b;cases b
  · exact⟨tk_len isDec N a6.2,tk_mem isDec N a6.2⟩
  simp
 have t7:=t7 a5.1.isEmpty;refine⟨by omega,t7.2⟩
theorem dropWhile_head (p:UInt8→Bool):∀(l:Bs) (c:UInt8) (t:Bs),l.dropWhile p=c::t→p c=false:=by
 intro l
 induction l with
 | nil=>intro c t h;simp at h
 | cons a l ih =>
  intro c t h;rw[List.dropWhile_cons]at h
  split at h
  · exact ih c t h
  rename_i ha
  simp only[List.cons.injEq]at h;rw[←h.1];simpa using ha
theorem decNum_in (neg:Bool) (p:Bs) (n:Int) (h:decNum neg p=some n) : -1000000000≤n∧n≤1000000000:=by
 unfold decNum at h;simp only[Option.ite_none_left_eq_some,Option.ite_none_right_eq_some,Option.some.injEq]at h;obtain⟨_,h1,rfl⟩:=h;unfold within at h1
 simpa using h1
theorem noughtsR_ne (l:Bs):noughtsR l≠[48]:=by
 intro h;unfold noughtsR Lib.trimRightS at h;have h2:l.reverse.dropWhile (fun c=>([48]:Bs).contains c)=[48]:=by
  have:=congrArg List.reverse h;exact J14
 have:=dropWhile_head _ _ _ _ h2;simp at this
end Pl
theorem post_str {X:Pl.Out Pl.Bs} {t:ByteArray} (h:X = .ok (bs t)):IntPost X (.returned (.tuple #[.string t,.int .i64 0])):=by
 rw[h];show _=_;have:(⟨(bs t).toArray⟩:ByteArray)=t:=ByteArray.ext (by simp[bs]);rw[this]
end Go.Proofs.YtfogfaagjpebcaaGreatDoor
namespace Go.Proofs.YtfogfaagjpebcaaGreatDoor
open Go.RowKit Go.Shelf Go.Joins
attribute [local go_sem] Oper.semAt_some
theorem fl_trimS (s T:ByteArray) (hT:⟨(Pl.unsigned (bs s)).toArray⟩=T) (w:World) :
    Calls Tryz.prog 56 #[.string s,.string ⟨#[43,45]⟩] w fun e w'=>e = .returned (.string T)∧Gr w w':=by
 refine (Any.strings_TrimLeft_laid Tryz.lays161 bool256 s ⟨#[43,45]⟩ w (by decide) (ascii_of_all (by decide))).mono ?_;rintro e w' ⟨rfl,hb⟩;exact⟨by rw[←hT];rfl,hb⟩
theorem fl_whole (s:ByteArray) (w:World) (t:ByteArray) (c:Int) (h:Calls Tryz.prog 128 #[.string s] w fun e w'=>e = .returned (.tuple #[.string t,.int .i64 c])∧Gr w w') :
    Calls Tryz.prog 150 #[.string s] w fun e w'=>e = .returned (.bool (c != 3))∧Gr w w':=by
 have H:=Lib.hid h;clear h;go_enter Tryz.func150,Tryz.ntmps150;go_wp2_with (go_at_call 128;refine H.out.mono ?_;rintro e w1 ⟨rfl,g1⟩)
 go_ret
 exact⟨rfl,g1⟩
theorem fl_wholeA (s:ByteArray) (hs:s.size≤20000000) (w:World) (hw:IntW w):Calls Tryz.prog 150 #[.string s] w fun e w'=>e = .returned (.bool (Pl.wholeI (bs s)))∧Gr w w':=by
 have h:=in_read s hs w hw;have hx:Pl.wholeI (bs s)=(match Pl.intRead (bs s) with|.ok _=>true|.bad c _=>c != 3):=rfl;cases hr:Pl.intRead (bs s) with
 | ok x =>
  rw[hr]at h hx;have h2:Calls Tryz.prog 128 #[.string s] w fun e w'=>e = .returned (.tuple #[.string ⟨x.toArray⟩,.int .i64 0])∧Gr w w':=h
  have:=fl_whole s w _ 0 h2;rw[hx];exact this
 | bad c k =>
  rw[hr]at h hx;have h2:Calls Tryz.prog 128 #[.string s] w fun e w'=>e = .returned (.tuple #[.string ⟨#[]⟩,.int .i64 (c:Int)])∧Gr w w':=h
  have:=fl_whole s w _ _ h2;rw[hx];refine this.mono ?_;rintro e w' ⟨rfl,g⟩;refine⟨?_,g⟩;congr 2;exact Bool.eq_iff_iff.2 (by simp;omega)
theorem fl_specialA (s:ByteArray) (hs:s.size≤20000000) (w:World):Calls Tryz.prog 147 #[.string s] w fun e w'=>(∃t:ByteArray,e = .returned (.string t)∧bs t=Pl.fltSpecial (bs s))∧Gr w w':=by
 obtain⟨T,hT⟩:∃T:ByteArray,⟨(Pl.unsigned (bs s)).toArray⟩=T:=⟨_,rfl⟩
 have hbT:Pl.unsigned (bs s)=bs T:=by rw[←hT,bs_of]
 have HT:=Lib.hid hT;have hF:Pl.fltSpecial (bs s)=if bs T=Pl.infB then (if 3<s.size∧(bs s)[0]?=some 45 then 45::Pl.infB else Pl.infB) else if bs T=Pl.nanB then Pl.nanB else []:=by unfold Pl.fltSpecial;rw[hbT,bs_length]
 have HF:=Lib.hid hF;clear hT hbT hF;go_enter Tryz.func147,Tryz.ntmps147;by_cases h1:bs T=Pl.infB
 · have d1:(T.toList==[105,110,102])=true:=by rw[Lib.toList_data];exact beq_iff_eq.2 h1
   have H1:=Lib.hid h1;clear h1;by_cases h3:3<s.size
   · have d2:decide ((3:Int)<(s.size:Int))=true:=by simp;omega
     have e0:0<s.size:=by omega
     have e1:(0:Int)<(s.size:Int):=by omega
     have hidx:(bs s)[0]?=some (s[0]'e0):=by have h2:=idx_bs s 0 e0;simp only[List.drop_zero]at h2;rw[h2];rfl
     have HI:=Lib.hid hidx;have H3:=Lib.hid h3;clear hidx h3;cases hz:((s[0]'e0).toNat==45) with
     | true =>
      have z1:(((s[0]'e0).toNat:Int)==45)=true:=(beqs _ 45 _ hz).1;have HZ:Hid ((bs s)[0]?=some 45):=Lib.hid (by rw[HI.out,Option.some.injEq,←UInt8.toNat_inj];simpa using hz);clear hz;go_wp2_with (go_at_call 56;refine (fl_trimS s T HT.out _).mono ?_;rintro e w1 ⟨rfl,g1⟩)
      go_ret
      exact⟨⟨_,rfl,by rw[HF.out,if_pos H1.out,if_pos ⟨H3.out,HZ.out⟩];rfl⟩,g1⟩
     | false =>
      have z1:(((s[0]'e0).toNat:Int)==45)=false:=(beqs _ 45 _ hz).1;have HZ:Hid (¬(bs s)[0]?=some 45):=Lib.hid (fun h=>by rw[HI.out,Option.some.injEq]at h;rw[h]at hz;simp at hz);clear hz;go_wp2_with (go_at_call 56;refine (fl_trimS s T HT.out _).mono ?_;rintro e w1 ⟨rfl,g1⟩)
      go_ret
      exact⟨⟨_,rfl,by rw[HF.out,if_pos H1.out,if_neg (fun h=>HZ.out h.2)];rfl⟩,g1⟩
   have d2:decide ((3:Int)<(s.size:Int))=false:=by simp;omega
   have H3:=Lib.hid h3;clear h3;go_wp2_with (go_at_call 56;refine (fl_trimS s T HT.out _).mono ?_;rintro e w1 ⟨rfl,g1⟩)
   go_ret
   exact⟨⟨_,rfl,by rw[HF.out,if_pos H1.out,if_neg (fun h=>H3.out h.1)];rfl⟩,g1⟩
 have d1:(T.toList==[105,110,102])=false:=by rw[Lib.toList_data];exact beq_eq_false_iff_ne.2 h1
 have H1:=Lib.hid h1;clear h1;by_cases h2:bs T=Pl.nanB
 · have d2:(T.toList==[110,97,110])=true:=by rw[Lib.toList_data];exact beq_iff_eq.2 h2
   have H2:=Lib.hid h2;clear h2;go_wp2_with (go_at_call 56;refine (fl_trimS s T HT.out _).mono ?_;rintro e w1 ⟨rfl,g1⟩)
   go_ret
   exact⟨⟨_,rfl,by rw[HF.out,if_neg H1.out,if_pos H2.out];rfl⟩,g1⟩
 have d2:(T.toList==[110,97,110])=false:=by rw[Lib.toList_data];exact beq_eq_false_iff_ne.2 h2
 have H2:=Lib.hid h2;clear h2;go_wp2_with (go_at_call 56;refine (fl_trimS s T HT.out _).mono ?_;rintro e w1 ⟨rfl,g1⟩)
 go_ret
 exact⟨⟨_,rfl,by rw[HF.out,if_neg H1.out,if_neg H2.out];try rfl⟩,g1⟩
end Go.Proofs.YtfogfaagjpebcaaGreatDoor
namespace Go.Proofs.YtfogfaagjpebcaaGreatDoor
open Go.RowKit Go.Shelf Go.Joins
attribute [local go_sem] Oper.semAt_some
namespace Pl
theorem indexAny_cut (p:UInt8→Bool) (cs:Bs) (hp:cs.contains=p):∀(l:Bs),(Lib.indexAny l cs = -1∧cutP p l=(l,[],false))∨(∃k:Nat,k<l.length∧Lib.indexAny l cs=(k:Int)∧cutP p l=(l.take k,l.drop (k+1),true)):=by
 intro l
 induction l with
 | nil=>left;exact⟨rfl,rfl⟩
 | cons b l ih =>
  cases hb:p b with
  | true =>
   right;refine⟨0,by simp,?_,?_⟩
   · unfold Lib.indexAny;rw[hp,hb];rfl
   unfold cutP;have h1:(b::l).dropWhile (fun c => !p c)=b::l:=by rw[List.dropWhile_cons,if_neg (by rw[hb];simp)]
   have h2:(b::l).takeWhile (fun c => !p c)=[]:=by rw[List.takeWhile_cons,if_neg (by rw[hb];simp)]
   rw[h1,h2];rfl
  | false =>
   have h1:(b::l).dropWhile (fun c => !p c)=l.dropWhile (fun c => !p c):=by rw[List.dropWhile_cons,if_pos (by rw[hb];simp)]
   have h2:(b::l).takeWhile (fun c => !p c)=b::l.takeWhile (fun c => !p c):=by rw[List.takeWhile_cons,if_pos (by rw[hb];simp)]
   have hi:Lib.indexAny (b::l) cs=if Lib.indexAny l cs == -1 then -1 else Lib.indexAny l cs+1:=by
    show (if cs.contains b then (0:Int) else _)=_;rw[hp,hb];rfl
   have hc:cutP p (b::l)=((if (cutP p l).2.2 then b::(cutP p l).1 else b::l),(cutP p l).2.1,(cutP p l).2.2):=by
    unfold cutP;rw[h1,h2];cases l.dropWhile (fun c => !p c) <;> rfl
   rcases ih with⟨h3,h4⟩|⟨k,h3,h4,h5⟩
   · left;rw[hi,h3,hc,h4];exact⟨rfl,rfl⟩
   right;refine⟨k+1,by simp;omega,?_,?_⟩
   · rw[hi,h4,if_neg (by (simp;try omega))];simp
   rw[hc,h5];rfl
end Pl
theorem fl_cutA (s cs:ByteArray) (hs:s.size≤20000000) (hc:cs.size≤20) (ha:∀(j:Nat) b,s.data.toList[j]?=some b→b.toNat<128) (hb:∀(j:Nat) b,cs.data.toList[j]?=some b→b.toNat<128)
    (p:UInt8→Bool) (hp:(bs cs).contains=p) (w:World) :
    Calls Tryz.prog 148 #[.string s,.string cs] w fun e w'=>(∃(a b:ByteArray) (c:Bool),e = .returned (.tuple #[.string a,.string b,.bool c])∧Pl.cutP p (bs s)=(bs a,bs b,c)∧a.size≤s.size∧b.size≤s.size)∧Gr w w':=by
 have HI:=Lib.hid (Any.strings_IndexAny_laid Tryz.lays153 bool256 s cs · (by omega) (by omega) ha hb);rcases Pl.indexAny_cut p (bs cs) hp (bs s) with⟨h1,h2⟩|⟨k,h0,h1,h2⟩
 · have HN:Hid (Lib.indexAny s.data.toList cs.data.toList = -1):=Lib.hid h1;have H2:=Lib.hid h2;clear ha hb hp h1 h2;go_enter Tryz.func148,Tryz.ntmps148;go_wp2_with (go_at_call 167;refine (HI.out _).mono ?_;rw[HN.out];rintro e w1 ⟨rfl,g1⟩);exact bodyPost_ret (v := .tuple #[.string s,.string ⟨#[]⟩,.bool false]) (by simp[results,Tryz.results148,go_sem]) rfl ⟨⟨s,⟨#[]⟩,false,rfl,H2.out,Nat.le_refl _,Nat.zero_le _⟩,g1⟩
 have HN:Hid (Lib.indexAny s.data.toList cs.data.toList=(k:Int)):=Lib.hid h1;have H2:=Lib.hid h2;rw[bs_length]at h0;have e1:decide ((k:Int)<0)=false:=by simp
 have e2:(0:Int)≤(k:Int):=by omega
 have e3:(k:Int)≤(s.size:Int):=by omega
 have e4:(k:Int)+1≤(s.size:Int):=by omega
 have e5:(0:Int)≤(k:Int)+1:=by omega
 have e6:=IntWalk.i64_in ((k:Int)+1) ⟨by omega,by omega⟩;have e7:((k:Int)+1).toNat=k+1:=by omega
 clear ha hb hp h1 h2;go_enter Tryz.func148,Tryz.ntmps148;go_wp2_with (go_at_call 167;refine (HI.out _).mono ?_;rw[HN.out];rintro e w1 ⟨rfl,g1⟩)
 go_quiet (fail)
 go_wp2_with fail;exact bodyPost_ret (v := .tuple #[.string (s.extract 0 k),.string (s.extract (k+1) s.size),.bool true]) (by simp[results,Tryz.results148,go_sem]) rfl ⟨⟨_,_,_,rfl,by rw[H2.out,bs_take,bs_extract],by (simp;try omega),by (simp;try omega)⟩,Gr.drewN g1 _⟩
theorem fl_rightA (b:Nat) (x0 x1 x2 x3:Bool) (w:World) (h0:w.cell? ⟨b,0,none⟩=some (.bool x0)) (h1:w.cell? ⟨b,1,none⟩=some (.bool x1)) (h2:w.cell? ⟨b,2,none⟩=some (.bool x2)) (h3:w.cell? ⟨b,3,none⟩=some (.bool x3)) :
    Calls Tryz.prog 149 #[.slice (some ⟨b,0,none⟩) 4 4] w fun e w'=>e = .returned (.bool (x0 && x1 && x2 && x3))∧w'=w:=by
 have hx:∀j:Nat,j<4→∃x,w.cell? ⟨b,j,none⟩=some (.bool x)∧[x0,x1,x2,x3][j]?=some x:=fun j hj=>by
  match j,hj with
  | 0,_=>exact⟨x0,h0,rfl⟩
  | 1,_=>exact⟨x1,h1,rfl⟩
  | 2,_=>exact⟨x2,h2,rfl⟩
  | 3,_=>exact⟨x3,h3,rfl⟩
 have HX:=Lib.hid hx;have HV:Hid ((x0 && x1 && x2 && x3)=[x0,x1,x2,x3].all id):=Lib.hid (by simp[Bool.and_assoc]);obtain⟨V,hV⟩:∃V,(x0 && x1 && x2 && x3)=V:=⟨_,rfl⟩
 rw[hV]at HV ⊢;obtain⟨L,hL⟩:∃L,[x0,x1,x2,x3]=L:=⟨_,rfl⟩
 have hLl:L.length=4:=by rw[←hL];rfl
 rw[hL]at HX HV;have HLL:=Lib.hid hLl;clear hx h0 h1 h2 h3 hV hL hLl;go_enter Tryz.func149,Tryz.ntmps149;go_wp2_with fail
 go_loopw [7] (fun v wr=>∃k:Nat,v = .int .i64 k∧k≤4∧(L.take k).all id=true∧wr=w) (fun v _=>4-(intOf v).toNat)
 case atStart=>exact⟨0,rfl,by omega,rfl,rfl⟩
 case round =>
  obtain⟨k,rfl,hk,hall,rfl⟩:=hrel;have HA:=Lib.hid hall;clear hall;by_cases h4:k<4
  · have d1:decide (k<4)=true:=by simpa using h4
    obtain⟨x,hc,hx⟩:=HX.out k h4;have k1:(0:Int)≤(k:Int):=by omega
    have k2:(k:Int)<4:=by omega
    have k3:IntKind.i64.wrap ((k:Int)+1)=(k:Int)+1:=IntWalk.i64_in _ ⟨by omega,by omega⟩;have HH:=Lib.hid hx;clear hx;cases x with
    | true =>
     go_wp2_with fail;refine⟨⟨k+1,by simp,by omega,?_,trivial⟩,by simp[intOf];omega⟩;rw[List.take_add_one,HH.out];simp[HA.out]
    | false =>
     have hV:V=false:=by rw[HV.out,List.all_eq_false];exact⟨false,List.mem_of_getElem? HH.out,by simp⟩
     subst hV;exact J9
  obtain rfl:k=4:=by omega
  have hV:V=true:=by rw[HV.out,←HA.out,List.take_of_length_le (by rw[HLL.out];omega)]
  subst hV;exact J9
end Go.Proofs.YtfogfaagjpebcaaGreatDoor
namespace Go.Proofs.YtfogfaagjpebcaaGreatDoor
open Go.RowKit Go.Shelf Go.Joins
attribute [local go_sem] Oper.semAt_some
set_option maxRecDepth 100000 in
theorem fl_digits0 (s:ByteArray) (hs:s.size≤20000000) (w:World) :
    Calls Tryz.prog 151 #[.string s] w fun e w'=>e = .returned (.bool (Pl.rightD (bs decD).contains (bs s)))∧Gr w w':=by
 refine (callsIn_wide (n:=6)).1 ?_;refine callsIn_of_wp_marks Tryz.func151 rfl trivial ?_ rfl;simp only[Tryz.ntmps151,List.size_toArray,List.length_cons,List.length_nil,Nat.reduceAdd,Nat.reduceSub,Array.replicate_succ,Array.replicate_zero,List.push_toArray,List.append_toArray,List.nil_append,List.cons_append]
 gi_wp2_with (refine⟨trivial,?_⟩;gi_at_call 160;refine (callsIn_wide.2 (sp_make s _)).mono ?_;rintro e w' ⟨rfl,rfl⟩)
 obtain⟨W0,hW0⟩:∃W0,((((w.alloc (.cells #[.bool false] 4)).alloc (.cells #[.string s] 9)).alloc (.cells #[.string ⟨#[95]⟩] 9)).alloc (.cells #[.int .i64 0] 3))=W0:=⟨_,rfl⟩
 have hsz:W0.heap.size=w.heap.size+1+1+1+1:=by rw[←hW0];simp only[World.size_alloc]
 have hG0:Gr w W0:=by rw[←hW0];exact ((((Gr.refl w).alloc _).alloc _).alloc _).alloc _
 have b1:W0.heap[w.heap.size]?=some (.cells #[.bool false] 4 (0,0)):=by
  rw[←hW0];exact ((((Gr.refl (w.alloc _)).alloc _).alloc _).alloc _).block (by simp) |>.trans (heap_alloc_new w _)
 have b2:W0.heap[w.heap.size+1]?=some (.cells #[.string s] 9 (0,0)):=by
  rw[←hW0];refine (((Gr.refl ((w.alloc _).alloc _)).alloc _).alloc _).block (by simp) |>.trans ?_;have:=heap_alloc_new (w.alloc (.cells #[.bool false] 4)) (.cells #[.string s] 9);exact J41
 have b3:W0.heap[w.heap.size+1+1]?=some (.cells #[.string ⟨#[95]⟩] 9 (0,0)):=by
  rw[←hW0];refine ((Gr.refl (((w.alloc _).alloc _).alloc _)).alloc _).block (by simp) |>.trans ?_;have:=heap_alloc_new ((w.alloc (.cells #[.bool false] 4)).alloc (.cells #[.string s] 9)) (.cells #[.string ⟨#[95]⟩] 9);exact J41
 have b4:W0.heap[w.heap.size+1+1+1]?=some (.cells #[.int .i64 0] 3 (0,0)):=by
  rw[←hW0];have:=heap_alloc_new (((w.alloc (.cells #[.bool false] 4)).alloc (.cells #[.string s] 9)).alloc (.cells #[.string ⟨#[95]⟩] 9)) (.cells #[.int .i64 0] 3);exact J41
 rw[hW0];clear hW0;have HB4:=Lib.hid b4;clear b4;refine range_own (C:=fun r=>r=w.heap.size+1+1∨r=w.heap.size+1∨r=w.heap.size+1+1+1) (by rintro r (rfl|rfl|rfl) <;> omega) rfl (by omega) (gf:=195) (lb:=#[.pointer (some ⟨w.heap.size+1+1,0,none⟩),.pointer (some ⟨w.heap.size+1,0,none⟩),.pointer (some ⟨w.heap.size+1+1+1,0,none⟩)]) rfl trivial (enters_of Tryz.func195 (by kernel_rfl) rfl)
  (split_seq 5 (by omega) (w.heap.size+1+1) (w.heap.size+1) (w.heap.size+1+1+1) s hs W0 (by omega) (by omega) b3 b2 HB4.out) (fun _=>rfl)
  (fun pre W=>(∀p∈pre,goodP decD p.1)∧W.heap[w.heap.size]?=some (.cells #[.bool false] 4 (0,0))∧W0.heap.size≤W.heap.size∧Below w.heap.size w W)
  (fun c pre W=>c = .ret∧(∃p∈pre,¬goodP decD p.1)∧W.heap[w.heap.size]?=some (.cells #[.bool false] 4 (0,0))∧Below w.heap.size w W)
  (fun pre A B row hs hg hr=>⟨hs.1,cells_turn (w:=w) hs.2.1 (by omega) (by omega) hg hr,Nat.le_trans hs.2.2.1 hg.size,below_turn (by rintro r (rfl|rfl|rfl) <;> omega) (by omega) hs.2.2.2 hg hr⟩)
  (fun c pre A B row hs hg hr=>⟨hs.1,hs.2.1,cells_turn (w:=w) hs.2.2.1 (by omega) (by omega) hg hr,below_turn (by rintro r (rfl|rfl|rfl) <;> omega) (by omega) hs.2.2.2 hg hr⟩)
  ⟨fun p hp=>(by cases hp),b1,Nat.le_refl _,hG0⟩
  (fun x:SubB s.size=>{ tmps:=#[.string s,undef,.pointer (some ⟨w.heap.size,0,none⟩),.string x.1,.string s,.func (.func 195) #[] #[.pointer (some ⟨w.heap.size+1+1,0,none⟩),.pointer (some ⟨w.heap.size+1,0,none⟩),.pointer (some ⟨w.heap.size+1+1+1,0,none⟩)],.string x.1,undef,undef,undef,undef,undef,undef,undef],defers:=[] }) ?assign ?body ?done ?stop
 case assign =>
  intro l x W K hK
  gi_wp2
  exact hK
 case body =>
  rintro l pre ⟨x,hxs⟩ W ⟨hgood,hb1,hsW,hB⟩ hlen;dsimp only;have kr:W.cell? ⟨w.heap.size,0,none⟩=some (.bool false):=by rw[cell_of_block hb1];rfl
  have kf:W.frozen? ⟨w.heap.size,0,none⟩=false:=unfrozen_of_block hb1 0;by_cases hx:x.toList=[]
  · have hbad:¬goodP decD x:=fun h=>h.1 hx
    have HB:=Lib.hid hbad;obtain rfl:x=⟨#[]⟩:=by
     apply ByteArray.ext;apply Array.toList_inj.1;rw[←Lib.toList_data];exact hx
    clear hbad hx
    gi_wp2_with fail
    refine⟨trivial,?_⟩
    gi_wp2_with fail
    refine⟨KeepsOthers.setCell _ _ _,rfl,⟨(⟨⟨#[]⟩,hxs⟩:SubB s.size),by simp,HB.out⟩,?_,hB.setCell (p:=⟨w.heap.size,0,none⟩) (by simp) _⟩;have:=block_setCell (i:=0) hb1 (.bool false);exact J14
  have he:x.toList.isEmpty=false:=by simpa using hx
  have hxz:x.size≤20000000:=by omega
  obtain⟨b,hb⟩:∃b,((bs x).all fun c=>(bs decD).contains c)=b:=⟨_,rfl⟩
  have HT:=Lib.hid (trim_set x decD hxz (by decide) (ascii_of_all (by decide)) b hb);have HX:=Lib.hid hx;have HBB:=Lib.hid hb;clear hb hx;cases b with
  | true =>
   have hgx:goodP decD x:=⟨HX.out,HBB.out⟩
   have HG:Hid (∀p∈pre++[(⟨x,hxs⟩:SubB s.size)],goodP decD p.1):=fun p hp=>by
    rcases List.mem_append.1 hp with hp|hp
    · exact hgood p hp
    rw[List.mem_singleton]at hp;rw[hp];exact hgx
   clear hgx hgood
   gi_wp2_with (refine⟨trivial,?_⟩;gi_at_call 161;refine (CallsIn.inRound l (callsIn_wide.2 (HT.out _))).mono ?_;rintro e w1 ⟨⟨t,rfl,t1,t2,t3⟩,g1⟩;have t4:=t2 rfl;clear t2 t3)
   refine⟨KeepsOthers.of_gr g1,fun r hr=>g1.block (by rcases hr with rfl|rfl|rfl <;> omega),HG.out,(g1.block (by omega)).trans hb1,Nat.le_trans hsW g1.size,hB.trans (Below.mono g1 hB.size)⟩
  | false =>
   have HB:Hid (¬goodP decD x):=fun h=>by have:=h.2;rw[HBB.out]at this;cases this
   clear hgood
   gi_wp2_with (refine⟨trivial,?_⟩;gi_at_call 161;refine (CallsIn.inRound l (callsIn_wide.2 (HT.out _))).mono ?_;rintro e w1 ⟨⟨t,rfl,t1,t2,t3⟩,g1⟩;have t4:=t3 rfl;clear t2 t3;have kr1:w1.cell? ⟨w.heap.size,0,none⟩=some (.bool false):=(g1.use.1 _ _ (by omega)).trans kr;have kf1:w1.frozen? ⟨w.heap.size,0,none⟩=false:=(g1.use.2.1 _ _ (by omega)).trans kf)
   refine⟨(KeepsOthers.of_gr g1).trans (KeepsOthers.setCell _ _ _),rfl,⟨(⟨x,hxs⟩:SubB s.size),by simp,HB.out⟩,?_,(hB.trans (Below.mono g1 hB.size)).setCell (p:=⟨w.heap.size,0,none⟩) (by simp) _⟩;have:=block_setCell (i:=0) ((g1.block (by omega)).trans hb1) (.bool false);exact J14
 case done =>
  rintro D ys W hD hys ⟨hgood,hb1,hsW,hB⟩ hK;have hval:Pl.rightD (bs decD).contains (bs s)=true:=(right_all decD s ys hys).2 hgood;have kr:W.cell? ⟨w.heap.size,0,none⟩=some (.bool false):=by rw[cell_of_block hb1];rfl
  have kf:W.frozen? ⟨w.heap.size,0,none⟩=false:=unfrozen_of_block hb1 0;have HV:=Lib.hid hval;clear hgood hval hys
  gi_wp2
  have hK':=(KeepsOthers.setCell W ⟨w.heap.size,0,none⟩ (.bool true)).same D _ hK rfl;refine⟨by simp,.inl ⟨_,_,rfl,run_takeDeferred hK',?_⟩⟩;have hc5:=cell_kept (World.cell?_setCell_same' W ⟨w.heap.size,0,none⟩ (.bool true) (by rw[kr];rfl)) (grownBy_putObj' _ D (.deferred none)) (fun r e=>by cases e;exact⟨_,hK',rfl⟩);refine⟨.bool true,?_,by rw[HV.out],(hB.setCell (p:=⟨w.heap.size,0,none⟩) (by simp) _).trans (belowK_b (w:=w) (Nat.le_refl _) _ D _ _ (by omega) hK' rfl rfl)⟩;simp[results,Tryz.f151,go_sem,hc5]
 case stop =>
  rintro D c pre W hD ⟨suf,hsuf⟩ ⟨rfl,⟨p,hp,hbad⟩,hb1,hB⟩ hK;have hval:Pl.rightD (bs decD).contains (bs s)=false:=right_bad decD s pre suf hsuf p hp hbad;have kr:W.cell? ⟨w.heap.size,0,none⟩=some (.bool false):=by rw[cell_of_block hb1];rfl
  have HV:=Lib.hid hval;clear hbad hval hsuf hp
  gi_wp2
  refine Z176 ?_;intro hc5;simp[results,Tryz.f151,go_sem,hc5]
theorem fl_digits (s:ByteArray) (hs:s.size≤20000000) (w:World):Calls Tryz.prog 151 #[.string s] w fun e w'=>e = .returned (.bool (Pl.rightD isDec (bs s)))∧Gr w w':=by
 have h:=fl_digits0 s hs w;rw[show (bs decD).contains=isDec from funext Pl.dec_mem]at h;exact h
end Go.Proofs.YtfogfaagjpebcaaGreatDoor
namespace Go.Proofs.YtfogfaagjpebcaaGreatDoor
open Go.RowKit Go.Shelf Go.Joins
set_option maxRecDepth 100000 in
theorem dc_read (s:ByteArray) (hs:s.size≤20000000) (w:World) (hw:IntW w):Calls Tryz.prog 153 #[.string s] w fun e w'=>IntPost (Pl.decRead (bs s)) e∧Gr w w':=by
 have hx:Pl.decRead (bs s)=Pl.decRead (bs s):=rfl;have heq:=Pl.dSplit_eq s.size (bs s) (by rw[bs_length];exact Nat.le_refl _);have HE:=Lib.hid heq;have HW:=Lib.hid hw;clear hx heq hw;go_enter Tryz.func153,Tryz.ntmps153;go_wp2_with fail;refine (dc_split s hs _).mono ?_;rintro e w1 ⟨hp,g1⟩;cases hd:Pl.dSplit s.size (bs s) with
 | none =>
  unfold SplitPost at hp;rw[hd]at hp;obtain⟨b0,b5,b6,a1,a2,a3,a4,rfl⟩:=hp;have HX:Hid (Pl.decRead (bs s) = .bad 3 0):=Lib.hid (by unfold Pl.decRead;rw[HE.out,hd];rfl);clear hd;go_wp2_with fail;exact bodyPost_ret (v := .tuple #[.string ⟨#[]⟩,.int .i64 3]) (by simp[results,Tryz.results153,go_sem]) rfl ⟨post_bad HX.out,Gr.auto⟩
 | some d =>
  unfold SplitPost at hp;rw[hd]at hp;obtain⟨b5,b6,a1,a2,a3,a4,rfl,h1,h2,h3,h4⟩:=hp;obtain⟨hlen,hdig⟩:=Pl.dSplit_len _ _ _ hd;rw[←h1,←h2,←h4,bs_length,bs_length,bs_length,bs_length]at hlen;rw[←h4]at hdig;have HX:Hid (Pl.decSplit (bs s)=some ⟨d.minus,bs a1,bs a2,decide (bs a3=[45]),bs a4⟩):=Lib.hid (by rw[HE.out,hd,h1,h2,h3,h4];rfl);have HN:=Lib.hid (fun W=>dc_number d.minus b5 b6 a1 a2 a3 a4 (by omega) hdig W);obtain⟨m,hm⟩:∃m,d.minus=m:=⟨_,rfl⟩
  rw[hm]at HX HN ⊢;clear hd h1 h2 h3 h4 hdig hm;go_wp2_with fail;refine (HN.out _).mono ?_;rintro e w2 ⟨hq,g2⟩;have hG2:Gr w w2:=(g1.alloc _).trans g2;have c0:w2.cell? ⟨w1.heap.size,0,none⟩=some (.bool m):=(g2.use.1 _ _ (by simp)).trans (by simp);have c1:w2.cell? ⟨w1.heap.size,1,none⟩=some (.string a1):=(g2.use.1 _ _ (by simp)).trans (by simp);have c2:w2.cell? ⟨w1.heap.size,2,none⟩=some (.string a2):=(g2.use.1 _ _ (by simp)).trans (by simp);clear g2;cases hn:Pl.decNum (decide (bs a3=[45])) (bs a4) with
  | none =>
   unfold numPost at hq;rw[hn]at hq;obtain⟨n,rfl⟩:=hq;have HY:Hid (Pl.decRead (bs s) = .bad 7 0):=Lib.hid (by unfold Pl.decRead;rw[HX.out];simp only;rw[hn]);clear hn;go_wp2_with fail;exact bodyPost_ret (v := .tuple #[.string ⟨#[]⟩,.int .i64 7]) (by simp[results,Tryz.results153,go_sem]) rfl ⟨post_bad HY.out,hG2⟩
  | some n =>
   unfold numPost at hq;rw[hn]at hq;have he:e = .returned (.tuple #[.int .i64 n,.bool true]):=hq;clear hq;subst he;obtain⟨hn1,hn2⟩:=Pl.decNum_in _ _ _ hn;obtain⟨S,hS⟩:∃S:ByteArray,a1++a2=S:=⟨_,rfl⟩
   have hbS:bs S=bs a1++bs a2:=by rw[←hS];simp[bs,ByteArray.data_append]
   have hSz:S.size≤20000000:=by rw[←bs_length,hbS,List.length_append,bs_length,bs_length];omega
   have hcz:¬ 9223372036854775807<a1.size+a2.size:=by omega
   have hw1:=IntWalk.i64_in (n-(a2.size:Int)) ⟨by omega,by omega⟩;have HNm:=Lib.hid (fun W=>dc_normal m S (n-(a2.size:Int)) hSz ⟨by omega,by omega⟩ W);have hY:Pl.decRead (bs s)=(if Pl.noughtsR (Pl.noughts (bs S))=[] then .ok [48] else if Pl.within (normE (bs S) (n-(a2.size:Int)))=true then .ok (textL m (Pl.noughtsR (Pl.noughts (bs S))) (normE (bs S) (n-(a2.size:Int)))) else .bad 7 0):=by
    unfold Pl.decRead;rw[HX.out];simp only;rw[hn];simp only;rw[←hbS];by_cases hsh:Pl.noughtsR (Pl.noughts (bs S))=[]
    · rw[if_pos hsh,if_pos hsh]
    rw[if_neg hsh,if_neg hsh];unfold normE textL;rw[if_neg hsh,bs_length]
   have HY:=Lib.hid hY;have hE : -9223372036854775808≤normE (bs S) (n-(a2.size:Int))∧normE (bs S) (n-(a2.size:Int))≤9223372036854775807:=by
    unfold normE;have h5:=Pl.noughts_len (bs S);have h6:=Pl.noughtsR_len (Pl.noughts (bs S));rw[bs_length]at h5
    split <;> omega
   have hL:(normL (bs S)).length≤20000000:=by
    unfold normL;have h5:=Pl.noughts_len (bs S);have h6:=Pl.noughtsR_len (Pl.noughts (bs S));rw[bs_length]at h5
    split
    · simp
    omega
   have HL:=Lib.hid hL;clear hn hbS hY hL HN;go_wp2_with fail;refine (HNm.out _).mono ?_;rintro e w3 ⟨⟨dd,rfl,hdd⟩,g3⟩;have hG3:=hG2.trans g3;have HD:=Lib.hid hdd;have hddz:dd.size≤20000000:=by rw[←bs_length,hdd];exact HL.out
   clear hdd g3 c0 c1 c2 hG2 HNm HL;by_cases hsh:Pl.noughtsR (Pl.noughts (bs S))=[]
   · have h1:normB m (bs S)=false:=by unfold normB;rw[if_pos hsh]
     have h2:normE (bs S) (n-(a2.size:Int))=0:=by unfold normE;rw[if_pos hsh]
     have h3:dd=⟨#[48]⟩:=by
      have h4:=HD.out;unfold normL at h4;rw[if_pos hsh]at h4;exact ByteArray.ext (Array.toList_inj.1 h4)
     have HZ:Hid (Pl.decRead (bs s) = .ok (bs ⟨#[48]⟩)):=Lib.hid (by rw[HY.out,if_pos hsh];try rfl);rw[h1,h2];subst h3;clear hsh h1 h2 hE;go_wp2_with fail;refine (dc_within 0 _).mono ?_;refine Z48 ?_;have hw0:Pl.within 0=true:=by decide
     go_wp2_with fail;refine (dc_text0 _).mono ?_;rintro e w5 ⟨rfl,g5⟩;go_wp2_with fail;exact bodyPost_ret (v := .tuple #[.string ⟨#[48]⟩,.int .i64 0]) (by simp[results,Tryz.results153,go_sem]) rfl ⟨post_str HZ.out,(hG3.alloc _).trans g5⟩
   have h1:normB m (bs S)=m:=by unfold normB;rw[if_neg hsh]
   have hdd:bs dd=Pl.noughtsR (Pl.noughts (bs S)):=by
    have h4:=HD.out;unfold normL at h4;rw[if_neg hsh]at h4;exact h4
   have hne:¬bs dd=[48]:=by rw[hdd];exact Pl.noughtsR_ne _
   rw[h1];obtain⟨x,hx⟩:∃x,normE (bs S) (n-(a2.size:Int))=x:=⟨_,rfl⟩
   rw[hx]at hE ⊢;have hZ:Pl.decRead (bs s)=if Pl.within x=true then .ok (textL m (bs dd) x) else .bad 7 0:=by rw[HY.out,if_neg hsh,hx,←hdd]
   have HZ:=Lib.hid hZ;have HT:=Lib.hid (fun W (hW:IntW W)=>dc_text m dd x hddz hne hE.1 hE.2 W hW);clear hZ hx hsh h1 hdd hne HD HY;cases hwi:Pl.within x with
   | false =>
    have HB:Hid (Pl.decRead (bs s) = .bad 7 0):=Lib.hid (by rw[HZ.out,hwi];rfl);go_wp2_with fail;refine (dc_within x _).mono ?_;refine Z48 ?_;go_wp2_with fail;exact bodyPost_ret (v := .tuple #[.string ⟨#[]⟩,.int .i64 7]) (by simp[results,Tryz.results153,go_sem]) rfl ⟨post_bad HB.out,hG3.alloc _⟩
   | true =>
    have HB:Hid (Pl.decRead (bs s) = .ok (textL m (bs dd) x)):=Lib.hid (by rw[HZ.out,hwi];rfl);go_wp2_with fail;refine (dc_within x _).mono ?_;refine Z48 ?_;go_wp2_with fail;refine (HT.out _ (HW.out.gr (hG3.alloc _))).mono ?_;rintro e w5 ⟨⟨t,rfl,ht⟩,g5⟩;have HQ:Hid (Pl.decRead (bs s) = .ok (bs t)):=Lib.hid (by rw[HB.out,ht]);clear ht;go_wp2_with fail;exact bodyPost_ret (v := .tuple #[.string t,.int .i64 0]) (by simp[results,Tryz.results153,go_sem]) rfl ⟨post_str HQ.out,(hG3.alloc _).trans g5⟩
end Go.Proofs.YtfogfaagjpebcaaGreatDoor
namespace Go.Proofs.YtfogfaagjpebcaaGreatDoor
open Go.RowKit Go.Shelf Go.Joins
attribute [local go_sem] Oper.semAt_some
theorem fl_right4 (b:Nat) (x0 x1 x2 x3 V:Bool) (hV:(x0 && x1 && x2 && x3)=V) (w:World) (h0:w.cell? ⟨b,0,none⟩=some (.bool x0)) (h1:w.cell? ⟨b,1,none⟩=some (.bool x1)) (h2:w.cell? ⟨b,2,none⟩=some (.bool x2)) (h3:w.cell? ⟨b,3,none⟩=some (.bool x3)) :
    Calls Tryz.prog 149 #[.slice (some ⟨b,0,none⟩) 4 4] w fun e w'=>e = .returned (.bool V)∧w'=w:=by
 subst hV;exact fl_rightA b x0 x1 x2 x3 w h0 h1 h2 h3
theorem fl_power (s:ByteArray) (hs:s.size≤20000000) (w:World):Calls Tryz.prog 152 #[.string s] w fun e w'=>e = .returned (.bool (Pl.power (bs s)))∧Gr w w':=by
 rcases str_em s with⟨h1,h2,h3⟩|⟨h1,h2,h3⟩
 · have h4:bs s=[]:=List.isEmpty_iff.1 h3;have HX:Hid (Pl.power (bs s)=Pl.rightD isDec (bs s)):=Lib.hid (by unfold Pl.power;rw[h4];rfl);have HD:=Lib.hid (fl_digits s hs);clear h4;exact J171
 refine Z217 ?_;intro e0 e1;have hh:=idx_bs s 0 e0;simp only[List.drop_zero]at hh;obtain⟨r,hr⟩:∃r,s.extract 1 s.size=r:=⟨_,rfl⟩
 have hrb:bs r=(bs s).drop 1:=by rw[←hr,bs_extract]
 have hrz:r.size≤20000000:=by rw[←hr];simp;omega
 have HR:=Lib.hid (fl_digits r hrz);have HD:=Lib.hid (fl_digits s hs);have k1:(1:Int)≤(s.size:Int):=by omega
 cases hz:((s[0]'e0).toNat==43) with
 | true =>
  have z1:(((s[0]'e0).toNat:Int)==43)=true:=(beqs _ 43 _ hz).1;have HX:Hid (Pl.power (bs s)=Pl.rightD isDec (bs r)):=Lib.hid (by
   unfold Pl.power;have:Pl.heads Pl.isSign (bs s)=true:=by rw[hh];simp only[Pl.heads,Pl.isSign];rw[show ((s[0]'e0).toNat==43)=true from hz];rfl
   rw[if_pos this,hrb])
  clear hz hh hrb h3;exact J170
 | false =>
  have z1:(((s[0]'e0).toNat:Int)==43)=false:=(beqs _ 43 _ hz).1;cases hy:((s[0]'e0).toNat==45) with
  | true =>
   have z2:(((s[0]'e0).toNat:Int)==45)=true:=(beqs _ 45 _ hy).1;have HX:Hid (Pl.power (bs s)=Pl.rightD isDec (bs r)):=Lib.hid (by
    unfold Pl.power;have:Pl.heads Pl.isSign (bs s)=true:=by rw[hh];simp only[Pl.heads,Pl.isSign];rw[show ((s[0]'e0).toNat==45)=true from hy];simp
    rw[if_pos this,hrb])
   clear hz hy hh hrb h3;exact J170
  | false =>
   have z2:(((s[0]'e0).toNat:Int)==45)=false:=(beqs _ 45 _ hy).1;have HX:Hid (Pl.power (bs s)=Pl.rightD isDec (bs s)):=Lib.hid (by
    unfold Pl.power;have:Pl.heads Pl.isSign (bs s)=false:=by rw[hh];simp only[Pl.heads,Pl.isSign];rw[show ((s[0]'e0).toNat==43)=false from hz,show ((s[0]'e0).toNat==45)=false from hy];rfl
    rw[if_neg (by rw[this];simp)])
   clear hz hy hh hrb h3 HR;exact J171
namespace Pl
theorem cutP_mem (p:UInt8→Bool) (l a b:Bs) (c:Bool) (h:cutP p l=(a,b,c)):∀x∈a,x∈l:=by
 unfold cutP at h
 split at h
 · cases h;exact fun x hx=>hx
 cases h;exact fun x hx=>(List.takeWhile_sublist _).subset hx
theorem flt_eq (l rest e n part:Bs) (ra pt:Bool) (h1:cutP isRaise l=(rest,e,ra)) (h2:cutP isDot rest=(n,part,pt)) (hs:¬(fltSpecial l≠[]∧l.length-(unsigned l).length<2)) :
    fltRead l=if ((pt || ra) && wholeI n && (!pt || rightD isDec part) && (!ra || power e))=true then decRead (Lib.trimPrefix (lowless l) [43]) else .bad 3 0:=by
 unfold fltRead;rw[if_neg hs,h1];simp only;rw[h2];simp only;congr 2;cases lowless l with
 | nil=>rfl
 | cons c t =>
  unfold Lib.trimPrefix Lib.hasPrefix;by_cases hc:c=43
  · subst hc;simp
  have:(List.isPrefixOf [43] (c::t))=false:=by simp[List.isPrefixOf];intro e;exact hc e.symm
  rw[if_neg (by rw[this];simp)]
  split
  · rename_i heq;cases heq;exact absurd rfl hc
  rfl
set_option maxRecDepth 100000 in
theorem raise_mem:(bs ⟨#[101,69]⟩).contains=isRaise:=funext fun c=>by
 have h:∀n:Fin 256,(bs ⟨#[101,69]⟩).contains (UInt8.ofNat n.1)=isRaise (UInt8.ofNat n.1):=by decide
 simpa using h ⟨c.toNat,UInt8.toNat_lt c⟩
set_option maxRecDepth 100000 in
theorem dot_mem:(bs ⟨#[46]⟩).contains=isDot:=funext fun c=>by
 have h:∀n:Fin 256,(bs ⟨#[46]⟩).contains (UInt8.ofNat n.1)=isDot (UInt8.ofNat n.1):=by decide
 simpa using h ⟨c.toNat,UInt8.toNat_lt c⟩
end Pl
set_option maxRecDepth 100000 in
theorem fl_Read (s:ByteArray) (hs:s.size≤20000000) (ha:∀c∈bs s,c.toNat<128) (w:World) (hw:IntW w) :
    Calls Tryz.prog 129 #[.string s] w fun e w'=>IntPost (Pl.fltRead (bs s)) e∧Gr w w':=by
 obtain⟨T,hT⟩:∃T:ByteArray,⟨(Pl.unsigned (bs s)).toArray⟩=T:=⟨_,rfl⟩
 have hTb:Pl.unsigned (bs s)=bs T:=by rw[←hT,bs_of]
 have hTz:T.size≤s.size:=by rw[←bs_length,←hTb,←bs_length];exact (List.dropWhile_sublist _).length_le
 have hTu:s.size-T.size=(bs s).length-(Pl.unsigned (bs s)).length:=by rw[hTb,bs_length,bs_length]
 have hw1:IntKind.i64.wrap ((s.size:Int)-(T.size:Int))=((s.size-T.size:Nat):Int):=by rw[IntWalk.i64_in _ ⟨by omega,by omega⟩];omega
 have HT:=Lib.hid hT;have HW:=Lib.hid hw;have HA:=Lib.hid ha;have HU:=Lib.hid hTu;clear hT hTb hw ha hTu;have HS:=Lib.hid (fl_specialA s hs);have HC1:=Lib.hid (fun W=>fl_cutA s ⟨#[101,69]⟩ hs (by decide) (low128 HA.out) (ascii_of_all (by decide)) Pl.isRaise Pl.raise_mem W);by_cases hsp:Pl.fltSpecial (bs s)≠[]∧s.size-T.size<2
 · have HX:Hid (Pl.fltRead (bs s) = .ok (Pl.fltSpecial (bs s))):=Lib.hid (by unfold Pl.fltRead;rw[if_pos ⟨hsp.1,by rw[←HU.out];exact hsp.2⟩]);have d1:decide (((s.size-T.size:Nat):Int)<2)=true:=by simp;omega
   have HN:=Lib.hid hsp.1;clear hsp HC1;go_enter Tryz.func129,Tryz.ntmps129;go_wp2_with (go_at_call 56;refine (fl_trimS s T HT.out _).mono ?_;rintro e w1 ⟨rfl,g1⟩);refine (HS.out _).mono ?_;rintro e w2 ⟨⟨t,rfl,ht⟩,g2⟩;have q1:¬t.toList=[]:=by rw[Lib.toList_data];show ¬bs t=[];rw[ht];exact HN.out
   have q2:t.toList.isEmpty=false:=by simpa using q1
   have HY:Hid (Pl.fltRead (bs s) = .ok (bs t)):=Lib.hid (by rw[HX.out,ht]);clear ht;go_wp2_with fail;exact bodyPost_ret (v := .tuple #[.string t,.int .i64 0]) (by simp[results,Tryz.results129,go_sem]) rfl ⟨post_str HY.out,Gr.auto⟩
 have HX0:=Lib.hid (fun rest e n part ra pt h1 h2=>Pl.flt_eq (bs s) rest e n part ra pt h1 h2 (by rw[←HU.out];exact hsp));have hc:(Pl.fltSpecial (bs s)=[])∨(Pl.fltSpecial (bs s)≠[]∧decide (((s.size-T.size:Nat):Int)<2)=false):=by
  by_cases h:Pl.fltSpecial (bs s)=[]
  · exact .inl h
  refine .inr ⟨h,?_⟩;have:¬s.size-T.size<2:=fun h2=>hsp ⟨h,h2⟩
  simp;omega
 have HCC:=Lib.hid hc;clear hsp hc;go_enter Tryz.func129,Tryz.ntmps129;go_wp2_with (go_at_call 56;refine (fl_trimS s T HT.out _).mono ?_;rintro e w1 ⟨rfl,g1⟩);refine (HS.out _).mono ?_;rintro e w2 ⟨⟨t,rfl,ht⟩,g2⟩;have ht2:(t.toList=[]∧t.toList.isEmpty=true)∨(¬t.toList=[]∧t.toList.isEmpty=false∧decide (((s.size-T.size:Nat):Int)<2)=false):=by
  rcases HCC.out with h|⟨h,h2⟩
  · left;have:t.toList=[]:=by rw[Lib.toList_data];show bs t=[];rw[ht,h]
    exact⟨this,by rw[this];rfl⟩
  right;have:¬t.toList=[]:=by rw[Lib.toList_data];show ¬bs t=[];rw[ht];exact h
  exact⟨this,by simpa using this,h2⟩
 have hG2:Gr w w2:=g1.trans g2;clear ht HCC g1 g2 HS;rcases ht2 with⟨q1,q2⟩|⟨q1,q2,q3⟩
 all_goals
  go_wp2_with fail;refine (HC1.out _).mono ?_;rintro e w3 ⟨⟨rest,ee,ra,rfl,hc1,hz1,hz2⟩,g3⟩;have hr128:∀c∈bs rest,c.toNat<128:=fun c hc=>HA.out c (Pl.cutP_mem _ _ _ _ _ hc1 c hc)
  have HC2:=Lib.hid (fun W=>fl_cutA rest ⟨#[46]⟩ (by omega) (by decide) (low128 hr128) (ascii_of_all (by decide)) Pl.isDot Pl.dot_mem W);have H1:=Lib.hid hc1;clear hc1 hr128;go_wp2_with fail;refine (HC2.out _).mono ?_;rintro e w4 ⟨⟨n,part,pt,rfl,hc2,hz3,hz4⟩,g4⟩;have hX:=HX0.out _ _ _ _ _ _ H1.out hc2;have hG4:Gr w w4:=(hG2.trans g3).trans g4;have HG2:=Lib.hid hG2;clear H1 hc2 HC2 g3 g4 HX0 hG2;obtain⟨bw,hbw⟩:∃b,Pl.wholeI (bs n)=b:=⟨_,rfl⟩
  obtain⟨bd,hbd⟩:∃b,Pl.rightD isDec (bs part)=b:=⟨_,rfl⟩
  obtain⟨bp,hbp⟩:∃b,Pl.power (bs ee)=b:=⟨_,rfl⟩
  have HWn:=Lib.hid (fl_wholeA n (by omega));have HDg:=Lib.hid (fl_digits part (by omega));have HPw:=Lib.hid (fl_power ee (by omega));rw[hbw]at HWn hX;rw[hbd]at HDg hX;rw[hbp]at HPw hX;have HX:=Lib.hid hX;clear hbw hbd hbp hX;cases ra with
  | false =>
   cases pt with
   | false =>
    go_wp2_with fail;refine Z289 ?_;intro w5 g5;obtain⟨V,hV⟩:∃V,(false && bw && true && true)=V:=⟨_,rfl⟩
    have HVV:=Lib.hid hV;go_wp2_with fail;refine (fl_right4 _ false bw true true V hV _ (by simp) (by simp) (by simp) (by simp)).mono ?_;exact J49
   | true =>
    go_wp2_with fail;refine Z289 ?_;intro w5 g5;go_wp2_with fail;refine (HDg.out _).mono ?_;rintro e w51 ⟨rfl,g51⟩;obtain⟨V,hV⟩:∃V,(true && bw && bd && true)=V:=⟨_,rfl⟩
    have HVV:=Lib.hid hV;go_wp2_with fail;refine (fl_right4 _ true bw bd true V hV _ (by simp) (by simp) (by simp) (by simp)).mono ?_;exact J49
  | true =>
   cases pt with
   | false =>
    go_wp2_with fail;refine Z289 ?_;intro w5 g5;go_wp2_with fail;refine (HPw.out _).mono ?_;rintro e w52 ⟨rfl,g52⟩;obtain⟨V,hV⟩:∃V,(true && bw && true && bp)=V:=⟨_,rfl⟩
    have HVV:=Lib.hid hV;go_wp2_with fail;refine (fl_right4 _ true bw true bp V hV _ (by simp) (by simp) (by simp) (by simp)).mono ?_;exact J49
   | true =>
    go_wp2_with fail;refine Z289 ?_;intro w5 g5;go_wp2_with fail;refine (HDg.out _).mono ?_;rintro e w51 ⟨rfl,g51⟩;go_wp2_with fail;refine (HPw.out _).mono ?_;rintro e w52 ⟨rfl,g52⟩;obtain⟨V,hV⟩:∃V,(true && bw && bd && bp)=V:=⟨_,rfl⟩
    have HVV:=Lib.hid hV;go_wp2_with fail;refine (fl_right4 _ true bw bd bp V hV _ (by simp) (by simp) (by simp) (by simp)).mono ?_;exact J49
end Go.Proofs.YtfogfaagjpebcaaGreatDoor
