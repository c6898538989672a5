/-
 The walks and plain laws that the claim rests on, part 29.
-/
import Derived.Test.YtdgjgcepbkanhaaGreatDoorM02
import Derived.Test.YtdgjgcepbkanhaaGreatDoorM25
import Derived.Test.YtdgjgcepbkanhaaGreatDoorM26
import Derived.Lib.ItoaLen
set_option maxHeartbeats 16000000
set_option linter.all false
set_option linter.unusedVariables false
set_option linter.unusedSimpArgs false
namespace Go.Proofs.YtdgjgcepbkanhaaGreatDoor
open Go.RowKit Go.Shelf Go.Joins
attribute [local go_sem] Oper.semAt_some
def decS (a:Nat) (b:Bool) (d:ByteArray) (n:Int) (w:World):Prop:=w.cell? ⟨a,0,none⟩=some (.bool b)∧w.cell? ⟨a,1,none⟩=some (.string d)∧w.cell? ⟨a,2,none⟩=some (.int .i64 n)
theorem decS.gr {a b d n w w'} (h:decS a b d n w) (g:Gr w w'):decS a b d n w':=by
 obtain⟨h0,h1,h2⟩:=h;exact⟨(g.use.1 _ _ (Lib.lt_of_cell h0)).trans h0,(g.use.1 _ _ (Lib.lt_of_cell h1)).trans h1,(g.use.1 _ _ (Lib.lt_of_cell h2)).trans h2⟩
def textL (b:Bool) (l:List UInt8) (n:Int):List UInt8:=(if b then [45] else [])++l++[101]++Lib.itoa n
theorem dc_text0 (w:World):Calls Tryz.prog 159 #[.agg #[.bool false,.string ⟨#[48]⟩,.int .i64 0]] w fun e w'=>e = .returned (.string ⟨#[48]⟩)∧Gr w w':=by
 have q:∀W,(Go.binOp .eql 224 (.agg #[.bool false,.string ⟨#[48]⟩,.int .i64 0]) (.agg #[.bool false,.string ⟨#[48]⟩,.int .i64 0])).run Tryz.prog W = .ok (.bool true) W:=fun _=>by kernel_rfl
 go_enter Tryz.func159,Tryz.ntmps159;go_wp2_with fail;exact bodyPost_ret (v := .string ⟨#[48]⟩) (by simp[results,Tryz.results159,go_sem]) rfl ⟨rfl,Gr.auto⟩
theorem dec_eql (b:Bool) (d:ByteArray) (n:Int) (h:¬bs d=[48]) (W:World):(Go.binOp .eql 224 (.agg #[.bool b,.string d,.int .i64 n]) (.agg #[.bool false,.string ⟨#[48]⟩,.int .i64 0])).run Tryz.prog W = .ok (.bool false) W:=by
 have d3:(d.toList==[48])=false:=by
  rw[Lib.toList_data]
  simpa using h
 cases b <;> go_simp
set_option maxRecDepth 100000 in
theorem dc_text (b:Bool) (d:ByteArray) (n:Int) (hz:d.size≤20000000) (hd:¬bs d=[48]) (hn0 : -9223372036854775808≤n) (hn1:n≤9223372036854775807) (w:World) (hw:IntW w) :
    Calls Tryz.prog 159 #[.agg #[.bool b,.string d,.int .i64 n]] w fun e w'=>(∃t:ByteArray,e = .returned (.string t)∧bs t=textL b (bs d) n)∧Gr w w':=by
 have q:=fun W=>dec_eql b d n hd W
 have HW:=Lib.hid hw;have HI:=Lib.hid (fun W (hW:IntW W)=>Tryz.strconv_Itoa n hn0 hn1 W hW.pow);obtain⟨I,hI⟩:∃I:ByteArray,(⟨(Lib.itoa n).toArray⟩:ByteArray)=I:=⟨_,rfl⟩
 have hbI:bs I=Lib.itoa n:=by rw[←hI,bs_of]
 have hIz:I.size≤21:=by rw[←bs_length,hbI];exact Lib.itoa_length_le n hn0 hn1
 obtain⟨P,hP⟩:∃P:ByteArray,(⟨if b then #[45] else #[]⟩:ByteArray)++d=P:=⟨_,rfl⟩
 have hbP:bs P=(if b then [45] else [])++bs d:=by rw[←hP];cases b <;> simp[bs,ByteArray.data_append]
 have hPz:P.size≤20000001:=by rw[←bs_length,hbP,List.length_append,bs_length];cases b <;> simp <;> omega
 obtain⟨Q,hQ⟩:∃Q:ByteArray,P++(⟨#[101]⟩:ByteArray)=Q:=⟨_,rfl⟩
 have hbQ:bs Q=bs P++[101]:=by rw[←hQ];simp[bs,ByteArray.data_append]
 have hQz:Q.size≤20000002:=by rw[←bs_length,hbQ,List.length_append,bs_length];simp;omega
 obtain⟨R,hR⟩:∃R:ByteArray,Q++I=R:=⟨_,rfl⟩
 have hbR:bs R=textL b (bs d) n:=by
  have:bs R=bs Q++bs I:=by rw[←hR];simp[bs,ByteArray.data_append]
  rw[this,hbQ,hbP,hbI];rfl
 have HR:=Lib.hid hbR;have hz1:¬ 9223372036854775807<d.size:=by omega
 have hz2:¬ 9223372036854775807<1+d.size:=by omega
 have hz3:¬ 9223372036854775807<P.size+1:=by omega
 have hz4:¬ 9223372036854775807<Q.size+I.size:=by omega
 have hz5:¬ 9223372036854775807<d.size+1:=by omega
 rw[hI]at HI;clear hw hd hbI hbP hbQ hbR hI;go_enter Tryz.func159,Tryz.ntmps159;cases b with
 | true =>
  have hP2:(⟨#[45]⟩:ByteArray)++d=P:=hP;clear hP;go_wp2_with fail;have hS:decS w.heap.size true d n (w.alloc (.cells #[.bool true,.string d,.int .i64 n] 224)).drew:=⟨(by show (w.alloc _).cell? _=_;simp),(by show (w.alloc _).cell? _=_;simp),(by show (w.alloc _).cell? _=_;simp)⟩
  have hG:Gr w (w.alloc (.cells #[.bool true,.string d,.int .i64 n] 224)).drew:=((Gr.refl w).alloc _).drew;refine Reg.begin' (W:=fun _=>true) (S:=decS w.heap.size true d n) (by kernel_rfl) ?_;refine Reg.ty 0 ?_;refine Reg.ty 1 ?_;refine Reg.tl 2 hS ?_ (hy:=by intro w hSw;obtain⟨q0,q1,q2⟩:=hSw;go_simp;try with_reducible rfl);refine Reg.ty 3 ?_;refine Reg.ty 4 ?_;refine Reg.ty 5 ?_;refine Reg.tl 6 hS ?_ (hy:=by intro w hSw;obtain⟨q0,q1,q2⟩:=hSw;go_simp;try with_reducible rfl);refine Reg.on 7 ?_;go_simp;refine (HI.out _ (HW.out.gr hG)).mono ?_;rintro e w1 ⟨rfl,k1,os1,rfl⟩;have hS1:=hS.gr (grow_gr _ k1 os1);have hG1:=hG.trans (grow_gr _ k1 os1);refine⟨by first|exact hS1|exact fun _=>hS1|exact fun _ _=>hS1,?_⟩;refine Reg.pt ?_;refine Reg.ty 8 ?_;refine Reg.ty 9 ?_;refine Reg.done (by kernel_rfl) ?_ _;go_wp2_with fail;exact bodyPost_ret (v := .string R) (by simp[results,Tryz.results159,go_sem]) rfl ⟨⟨R,rfl,HR.out⟩,hG1⟩
 | false =>
  have hP1:(⟨#[]⟩:ByteArray)++d=P:=hP;have hPd:d=P:=by rw[←hP1];apply ByteArray.ext;simp[ByteArray.data_append]
  subst hPd;clear hP;go_wp2_with fail;have hS:decS w.heap.size false d n (w.alloc (.cells #[.bool false,.string d,.int .i64 n] 224)).drew:=⟨(by show (w.alloc _).cell? _=_;simp),(by show (w.alloc _).cell? _=_;simp),(by show (w.alloc _).cell? _=_;simp)⟩
  have hG:Gr w (w.alloc (.cells #[.bool false,.string d,.int .i64 n] 224)).drew:=((Gr.refl w).alloc _).drew;refine Reg.begin' (W:=fun _=>true) (S:=decS w.heap.size false d n) (by kernel_rfl) ?_;refine Reg.ty 0 ?_;refine Reg.ty 1 ?_;refine Reg.tl 2 hS ?_ (hy:=by intro w hSw;obtain⟨q0,q1,q2⟩:=hSw;go_simp;try with_reducible rfl);refine Reg.ty 3 ?_;refine Reg.ty 4 ?_;refine Reg.ty 5 ?_;refine Reg.tl 6 hS ?_ (hy:=by intro w hSw;obtain⟨q0,q1,q2⟩:=hSw;go_simp;try with_reducible rfl);refine Reg.on 7 ?_;go_simp;refine (HI.out _ (HW.out.gr hG)).mono ?_;rintro e w1 ⟨rfl,k1,os1,rfl⟩;have hS1:=hS.gr (grow_gr _ k1 os1);have hG1:=hG.trans (grow_gr _ k1 os1);refine⟨by first|exact hS1|exact fun _=>hS1|exact fun _ _=>hS1,?_⟩;refine Reg.pt ?_;refine Reg.ty 8 ?_;refine Reg.ty 9 ?_;refine Reg.done (by kernel_rfl) ?_ _;go_wp2_with fail;exact bodyPost_ret (v := .string R) (by simp[results,Tryz.results159,go_sem]) rfl ⟨⟨R,rfl,HR.out⟩,hG1⟩
end Go.Proofs.YtdgjgcepbkanhaaGreatDoor
namespace Go.Proofs.YtdgjgcepbkanhaaGreatDoor
open Go.RowKit Go.Shelf Go.Joins
namespace Pl
theorem tk_len (p:UInt8→Bool) (m:Nat) (l:Bs):(tk p m l).1.length+(tk p m l).2.length=l.length:=by
 unfold tk;simp only[List.length_take,List.length_drop];have:=takeN_le p m l;omega
theorem takeWhile_all (p:UInt8→Bool):∀(l:Bs),∀c∈l.takeWhile p,p c=true:=by
 intro l
 induction l with
 | nil=>intro c hc;simp at hc
 | cons a l ih =>
  intro c hc;rw[List.takeWhile_cons]at hc
  split at hc
  · rename_i ha
    rcases List.mem_cons.1 hc with rfl|h
    · exact ha
    exact ih c h
  simp at hc
theorem tk_mem (p:UInt8→Bool) (m:Nat) (l:Bs):∀c∈(tk p m l).1,p c=true:=by
 intro c hc;have h1:(tk p m l).1=(l.takeWhile p).take (takeN p m l):=by
  unfold tk;simp only;have h2:takeN p m l≤(l.takeWhile p).length:=by unfold takeN;omega
  have h3:=List.prefix_iff_eq_take.1 (List.takeWhile_prefix p (l:=l));obtain⟨n,hn⟩:∃n,(l.takeWhile p).length=n:=⟨_,rfl⟩
  rw[hn]at h2 h3;rw[h3,List.take_take,Nat.min_eq_left h2]
 rw[h1]at hc;exact takeWhile_all p l c (List.mem_of_mem_take hc)
theorem dSplit_len (N:Nat) (l:Bs) (d:Dw) (h:dSplit N l=some d):d.whole.length+d.part.length+d.power.length≤l.length∧(∀c∈d.power,isDec c=true):=by
 unfold dSplit at h;simp only at h;simp only[Option.ite_none_left_eq_some,Option.ite_none_right_eq_some,Option.some.injEq]at h;obtain⟨_,_,rfl⟩:=h;simp only;have t1:=tk_len isMinus 1 l;generalize tk isMinus 1 l=a1 at *;have t2:=tk_len isDec N a1.2;generalize tk isDec N a1.2=a2 at *;have t3:=tk_len isDot 1 a2.2;generalize tk isDot 1 a2.2=a3 at *;have t4:∀b:Bool,(if b then ([],a3.2) else tk isDec N a3.2).1.length+(if b then ([],a3.2) else tk isDec N a3.2).2.length=a3.2.length:=by
  intro b;cases b
  · exact tk_len isDec N a3.2
  simp
 have t4:=t4 a3.1.isEmpty;generalize (if a3.1.isEmpty=true then ([],a3.2) else tk isDec N a3.2)=a4 at *;have t5:=tk_len isRaise 1 a4.2;generalize tk isRaise 1 a4.2=a5 at *;have t6:∀b:Bool,(if b then ([],a5.2) else tk isSign 1 a5.2).1.length+(if b then ([],a5.2) else tk isSign 1 a5.2).2.length=a5.2.length:=by
  intro b;cases b
  · exact tk_len isSign 1 a5.2
  simp
 have t6:=t6 a5.1.isEmpty;generalize (if a5.1.isEmpty=true then ([],a5.2) else tk isSign 1 a5.2)=a6 at *;have t7:∀b:Bool,(if b then ([],a6.2) else tk isDec N a6.2).1.length+(if b then ([],a6.2) else tk isDec N a6.2).2.length=a6.2.length∧∀c∈(if b then ([],a6.2) else tk isDec N a6.2).1,isDec c=true:=by
  intro b;cases b
  · exact⟨tk_len isDec N a6.2,tk_mem isDec N a6.2⟩
  simp
 have t7:=t7 a5.1.isEmpty;refine⟨by omega,t7.2⟩
theorem dropWhile_head (p:UInt8→Bool):∀(l:Bs) (c:UInt8) (t:Bs),l.dropWhile p=c::t→p c=false:=by
 intro l
 induction l with
 | nil=>intro c t h;simp at h
 | cons a l ih =>
  intro c t h;rw[List.dropWhile_cons]at h
  split at h
  · exact ih c t h
  rename_i ha
  simp only[List.cons.injEq]at h;rw[←h.1];simpa using ha
theorem decNum_in (neg:Bool) (p:Bs) (n:Int) (h:decNum neg p=some n) : -1000000000≤n∧n≤1000000000:=by
 unfold decNum at h;simp only[Option.ite_none_left_eq_some,Option.ite_none_right_eq_some,Option.some.injEq]at h;obtain⟨_,h1,rfl⟩:=h;unfold within at h1
 simpa using h1
theorem noughtsR_ne (l:Bs):noughtsR l≠[48]:=by
 intro h;unfold noughtsR Lib.trimRightS at h;have h2:l.reverse.dropWhile (fun c=>([48]:Bs).contains c)=[48]:=by
  have:=congrArg List.reverse h
  simpa using this
 have:=dropWhile_head _ _ _ _ h2;simp at this
end Pl
theorem post_str {X:Pl.Out Pl.Bs} {t:ByteArray} (h:X = .ok (bs t)):IntPost X (.returned (.tuple #[.string t,.int .i64 0])):=by
 rw[h];show _=_;have:(⟨(bs t).toArray⟩:ByteArray)=t:=ByteArray.ext (by simp[bs]);rw[this]
end Go.Proofs.YtdgjgcepbkanhaaGreatDoor
