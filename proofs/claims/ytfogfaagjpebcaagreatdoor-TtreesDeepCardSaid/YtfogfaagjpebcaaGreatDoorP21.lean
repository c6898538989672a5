/-
 The walks and plain laws that the claim rests on, part 21.
-/
import Derived.Test.YtfogfaagjpebcaaGreatDoorP00
import Derived.Test.YtfogfaagjpebcaaGreatDoorP04
import Derived.Test.YtfogfaagjpebcaaGreatDoorP06
import Derived.Test.YtfogfaagjpebcaaGreatDoorP09
import Derived.Test.YtfogfaagjpebcaaGreatDoorP17
import Derived.Test.YtfogfaagjpebcaaGreatDoorP19
import Derived.Test.YtfogfaagjpebcaaGreatDoorP20
import Derived.Deep.DeepCutAuto
import Derived.Lib.Atoi
set_option maxHeartbeats 16000000
set_option linter.all false
set_option linter.unusedVariables false
set_option linter.unusedSimpArgs false
namespace Go.Proofs.YtfogfaagjpebcaaGreatDoor
open Go.RowKit Go.Joins
theorem str_em (x:ByteArray):(x.toList=[]∧x.toList.isEmpty=true∧(bs x).isEmpty=true)∨(¬x.toList=[]∧x.toList.isEmpty=false∧(bs x).isEmpty=false):=by
 exact J117
theorem bs_of (l:List UInt8):bs ⟨l.toArray⟩=l:=by simp[bs]
theorem trim0 (s T:ByteArray) (hT:⟨(Pl.noughts (bs s)).toArray⟩=T) (w:World):Calls Tryz.prog 56 #[.string s,.string ⟨#[48]⟩] w fun e w'=>e = .returned (.string T)∧w'=w:=by
 refine (Any.strings_TrimLeft_one Tryz.lays161 s 48 (by decide) w).mono ?_;refine Z48 ?_;refine⟨?_,rfl⟩;rw[←hT];have:Lib.trimLeftB s.data.toList 48=Pl.noughts (bs s):=by
  unfold Pl.noughts Lib.trimLeftS Lib.trimLeftB;congr 1
  funext c
  exact Bool.eq_iff_iff.2 (by simp)
 rw[this]
theorem trim0R (s T:ByteArray) (hs:s.size≤20000000) (hT:⟨(Pl.noughtsR (bs s)).toArray⟩=T) (w:World):Calls Tryz.prog 158 #[.string s,.string ⟨#[48]⟩] w fun e w'=>e = .returned (.string T)∧w'=w:=by
 refine (Any.strings_TrimRight_one Tryz.lays162 s 48 (by decide) w (by omega)).mono ?_;refine Z48 ?_;refine⟨?_,rfl⟩;rw[←hT];have:Lib.trimRightB s.data.toList 48=Pl.noughtsR (bs s):=by
  unfold Pl.noughtsR Lib.trimRightS Lib.trimRightB;congr 2
  funext c
  exact Bool.eq_iff_iff.2 (by simp)
 rw[this]
namespace Pl
theorem decFrom_val:∀(l:Bs) (a:Nat),(∀c∈l,isDec c=true)→Lib.decFrom a l=some (l.foldl (fun a c=>a*10+(c.toNat-48)) a):=by
 intro l
 induction l with
 | nil=>intro a _;rfl
 | cons c l ih =>
  intro a h;have hc:=h c (by simp);simp only[isDec,Bool.and_eq_true,decide_eq_true_eq]at hc;unfold Lib.decFrom Lib.digitVal;rw[if_pos hc];simp only[List.foldl_cons];exact ih _ (fun d hd=>h d (List.mem_cons_of_mem _ hd))
theorem decVal_lt:∀(l:Bs) (a:Nat),(∀c∈l,isDec c=true)→l.foldl (fun a c=>a*10+(c.toNat-48)) a<(a+1)*10 ^ l.length:=by
 intro l
 induction l with
 | nil=>intro a _;simp
 | cons c l ih =>
  intro a h;have hc:=h c (by simp);simp only[isDec,Bool.and_eq_true,decide_eq_true_eq]at hc;simp only[List.foldl_cons,List.length_cons];refine Nat.lt_of_lt_of_le (ih _ (fun d hd=>h d (List.mem_cons_of_mem _ hd))) ?_;rw[Nat.pow_succ,Nat.mul_comm (10 ^ l.length) 10,←Nat.mul_assoc];exact Nat.mul_le_mul_right _ (by omega)
theorem noughts_mem (l:Bs) (c:UInt8) (h:c∈noughts l):c∈l:=(List.dropWhile_sublist _).subset h
theorem noughts_len (l:Bs):(noughts l).length≤l.length:=(List.dropWhile_sublist _).length_le
theorem noughtsR_len (l:Bs):(noughtsR l).length≤l.length:=by
 unfold noughtsR Lib.trimRightS;rw[List.length_reverse];have:=(List.dropWhile_sublist (l:=l.reverse) (fun c=>([48]:Bs).contains c)).length_le;rw[List.length_reverse]at this;exact this
theorem atoi_zero (l:Bs) (h:∀c∈l,isDec c=true):Lib.atoi (48::l)=some (decVal l:Int):=by
 have h1:Lib.atoi (48::l)=(Lib.decNat (48::l)).map fun (m:Nat)=>(m:Int):=rfl
 rw[h1];unfold Lib.decNat;have h2:Lib.decFrom 0 (48::l)=Lib.decFrom 0 l:=rfl;rw[if_neg (by simp),h2,decFrom_val l 0 h];rfl
end Pl
theorem dc_within (n:Int) (w:World):Calls Tryz.prog 171 #[.int .i64 n] w fun e w'=>e = .returned (.bool (Pl.within n))∧w'=w:=by
 have hx:Pl.within n=(decide (-1000000000≤n) && decide (n≤1000000000)):=rfl;have HX:=Lib.hid hx;clear hx;go_enter Tryz.func171,Tryz.ntmps171;by_cases h1 : -1000000000≤n
 · have d1:decide (n ≥ -1000000000)=true:=by simpa using h1
   by_cases h2:n≤1000000000
   · have d2:decide (n≤1000000000)=true:=by simpa using h2
     go_wp2_with fail
     go_ret
     rw[HX.out];simp[h1,h2]
   have d2:decide (n≤1000000000)=false:=by simpa using h2
   go_wp2_with fail
   go_ret
   rw[HX.out];simp[h1,h2]
 have d1:decide (n ≥ -1000000000)=false:=by simpa using h1
 go_wp2_with fail
 go_ret
 rw[HX.out,show decide (-1000000000≤n)=false by simpa using h1];simp
def numPost (X:Option Int) (e:Ending):Prop:=match X with
 | none=>∃n:Int,e = .returned (.tuple #[.int .i64 n,.bool false])
 | some n=>e = .returned (.tuple #[.int .i64 n,.bool true])
theorem dec_num (neg:Bool) (p:List UInt8) (h:¬ 12<(Pl.noughts p).length) (n:Int) (hn:n=if neg then -(Pl.decVal (Pl.noughts p):Int) else (Pl.decVal (Pl.noughts p):Int)) (e:Ending) (he:e = .returned (.tuple #[.int .i64 n,.bool (Pl.within n)])):numPost (Pl.decNum neg p) e:=by
 unfold Pl.decNum;rw[if_neg h];subst he;simp only[←hn];cases hw:Pl.within n with
 | true=>rw[if_pos rfl];rfl
 | false=>rw[if_neg (by simp)];exact⟨n,rfl⟩
set_option maxRecDepth 100000 in
theorem dc_number (b0 b5 b6:Bool) (a1 a2 a3 a4:ByteArray) (hz:a4.size≤20000000) (hd:∀c∈bs a4,isDec c=true) (w:World) :
    Calls Tryz.prog 169 #[.agg #[.bool b0,.string a1,.string a2,.string a3,.string a4,.bool b5,.bool b6]] w fun e w'=>numPost (Pl.decNum (decide (bs a3=[45])) (bs a4)) e∧Gr w w':=by
 obtain⟨T,hT⟩:∃T:ByteArray,⟨(Pl.noughts (bs a4)).toArray⟩=T:=⟨_,rfl⟩
 have hbT:Pl.noughts (bs a4)=bs T:=by rw[←hT,bs_of]
 have HT:=Lib.hid hT;have HB:=Lib.hid hbT;have HD:Hid (∀c∈bs T,isDec c=true):=Lib.hid (fun c hc=>hd c (Pl.noughts_mem _ _ (by rw[hbT];exact hc)));clear hT hbT hd;go_enter Tryz.func169,Tryz.ntmps169;by_cases hl:12<T.size
 · have d1:decide ((12:Int)<(T.size:Int))=true:=by simp;omega
   go_wp2_with (go_at_call 56;refine (trim0 a4 T HT.out _).mono ?_;rintro e w1 ⟨rfl,rfl⟩);refine bodyPost_ret (v := .tuple #[.int .i64 0,.bool false]) (by simp[results,Tryz.results169,go_sem]) rfl ⟨?_,Gr.auto⟩;unfold Pl.decNum;rw[if_pos (by rw[HB.out,bs_length];exact hl)];exact⟨0,rfl⟩
 have d1:decide ((12:Int)<(T.size:Int))=false:=by simp;omega
 have hv:Pl.decVal (bs T)<1*10 ^ 12:=Nat.lt_of_lt_of_le (Pl.decVal_lt (bs T) 0 HD.out) (Nat.mul_le_mul_left _ (Nat.pow_le_pow_right (by omega) (by rw[bs_length];omega)));have hnb:¬ 9223372036854775807<1+T.size:=by omega
 obtain⟨U,hU⟩:∃U:ByteArray,(⟨#[48]⟩:ByteArray)++T=U:=⟨_,rfl⟩
 have hUb:bs U=48::bs T:=by rw[←hU];simp[bs,ByteArray.data_append]
 have hUz:U.size≤18:=by rw[←bs_length,hUb,List.length_cons,bs_length];omega
 obtain⟨m,hm⟩:∃m,Pl.decVal (bs T)=m:=⟨_,rfl⟩
 have hat:Lib.atoi U.data.toList=some (m:Int):=by
  show Lib.atoi (bs U)=_;rw[hUb,←hm];exact Pl.atoi_zero _ HD.out
 have HA:∀W,Calls Tryz.prog 155 #[.string U] W fun e w'=>e = .returned (.tuple #[.int .i64 (m:Int),.nilIface])∧Gr W w':=fun W=>by
  refine (Tryz.strconv_Atoi U (m:Int) hUz hat W).mono ?_;rintro e w' ⟨rfl,t,rfl⟩;exact⟨rfl,gr_bytesWorld W 5 t⟩
 have HA2:=Lib.hid HA;rw[hm]at hv;have HM:=Lib.hid hm;have hv1:(m:Int)<1000000000000:=by omega
 have hv2:(0:Int)≤(m:Int):=by omega
 have hv3 : -(m:Int)≤9223372036854775807:=by omega
 have hv4 : -9223372036854775808 ≤ -(m:Int):=by omega
 clear HA hat hUb hUz hm hv;have HN:Hid (¬ 12<(Pl.noughts (bs a4)).length):=Lib.hid (by rw[HB.out,bs_length];exact hl);go_wp2_with (go_at_call 56;refine (trim0 a4 T HT.out _).mono ?_;rintro e w1 ⟨rfl,rfl⟩);refine (HA2.out _).mono ?_;rintro e w2 ⟨rfl,g2⟩;have hG:Gr w w2:=((Gr.refl w).alloc _).trans g2;have hc:w2.cell? ⟨w.heap.size,3,none⟩=some (.string a3):=(g2.use.1 _ _ (by simp)).trans (by simp);clear g2;by_cases h3:a3=⟨#[45]⟩
 · subst h3;go_wp2_with fail;refine (dc_within _ _).mono ?_;refine Z48 ?_;go_wp2_with fail;refine bodyPost_ret (v := .tuple #[.int .i64 (-(m:Int)),.bool (Pl.within (-(m:Int)))]) (by simp[results,Tryz.results169,go_sem]) rfl ⟨dec_num _ _ HN.out _ ?_ _ rfl,hG⟩;rw[HB.out,HM.out];rfl
 have hb3:¬bs a3=[45]:=fun h=>h3 (ByteArray.ext (Array.toList_inj.1 h))
 have d3:(a3.toList==[45])=false:=by
  rw[Lib.toList_data]
  simpa using hb3
 have HZ:=Lib.hid hb3;clear hb3 h3;go_wp2_with fail;refine (dc_within _ _).mono ?_;refine Z48 ?_;go_wp2_with fail;refine bodyPost_ret (v := .tuple #[.int .i64 (m:Int),.bool (Pl.within (m:Int))]) (by simp[results,Tryz.results169,go_sem]) rfl ⟨dec_num _ _ HN.out _ ?_ _ rfl,hG⟩;rw[HB.out,HM.out,decide_eq_false HZ.out];rfl
def normB (b:Bool) (l:List UInt8):Bool:=if Pl.noughtsR (Pl.noughts l)=[] then false else b
def normL (l:List UInt8):List UInt8:=if Pl.noughtsR (Pl.noughts l)=[] then [48] else Pl.noughtsR (Pl.noughts l)
def normE (l:List UInt8) (e:Int):Int:=if Pl.noughtsR (Pl.noughts l)=[] then 0 else e+(Pl.noughts l).length-(Pl.noughtsR (Pl.noughts l)).length
set_option maxRecDepth 100000 in
theorem dc_normal (b:Bool) (s:ByteArray) (n:Int) (hs:s.size≤20000000) (hn : -2000000000≤n∧n≤2000000000) (w:World) :
    Calls Tryz.prog 170 #[.bool b,.string s,.int .i64 n] w fun e w'=>(∃d:ByteArray,e = .returned (.agg #[.bool (normB b (bs s)),.string d,.int .i64 (normE (bs s) n)])∧bs d=normL (bs s))∧Gr w w':=by
 obtain⟨T,hT⟩:∃T:ByteArray,⟨(Pl.noughts (bs s)).toArray⟩=T:=⟨_,rfl⟩
 have hbT:Pl.noughts (bs s)=bs T:=by rw[←hT,bs_of]
 have hTz:T.size≤20000000:=by have:=Pl.noughts_len (bs s);rw[hbT,bs_length,bs_length]at this;omega
 obtain⟨U,hU⟩:∃U:ByteArray,⟨(Pl.noughtsR (bs T)).toArray⟩=U:=⟨_,rfl⟩
 have hbU:Pl.noughtsR (bs T)=bs U:=by rw[←hU,bs_of]
 have hUz:U.size≤T.size:=by have:=Pl.noughtsR_len (bs T);rw[hbU,bs_length,bs_length]at this;omega
 have HT:=Lib.hid hT;have HU:=Lib.hid hU;have hb:Pl.noughtsR (Pl.noughts (bs s))=bs U:=by rw[hbT,hbU]
 have HBT:=Lib.hid hbT;have HB:=Lib.hid hb;clear hT hU hbT hbU hb;obtain⟨hn1,hn2⟩:=hn;have hw1:=IntWalk.i64_in (n+(T.size:Int)) ⟨by omega,by omega⟩;have hw2:=IntWalk.i64_in (n+(T.size:Int)-(U.size:Int)) ⟨by omega,by omega⟩;go_enter Tryz.func170,Tryz.ntmps170;rcases str_em U with⟨e1,e2,e3⟩|⟨e1,e2,e3⟩
 · have E:Hid (bs U=[]):=Lib.hid (List.isEmpty_iff.1 e3);clear e3;go_wp2_with (first|(go_at_call 56;refine (trim0 s T HT.out _).mono ?_;rintro e w1 ⟨rfl,rfl⟩)|(go_at_call 158;refine (trim0R T U hTz HU.out _).mono ?_;rintro e w2 ⟨rfl,rfl⟩));refine bodyPost_ret (v := .agg #[.bool false,.string ⟨#[48]⟩,.int .i64 0]) (by simp[results,Tryz.results170,go_sem]) rfl ⟨⟨⟨#[48]⟩,?_,?_⟩,?_⟩
   · unfold normB normE;rw[HB.out,if_pos E.out,if_pos E.out]
   · unfold normL;rw[HB.out,if_pos E.out];try rfl
   exact J46
 have E:Hid (¬bs U=[]):=Lib.hid (fun h=>by rw[h]at e3;cases e3);clear e3;go_wp2_with (first|(go_at_call 56;refine (trim0 s T HT.out _).mono ?_;rintro e w1 ⟨rfl,rfl⟩)|(go_at_call 158;refine (trim0R T U hTz HU.out _).mono ?_;rintro e w2 ⟨rfl,rfl⟩));refine bodyPost_ret (v := .agg #[.bool b,.string U,.int .i64 (n+(T.size:Int)-(U.size:Int))]) (by simp[results,Tryz.results170,go_sem]) rfl ⟨⟨U,?_,?_⟩,?_⟩
 · unfold normB normE;rw[HB.out,if_neg E.out,if_neg E.out,HBT.out,bs_length,bs_length]
 · unfold normL;rw[HB.out,if_neg E.out]
 exact J46
end Go.Proofs.YtfogfaagjpebcaaGreatDoor
namespace Go.Proofs.YtfogfaagjpebcaaGreatDoor
open Go.RowKit Go.Joins
theorem cont_of (ds:ByteArray) (f:UInt8→Bool) (h:∀n:Fin 256,(bs ds).contains (UInt8.ofNat n.val)=f (UInt8.ofNat n.val)):(bs ds).contains=f:=by
 funext c
 exact J27
theorem cont_minus:(bs ⟨#[45]⟩).contains=Pl.isMinus:=cont_of _ _ (by decide +kernel)
theorem cont_dot:(bs ⟨#[46]⟩).contains=Pl.isDot:=cont_of _ _ (by decide +kernel)
theorem cont_raise:(bs ⟨#[101,69]⟩).contains=Pl.isRaise:=cont_of _ _ (by decide +kernel)
theorem cont_sign:(bs ⟨#[43,45]⟩).contains=Pl.isSign:=cont_of _ _ (by decide +kernel)
theorem cont_dec:(bs decD).contains=isDec:=cont_of _ _ (by decide +kernel)
theorem ds_tk {b C cur W} (h:DsW b C cur W) (hs:cur.size≤20000000) (set:ByteArray) (many:Nat) (hm:many≤20000000) (p:UInt8→Bool) (hp:(bs set).contains=p) :
    Calls Tryz.prog 203 #[.string set,.int .i64 many,.pointer (some ⟨b+1,0,none⟩)] W fun e W'=>∃out rest:ByteArray,e = .returned (.string out)∧Pl.tk p many (bs cur)=(bs out,bs rest)∧rest.size≤cur.size∧out.size≤cur.size∧DsW b C rest W'∧(∀w,Gr w W→w.heap.size≤b→Gr w W'):=by
 refine (ds_take h hs set many hm _ rfl).mono ?_;rintro e W' ⟨rfl,hd,hg,_⟩;refine⟨_,_,rfl,?_,by simp,by first|(simp;done)|(simp;omega),hd,hg⟩;rw[hp];unfold Pl.tk;congr 1
 · simp only[bs,Lib.extract_data];simp
 exact (bs_extract cur _).symm
theorem DsW.facts {b:Nat} {v0 v1 v2 v3 v4 v5 v6:Value} {cur:ByteArray} {w:World} (h:DsW b #[v0,v1,v2,v3,v4,v5,v6] cur w) :
    w.cell? ⟨b,0,none⟩=some v0∧w.cell? ⟨b,1,none⟩=some v1∧w.cell? ⟨b,2,none⟩=some v2∧w.cell? ⟨b,3,none⟩=some v3∧w.cell? ⟨b,4,none⟩=some v4∧w.cell? ⟨b,5,none⟩=some v5∧w.cell? ⟨b,6,none⟩=some v6∧(∀o,w.frozen? ⟨b,o,none⟩=false)∧b<w.heap.size :=
 ⟨(h.cell 0).trans rfl,(h.cell 1).trans rfl,(h.cell 2).trans rfl,(h.cell 3).trans rfl,(h.cell 4).trans rfl,(h.cell 5).trans rfl,(h.cell 6).trans rfl,h.fz,h.lt.1⟩
theorem str_is (x:ByteArray):(x.toList=[]∧x.toList.isEmpty=true∧(bs x).isEmpty=true)∨(¬x.toList=[]∧x.toList.isEmpty=false∧(bs x).isEmpty=false):=by
 exact J117
namespace Pl
theorem dS_bad {N l o1 r1 o2 r2} (h1:tk isMinus 1 l=(o1,r1)) (h2:tk isDec N r1=(o2,r2)) (h:o2=[]∨(1<o2.length∧o2[0]?=some 48)):dSplit N l=none:=by
 unfold dSplit;simp only[h1,h2];rw[if_pos h]
theorem dS_all {N l o1 r1 o2 r2 o3 r3 o4 r4 o5 r5 o6 r6 o7 r7} (h1:tk isMinus 1 l=(o1,r1)) (h2:tk isDec N r1=(o2,r2)) (h:¬(o2=[]∨(1<o2.length∧o2[0]?=some 48))) (h3:tk isDot 1 r2=(o3,r3))
    (h4:(if o3.isEmpty then ([],r3) else tk isDec N r3)=(o4,r4)) (h5:tk isRaise 1 r4=(o5,r5)) (h6:(if o5.isEmpty then ([],r5) else tk isSign 1 r5)=(o6,r6)) (h7:(if o5.isEmpty then ([],r6) else tk isDec N r6)=(o7,r7)) :
    dSplit N l=if r7.isEmpty && (o3.isEmpty==o4.isEmpty) && (o5.isEmpty==o7.isEmpty) then some ⟨!o1.isEmpty,o2,o4,o6,o7⟩ else none:=by
 unfold dSplit;simp only[h1,h2];rw[if_neg h];simp only[h3,h4,h5,h6,h7]
end Pl
theorem emp_is (x:ByteArray):x.toList.isEmpty=(bs x).isEmpty:=by rw[Lib.toList_data] <;> rfl
def SplitPost (N:Nat) (l:List UInt8) (e:Ending):Prop:=match Pl.dSplit N l with
 | none=>∃(b0 b5 b6:Bool) (a1 a2 a3 a4:ByteArray),e = .returned (.tuple #[.agg #[.bool b0,.string a1,.string a2,.string a3,.string a4,.bool b5,.bool b6],.bool false])
 | some d=>∃(b5 b6:Bool) (a1 a2 a3 a4:ByteArray),e = .returned (.tuple #[.agg #[.bool d.minus,.string a1,.string a2,.string a3,.string a4,.bool b5,.bool b6],.bool true])∧bs a1=d.whole∧bs a2=d.part∧bs a3=d.sign∧bs a4=d.power
theorem split_none {N l} (h:Pl.dSplit N l=none) (b0 b5 b6:Bool) (a1 a2 a3 a4:ByteArray):SplitPost N l (.returned (.tuple #[.agg #[.bool b0,.string a1,.string a2,.string a3,.string a4,.bool b5,.bool b6],.bool false])):=by
 unfold SplitPost;rw[h];exact⟨b0,b5,b6,a1,a2,a3,a4,rfl⟩
theorem split_all {N l c m w2 x4 x6 x7} (h:Pl.dSplit N l=if c=true then some ⟨m,w2,x4,x6,x7⟩ else none) (b0 b5 b6 k:Bool) (a1 a2 a3 a4:ByteArray) (hk:k=c) (h0:b0=m) (h1:bs a1=w2) (h2:bs a2=x4) (h3:bs a3=x6) (h4:bs a4=x7):SplitPost N l (.returned (.tuple #[.agg #[.bool b0,.string a1,.string a2,.string a3,.string a4,.bool b5,.bool b6],.bool k])):=by
 subst hk h0;unfold SplitPost;rw[h];cases k with
 | true=>exact⟨b5,b6,a1,a2,a3,a4,rfl,h1,h2,h3,h4⟩
 | false=>exact⟨_,b5,b6,a1,a2,a3,a4,rfl⟩
def SpS (b:Nat) (v0 v1 v2 v3 v4 v5 v6:Value) (cur:ByteArray) (w:World):Prop:=(w.cell? ⟨b,0,none⟩=some v0∧w.cell? ⟨b,1,none⟩=some v1∧w.cell? ⟨b,2,none⟩=some v2∧w.cell? ⟨b,3,none⟩=some v3∧w.cell? ⟨b,4,none⟩=some v4∧w.cell? ⟨b,5,none⟩=some v5∧w.cell? ⟨b,6,none⟩=some v6∧(∀o,w.frozen? ⟨b,o,none⟩=false)∧b<w.heap.size)∧w.cell? ⟨b+1,0,none⟩=some (.string cur)
set_option maxRecDepth 100000 in
theorem dc_split (s:ByteArray) (hs:s.size≤20000000) (w:World) :
    Calls Tryz.prog 168 #[.string s] w fun e w'=>SplitPost s.size (bs s) e∧Gr w w':=by
 go_enter Tryz.func168,Tryz.ntmps168;go_wp2_with (go_at_call 189;refine (dc_taker s _).mono ?_;rintro e w1 ⟨rfl,rfl⟩);have hD0:=DsW.new w s;have hG0:Gr w ((w.alloc (.cells #[.bool false,.string ⟨#[]⟩,.string ⟨#[]⟩,.string ⟨#[]⟩,.string ⟨#[]⟩,.bool false,.bool false] 240)).alloc (.cells #[.string s] 9)):=((Gr.refl w).alloc _).alloc _;refine (ds_tk hD0 (by omega) ⟨#[45]⟩ 1 (by omega) _ cont_minus).mono ?_;rintro e W1 ⟨o1,r1,rfl,hk1,hz1,hy1,hD1,hg1⟩;have hG1:=hg1 w hG0 (Nat.le_refl _);have K1:=Lib.hid hk1;clear hg1 hk1 hG0 hD0;obtain⟨k0,k1,k2,k3,k4,k5,k6,kf,kl⟩:=hD1.facts;go_wp2_with fail;refine (ds_tk (hD1.set 0 _) (by omega) decD s.size (by omega) _ cont_dec).mono ?_;rintro e W2 ⟨o2,r2,rfl,hk2,hz2,hy2,hD2,hg2⟩;have hG2:=hg2 w (hG1.setCell (by simp) _) (Nat.le_refl _);have K2:=Lib.hid hk2;clear hg2 hk2 k0 k1 k2 k3 k4 k5 k6 kf kl;obtain⟨k0,k1,k2,k3,k4,k5,k6,kf,kl⟩:=hD2.facts
 go_upto_region 4 with fail
 go_cut [34] (fun s34 wx=>∃c:Bool,s34 = .bool c∧(c=true ↔ (bs o2=[]∨(1<(bs o2).length∧(bs o2)[0]?=some 48)))∧DsW w.heap.size #[.bool (!o1.toList.isEmpty),.string o2,.string ⟨#[]⟩,.string ⟨#[]⟩,.string ⟨#[]⟩,.bool (false),.bool (false)] r2 wx∧Gr w wx)
 case first =>
  have hd2:=hD2.set 1 (.string o2);have hg2:Gr w (W2.setCell ⟨w.heap.size,1,none⟩ (.string o2)):=hG2.setCell (by simp) _;have HD:=Lib.hid hd2;have HG:=Lib.hid hg2;clear hd2 hg2 hD2 hG2;rcases str_is o2 with⟨e1,e2,e3⟩|⟨e1,e2,e3⟩
  · have E:=Lib.hid e3;clear e3;go_wp2_with fail
    go_meet
    exact⟨true,rfl,⟨fun _ => .inl (List.isEmpty_iff.1 E.out),fun _=>rfl⟩,HD.out,HG.out⟩
  have E:Hid (bs o2≠[]):=Lib.hid (fun h=>by rw[h]at e3;cases e3);clear e3;have e0:0<o2.size:=by have h2:=List.length_pos_iff.2 E.out;rw[bs_length]at h2;exact h2
  have e4:(0:Int)<(o2.size:Int):=by omega
  by_cases hl:1<o2.size
  · have d1:decide ((1:Int)<(o2.size:Int))=true:=by simp;omega
    have HL:=Lib.hid hl;have hidx:(bs o2)[0]?=some (o2[0]'e0):=by have h2:=idx_bs o2 0 e0;simp only[List.drop_zero]at h2;rw[h2];rfl
    have HI:=Lib.hid hidx;clear hidx hl;cases hz:((o2[0]'e0).toNat==48) with
    | true =>
     have z1:(((o2[0]'e0).toNat:Int)==48)=true:=(beqs _ 48 _ hz).1;have HZ:=Lib.hid hz;clear hz;go_wp2_with fail
     go_meet
     refine⟨true,rfl,⟨fun _ => .inr ⟨by rw[bs_length];exact HL.out,?_⟩,fun _=>rfl⟩,HD.out,HG.out⟩;rw[HI.out,Option.some.injEq,←UInt8.toNat_inj];simpa using HZ.out
    | false =>
     have z1:(((o2[0]'e0).toNat:Int)==48)=false:=(beqs _ 48 _ hz).1;have HZ:=Lib.hid hz;clear hz;go_wp2_with fail
     go_meet
     refine⟨false,rfl,⟨fun h=>(by cases h),fun h=>?_⟩,HD.out,HG.out⟩;rcases h with h|⟨_,h⟩
     · exact absurd h E.out
     rw[HI.out,Option.some.injEq]at h;have h2:=HZ.out;rw[h]at h2;simp at h2
  have d1:decide ((1:Int)<(o2.size:Int))=false:=by simp;omega
  go_wp2_with fail
  go_meet
  refine⟨false,rfl,⟨fun h=>(by cases h),fun h=>?_⟩,HD.out,HG.out⟩;rcases h with h|⟨h,_⟩
  · exact absurd h E.out
  rw[bs_length]at h;exact absurd h hl
 case rest =>
  obtain⟨c,rfl,hc,hDa,hGa⟩:=hcut;have HC:=Lib.hid hc;clear hc hD2 hG2 k0 k1 k2 k3 k4 k5 k6 kf kl;obtain⟨k0,k1,k2,k3,k4,k5,k6,kf,kl⟩:=hDa.facts;cases c with
  | true =>
   go_wp2_with fail;refine bodyPost_ret (v := .tuple #[.agg #[.bool (!o1.toList.isEmpty),.string o2,.string ⟨#[]⟩,.string ⟨#[]⟩,.string ⟨#[]⟩,.bool (false),.bool (false)],.bool false]) (by simp[results,Tryz.results168,go_sem,k0,k1,k2,k3,k4,k5,k6,kf]) rfl ⟨split_none (Pl.dS_bad K1.out K2.out (HC.out.1 (by simp))) _ _ _ _ _ _ _,?_⟩
   (repeat refine Gr.setCell ?_ (by simp) _);exact hGa
  | false =>
   go_wp2_with fail;refine (ds_tk hDa (by omega) ⟨#[46]⟩ 1 (by omega) _ cont_dot).mono ?_;rintro e W3 ⟨o3,r3,rfl,hk3,hz3,hy3,hD3,hg3⟩;have hG3:=hg3 w hGa (Nat.le_refl _);have K3:=Lib.hid hk3;clear hg3 hk3 k0 k1 k2 k3 k4 k5 k6 kf kl hDa hGa;obtain⟨k0,k1,k2,k3,k4,k5,k6,kf,kl⟩:=hD3.facts
   go_upto_if 41 with fail
   go_cut [41] (fun s41 wx=>∃o4 r4:ByteArray,(if (bs o3).isEmpty then ([],bs r3) else Pl.tk isDec s.size (bs r3))=(bs o4,bs r4)∧r4.size≤r3.size∧DsW w.heap.size #[.bool (!o1.toList.isEmpty),.string o2,.string o4,.string ⟨#[]⟩,.string ⟨#[]⟩,.bool (!o3.toList.isEmpty),.bool (false)] r4 wx∧Gr w wx)
   case first =>
    have hd3:=hD3.set 5 (.bool (!o3.toList.isEmpty));have hg3:Gr w (W3.setCell ⟨w.heap.size,5,none⟩ (.bool (!o3.toList.isEmpty))):=hG3.setCell (by simp) _;clear hD3 hG3;generalize W3.setCell ⟨w.heap.size,5,none⟩ (.bool (!o3.toList.isEmpty))=Wx at hd3 hg3 ⊢;have HD:=Lib.hid hd3;have HG:=Lib.hid hg3;rcases str_is o3 with⟨e1,e2,e3⟩|⟨e1,e2,e3⟩
    · have E:=Lib.hid e3;simp only[e2,Bool.not_true];clear e3 hd3 hg3;go_wp2_with fail
      go_meet
      exact⟨⟨#[]⟩,r3,by rw[E.out];rfl,Nat.le_refl _,HD.out,HG.out⟩
    have E:=Lib.hid e3;simp only[e2,Bool.not_false];clear e3 hg3;clear k0 k1 k2 k3 k4 k5 k6 kf kl;obtain⟨k0,k1,k2,k3,k4,k5,k6,kf,kl⟩:=hd3.facts;clear hd3;go_wp2_with fail;refine (ds_tk HD.out (by omega) decD s.size (by omega) _ cont_dec).mono ?_;rintro e W4 ⟨o4,r4,rfl,hk4,hz4,hy4,hD4,hg4⟩;have hG4:=hg4 w HG.out (Nat.le_refl _);have K4:=Lib.hid hk4;have HD4:=Lib.hid (hD4.set 2 (.string o4));have HG4:Hid (Gr w (W4.setCell ⟨w.heap.size,2,none⟩ (.string o4))):=Lib.hid (hG4.setCell (by simp) _);clear hg4 hk4 k0 k1 k2 k3 k4 k5 k6 kf kl;obtain⟨k0,k1,k2,k3,k4,k5,k6,kf,kl⟩:=hD4.facts;clear hD4 hG4;go_wp2_with fail
    go_meet
    exact⟨o4,r4,by rw[E.out];exact K4.out,hz4,HD4.out,HG4.out⟩
   case rest =>
    obtain⟨o4,r4,hk4,hz4,hDb,hGb⟩:=hcut;have K4:=Lib.hid hk4;clear hk4 hD3 hG3 k0 k1 k2 k3 k4 k5 k6 kf kl;obtain⟨k0,k1,k2,k3,k4,k5,k6,kf,kl⟩:=hDb.facts;go_wp2_with fail;refine (ds_tk hDb (by omega) ⟨#[101,69]⟩ 1 (by omega) _ cont_raise).mono ?_;rintro e W5 ⟨o5,r5,rfl,hk5,hz5,hy5,hD5,hg5⟩;have hG5:=hg5 w hGb (Nat.le_refl _);have K5:=Lib.hid hk5;clear hg5 hk5 k0 k1 k2 k3 k4 k5 k6 kf kl hDb hGb;obtain⟨k0,k1,k2,k3,k4,k5,k6,kf,kl⟩:=hD5.facts
    go_upto_if 52 with fail
    go_cut [52] (fun s52 wx=>∃o6 r6 o7 r7:ByteArray,(if (bs o5).isEmpty then ([],bs r5) else Pl.tk Pl.isSign 1 (bs r5))=(bs o6,bs r6)∧(if (bs o5).isEmpty then ([],bs r6) else Pl.tk isDec s.size (bs r6))=(bs o7,bs r7)∧DsW w.heap.size #[.bool (!o1.toList.isEmpty),.string o2,.string o4,.string o6,.string o7,.bool (!o3.toList.isEmpty),.bool (!o5.toList.isEmpty)] r7 wx∧Gr w wx)
    case first =>
     have hd5:=hD5.set 6 (.bool (!o5.toList.isEmpty));have hg5:Gr w (W5.setCell ⟨w.heap.size,6,none⟩ (.bool (!o5.toList.isEmpty))):=hG5.setCell (by simp) _;clear hD5 hG5;generalize W5.setCell ⟨w.heap.size,6,none⟩ (.bool (!o5.toList.isEmpty))=Wx at hd5 hg5 ⊢;have HD:=Lib.hid hd5;have HG:=Lib.hid hg5;rcases str_is o5 with⟨e1,e2,e3⟩|⟨e1,e2,e3⟩
     · have E:=Lib.hid e3;simp only[e2,Bool.not_true];clear e3 hd5 hg5;go_wp2_with fail
       go_meet
       exact⟨⟨#[]⟩,r5,⟨#[]⟩,r5,by rw[E.out];rfl,by rw[E.out];rfl,HD.out,HG.out⟩
     have E:=Lib.hid e3;simp only[e2,Bool.not_false];clear e3 hg5;clear k0 k1 k2 k3 k4 k5 k6 kf kl;obtain⟨k0,k1,k2,k3,k4,k5,k6,kf,kl⟩:=hd5.facts;clear hd5;go_wp2_with fail;refine (ds_tk HD.out (by omega) ⟨#[43,45]⟩ 1 (by omega) _ cont_sign).mono ?_;rintro e W6 ⟨o6,r6,rfl,hk6,hz6,hy6,hD6,hg6⟩;have hG6:=hg6 w HG.out (Nat.le_refl _);have K6:=Lib.hid hk6;have HD6:=Lib.hid (hD6.set 3 (.string o6));have HG6:Hid (Gr w (W6.setCell ⟨w.heap.size,3,none⟩ (.string o6))):=Lib.hid (hG6.setCell (by simp) _);clear hg6 hk6 k0 k1 k2 k3 k4 k5 k6 kf kl;obtain⟨k0,k1,k2,k3,k4,k5,k6,kf,kl⟩:=hD6.facts;clear hD6 hG6;go_wp2_with fail;refine (ds_tk HD6.out (by omega) decD s.size (by omega) _ cont_dec).mono ?_;rintro e W7 ⟨o7,r7,rfl,hk7,hz7,hy7,hD7,hg7⟩;have hG7:=hg7 w HG6.out (Nat.le_refl _);have K7:=Lib.hid hk7;have HD7:=Lib.hid (hD7.set 4 (.string o7));have HG7:Hid (Gr w (W7.setCell ⟨w.heap.size,4,none⟩ (.string o7))):=Lib.hid (hG7.setCell (by simp) _);clear hg7 hk7 k0 k1 k2 k3 k4 k5 k6 kf kl;obtain⟨k0,k1,k2,k3,k4,k5,k6,kf,kl⟩:=hD7.facts;clear hD7 hG7;go_wp2_with fail
     go_meet
     exact⟨o6,r6,o7,r7,by rw[E.out];exact K6.out,by rw[E.out];exact K7.out,HD7.out,HG7.out⟩
    case rest =>
     obtain⟨o6,r6,o7,r7,hk6,hk7,hDc,hGc⟩:=hcut;have K6:=Lib.hid hk6;have K7:=Lib.hid hk7;clear hk6 hk7 hD5 hG5 k0 k1 k2 k3 k4 k5 k6 kf kl;have hX:=Pl.dS_all K1.out K2.out (fun h=>by have h2:=HC.out.2 h;simp at h2) K3.out K4.out K5.out K6.out K7.out;simp only[←emp_is]at hX;have HX:=Lib.hid hX;clear hX;generalize hb3:(!o3.toList.isEmpty)=b3 at hDc ⊢;generalize hb5:(!o5.toList.isEmpty)=b5 at hDc ⊢;have HB3:=Lib.hid hb3;have HB5:=Lib.hid hb5;clear hb3 hb5;have hcs:=hDc.cs;have hSx:SpS w.heap.size (.bool (!o1.toList.isEmpty)) (.string o2) (.string o4) (.string o6) (.string o7) (.bool b3) (.bool b5) r7 wc.drew:=⟨hDc.facts,hcs⟩
     obtain⟨k0,k1,k2,k3,k4,k5,k6,kf,kl⟩:=hDc.facts;go_wp2_with fail;refine Reg.begin' (W:=fun i=>i != 19) (S:=SpS w.heap.size (.bool (!o1.toList.isEmpty)) (.string o2) (.string o4) (.string o6) (.string o7) (.bool b3) (.bool b5) r7) (by kernel_rfl) ?_;refine Reg.tl 0 hSx ?_ (hy:=by intro w hSw;obtain⟨⟨q0,q1,q2,q3,q4,q5,q6,qf,ql⟩,qc⟩:=hSw;go_simp;try with_reducible rfl);refine Reg.ty 1 ?_;refine Reg.on 2 ?_;go_simp;refine (dc_over r7 _ _ hSx.2).mono ?_;refine Z48 ?_;refine⟨by first|exact hSx|exact fun _=>hSx|exact fun _ _=>hSx,?_⟩;refine Reg.pt ?_;cases hov:r7.toList.isEmpty with
     | false =>
      refine Reg.ty 3 ?_;refine Reg.sk 4 ?_;refine Reg.sk 5 ?_;refine Reg.sk 6 ?_;refine Reg.sk 7 ?_;refine Reg.sk 8 ?_;refine Reg.sk 9 ?_;refine Z65 ?_;refine Z44 ?_;refine Z175 ?_;refine Reg.ty 20 ?_;refine Z12 ?_;go_wp2_with fail;have hDf:DsW w.heap.size #[.bool (!o1.toList.isEmpty),.string o2,.string o4,.string o6,.string o7,.bool b3,.bool b5] r7 (((((((wc.setCell ⟨w.heap.size,0,none⟩ (.bool (!o1.toList.isEmpty))).setCell ⟨w.heap.size,1,none⟩ (.string o2)).setCell ⟨w.heap.size,2,none⟩ (.string o4)).setCell ⟨w.heap.size,3,none⟩ (.string o6)).setCell ⟨w.heap.size,4,none⟩ (.string o7)).setCell ⟨w.heap.size,5,none⟩ (.bool b3)).setCell ⟨w.heap.size,6,none⟩ (.bool b5)):=(((((((hDc.set 0 (.bool (!o1.toList.isEmpty))).set 1 (.string o2)).set 2 (.string o4)).set 3 (.string o6)).set 4 (.string o7)).set 5 (.bool b3)).set 6 (.bool b5))
      have hGf:Gr w (((((((wc.setCell ⟨w.heap.size,0,none⟩ (.bool (!o1.toList.isEmpty))).setCell ⟨w.heap.size,1,none⟩ (.string o2)).setCell ⟨w.heap.size,2,none⟩ (.string o4)).setCell ⟨w.heap.size,3,none⟩ (.string o6)).setCell ⟨w.heap.size,4,none⟩ (.string o7)).setCell ⟨w.heap.size,5,none⟩ (.bool b3)).setCell ⟨w.heap.size,6,none⟩ (.bool b5)):=by (repeat refine Gr.setCell ?_ (by simp) _);exact hGc
      have HK:Hid (false=(r7.toList.isEmpty && (o3.toList.isEmpty==o4.toList.isEmpty) && (o5.toList.isEmpty==o7.toList.isEmpty))):=Lib.hid (by rw[hov,Bool.false_and,Bool.false_and]);clear hSx k0 k1 k2 k3 k4 k5 k6 kf kl;generalize (((((((wc.setCell ⟨w.heap.size,0,none⟩ (.bool (!o1.toList.isEmpty))).setCell ⟨w.heap.size,1,none⟩ (.string o2)).setCell ⟨w.heap.size,2,none⟩ (.string o4)).setCell ⟨w.heap.size,3,none⟩ (.string o6)).setCell ⟨w.heap.size,4,none⟩ (.string o7)).setCell ⟨w.heap.size,5,none⟩ (.bool b3)).setCell ⟨w.heap.size,6,none⟩ (.bool b5))=Wf at hDf hGf ⊢;obtain⟨k0,k1,k2,k3,k4,k5,k6,kf,kl⟩:=hDf.facts;refine bodyPost_ret (v := .tuple #[.agg #[.bool (!o1.toList.isEmpty),.string o2,.string o4,.string o6,.string o7,.bool b3,.bool b5],.bool false]) (by simp[results,Tryz.results168,go_sem,k0,k1,k2,k3,k4,k5,k6,kf]) rfl ⟨?_,hGf.drew⟩;exact J48
     | true =>
      cases b3 with
      | false =>
       have H3:Hid (o3.toList.isEmpty=true):=Lib.hid (by have:=HB3.out;revert this;cases o3.toList.isEmpty <;> simp);rcases str_is o4 with⟨f1,f2,f3⟩|⟨f1,f2,f3⟩
       · clear f3;refine Z24 ?_;cases b5 with
         | false =>
          have H5:Hid (o5.toList.isEmpty=true):=Lib.hid (by have:=HB5.out;revert this;cases o5.toList.isEmpty <;> simp);rcases str_is o7 with⟨g1,g2,g3⟩|⟨g1,g2,g3⟩
          · clear g3;refine Z9 ?_;go_wp2_with fail;refine Z71 ?_;intro hDf;have hGf:Gr w (((((((wc.setCell ⟨w.heap.size,0,none⟩ (.bool (!o1.toList.isEmpty))).setCell ⟨w.heap.size,1,none⟩ (.string o2)).setCell ⟨w.heap.size,2,none⟩ (.string o4)).setCell ⟨w.heap.size,3,none⟩ (.string o6)).setCell ⟨w.heap.size,4,none⟩ (.string o7)).setCell ⟨w.heap.size,5,none⟩ (.bool false)).setCell ⟨w.heap.size,6,none⟩ (.bool false)):=by (repeat refine Gr.setCell ?_ (by simp) _);exact hGc
            refine Z107 ?_;intro HK;clear hSx k0 k1 k2 k3 k4 k5 k6 kf kl;generalize (((((((wc.setCell ⟨w.heap.size,0,none⟩ (.bool (!o1.toList.isEmpty))).setCell ⟨w.heap.size,1,none⟩ (.string o2)).setCell ⟨w.heap.size,2,none⟩ (.string o4)).setCell ⟨w.heap.size,3,none⟩ (.string o6)).setCell ⟨w.heap.size,4,none⟩ (.string o7)).setCell ⟨w.heap.size,5,none⟩ (.bool false)).setCell ⟨w.heap.size,6,none⟩ (.bool false))=Wf at hDf hGf ⊢;obtain⟨k0,k1,k2,k3,k4,k5,k6,kf,kl⟩:=hDf.facts;refine bodyPost_ret (v := .tuple #[.agg #[.bool (!o1.toList.isEmpty),.string o2,.string o4,.string o6,.string o7,.bool false,.bool false],.bool true]) (by simp[results,Tryz.results168,go_sem,k0,k1,k2,k3,k4,k5,k6,kf]) rfl ⟨?_,hGf.drew⟩;exact J48
          clear g3;refine Z9 ?_;go_wp2_with fail;refine Z71 ?_;intro hDf;have hGf:Gr w (((((((wc.setCell ⟨w.heap.size,0,none⟩ (.bool (!o1.toList.isEmpty))).setCell ⟨w.heap.size,1,none⟩ (.string o2)).setCell ⟨w.heap.size,2,none⟩ (.string o4)).setCell ⟨w.heap.size,3,none⟩ (.string o6)).setCell ⟨w.heap.size,4,none⟩ (.string o7)).setCell ⟨w.heap.size,5,none⟩ (.bool false)).setCell ⟨w.heap.size,6,none⟩ (.bool false)):=by (repeat refine Gr.setCell ?_ (by simp) _);exact hGc
          refine Z104 ?_;intro HK;clear hSx k0 k1 k2 k3 k4 k5 k6 kf kl;generalize (((((((wc.setCell ⟨w.heap.size,0,none⟩ (.bool (!o1.toList.isEmpty))).setCell ⟨w.heap.size,1,none⟩ (.string o2)).setCell ⟨w.heap.size,2,none⟩ (.string o4)).setCell ⟨w.heap.size,3,none⟩ (.string o6)).setCell ⟨w.heap.size,4,none⟩ (.string o7)).setCell ⟨w.heap.size,5,none⟩ (.bool false)).setCell ⟨w.heap.size,6,none⟩ (.bool false))=Wf at hDf hGf ⊢;obtain⟨k0,k1,k2,k3,k4,k5,k6,kf,kl⟩:=hDf.facts;refine bodyPost_ret (v := .tuple #[.agg #[.bool (!o1.toList.isEmpty),.string o2,.string o4,.string o6,.string o7,.bool false,.bool false],.bool false]) (by simp[results,Tryz.results168,go_sem,k0,k1,k2,k3,k4,k5,k6,kf]) rfl ⟨?_,hGf.drew⟩;exact J48
         | true =>
          have H5:Hid (o5.toList.isEmpty=false):=Lib.hid (by have:=HB5.out;revert this;cases o5.toList.isEmpty <;> simp);rcases str_is o7 with⟨g1,g2,g3⟩|⟨g1,g2,g3⟩
          · clear g3;refine Z9 ?_;go_wp2_with fail;refine Z72 ?_;intro hDf;have hGf:Gr w (((((((wc.setCell ⟨w.heap.size,0,none⟩ (.bool (!o1.toList.isEmpty))).setCell ⟨w.heap.size,1,none⟩ (.string o2)).setCell ⟨w.heap.size,2,none⟩ (.string o4)).setCell ⟨w.heap.size,3,none⟩ (.string o6)).setCell ⟨w.heap.size,4,none⟩ (.string o7)).setCell ⟨w.heap.size,5,none⟩ (.bool false)).setCell ⟨w.heap.size,6,none⟩ (.bool true)):=by (repeat refine Gr.setCell ?_ (by simp) _);exact hGc
            refine Z104 ?_;intro HK;clear hSx k0 k1 k2 k3 k4 k5 k6 kf kl;generalize (((((((wc.setCell ⟨w.heap.size,0,none⟩ (.bool (!o1.toList.isEmpty))).setCell ⟨w.heap.size,1,none⟩ (.string o2)).setCell ⟨w.heap.size,2,none⟩ (.string o4)).setCell ⟨w.heap.size,3,none⟩ (.string o6)).setCell ⟨w.heap.size,4,none⟩ (.string o7)).setCell ⟨w.heap.size,5,none⟩ (.bool false)).setCell ⟨w.heap.size,6,none⟩ (.bool true))=Wf at hDf hGf ⊢;obtain⟨k0,k1,k2,k3,k4,k5,k6,kf,kl⟩:=hDf.facts;refine bodyPost_ret (v := .tuple #[.agg #[.bool (!o1.toList.isEmpty),.string o2,.string o4,.string o6,.string o7,.bool false,.bool true],.bool false]) (by simp[results,Tryz.results168,go_sem,k0,k1,k2,k3,k4,k5,k6,kf]) rfl ⟨?_,hGf.drew⟩;exact J48
          clear g3;refine Z9 ?_;go_wp2_with fail;refine Z72 ?_;intro hDf;have hGf:Gr w (((((((wc.setCell ⟨w.heap.size,0,none⟩ (.bool (!o1.toList.isEmpty))).setCell ⟨w.heap.size,1,none⟩ (.string o2)).setCell ⟨w.heap.size,2,none⟩ (.string o4)).setCell ⟨w.heap.size,3,none⟩ (.string o6)).setCell ⟨w.heap.size,4,none⟩ (.string o7)).setCell ⟨w.heap.size,5,none⟩ (.bool false)).setCell ⟨w.heap.size,6,none⟩ (.bool true)):=by (repeat refine Gr.setCell ?_ (by simp) _);exact hGc
          refine Z107 ?_;intro HK;clear hSx k0 k1 k2 k3 k4 k5 k6 kf kl;generalize (((((((wc.setCell ⟨w.heap.size,0,none⟩ (.bool (!o1.toList.isEmpty))).setCell ⟨w.heap.size,1,none⟩ (.string o2)).setCell ⟨w.heap.size,2,none⟩ (.string o4)).setCell ⟨w.heap.size,3,none⟩ (.string o6)).setCell ⟨w.heap.size,4,none⟩ (.string o7)).setCell ⟨w.heap.size,5,none⟩ (.bool false)).setCell ⟨w.heap.size,6,none⟩ (.bool true))=Wf at hDf hGf ⊢;obtain⟨k0,k1,k2,k3,k4,k5,k6,kf,kl⟩:=hDf.facts;refine bodyPost_ret (v := .tuple #[.agg #[.bool (!o1.toList.isEmpty),.string o2,.string o4,.string o6,.string o7,.bool false,.bool true],.bool true]) (by simp[results,Tryz.results168,go_sem,k0,k1,k2,k3,k4,k5,k6,kf]) rfl ⟨?_,hGf.drew⟩;exact J48
       clear f3;refine Z24 ?_;refine Z44 ?_;refine Z175 ?_;refine Reg.ty 20 ?_;refine Z12 ?_;go_wp2_with fail;have hDf:DsW w.heap.size #[.bool (!o1.toList.isEmpty),.string o2,.string o4,.string o6,.string o7,.bool false,.bool b5] r7 (((((((wc.setCell ⟨w.heap.size,0,none⟩ (.bool (!o1.toList.isEmpty))).setCell ⟨w.heap.size,1,none⟩ (.string o2)).setCell ⟨w.heap.size,2,none⟩ (.string o4)).setCell ⟨w.heap.size,3,none⟩ (.string o6)).setCell ⟨w.heap.size,4,none⟩ (.string o7)).setCell ⟨w.heap.size,5,none⟩ (.bool false)).setCell ⟨w.heap.size,6,none⟩ (.bool b5)):=(((((((hDc.set 0 (.bool (!o1.toList.isEmpty))).set 1 (.string o2)).set 2 (.string o4)).set 3 (.string o6)).set 4 (.string o7)).set 5 (.bool false)).set 6 (.bool b5))
       have hGf:Gr w (((((((wc.setCell ⟨w.heap.size,0,none⟩ (.bool (!o1.toList.isEmpty))).setCell ⟨w.heap.size,1,none⟩ (.string o2)).setCell ⟨w.heap.size,2,none⟩ (.string o4)).setCell ⟨w.heap.size,3,none⟩ (.string o6)).setCell ⟨w.heap.size,4,none⟩ (.string o7)).setCell ⟨w.heap.size,5,none⟩ (.bool false)).setCell ⟨w.heap.size,6,none⟩ (.bool b5)):=by (repeat refine Gr.setCell ?_ (by simp) _);exact hGc
       refine Z226 ?_;intro HK;clear hSx k0 k1 k2 k3 k4 k5 k6 kf kl;generalize (((((((wc.setCell ⟨w.heap.size,0,none⟩ (.bool (!o1.toList.isEmpty))).setCell ⟨w.heap.size,1,none⟩ (.string o2)).setCell ⟨w.heap.size,2,none⟩ (.string o4)).setCell ⟨w.heap.size,3,none⟩ (.string o6)).setCell ⟨w.heap.size,4,none⟩ (.string o7)).setCell ⟨w.heap.size,5,none⟩ (.bool false)).setCell ⟨w.heap.size,6,none⟩ (.bool b5))=Wf at hDf hGf ⊢;obtain⟨k0,k1,k2,k3,k4,k5,k6,kf,kl⟩:=hDf.facts;refine bodyPost_ret (v := .tuple #[.agg #[.bool (!o1.toList.isEmpty),.string o2,.string o4,.string o6,.string o7,.bool false,.bool b5],.bool false]) (by simp[results,Tryz.results168,go_sem,k0,k1,k2,k3,k4,k5,k6,kf]) rfl ⟨?_,hGf.drew⟩;exact J48
      | true =>
       have H3:Hid (o3.toList.isEmpty=false):=Lib.hid (by have:=HB3.out;revert this;cases o3.toList.isEmpty <;> simp);rcases str_is o4 with⟨f1,f2,f3⟩|⟨f1,f2,f3⟩
       · clear f3;refine Z24 ?_;refine Z44 ?_;refine Z175 ?_;refine Reg.ty 20 ?_;refine Z12 ?_;go_wp2_with fail;have hDf:DsW w.heap.size #[.bool (!o1.toList.isEmpty),.string o2,.string o4,.string o6,.string o7,.bool true,.bool b5] r7 (((((((wc.setCell ⟨w.heap.size,0,none⟩ (.bool (!o1.toList.isEmpty))).setCell ⟨w.heap.size,1,none⟩ (.string o2)).setCell ⟨w.heap.size,2,none⟩ (.string o4)).setCell ⟨w.heap.size,3,none⟩ (.string o6)).setCell ⟨w.heap.size,4,none⟩ (.string o7)).setCell ⟨w.heap.size,5,none⟩ (.bool true)).setCell ⟨w.heap.size,6,none⟩ (.bool b5)):=(((((((hDc.set 0 (.bool (!o1.toList.isEmpty))).set 1 (.string o2)).set 2 (.string o4)).set 3 (.string o6)).set 4 (.string o7)).set 5 (.bool true)).set 6 (.bool b5))
         have hGf:Gr w (((((((wc.setCell ⟨w.heap.size,0,none⟩ (.bool (!o1.toList.isEmpty))).setCell ⟨w.heap.size,1,none⟩ (.string o2)).setCell ⟨w.heap.size,2,none⟩ (.string o4)).setCell ⟨w.heap.size,3,none⟩ (.string o6)).setCell ⟨w.heap.size,4,none⟩ (.string o7)).setCell ⟨w.heap.size,5,none⟩ (.bool true)).setCell ⟨w.heap.size,6,none⟩ (.bool b5)):=by (repeat refine Gr.setCell ?_ (by simp) _);exact hGc
         refine Z226 ?_;intro HK;clear hSx k0 k1 k2 k3 k4 k5 k6 kf kl;generalize (((((((wc.setCell ⟨w.heap.size,0,none⟩ (.bool (!o1.toList.isEmpty))).setCell ⟨w.heap.size,1,none⟩ (.string o2)).setCell ⟨w.heap.size,2,none⟩ (.string o4)).setCell ⟨w.heap.size,3,none⟩ (.string o6)).setCell ⟨w.heap.size,4,none⟩ (.string o7)).setCell ⟨w.heap.size,5,none⟩ (.bool true)).setCell ⟨w.heap.size,6,none⟩ (.bool b5))=Wf at hDf hGf ⊢;obtain⟨k0,k1,k2,k3,k4,k5,k6,kf,kl⟩:=hDf.facts;refine bodyPost_ret (v := .tuple #[.agg #[.bool (!o1.toList.isEmpty),.string o2,.string o4,.string o6,.string o7,.bool true,.bool b5],.bool false]) (by simp[results,Tryz.results168,go_sem,k0,k1,k2,k3,k4,k5,k6,kf]) rfl ⟨?_,hGf.drew⟩;exact J48
       clear f3;refine Z24 ?_;cases b5 with
       | false =>
        have H5:Hid (o5.toList.isEmpty=true):=Lib.hid (by have:=HB5.out;revert this;cases o5.toList.isEmpty <;> simp);rcases str_is o7 with⟨g1,g2,g3⟩|⟨g1,g2,g3⟩
        · clear g3;refine Z9 ?_;go_wp2_with fail;refine Z73 ?_;intro hDf;have hGf:Gr w (((((((wc.setCell ⟨w.heap.size,0,none⟩ (.bool (!o1.toList.isEmpty))).setCell ⟨w.heap.size,1,none⟩ (.string o2)).setCell ⟨w.heap.size,2,none⟩ (.string o4)).setCell ⟨w.heap.size,3,none⟩ (.string o6)).setCell ⟨w.heap.size,4,none⟩ (.string o7)).setCell ⟨w.heap.size,5,none⟩ (.bool true)).setCell ⟨w.heap.size,6,none⟩ (.bool false)):=by (repeat refine Gr.setCell ?_ (by simp) _);exact hGc
          refine Z107 ?_;intro HK;clear hSx k0 k1 k2 k3 k4 k5 k6 kf kl;generalize (((((((wc.setCell ⟨w.heap.size,0,none⟩ (.bool (!o1.toList.isEmpty))).setCell ⟨w.heap.size,1,none⟩ (.string o2)).setCell ⟨w.heap.size,2,none⟩ (.string o4)).setCell ⟨w.heap.size,3,none⟩ (.string o6)).setCell ⟨w.heap.size,4,none⟩ (.string o7)).setCell ⟨w.heap.size,5,none⟩ (.bool true)).setCell ⟨w.heap.size,6,none⟩ (.bool false))=Wf at hDf hGf ⊢;obtain⟨k0,k1,k2,k3,k4,k5,k6,kf,kl⟩:=hDf.facts;refine bodyPost_ret (v := .tuple #[.agg #[.bool (!o1.toList.isEmpty),.string o2,.string o4,.string o6,.string o7,.bool true,.bool false],.bool true]) (by simp[results,Tryz.results168,go_sem,k0,k1,k2,k3,k4,k5,k6,kf]) rfl ⟨?_,hGf.drew⟩;exact J48
        clear g3;refine Z9 ?_;go_wp2_with fail;refine Z73 ?_;intro hDf;have hGf:Gr w (((((((wc.setCell ⟨w.heap.size,0,none⟩ (.bool (!o1.toList.isEmpty))).setCell ⟨w.heap.size,1,none⟩ (.string o2)).setCell ⟨w.heap.size,2,none⟩ (.string o4)).setCell ⟨w.heap.size,3,none⟩ (.string o6)).setCell ⟨w.heap.size,4,none⟩ (.string o7)).setCell ⟨w.heap.size,5,none⟩ (.bool true)).setCell ⟨w.heap.size,6,none⟩ (.bool false)):=by (repeat refine Gr.setCell ?_ (by simp) _);exact hGc
        refine Z104 ?_;intro HK;clear hSx k0 k1 k2 k3 k4 k5 k6 kf kl;generalize (((((((wc.setCell ⟨w.heap.size,0,none⟩ (.bool (!o1.toList.isEmpty))).setCell ⟨w.heap.size,1,none⟩ (.string o2)).setCell ⟨w.heap.size,2,none⟩ (.string o4)).setCell ⟨w.heap.size,3,none⟩ (.string o6)).setCell ⟨w.heap.size,4,none⟩ (.string o7)).setCell ⟨w.heap.size,5,none⟩ (.bool true)).setCell ⟨w.heap.size,6,none⟩ (.bool false))=Wf at hDf hGf ⊢;obtain⟨k0,k1,k2,k3,k4,k5,k6,kf,kl⟩:=hDf.facts;refine bodyPost_ret (v := .tuple #[.agg #[.bool (!o1.toList.isEmpty),.string o2,.string o4,.string o6,.string o7,.bool true,.bool false],.bool false]) (by simp[results,Tryz.results168,go_sem,k0,k1,k2,k3,k4,k5,k6,kf]) rfl ⟨?_,hGf.drew⟩;exact J48
       | true =>
        have H5:Hid (o5.toList.isEmpty=false):=Lib.hid (by have:=HB5.out;revert this;cases o5.toList.isEmpty <;> simp);rcases str_is o7 with⟨g1,g2,g3⟩|⟨g1,g2,g3⟩
        · clear g3;refine Z9 ?_;go_wp2_with fail;refine Z74 ?_;intro hDf;have hGf:Gr w (((((((wc.setCell ⟨w.heap.size,0,none⟩ (.bool (!o1.toList.isEmpty))).setCell ⟨w.heap.size,1,none⟩ (.string o2)).setCell ⟨w.heap.size,2,none⟩ (.string o4)).setCell ⟨w.heap.size,3,none⟩ (.string o6)).setCell ⟨w.heap.size,4,none⟩ (.string o7)).setCell ⟨w.heap.size,5,none⟩ (.bool true)).setCell ⟨w.heap.size,6,none⟩ (.bool true)):=by (repeat refine Gr.setCell ?_ (by simp) _);exact hGc
          refine Z104 ?_;intro HK;clear hSx k0 k1 k2 k3 k4 k5 k6 kf kl;generalize (((((((wc.setCell ⟨w.heap.size,0,none⟩ (.bool (!o1.toList.isEmpty))).setCell ⟨w.heap.size,1,none⟩ (.string o2)).setCell ⟨w.heap.size,2,none⟩ (.string o4)).setCell ⟨w.heap.size,3,none⟩ (.string o6)).setCell ⟨w.heap.size,4,none⟩ (.string o7)).setCell ⟨w.heap.size,5,none⟩ (.bool true)).setCell ⟨w.heap.size,6,none⟩ (.bool true))=Wf at hDf hGf ⊢;obtain⟨k0,k1,k2,k3,k4,k5,k6,kf,kl⟩:=hDf.facts;refine bodyPost_ret (v := .tuple #[.agg #[.bool (!o1.toList.isEmpty),.string o2,.string o4,.string o6,.string o7,.bool true,.bool true],.bool false]) (by simp[results,Tryz.results168,go_sem,k0,k1,k2,k3,k4,k5,k6,kf]) rfl ⟨?_,hGf.drew⟩;exact J48
        clear g3;refine Z9 ?_;go_wp2_with fail;refine Z74 ?_;intro hDf;have hGf:Gr w (((((((wc.setCell ⟨w.heap.size,0,none⟩ (.bool (!o1.toList.isEmpty))).setCell ⟨w.heap.size,1,none⟩ (.string o2)).setCell ⟨w.heap.size,2,none⟩ (.string o4)).setCell ⟨w.heap.size,3,none⟩ (.string o6)).setCell ⟨w.heap.size,4,none⟩ (.string o7)).setCell ⟨w.heap.size,5,none⟩ (.bool true)).setCell ⟨w.heap.size,6,none⟩ (.bool true)):=by (repeat refine Gr.setCell ?_ (by simp) _);exact hGc
        refine Z107 ?_;intro HK;clear hSx k0 k1 k2 k3 k4 k5 k6 kf kl;generalize (((((((wc.setCell ⟨w.heap.size,0,none⟩ (.bool (!o1.toList.isEmpty))).setCell ⟨w.heap.size,1,none⟩ (.string o2)).setCell ⟨w.heap.size,2,none⟩ (.string o4)).setCell ⟨w.heap.size,3,none⟩ (.string o6)).setCell ⟨w.heap.size,4,none⟩ (.string o7)).setCell ⟨w.heap.size,5,none⟩ (.bool true)).setCell ⟨w.heap.size,6,none⟩ (.bool true))=Wf at hDf hGf ⊢;obtain⟨k0,k1,k2,k3,k4,k5,k6,kf,kl⟩:=hDf.facts;refine bodyPost_ret (v := .tuple #[.agg #[.bool (!o1.toList.isEmpty),.string o2,.string o4,.string o6,.string o7,.bool true,.bool true],.bool true]) (by simp[results,Tryz.results168,go_sem,k0,k1,k2,k3,k4,k5,k6,kf]) rfl ⟨?_,hGf.drew⟩;exact J48
end Go.Proofs.YtfogfaagjpebcaaGreatDoor
