/-
 The walks and plain laws that the claim rests on, part 24.
-/
import Derived.Test.YtkplelejagpkmaaGreatDoorP10
import Derived.Test.YtkplelejagpkmaaGreatDoorP16
import Derived.Test.YtkplelejagpkmaaGreatDoorP20
import Derived.Test.YtkplelejagpkmaaGreatDoorP23
import Derived.Deep.DeepCutAuto
import Derived.Lib.Atoi
set_option maxHeartbeats 16000000
set_option linter.all false
set_option linter.unusedVariables false
set_option linter.unusedSimpArgs false
namespace Go.Proofs.YtkplelejagpkmaaGreatDoor
open Go.RowKit Go.Joins
theorem str_em (x:ByteArray):(x.toList=[]∧x.toList.isEmpty=true∧(bs x).isEmpty=true)∨(¬x.toList=[]∧x.toList.isEmpty=false∧(bs x).isEmpty=false):=by
 rw[Lib.toList_data];show (bs x=[]∧(bs x).isEmpty=true∧(bs x).isEmpty=true)∨_;cases h:bs x with
 | nil=>exact .inl ⟨rfl,rfl,rfl⟩
 | cons c l =>
  right;refine⟨?_,?_,rfl⟩
  · show ¬bs x=[];rw[h];simp
  show (bs x).isEmpty=false;rw[h];rfl
theorem bs_of (l:List UInt8):bs ⟨l.toArray⟩=l:=by simp[bs]
theorem trim0 (s T:ByteArray) (hT:⟨(Pl.noughts (bs s)).toArray⟩=T) (w:World):Calls Tryz.prog 79 #[.string s,.string ⟨#[48]⟩] w fun e w'=>e = .returned (.string T)∧w'=w:=by
 refine (Any.strings_TrimLeft_one Tryz.lays161 s 48 (by decide) w).mono ?_;rintro e w' ⟨rfl,rfl⟩;refine⟨?_,rfl⟩;rw[←hT];have:Lib.trimLeftB s.data.toList 48=Pl.noughts (bs s):=by
  unfold Pl.noughts Lib.trimLeftS Lib.trimLeftB;congr 1
  funext c
  exact Bool.eq_iff_iff.2 (by simp)
 rw[this]
theorem trim0R (s T:ByteArray) (hs:s.size≤20000000) (hT:⟨(Pl.noughtsR (bs s)).toArray⟩=T) (w:World):Calls Tryz.prog 124 #[.string s,.string ⟨#[48]⟩] w fun e w'=>e = .returned (.string T)∧w'=w:=by
 refine (Any.strings_TrimRight_one Tryz.lays162 s 48 (by decide) w (by omega)).mono ?_;rintro e w' ⟨rfl,rfl⟩;refine⟨?_,rfl⟩;rw[←hT];have:Lib.trimRightB s.data.toList 48=Pl.noughtsR (bs s):=by
  unfold Pl.noughtsR Lib.trimRightS Lib.trimRightB;congr 2
  funext c
  exact Bool.eq_iff_iff.2 (by simp)
 rw[this]
namespace Pl
theorem decFrom_val:∀(l:Bs) (a:Nat),(∀c∈l,isDec c=true)→Lib.decFrom a l=some (l.foldl (fun a c=>a*10+(c.toNat-48)) a):=by
 intro l
 induction l with
 | nil=>intro a _;rfl
 | cons c l ih =>
  intro a h;have hc:=h c (by simp);simp only[isDec,Bool.and_eq_true,decide_eq_true_eq]at hc;unfold Lib.decFrom Lib.digitVal;rw[if_pos hc];simp only[List.foldl_cons];exact ih _ (fun d hd=>h d (List.mem_cons_of_mem _ hd))
theorem decVal_lt:∀(l:Bs) (a:Nat),(∀c∈l,isDec c=true)→l.foldl (fun a c=>a*10+(c.toNat-48)) a<(a+1)*10 ^ l.length:=by
 intro l
 induction l with
 | nil=>intro a _;simp
 | cons c l ih =>
  intro a h;have hc:=h c (by simp);simp only[isDec,Bool.and_eq_true,decide_eq_true_eq]at hc;simp only[List.foldl_cons,List.length_cons];refine Nat.lt_of_lt_of_le (ih _ (fun d hd=>h d (List.mem_cons_of_mem _ hd))) ?_;rw[Nat.pow_succ,Nat.mul_comm (10 ^ l.length) 10,←Nat.mul_assoc];exact Nat.mul_le_mul_right _ (by omega)
theorem noughts_mem (l:Bs) (c:UInt8) (h:c∈noughts l):c∈l:=(List.dropWhile_sublist _).subset h
theorem noughts_len (l:Bs):(noughts l).length≤l.length:=(List.dropWhile_sublist _).length_le
theorem noughtsR_len (l:Bs):(noughtsR l).length≤l.length:=by
 unfold noughtsR Lib.trimRightS;rw[List.length_reverse];have:=(List.dropWhile_sublist (l:=l.reverse) (fun c=>([48]:Bs).contains c)).length_le;rw[List.length_reverse]at this;exact this
theorem atoi_zero (l:Bs) (h:∀c∈l,isDec c=true):Lib.atoi (48::l)=some (decVal l:Int):=by
 have h1:Lib.atoi (48::l)=(Lib.decNat (48::l)).map fun (m:Nat)=>(m:Int):=rfl
 rw[h1];unfold Lib.decNat;have h2:Lib.decFrom 0 (48::l)=Lib.decFrom 0 l:=rfl;rw[if_neg (by simp),h2,decFrom_val l 0 h];rfl
end Pl
theorem dc_within (n:Int) (w:World):Calls Tryz.prog 138 #[.int .i64 n] w fun e w'=>e = .returned (.bool (Pl.within n))∧w'=w:=by
 have hx:Pl.within n=(decide (-1000000000≤n) && decide (n≤1000000000)):=rfl;have HX:=Lib.hid hx;clear hx;go_enter Tryz.func138,Tryz.ntmps138;by_cases h1 : -1000000000≤n
 · have d1:decide (n ≥ -1000000000)=true:=by simpa using h1
   by_cases h2:n≤1000000000
   · have d2:decide (n≤1000000000)=true:=by simpa using h2
     go_wp2_with fail
     go_ret
     rw[HX.out];simp[h1,h2]
   have d2:decide (n≤1000000000)=false:=by simpa using h2
   go_wp2_with fail
   go_ret
   rw[HX.out];simp[h1,h2]
 have d1:decide (n ≥ -1000000000)=false:=by simpa using h1
 go_wp2_with fail
 go_ret
 rw[HX.out,show decide (-1000000000≤n)=false by simpa using h1];simp
def numPost (X:Option Int) (e:Ending):Prop:=match X with
 | none=>∃n:Int,e = .returned (.tuple #[.int .i64 n,.bool false])
 | some n=>e = .returned (.tuple #[.int .i64 n,.bool true])
theorem dec_num (neg:Bool) (p:List UInt8) (h:¬ 12<(Pl.noughts p).length) (n:Int) (hn:n=if neg then -(Pl.decVal (Pl.noughts p):Int) else (Pl.decVal (Pl.noughts p):Int)) (e:Ending) (he:e = .returned (.tuple #[.int .i64 n,.bool (Pl.within n)])):numPost (Pl.decNum neg p) e:=by
 unfold Pl.decNum;rw[if_neg h];subst he;simp only[←hn];cases hw:Pl.within n with
 | true=>rw[if_pos rfl];rfl
 | false=>rw[if_neg (by simp)];exact⟨n,rfl⟩
set_option maxRecDepth 100000 in
theorem dc_number (b0 b5 b6:Bool) (a1 a2 a3 a4:ByteArray) (hz:a4.size≤20000000) (hd:∀c∈bs a4,isDec c=true) (w:World) :
    Calls Tryz.prog 136 #[.agg #[.bool b0,.string a1,.string a2,.string a3,.string a4,.bool b5,.bool b6]] w fun e w'=>numPost (Pl.decNum (decide (bs a3=[45])) (bs a4)) e∧Gr w w':=by
 obtain⟨T,hT⟩:∃T:ByteArray,⟨(Pl.noughts (bs a4)).toArray⟩=T:=⟨_,rfl⟩
 have hbT:Pl.noughts (bs a4)=bs T:=by rw[←hT,bs_of]
 have HT:=Lib.hid hT;have HB:=Lib.hid hbT;have HD:Hid (∀c∈bs T,isDec c=true):=Lib.hid (fun c hc=>hd c (Pl.noughts_mem _ _ (by rw[hbT];exact hc)));clear hT hbT hd;go_enter Tryz.func136,Tryz.ntmps136;by_cases hl:12<T.size
 · have d1:decide ((12:Int)<(T.size:Int))=true:=by simp;omega
   go_wp2_with (go_at_call 79;refine (trim0 a4 T HT.out _).mono ?_;rintro e w1 ⟨rfl,rfl⟩);refine bodyPost_ret (v := .tuple #[.int .i64 0,.bool false]) (by simp[results,Tryz.results136,go_sem]) rfl ⟨?_,Gr.auto⟩;unfold Pl.decNum;rw[if_pos (by rw[HB.out,bs_length];exact hl)];exact⟨0,rfl⟩
 have d1:decide ((12:Int)<(T.size:Int))=false:=by simp;omega
 have hv:Pl.decVal (bs T)<1*10 ^ 12:=Nat.lt_of_lt_of_le (Pl.decVal_lt (bs T) 0 HD.out) (Nat.mul_le_mul_left _ (Nat.pow_le_pow_right (by omega) (by rw[bs_length];omega)));have hnb:¬ 9223372036854775807<1+T.size:=by omega
 obtain⟨U,hU⟩:∃U:ByteArray,(⟨#[48]⟩:ByteArray)++T=U:=⟨_,rfl⟩
 have hUb:bs U=48::bs T:=by rw[←hU];simp[bs,ByteArray.data_append]
 have hUz:U.size≤18:=by rw[←bs_length,hUb,List.length_cons,bs_length];omega
 obtain⟨m,hm⟩:∃m,Pl.decVal (bs T)=m:=⟨_,rfl⟩
 have hat:Lib.atoi U.data.toList=some (m:Int):=by
  show Lib.atoi (bs U)=_;rw[hUb,←hm];exact Pl.atoi_zero _ HD.out
 have HA:∀W,Calls Tryz.prog 121 #[.string U] W fun e w'=>e = .returned (.tuple #[.int .i64 (m:Int),.nilIface])∧Gr W w':=fun W=>by
  refine (Tryz.strconv_Atoi U (m:Int) hUz hat W).mono ?_;rintro e w' ⟨rfl,t,rfl⟩;exact⟨rfl,gr_bytesWorld W 5 t⟩
 have HA2:=Lib.hid HA;rw[hm]at hv;have HM:=Lib.hid hm;have hv1:(m:Int)<1000000000000:=by omega
 have hv2:(0:Int)≤(m:Int):=by omega
 have hv3 : -(m:Int)≤9223372036854775807:=by omega
 have hv4 : -9223372036854775808 ≤ -(m:Int):=by omega
 clear HA hat hUb hUz hm hv;have HN:Hid (¬ 12<(Pl.noughts (bs a4)).length):=Lib.hid (by rw[HB.out,bs_length];exact hl);go_wp2_with (go_at_call 79;refine (trim0 a4 T HT.out _).mono ?_;rintro e w1 ⟨rfl,rfl⟩);refine (HA2.out _).mono ?_;rintro e w2 ⟨rfl,g2⟩;have hG:Gr w w2:=((Gr.refl w).alloc _).trans g2;have hc:w2.cell? ⟨w.heap.size,3,none⟩=some (.string a3):=(g2.use.1 _ _ (by simp)).trans (by simp);clear g2;by_cases h3:a3=⟨#[45]⟩
 · subst h3;go_wp2_with fail;refine (dc_within _ _).mono ?_;rintro e w3 ⟨rfl,rfl⟩;go_wp2_with fail;refine bodyPost_ret (v := .tuple #[.int .i64 (-(m:Int)),.bool (Pl.within (-(m:Int)))]) (by simp[results,Tryz.results136,go_sem]) rfl ⟨dec_num _ _ HN.out _ ?_ _ rfl,hG⟩;rw[HB.out,HM.out];rfl
 have hb3:¬bs a3=[45]:=fun h=>h3 (ByteArray.ext (Array.toList_inj.1 h))
 have d3:(a3.toList==[45])=false:=by
  rw[Lib.toList_data]
  simpa using hb3
 have HZ:=Lib.hid hb3;clear hb3 h3;go_wp2_with fail;refine (dc_within _ _).mono ?_;rintro e w3 ⟨rfl,rfl⟩;go_wp2_with fail;refine bodyPost_ret (v := .tuple #[.int .i64 (m:Int),.bool (Pl.within (m:Int))]) (by simp[results,Tryz.results136,go_sem]) rfl ⟨dec_num _ _ HN.out _ ?_ _ rfl,hG⟩;rw[HB.out,HM.out,decide_eq_false HZ.out];rfl
def normB (b:Bool) (l:List UInt8):Bool:=if Pl.noughtsR (Pl.noughts l)=[] then false else b
def normL (l:List UInt8):List UInt8:=if Pl.noughtsR (Pl.noughts l)=[] then [48] else Pl.noughtsR (Pl.noughts l)
def normE (l:List UInt8) (e:Int):Int:=if Pl.noughtsR (Pl.noughts l)=[] then 0 else e+(Pl.noughts l).length-(Pl.noughtsR (Pl.noughts l)).length
set_option maxRecDepth 100000 in
theorem dc_normal (b:Bool) (s:ByteArray) (n:Int) (hs:s.size≤20000000) (hn : -2000000000≤n∧n≤2000000000) (w:World) :
    Calls Tryz.prog 137 #[.bool b,.string s,.int .i64 n] w fun e w'=>(∃d:ByteArray,e = .returned (.agg #[.bool (normB b (bs s)),.string d,.int .i64 (normE (bs s) n)])∧bs d=normL (bs s))∧Gr w w':=by
 obtain⟨T,hT⟩:∃T:ByteArray,⟨(Pl.noughts (bs s)).toArray⟩=T:=⟨_,rfl⟩
 have hbT:Pl.noughts (bs s)=bs T:=by rw[←hT,bs_of]
 have hTz:T.size≤20000000:=by have:=Pl.noughts_len (bs s);rw[hbT,bs_length,bs_length]at this;omega
 obtain⟨U,hU⟩:∃U:ByteArray,⟨(Pl.noughtsR (bs T)).toArray⟩=U:=⟨_,rfl⟩
 have hbU:Pl.noughtsR (bs T)=bs U:=by rw[←hU,bs_of]
 have hUz:U.size≤T.size:=by have:=Pl.noughtsR_len (bs T);rw[hbU,bs_length,bs_length]at this;omega
 have HT:=Lib.hid hT;have HU:=Lib.hid hU;have hb:Pl.noughtsR (Pl.noughts (bs s))=bs U:=by rw[hbT,hbU]
 have HBT:=Lib.hid hbT;have HB:=Lib.hid hb;clear hT hU hbT hbU hb;obtain⟨hn1,hn2⟩:=hn;have hw1:=IntWalk.i64_in (n+(T.size:Int)) ⟨by omega,by omega⟩;have hw2:=IntWalk.i64_in (n+(T.size:Int)-(U.size:Int)) ⟨by omega,by omega⟩;go_enter Tryz.func137,Tryz.ntmps137;rcases str_em U with⟨e1,e2,e3⟩|⟨e1,e2,e3⟩
 · have E:Hid (bs U=[]):=Lib.hid (List.isEmpty_iff.1 e3);clear e3;go_wp2_with (first|(go_at_call 79;refine (trim0 s T HT.out _).mono ?_;rintro e w1 ⟨rfl,rfl⟩)|(go_at_call 124;refine (trim0R T U hTz HU.out _).mono ?_;rintro e w2 ⟨rfl,rfl⟩));refine bodyPost_ret (v := .agg #[.bool false,.string ⟨#[48]⟩,.int .i64 0]) (by simp[results,Tryz.results137,go_sem]) rfl ⟨⟨⟨#[48]⟩,?_,?_⟩,?_⟩
   · unfold normB normE;rw[HB.out,if_pos E.out,if_pos E.out]
   · unfold normL;rw[HB.out,if_pos E.out];try rfl
   (repeat (first|refine Gr.setCell ?_ (by simp) _|refine Gr.drew ?_));exact (Gr.refl w).alloc _
 have E:Hid (¬bs U=[]):=Lib.hid (fun h=>by rw[h]at e3;cases e3);clear e3;go_wp2_with (first|(go_at_call 79;refine (trim0 s T HT.out _).mono ?_;rintro e w1 ⟨rfl,rfl⟩)|(go_at_call 124;refine (trim0R T U hTz HU.out _).mono ?_;rintro e w2 ⟨rfl,rfl⟩));refine bodyPost_ret (v := .agg #[.bool b,.string U,.int .i64 (n+(T.size:Int)-(U.size:Int))]) (by simp[results,Tryz.results137,go_sem]) rfl ⟨⟨U,?_,?_⟩,?_⟩
 · unfold normB normE;rw[HB.out,if_neg E.out,if_neg E.out,HBT.out,bs_length,bs_length]
 · unfold normL;rw[HB.out,if_neg E.out]
 (repeat (first|refine Gr.setCell ?_ (by simp) _|refine Gr.drew ?_));exact (Gr.refl w).alloc _
end Go.Proofs.YtkplelejagpkmaaGreatDoor
