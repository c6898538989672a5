/-
 The walks and plain laws that the claim rests on, part 24.
-/
import Derived.Test.YtfogfaagjpebcaaGreatDoorP00
import Derived.Test.YtfogfaagjpebcaaGreatDoorP04
import Derived.Test.YtfogfaagjpebcaaGreatDoorP06
import Derived.Test.YtfogfaagjpebcaaGreatDoorP11
import Derived.Test.YtfogfaagjpebcaaGreatDoorP13
import Derived.Test.YtfogfaagjpebcaaGreatDoorP21
import Derived.Deep.RegionHeld3
set_option maxHeartbeats 16000000
set_option linter.all false
set_option linter.unusedVariables false
set_option linter.unusedSimpArgs false
namespace Go.Proofs.YtfogfaagjpebcaaGreatDoor
open Go.RowKit Go.Shelf Go.Joins
attribute [local go_sem] Oper.semAt_some
theorem bs_take (s:ByteArray) (n:Nat):bs (s.extract 0 n)=(bs s).take n:=by
 rw[extract_zero]
theorem bs_sub (s:ByteArray) (a b:Nat):bs (s.extract a b)=((bs s).drop a).take (b-a):=by
 simp only[bs,Lib.extract_data]
theorem bs_inj {a b:ByteArray} (h:bs a=bs b):a=b:=ByteArray.ext (Array.toList_inj.1 h)
theorem low128 {l:List UInt8} (h:∀c∈l,c.toNat<128):∀(j:Nat) b,l[j]?=some b→b.toNat<128:=fun j b hj=>h b (List.mem_of_getElem? hj)
namespace Pl
set_option maxRecDepth 100000 in
theorem dec_mem (c:UInt8):(bs decD).contains c=isDec c:=by
 have h:∀n:Fin 256,(bs decD).contains (UInt8.ofNat n.1)=isDec (UInt8.ofNat n.1):=by decide
 have:=h ⟨c.toNat,UInt8.toNat_lt c⟩;exact J14
theorem take_while_eq (p:UInt8→Bool) (l:Bs):l.take (l.length-(l.dropWhile p).length)=l.takeWhile p:=by
 have h:=List.takeWhile_append_dropWhile (p:=p) (l:=l);have h2:=congrArg List.length h;rw[List.length_append]at h2;have h3:l.length-(l.dropWhile p).length=(l.takeWhile p).length:=by omega
 rw[h3];exact (List.prefix_iff_eq_take.1 (List.takeWhile_prefix p)).symm
end Pl
theorem dt_digits (s:ByteArray) (hs:s.size≤20000000) (w:World) :
    Calls Tryz.prog 154 #[.string s] w fun e w'=>(∃t:ByteArray,e = .returned (.string t)∧bs t=(bs s).takeWhile isDec∧t.size≤s.size)∧Gr w w':=by
 obtain⟨T,hT⟩:∃T:ByteArray,⟨(Lib.trimLeftS (bs s) (bs decD)).toArray⟩=T:=⟨_,rfl⟩
 have hbT:bs T=(bs s).dropWhile isDec:=by
  rw[←hT,bs_of];unfold Lib.trimLeftS;congr 1
  funext c
  exact Pl.dec_mem c
 have hsz:T.size≤s.size:=by rw[←bs_length,hbT,←bs_length];exact (List.dropWhile_sublist _).length_le
 have hx:bs (s.extract 0 (s.size-T.size))=(bs s).takeWhile isDec:=by
  rw[bs_take,←Pl.take_while_eq,←hbT,bs_length,bs_length]
 have HX:=Lib.hid hx;have HT:=Lib.hid hT;have hw1:IntKind.i64.wrap ((s.size:Int)-(T.size:Int))=((s.size-T.size:Nat):Int):=by rw[IntWalk.i64_in _ ⟨by omega,by omega⟩];omega
 have e1:(0:Int)≤((s.size-T.size:Nat):Int):=by omega
 have e2:((s.size-T.size:Nat):Int)≤(s.size:Int):=by omega
 clear hT hbT hx;go_enter Tryz.func154,Tryz.ntmps154;go_wp2_with (go_at_call 56;refine (Any.strings_TrimLeft_laid Tryz.lays161 bool256 s decD _ (by decide) (ascii_of_all (by decide))).mono ?_;rw[show (⟨(Lib.trimLeftS s.data.toList decD.data.toList).toArray⟩:ByteArray)=T from HT.out];rintro e w1 ⟨rfl,g1⟩)
 go_ret
 exact⟨⟨_,rfl,HX.out,by simp⟩,g1⟩
theorem dt_clock (s:ByteArray) (hs:s.size≤20000000) (w:World) :
    Calls Tryz.prog 135 #[.string s] w fun e w'=>(∃t p:ByteArray,e = .returned (.tuple #[.string t,.string p])∧Pl.clockP (bs s)=(bs t,bs p))∧Gr w w':=by
 cases hf:Pl.formM (bs s) Pl.timeF with
 | false =>
  refine (dt_clock0 s (by omega) hf w).mono ?_;rintro e w' ⟨rfl,g⟩;refine⟨⟨_,_,rfl,?_⟩,g⟩;unfold Pl.clockP;rw[hf];rfl
 | true =>
  have hlen:8≤s.size:=by
   rcases Nat.lt_or_ge s.size 8 with h|h
   · rw[Pl.formM_short _ _ (by rw[bs_length];exact h)]at hf;cases hf
   exact h
  have HC:∀W,Calls Tryz.prog 134 #[.string s,.string ⟨#[57,57,58,57,57,58,57,57]⟩] W fun e w'=>e = .returned (.string (s.extract 0 8))∧Gr W w':=fun W=>by
   refine (dt_form s ⟨#[57,57,58,57,57,58,57,57]⟩ (low_of _ (by decide)) (by omega) W).mono ?_;rintro e w' ⟨rfl,g⟩;refine⟨?_,g⟩;rw[show Pl.formM (bs s) (bs ⟨#[57,57,58,57,57,58,57,57]⟩)=true from hf,if_pos rfl];rfl
  obtain⟨T,hT⟩:∃T,s.extract 0 8=T:=⟨_,rfl⟩
  have hTz:T.size=8:=by rw[←hT];simp;omega
  have hTb:bs T=(bs s).take 8:=by rw[←hT,bs_take]
  refine Z230 ?_;intro hTn hTe;obtain⟨r,hr⟩:∃r,s.extract 8 s.size=r:=⟨_,rfl⟩
  have hrb:bs r=(bs s).drop 8:=by rw[←hr,bs_extract]
  have hrz:r.size=s.size-8:=by rw[←hr];simp
  rw[hT]at HC;have HF:=Lib.hid HC;have hTi:(T.size:Int)=8:=by omega
  have k1:(0:Int)≤8:=by omega
  have k2:(8:Int)≤(s.size:Int):=by omega
  cases hp:Pl.pre (bs r) [46] with
  | false =>
   have HP:=Lib.hid hp;have hX:Hid (Pl.clockP (bs s)=(bs T,bs ⟨#[]⟩)):=Lib.hid (by
    unfold Pl.clockP;rw[hf,if_pos rfl,hTb,←hrb];cases hz:bs r with
    | nil=>rfl
    | cons c l =>
     rw[hz]at hp;have:Pl.heads Pl.isDot (c::l)=false:=by
      simp only[Pl.pre]at hp;simp only[Pl.heads,Pl.isDot];simp at hp ⊢
      first|exact hp|(intro e;exact hp (UInt8.toNat_inj.1 e))|omega
     rw[this];rfl)
   have HR:=Lib.hid hr;clear HC hT hTb hr hrb hp hf;go_enter Tryz.func135,Tryz.ntmps135;go_wp2_with (go_at_call 134;refine (HF.out _).mono ?_;rintro e w1 ⟨rfl,g1⟩);rw[HR.out];refine (prefix_whole r ⟨#[46]⟩ false HP.out _).mono ?_;refine Z48 ?_;go_wp2_with fail
   go_ret2
   exact⟨⟨_,_,rfl,hX.out⟩,g1⟩
  | true =>
   have HP:=Lib.hid hp;have hr1:1≤r.size:=by
    rcases Nat.eq_zero_or_pos r.size with h|h
    · have:bs r=[]:=List.eq_nil_of_length_eq_zero (by rw[bs_length];exact h);rw[this]at hp;cases hp
    exact h
   obtain⟨r1,hr1e⟩:∃r1,r.extract 1 r.size=r1:=⟨_,rfl⟩
   have hr1b:bs r1=(bs s).drop 9:=by rw[←hr1e,bs_extract,hrb,List.drop_drop]
   have hX:Hid (Pl.clockP (bs s)=(bs T,(bs r1).takeWhile isDec)):=Lib.hid (by
    unfold Pl.clockP;rw[hf,if_pos rfl,hTb,hr1b,←hrb];cases hz:bs r with
    | nil=>rw[hz]at hp;cases hp
    | cons c l =>
     rw[hz]at hp;have:Pl.heads Pl.isDot (c::l)=true:=by
      simp only[Pl.pre]at hp;simp only[Pl.heads,Pl.isDot];simp at hp ⊢
      first|exact hp|(rw[hp];rfl)|(rw[←hp];rfl)|omega
     rw[this];rfl)
   have HD:=Lib.hid (dt_digits r1 (by rw[←hr1e];simp;omega));have k3:(1:Int)≤(r.size:Int):=by omega
   have HR:=Lib.hid hr;have HR1:=Lib.hid hr1e;clear HC hT hTb hr hrb hp hf hr1b hrz hTz hr1e;go_enter Tryz.func135,Tryz.ntmps135;go_wp2_with (go_at_call 134;refine (HF.out _).mono ?_;rintro e w1 ⟨rfl,g1⟩);rw[HR.out];refine (prefix_whole r ⟨#[46]⟩ true HP.out _).mono ?_;refine Z48 ?_;go_wp2_with fail;rw[HR1.out];refine (HD.out _).mono ?_;rintro e w3 ⟨⟨p,rfl,hp,hpz⟩,g3⟩;have hp2:Pl.clockP (bs s)=(bs T,bs p):=by rw[hX.out,hp]
   clear hp;go_wp2_with fail
   go_ret2
   exact⟨⟨_,_,rfl,hp2⟩,g1.trans g3⟩
theorem dt_after (t p:ByteArray) (ht:t.size≤20000000) (hp:p.size≤20000000) (w:World) :
    Calls Tryz.prog 136 #[.string t,.string p] w fun e w'=>e = .returned (.int .i64 (Pl.afterP (bs t) (bs p):Nat))∧w=w':=by
 rcases str_em p with⟨h1,h2,h3⟩|⟨h1,h2,h3⟩
 · have HX:Hid (Pl.afterP (bs t) (bs p)=t.size):=Lib.hid (by unfold Pl.afterP;rw[if_pos (List.isEmpty_iff.1 h3),bs_length]);exact J47
 have HX:Hid (Pl.afterP (bs t) (bs p)=t.size+1+p.size):=Lib.hid (by unfold Pl.afterP;rw[if_neg (fun e=>by rw[e]at h3;cases h3),bs_length,bs_length]);have w1:IntKind.i64.wrap ((t.size:Int)+1)=(t.size:Int)+1:=IntWalk.i64_in _ ⟨by omega,by omega⟩;have w2:IntKind.i64.wrap ((t.size:Int)+1+(p.size:Int))=(t.size:Int)+1+(p.size:Int):=IntWalk.i64_in _ ⟨by omega,by omega⟩;exact J47
theorem dt_zone (s:ByteArray) (hs:s.size≤20000000) (w:World) :
    Calls Tryz.prog 137 #[.string s] w fun e w'=>(∃z:ByteArray,e = .returned (.string z)∧bs z=Pl.zoneP (bs s)∧z.size≤s.size)∧Gr w w':=by
 rcases str_em s with⟨h1,h2,h3⟩|⟨h1,h2,h3⟩
 · have HX:Hid (Pl.zoneP (bs s)=[]):=Lib.hid (by rw[List.isEmpty_iff.1 h3];rfl);exact J139
 refine Z217 ?_;intro e0 e1;have k1:(1:Int)≤(s.size:Int):=by omega
 have hh:=idx_bs s 0 e0;simp only[List.drop_zero,Nat.zero_add]at hh;have hZ:Pl.zoneP (bs s)=if (s[0]'e0).toNat=90∨(s[0]'e0).toNat=122 then [s[0]'e0] else if Pl.isSign (s[0]'e0) && Pl.formM ((bs s).drop 1) Pl.zoneF then (bs s).take 6 else []:=by
  conv=>lhs;rw[hh]
  unfold Pl.zoneP;simp only;rw[←hh]
 have ht1:bs (s.extract 0 1)=[s[0]'e0]:=by rw[bs_take,hh];rfl
 have HZ:=Lib.hid hZ;have HT1:=Lib.hid ht1;cases hz:((s[0]'e0).toNat==90) with
 | true =>
  have z1:(((s[0]'e0).toNat:Int)==90)=true:=(beqs _ 90 _ hz).1;have HX:Hid (Pl.zoneP (bs s)=bs (s.extract 0 1)):=Lib.hid (by rw[HZ.out,HT1.out,if_pos (.inl (by simpa using hz))]);clear hz hh hZ ht1 h3;exact J136
 | false =>
  have z1:(((s[0]'e0).toNat:Int)==90)=false:=(beqs _ 90 _ hz).1;cases hy:((s[0]'e0).toNat==122) with
  | true =>
   have z2:(((s[0]'e0).toNat:Int)==122)=true:=(beqs _ 122 _ hy).1;have HX:Hid (Pl.zoneP (bs s)=bs (s.extract 0 1)):=Lib.hid (by rw[HZ.out,HT1.out,if_pos (.inr (by simpa using hy))]);clear hz hy hh hZ ht1 h3;exact J136
  | false =>
   have z2:(((s[0]'e0).toNat:Int)==122)=false:=(beqs _ 122 _ hy).1;have hZ2:Pl.zoneP (bs s)=if Pl.isSign (s[0]'e0) && Pl.formM ((bs s).drop 1) Pl.zoneF then (bs s).take 6 else []:=by
    rw[HZ.out,if_neg (by
     rintro (h|h)
     · rw[h]at hz;cases hz
     rw[h]at hy;cases hy)]
   have HZ2:=Lib.hid hZ2;obtain⟨r,hr⟩:∃r,s.extract 1 s.size=r:=⟨_,rfl⟩
   have hrb:bs r=(bs s).drop 1:=by rw[←hr,bs_extract]
   have hrz:r.size=s.size-1:=by rw[←hr];simp
   have HR:=Lib.hid hr;have HRB:=Lib.hid hrb;have hcase:((((s[0]'e0).toNat:Int)==43)=true∧Pl.isSign (s[0]'e0)=true)∨((((s[0]'e0).toNat:Int)==43)=false∧(((s[0]'e0).toNat:Int)==45)=true∧Pl.isSign (s[0]'e0)=true)∨((((s[0]'e0).toNat:Int)==43)=false∧(((s[0]'e0).toNat:Int)==45)=false∧Pl.isSign (s[0]'e0)=false):=by
    unfold Pl.isSign;cases h43:((s[0]'e0).toNat==43) with
    | true=>exact .inl ⟨(beqs _ 43 _ h43).1,rfl⟩
    | false =>
     cases h45:((s[0]'e0).toNat==45) with
     | true=>exact .inr (.inl ⟨(beqs _ 43 _ h43).1,(beqs _ 45 _ h45).1,rfl⟩)
     | false=>exact .inr (.inr ⟨(beqs _ 43 _ h43).1,(beqs _ 45 _ h45).1,rfl⟩)
   clear hz hy hh hZ hZ2 ht1 h3 hr hrb HZ HT1;rcases hcase with⟨q1,q3⟩|⟨q1,q2,q3⟩|⟨q1,q2,q3⟩
   case inr.inr =>
    have HX:Hid (Pl.zoneP (bs s)=[]):=Lib.hid (by rw[HZ2.out,q3];rfl);clear q3;exact J139
   all_goals
    have HF:Hid (∀W,Calls Tryz.prog 134 #[.string r,.string ⟨#[57,57,58,57,57]⟩] W fun e w'=>e = .returned (.string (if Pl.formM (bs r) Pl.zoneF=true then r.extract 0 5 else ⟨#[]⟩))∧Gr W w') :=
     Lib.hid (fun W=>dt_form r ⟨#[57,57,58,57,57]⟩ (low_of _ (by decide)) (by omega) W)
    cases hf:Pl.formM (bs r) Pl.zoneF with
    | true =>
     have hlen:=Pl.formM_short (bs r) Pl.zoneF;have h5:5≤r.size:=by
      rcases Nat.lt_or_ge r.size 5 with h|h
      · rw[hlen (by rw[bs_length];exact h)]at hf;cases hf
      exact h
     have k6:(6:Int)≤(s.size:Int):=by omega
     have HX:Hid (Pl.zoneP (bs s)=bs (s.extract 0 6)):=Lib.hid (by rw[HZ2.out,q3,←HRB.out,hf,bs_take];rfl);rw[hf,if_pos rfl]at HF;obtain⟨T,hT⟩:∃T,r.extract 0 5=T:=⟨_,rfl⟩
     have hTz:T.size=5:=by rw[←hT];simp;omega
     refine Z230 ?_;intro hTn hTe;rw[hT]at HF;clear hlen hf hT hTz q3;go_enter Tryz.func137,Tryz.ntmps137;go_wp2_with fail;rw[HR.out];refine (HF.out _).mono ?_;rintro e w1 ⟨rfl,g1⟩;go_wp2_with fail
     go_ret
     exact⟨⟨_,rfl,by (rw[HX.out];try rfl),by (simp;try omega)⟩,g1⟩
    | false =>
     have HX:Hid (Pl.zoneP (bs s)=[]):=Lib.hid (by rw[HZ2.out,←HRB.out,hf,Bool.and_false];rfl);rw[hf,if_neg (by simp)]at HF;clear hf q3;go_enter Tryz.func137,Tryz.ntmps137;go_wp2_with fail;rw[HR.out];refine (HF.out _).mono ?_;rintro e w1 ⟨rfl,g1⟩;go_wp2_with fail
     go_ret
     exact⟨⟨_,rfl,by (rw[HX.out];try rfl),Nat.zero_le _⟩,g1⟩
end Go.Proofs.YtfogfaagjpebcaaGreatDoor
namespace Go.Proofs.YtfogfaagjpebcaaGreatDoor
open Go.RowKit Go.Shelf Go.Joins
attribute [local go_sem] Oper.semAt_some
namespace Pl
theorem formM_len (l m:Bs) (h:formM l m=true):m.length≤l.length:=by
 by_cases hl:l.length<m.length
 · rw[formM_short l m hl]at h;cases h
 omega
theorem clockP_len (l:Bs):afterP (clockP l).1 (clockP l).2≤l.length:=by
 unfold clockP;by_cases h:formM l timeF=true
 · rw[if_pos h];have hl:=formM_len _ _ h;have h8:timeF.length=8:=rfl;have ht:(l.take 8).length=8:=by rw[List.length_take];omega
   unfold afterP;simp only;cases hd:heads isDot (l.drop 8) with
   | false=>simp only[Bool.false_eq_true,if_false,if_true];omega
   | true =>
    simp only[if_true];have:=(List.takeWhile_sublist (l:=l.drop 9) isDec).length_le;rw[List.length_drop]at this;cases hu:l.drop 8 with
    | nil=>rw[hu]at hd;cases hd
    | cons c v =>
     have h9:=congrArg List.length hu;rw[List.length_drop]at h9;simp only[List.length_cons]at h9;by_cases hp:List.takeWhile isDec (l.drop 9)=[]
     · rw[if_pos hp];omega
     rw[if_neg hp];omega
 rw[if_neg h];simp[afterP]
theorem zoneP_len (l:Bs):(zoneP l).length≤l.length:=by
 unfold zoneP
 split
 · simp
 split
 · simp
 split
 · rw[List.length_take];omega
 simp
theorem splitD_len (l:Bs):(splitD l).long≤l.length:=by
 unfold splitD
 split
 · rename_i h
   have hl:=formM_len _ _ h;have h10:dateF.length=10:=rfl
   split
   · rename_i ht
     have h11:11≤l.length:=by
      cases hu:l.drop 10 with
      | nil=>rw[hu]at ht;cases ht
      | cons c v =>
       have:=congrArg List.length hu;rw[List.length_drop]at this;simp only[List.length_cons]at this;omega
     have hc:=clockP_len (l.drop 11);rw[List.length_drop]at hc;obtain⟨t,p,hcp⟩:∃t p,clockP (l.drop 11)=(t,p):=⟨_,_,rfl⟩
     rw[hcp]at hc ⊢;simp only at hc ⊢
     split
     · simp only;omega
     have hz:=zoneP_len (l.drop (10+(1+afterP t p)));rw[List.length_drop]at hz;simp only;omega
   simp only;omega
 exact clockP_len l
theorem clockP_sz (l:Bs):(clockP l).1.length≤l.length∧(clockP l).2.length≤l.length:=by
 have h:=clockP_len l;unfold afterP at h
 split at h
 · rename_i hp;rw[hp];exact⟨h,Nat.zero_le _⟩
 omega
theorem clockP_nil (l:Bs) (h:(clockP l).1=[]):(clockP l).2=[]:=by
 unfold clockP at h ⊢
 split
 · rename_i hf
   rw[if_pos hf]at h;have h1:=formM_len _ _ hf;have h8:timeF.length=8:=rfl;have h2:=congrArg List.length h;simp only[List.length_take,List.length_nil]at h2;omega
 rfl
theorem tee_mem:∀c:UInt8,(bs ⟨#[84,116,32]⟩).contains c=isTee c:=fun c=>by
 unfold isTee;simp only[bs,List.contains_cons,List.contains_nil,Bool.or_false];have h:∀k:UInt8,(c==k)=(c.toNat==k.toNat):=fun k=>Bool.eq_iff_iff.2 (by simp[UInt8.toNat_inj])
 rw[h,h,h,Bool.or_assoc];rfl
end Pl
theorem bs_ne {x:ByteArray} (h:0<x.size):¬x.toList=[]∧x.toList.isEmpty=false∧(bs x).isEmpty=false:=by
 rcases str_em x with⟨h1,h2,h3⟩|h
 · have:=bs_length x;rw[List.isEmpty_iff.1 h3]at this;simp at this;omega
 exact h
abbrev cutO (d t p z:ByteArray) (n:Int):Obj := .cells #[.string d,.string t,.string p,.string z,.int .i64 n] 204 (0,0)
abbrev cutV (d t p z:ByteArray) (n:Int):Value := .agg #[.string d,.string t,.string p,.string z,.int .i64 n]
theorem cutO_facts {W:World} {h:Nat} {d t p z:ByteArray} {n:Int} (hb:W.heap[h]?=some (cutO d t p z n)) :
    W.cell? ⟨h,0,none⟩=some (.string d)∧W.cell? ⟨h,1,none⟩=some (.string t)∧W.cell? ⟨h,2,none⟩=some (.string p)∧W.cell? ⟨h,3,none⟩=some (.string z)∧W.cell? ⟨h,4,none⟩=some (.int .i64 n) ∧
    (∀o,W.frozen? ⟨h,o,none⟩=false)∧h<W.heap.size :=
 ⟨by rw[cell_of_block hb];rfl,by rw[cell_of_block hb];rfl,by rw[cell_of_block hb];rfl,by rw[cell_of_block hb];rfl,by rw[cell_of_block hb];rfl,fun o=>unfrozen_of_block hb o,(Array.getElem?_eq_some_iff.1 hb).1⟩
theorem cutO_0 {W:World} {h:Nat} {d t p z:ByteArray} {n:Int} (hb:W.heap[h]?=some (cutO d t p z n)) (v:ByteArray):(W.setCell ⟨h,0,none⟩ (.string v)).heap[h]?=some (cutO v t p z n):=by
 rw[block_setCell hb];rfl
theorem cutO_1 {W:World} {h:Nat} {d t p z:ByteArray} {n:Int} (hb:W.heap[h]?=some (cutO d t p z n)) (v:ByteArray):(W.setCell ⟨h,1,none⟩ (.string v)).heap[h]?=some (cutO d v p z n):=by
 rw[block_setCell hb];rfl
theorem cutO_2 {W:World} {h:Nat} {d t p z:ByteArray} {n:Int} (hb:W.heap[h]?=some (cutO d t p z n)) (v:ByteArray):(W.setCell ⟨h,2,none⟩ (.string v)).heap[h]?=some (cutO d t v z n):=by
 rw[block_setCell hb];rfl
theorem cutO_3 {W:World} {h:Nat} {d t p z:ByteArray} {n:Int} (hb:W.heap[h]?=some (cutO d t p z n)) (v:ByteArray):(W.setCell ⟨h,3,none⟩ (.string v)).heap[h]?=some (cutO d t p v n):=by
 rw[block_setCell hb];rfl
theorem cutO_4 {W:World} {h:Nat} {d t p z:ByteArray} {n:Int} (hb:W.heap[h]?=some (cutO d t p z n)) (v:Int):(W.setCell ⟨h,4,none⟩ (.int .i64 v)).heap[h]?=some (cutO d t p z v):=by
 rw[block_setCell hb];rfl
def CutC (h:Nat) (d t p z:ByteArray) (n:Int) (W:World):Prop:=W.cell? ⟨h,0,none⟩=some (.string d)∧W.cell? ⟨h,1,none⟩=some (.string t)∧W.cell? ⟨h,2,none⟩=some (.string p)∧W.cell? ⟨h,3,none⟩=some (.string z)∧W.cell? ⟨h,4,none⟩=some (.int .i64 n) ∧
    (∀o,W.frozen? ⟨h,o,none⟩=false)∧h<W.heap.size
def CutPost (m:Nat) (c:Pl.Cut) (e:Ending):Prop:=∃d t p z:ByteArray,e = .returned (cutV d t p z c.long)∧bs d=c.date∧bs t=c.time∧bs p=c.part∧bs z=c.zone∧d.size≤m∧t.size≤m∧p.size≤m∧z.size≤m
theorem cut_done {Q:Ending→World→Prop} {a:Act} {W:World} {h:Nat} {d t p z:ByteArray} {n:Int} (hs:a.tmps[2]?.getD undef = .pointer (some ⟨h,0,none⟩)) (hdf:a.defers=[]) (hb:W.heap[h]?=some (cutO d t p z n)) (hQ:Q (.returned (cutV d t p z n)) W) :
    bodyPost Tryz.prog Tryz.f126 Q Exit.ret a W:=by
 obtain⟨p0,p1,p2,p3,p4,pf,hz⟩:=cutO_facts hb;exact bodyPost_ret (v:=cutV d t p z n) (by simp[results,Tryz.results126,go_sem,hs,p0,p1,p2,p3,p4,pf,hz]) hdf hQ
theorem dt_split_no (s:ByteArray) (hs:s.size≤20000000) (hd:Pl.formM (bs s) Pl.dateF=false) (w:World) :
    Calls Tryz.prog 126 #[.string s] w fun e w'=>CutPost s.size (Pl.splitD (bs s)) e∧Gr w w':=by
 have hX:Pl.splitD (bs s)=⟨[],(Pl.clockP (bs s)).1,(Pl.clockP (bs s)).2,[],Pl.afterP (Pl.clockP (bs s)).1 (Pl.clockP (bs s)).2⟩:=by unfold Pl.splitD;rw[hd];rfl
 have hsz:=Pl.clockP_sz (bs s);rw[bs_length]at hsz;have HX:=Lib.hid hX;have HD:=Lib.hid hd;have HS:=Lib.hid hsz;clear hd hX hsz;go_enter Tryz.func126,Tryz.ntmps126;go_wp2_with fail;refine (dt_form_no s ⟨#[57,57,57,57,45,57,57,45,57,57]⟩ (low_of _ (by decide)) (by omega) HD.out _).mono ?_;rintro e w1 ⟨rfl,g1⟩;have hb1:w1.heap[w.heap.size]?=some (cutO ⟨#[]⟩ ⟨#[]⟩ ⟨#[]⟩ ⟨#[]⟩ 0):=(g1.block (by simp)).trans (heap_alloc_new w _);obtain⟨p0,p1,p2,p3,p4,pf,hz1⟩:=cutO_facts hb1;go_wp2_with fail;refine (dt_clock s hs _).mono ?_;rintro e w2 ⟨⟨t,p,rfl,hc⟩,g2⟩;rw[hc]at HX HS;obtain⟨st,sp⟩:=HS.out;simp only[bs_length]at st sp;clear hc HS;have hb2:w2.heap[w.heap.size]?=some (cutO ⟨#[]⟩ ⟨#[]⟩ ⟨#[]⟩ ⟨#[]⟩ 0):=(g2.block (by simpa using hz1)).trans (cutO_0 hb1 _);clear p0 p1 p2 p3 p4 pf;obtain⟨p0,p1,p2,p3,p4,pf,hz2⟩:=cutO_facts hb2;go_wp2_with fail;refine (dt_after t p (by omega) (by omega) _).mono ?_;refine Z48 ?_;have hb3:=cutO_2 (cutO_1 hb2 t) p;obtain⟨W3,hW3⟩:∃W3,(w2.setCell ⟨w.heap.size,1,none⟩ (.string t)).setCell ⟨w.heap.size,2,none⟩ (.string p)=W3:=⟨_,rfl⟩
 have g3:Gr w W3:=by rw[←hW3];exact ((((((Gr.refl w).alloc _).trans g1).setCell (by simp) _).trans g2).setCell (by simp) _).setCell (by simp) _
 rw[hW3]at hb3 ⊢;clear hW3 p0 p1 p2 p3 p4 pf;obtain⟨p0,p1,p2,p3,p4,pf,hz3⟩:=cutO_facts hb3;go_wp2_with fail;exact bodyPost_ret (v:=cutV ⟨#[]⟩ t p ⟨#[]⟩ (Pl.afterP (bs t) (bs p):Nat)) (by simp[results,Tryz.results126,go_sem,p0,p1,p2,p3,p4,pf,hz3]) rfl ⟨⟨⟨#[]⟩,t,p,⟨#[]⟩,by (rw[HX.out];try rfl),by (rw[HX.out];try rfl),by (rw[HX.out];try rfl),by (rw[HX.out];try rfl),by (rw[HX.out];try rfl),Nat.zero_le _,st,sp,Nat.zero_le _⟩,by (repeat refine Gr.setCell ?_ (Nat.le_refl _) _);exact g3⟩
theorem dt_split_yes (s:ByteArray) (hs:s.size≤20000000) (hd:Pl.formM (bs s) Pl.dateF=true) (w:World) :
    Calls Tryz.prog 126 #[.string s] w fun e w'=>CutPost s.size (Pl.splitD (bs s)) e∧Gr w w':=by
 have hlen:=Pl.formM_len _ _ hd;rw[bs_length,show Pl.dateF.length=10 from rfl]at hlen;obtain⟨D,hD⟩:∃D,s.extract 0 10=D:=⟨_,rfl⟩
 have hDz:D.size=10:=by rw[←hD];simp;omega
 have hDb:bs D=(bs s).take 10:=by rw[←hD,bs_take]
 obtain⟨n1,n2,n3⟩:=bs_ne (x:=D) (by omega);have HF:Hid (∀W,Calls Tryz.prog 134 #[.string s,.string ⟨#[57,57,57,57,45,57,57,45,57,57]⟩] W fun e w'=>e = .returned (.string D)∧Gr W w'):=Lib.hid (fun W=>by
  refine (dt_form s ⟨#[57,57,57,57,45,57,57,45,57,57]⟩ (low_of _ (by decide)) (by omega) W).mono ?_;rintro e w' ⟨rfl,g⟩;refine⟨?_,g⟩;rw[show Pl.formM (bs s) (bs ⟨#[57,57,57,57,45,57,57,45,57,57]⟩)=true from hd,if_pos rfl,←hD];rfl)
 obtain⟨r,hr⟩:∃r,s.extract 10 s.size=r:=⟨_,rfl⟩
 have hrb:bs r=(bs s).drop 10:=by rw[←hr,bs_extract]
 have hrz:r.size=s.size-10:=by rw[←hr];simp
 have hX:Pl.splitD (bs s)=if Pl.heads Pl.isTee (bs r) then
     (if (Pl.clockP ((bs s).drop 11)).1=[] then ⟨bs D,[],[],[],10⟩ else
      ⟨bs D,(Pl.clockP ((bs s).drop 11)).1,(Pl.clockP ((bs s).drop 11)).2,Pl.zoneP ((bs s).drop (10+(1+Pl.afterP (Pl.clockP ((bs s).drop 11)).1 (Pl.clockP ((bs s).drop 11)).2))),10+(1+Pl.afterP (Pl.clockP ((bs s).drop 11)).1 (Pl.clockP ((bs s).drop 11)).2)+(Pl.zoneP ((bs s).drop (10+(1+Pl.afterP (Pl.clockP ((bs s).drop 11)).1 (Pl.clockP ((bs s).drop 11)).2)))).length⟩)
     else ⟨bs D,[],[],[],10⟩:=by
  unfold Pl.splitD;rw[if_pos hd,hrb,hDb]
 have hDi:(D.size:Int)=10:=by omega
 have k1:(10:Int)≤(s.size:Int):=by omega
 have HX:=Lib.hid hX;have HR:=Lib.hid hr;have HRB:=Lib.hid hrb;have HLD:=Lib.hid (show D.size≤s.size by omega);clear hX hr hrb hD hDb hd n3 hDz;go_enter Tryz.func126,Tryz.ntmps126;go_wp2_with fail;refine (HF.out _).mono ?_;rintro e w1 ⟨rfl,g1⟩;have hb1:w1.heap[w.heap.size]?=some (cutO ⟨#[]⟩ ⟨#[]⟩ ⟨#[]⟩ ⟨#[]⟩ 0):=(g1.block (by simp)).trans (heap_alloc_new w _);obtain⟨p0,p1,p2,p3,p4,pf,hz1⟩:=cutO_facts hb1;have hG1:Gr w w1:=((Gr.refl w).alloc _).trans g1;clear g1;have hcase:(r.toList=[]∧r.toList.isEmpty=true∧Pl.heads Pl.isTee (bs r)=false)∨(∃e0:0<r.size,(¬r.toList=[]∧r.toList.isEmpty=false∧(0:Int)<(r.size:Int))∧Pl.isTee (r[0]'e0)=Pl.heads Pl.isTee (bs r)):=by
  rcases str_em r with⟨h1,h2,h3⟩|⟨h1,h2,h3⟩
  · left;exact⟨h1,h2,by rw[List.isEmpty_iff.1 h3];rfl⟩
  right;have e0:0<r.size:=by
   rcases Nat.eq_zero_or_pos r.size with h|h
   · exfalso;apply h1;rw[Lib.toList_data];exact List.eq_nil_of_length_eq_zero (by have:=bs_length r;unfold bs at this;omega)
   exact h
  refine⟨e0,⟨h1,h2,by omega⟩,?_⟩;have hh:=idx_bs r 0 e0;simp only[List.drop_zero]at hh;rw[hh];rfl
 rcases hcase with⟨q1,q2,q3⟩|⟨e0,⟨q1,q2,q4⟩,q3⟩
 · have HY:Hid (Pl.splitD (bs s)=⟨bs D,[],[],[],10⟩):=Lib.hid (by rw[HX.out,q3];rfl);clear q3;have HRr:=HR.out;go_wp2_with fail;exact J50
 have HRr:=HR.out;cases htee:Pl.isTee (r[0]'e0) with
 | false =>
  have HY:Hid (Pl.splitD (bs s)=⟨bs D,[],[],[],10⟩):=Lib.hid (by rw[HX.out,←q3,htee];rfl);have HC:Hid ((bs ⟨#[84,116,32]⟩).contains (r[0]'e0)=false):=Lib.hid (by rw[Pl.tee_mem];exact htee);clear q3 htee;go_wp2_with (go_at_call 43;refine (indexByte_at ⟨#[84,116,32]⟩ _ false HC.out _).mono ?_;rintro e w3 ⟨⟨i,rfl,hi⟩,rfl⟩;have hi2:decide (i<0)=true:=(by simp at hi ⊢;omega);clear hi);exact J50
 | true =>
  have HC:Hid ((bs ⟨#[84,116,32]⟩).contains (r[0]'e0)=true):=Lib.hid (by rw[Pl.tee_mem];exact htee);rw[←q3,htee,if_pos rfl]at HX;obtain⟨r1,hr1⟩:∃r1,r.extract 1 r.size=r1:=⟨_,rfl⟩
  have hr1b:bs r1=(bs s).drop 11:=by rw[←hr1,bs_extract,HRB.out,List.drop_drop]
  have hr1z:r1.size=s.size-11:=by rw[←hr1];simp;omega
  rw[←hr1b]at HX;have hsz:=Pl.clockP_sz (bs r1);have hla:=Pl.clockP_len (bs r1);have hnil:=Pl.clockP_nil (bs r1);rw[bs_length]at hsz hla;have HRZ:=Lib.hid hrz;have HR1Z:=Lib.hid hr1z;have HS:=Lib.hid hsz;have HLA:=Lib.hid hla;have HNIL:=Lib.hid hnil;have k2:(1:Int)≤(r.size:Int):=by omega
  have hb2:=cutO_4 (cutO_0 hb1 D) 10;clear q3 htee hr1b hsz hla hnil hrz hr1z;go_wp2_with (go_at_call 43;refine (indexByte_at ⟨#[84,116,32]⟩ _ true HC.out _).mono ?_;rintro e w3 ⟨⟨i,rfl,hi⟩,rfl⟩;have hi2:decide (i<0)=false:=(by simp at hi ⊢;omega);clear hi)
  try rw[hr1]
  obtain⟨W2,hW2⟩:∃W2,(w1.setCell ⟨w.heap.size,0,none⟩ (.string D)).setCell ⟨w.heap.size,4,none⟩ (.int .i64 10)=W2:=⟨_,rfl⟩
  have hG2:Gr w W2:=by rw[←hW2];exact (hG1.setCell (Nat.le_refl _) _).setCell (Nat.le_refl _) _
  have hz2:w.heap.size<W2.heap.size:=by rw[←hW2];simpa using hz1
  rw[hW2]at hb2 ⊢;clear hW2 hb1 hG1 p0 p1 p2 p3 p4 pf hz1;refine (dt_clock r1 (by have:=HR1Z.out;omega) _).mono ?_;rintro e w3 ⟨⟨t,p,rfl,hc⟩,g3⟩;rw[hc]at HX HS HLA HNIL;simp only at HX HS HLA HNIL;have hb3:=(g3.block hz2).trans hb2;have hG3:=hG2.trans g3;obtain⟨st,sp⟩:=HS.out;simp only[bs_length]at st sp;have hr1z:=HR1Z.out;clear g3 hG2 hb2 hc HS hz2;obtain⟨p0,p1,p2,p3,p4,pf,hz3⟩:=cutO_facts hb3;have hb4:=cutO_2 (cutO_1 hb3 t) p;have hG4:Gr w ((w3.setCell ⟨w.heap.size,1,none⟩ (.string t)).setCell ⟨w.heap.size,2,none⟩ (.string p)):=(hG3.setCell (Nat.le_refl _) _).setCell (Nat.le_refl _) _;rcases str_em t with⟨t1,t2,t3⟩|⟨t1,t2,t3⟩
  · have ht0:bs t=[]:=List.isEmpty_iff.1 t3;have hp0:p=⟨#[]⟩:=bs_inj (HNIL.out ht0);have ht0':t=⟨#[]⟩:=bs_inj ht0;rw[if_pos ht0]at HX;subst hp0 ht0';clear t1 t2 t3 ht0 HNIL;go_wp2_with fail;exact cut_done (d:=D) (t:=⟨#[]⟩) (p:=⟨#[]⟩) (z:=⟨#[]⟩) (n:=10) rfl rfl (cutO_4 (cutO_3 (cutO_2 (cutO_1 (cutO_0 (cutO_2 (cutO_1 hb3 _) _) _) _) _) _) _) ⟨⟨D,⟨#[]⟩,⟨#[]⟩,⟨#[]⟩,by (rw[HX.out];try rfl),by (rw[HX.out];try rfl),by (rw[HX.out];try rfl),by (rw[HX.out];try rfl),by (rw[HX.out];try rfl),HLD.out,Nat.zero_le _,Nat.zero_le _,Nat.zero_le _⟩,by (repeat refine Gr.setCell ?_ (Nat.le_refl _) _);exact hG3⟩
  rw[if_neg (fun e=>by rw[e]at t3;cases t3)]at HX;obtain⟨af,haf⟩:∃af,Pl.afterP (bs t) (bs p)=af:=⟨_,rfl⟩
  rw[haf]at HX HLA;have hla:=HLA.out;have HAF:=Lib.hid (dt_after t p (by omega) (by omega));rw[haf]at HAF;have e1:IntKind.i64.wrap (1+(af:Int))=1+(af:Int):=IntWalk.i64_in _ ⟨by omega,by omega⟩;have e2:IntKind.i64.wrap (10+(1+(af:Int)))=10+(1+(af:Int)):=IntWalk.i64_in _ ⟨by omega,by omega⟩;clear t3 haf;go_wp2_with fail;obtain⟨W4,hW4⟩:∃W4,((w3.setCell ⟨w.heap.size,1,none⟩ (.string t)).setCell ⟨w.heap.size,2,none⟩ (.string p))=W4:=⟨_,rfl⟩
  have hG4:Gr w W4:=by rw[←hW4];exact hG4
  have hb4:W4.heap[w.heap.size]?=some (cutO D t p ⟨#[]⟩ 10):=by rw[←hW4];exact hb4
  have hS:CutC w.heap.size D t p ⟨#[]⟩ 10 W4.drew:=cutO_facts (show W4.drew.heap[w.heap.size]?=_ from hb4);rw[hW4];clear hW4 p0 p1 p2 p3 p4 pf hz3 hb3 hG3;refine Reg.begin' (W:=fun i=>i != 10) (S:=CutC w.heap.size D t p ⟨#[]⟩ 10) (by kernel_rfl) ?_;refine Reg.ty 0 ?_;refine Reg.ty 2 ?_;refine Reg.ty 4 ?_;refine Reg.tl 1 hS ?_ (hy:=by intro w hSw;obtain⟨p0,p1,p2,p3,p4,pf,hz⟩:=hSw;go_simp;try with_reducible rfl);refine Reg.tl 3 hS ?_ (hy:=by intro w hSw;obtain⟨p0,p1,p2,p3,p4,pf,hz⟩:=hSw;go_simp;try with_reducible rfl);refine Reg.tl 5 hS ?_ (hy:=by intro w hSw;obtain⟨p0,p1,p2,p3,p4,pf,hz⟩:=hSw;go_simp;try with_reducible rfl);refine Reg.on 6 ?_;go_simp;refine (HAF.out _).mono ?_;refine Z48 ?_;refine Z58 ?_;refine Z60 ?_;obtain⟨p0,p1,p2,p3,p4,pf,hz⟩:=hS;refine Reg.on 10 ?_;go_simp;refine Z12 ?_;have hb5:((W4.setCell ⟨w.heap.size,4,none⟩ (.int .i64 (10+(1+(af:Int))))).drew).heap[w.heap.size]?=some (cutO D t p ⟨#[]⟩ (10+(1+(af:Int)))):=cutO_4 hb4 (10+(1+(af:Int)));obtain⟨W5,hW5⟩:∃W5,(W4.setCell ⟨w.heap.size,4,none⟩ (.int .i64 (10+(1+(af:Int))))).drew=W5:=⟨_,rfl⟩
  have hG5:Gr w W5:=by rw[←hW5];exact (hG4.setCell (Nat.le_refl _) _).drew
  rw[hW5]at hb5 ⊢;clear hW5 hG4 hb4 p0 p1 p2 p3 p4 pf hz e1 e2;obtain⟨p0,p1,p2,p3,p4,pf,hz5⟩:=cutO_facts hb5;have k3:(0:Int)≤10+(1+(af:Int)):=by omega
  have k4:10+(1+(af:Int))≤(s.size:Int):=by have:=HRZ.out;omega
  have k5:(10+(1+(af:Int))).toNat=10+(1+af):=by omega
  obtain⟨x,hx⟩:∃x,s.extract (10+(1+af)) s.size=x:=⟨_,rfl⟩
  have hxb:bs x=(bs s).drop (10+(1+af)):=by rw[←hx,bs_extract]
  have hxz:x.size=s.size-(10+(1+af)):=by rw[←hx];simp
  have HXX:=Lib.hid hx;have HXB:=Lib.hid hxb;have HXZ:=Lib.hid hxz;clear hx hxb hxz;go_wp2_with fail;rw[HXX.out];refine (dt_zone x (by have:=HXZ.out;omega) _).mono ?_;rintro e w6 ⟨⟨z,rfl,hz,hzs⟩,g6⟩;rw[←HXB.out,←hz,bs_length]at HX;have hzz:z.size≤s.size-(10+(1+af)):=by have:=HXZ.out;omega
  have hb6:=(g6.block hz5).trans hb5;have hG6:=hG5.trans g6;clear g6 hG5 hb5 hz hzs p0 p1 p2 p3 p4 pf hz5;obtain⟨p0,p1,p2,p3,p4,pf,hz6⟩:=cutO_facts hb6;have e3:IntKind.i64.wrap (10+(1+(af:Int))+(z.size:Int))=10+(1+(af:Int))+(z.size:Int):=IntWalk.i64_in _ ⟨by omega,by omega⟩;go_wp2_with fail;exact cut_done (d:=D) (t:=t) (p:=p) (z:=z) (n:=10+(1+(af:Int))+(z.size:Int)) rfl rfl (cutO_4 (cutO_3 (cutO_2 (cutO_1 (cutO_0 (cutO_4 (cutO_3 hb6 _) _) _) _) _) _) _) ⟨⟨D,t,p,z,by (rw[HX.out];try rfl),by (rw[HX.out];try rfl),by (rw[HX.out];try rfl),by (rw[HX.out];try rfl),by (rw[HX.out];try rfl),HLD.out,by omega,by omega,by omega⟩,by (repeat refine Gr.setCell ?_ (Nat.le_refl _) _);exact hG6⟩
theorem dt_split (s:ByteArray) (hs:s.size≤20000000) (w:World) :
    Calls Tryz.prog 126 #[.string s] w fun e w'=>CutPost s.size (Pl.splitD (bs s)) e∧Gr w w':=by
 cases hd:Pl.formM (bs s) Pl.dateF with
 | false=>exact dt_split_no s hs hd w
 | true=>exact dt_split_yes s hs hd w
end Go.Proofs.YtfogfaagjpebcaaGreatDoor
namespace Go.Proofs.YtfogfaagjpebcaaGreatDoor
open Go.RowKit Go.Shelf Go.Joins
attribute [local go_sem] Oper.semAt_some
namespace Pl
theorem atoi_dec (c:UInt8) (l:Bs) (h:∀d∈c::l,isDec d=true):Lib.atoi (c::l)=some (decVal (c::l):Int):=by
 have hc:=h c (by simp);simp only[isDec,Bool.and_eq_true,decide_eq_true_eq]at hc;have h45:(c==45)=false:=by
  cases hx:c==45 with
  | false=>rfl
  | true=>rw[beq_iff_eq]at hx;subst hx;simp at hc
 have h43:(c==43)=false:=by
  cases hx:c==43 with
  | false=>rfl
  | true=>rw[beq_iff_eq]at hx;subst hx;simp at hc
 simp only[Lib.atoi,h45,h43,Bool.false_eq_true,if_false];unfold Lib.decNat;rw[if_neg (by simp),decFrom_val _ 0 h];rfl
end Pl
theorem atoi_few (U:ByteArray) (h0:0<U.size) (hz:U.size≤18) (hd:∀c∈bs U,isDec c=true) (m:Nat) (hm:Pl.decVal (bs U)=m) (W:World) :
    Calls Tryz.prog 155 #[.string U] W fun e w'=>e = .returned (.tuple #[.int .i64 (m:Int),.nilIface])∧Gr W w':=by
 have hat:Lib.atoi U.data.toList=some (m:Int):=by
  show Lib.atoi (bs U)=_;cases hb:bs U with
  | nil=>have:=bs_length U;rw[hb]at this;simp at this;omega
  | cons c l=>rw[hb]at hd hm;rw[Pl.atoi_dec c l hd,hm]
 refine (Tryz.strconv_Atoi U (m:Int) hz hat W).mono ?_;rintro e w' ⟨rfl,t,rfl⟩;exact⟨rfl,gr_bytesWorld W 5 t⟩
theorem dt_within (s:ByteArray) (h2:2≤s.size) (hd:∀c∈(bs s).take 2,isDec c=true) (a b:Nat) (w:World) :
    Calls Tryz.prog 156 #[.string s,.int .i64 (a:Int),.int .i64 (b:Int)] w fun e w'=>e = .returned (.bool (Pl.withinD (bs s) a b))∧Gr w w':=by
 obtain⟨U,hU⟩:∃U,s.extract 0 2=U:=⟨_,rfl⟩
 have hUb:bs U=(bs s).take 2:=by rw[←hU,bs_take]
 have hUz:U.size=2:=by rw[←hU];simp;omega
 obtain⟨m,hm⟩:∃m,Pl.decVal (bs U)=m:=⟨_,rfl⟩
 rw[←hUb]at hd;have HA:=Lib.hid (atoi_few U (by omega) (by omega) hd m hm);have hX:Pl.withinD (bs s) a b=(decide (a≤m) && decide (m≤b)):=by unfold Pl.withinD;rw[←hUb,hm]
 have HX:=Lib.hid hX;have k1:(2:Int)≤(s.size:Int):=by omega
 clear hd hUb hX hm;by_cases h1:a≤m
 · have d1:decide (a≤m)=true:=by simp;omega
   by_cases h3:m≤b
   · have d2:decide (m≤b)=true:=by simp;omega
     have HY:Hid (Pl.withinD (bs s) a b=true):=Lib.hid (by rw[HX.out];simp[h1,h3]);clear h1 h3;exact J111
   have d2:decide (m≤b)=false:=by simp;omega
   have HY:Hid (Pl.withinD (bs s) a b=false):=Lib.hid (by rw[HX.out];simp[h3]);clear h1 h3;exact J111
 have d1:decide (a≤m)=false:=by simp;omega
 have HY:Hid (Pl.withinD (bs s) a b=false):=Lib.hid (by rw[HX.out];simp[h1]);clear h1;exact J111
theorem dt_days (y m:Nat) (hy:y≤9999) (hm:m≤99) (w:World) :
    Calls Tryz.prog 157 #[.int .i64 (y:Int),.int .i64 (m:Int)] w fun e w'=>e = .returned (.int .i64 (Pl.daysP y m))∧w=w':=by
 have t4:(y:Int).tmod 4=((y % 4:Nat):Int):=by rw[Int.tmod_eq_emod_of_nonneg (by omega)];omega
 have t100:(y:Int).tmod 100=((y % 100:Nat):Int):=by rw[Int.tmod_eq_emod_of_nonneg (by omega)];omega
 have t400:(y:Int).tmod 400=((y % 400:Nat):Int):=by rw[Int.tmod_eq_emod_of_nonneg (by omega)];omega
 obtain⟨a4,ha4⟩:∃a,y % 4=a:=⟨_,rfl⟩
 obtain⟨a100,ha100⟩:∃a,y % 100=a:=⟨_,rfl⟩
 obtain⟨a400,ha400⟩:∃a,y % 400=a:=⟨_,rfl⟩
 have HX:Hid (Pl.daysP y m=if m=2 then (if a4≠0∨(a100=0∧a400≠0) then 28 else 29) else if m=4∨m=6∨m=9∨m=11 then 30 else 31):=Lib.hid (by unfold Pl.daysP;rw[ha4,ha100,ha400]);rw[ha4]at t4;rw[ha100]at t100;rw[ha400]at t400;clear ha4 ha100 ha400 hy hm;by_cases h2:m=2
 · subst h2;by_cases h4:a4=0
   · subst h4;by_cases h100:a100=0
     · subst h100;by_cases h400:a400=0
       · subst h400;have HY:Hid (Pl.daysP y 2=29):=Lib.hid (by rw[HX.out];rfl);exact J51
       have q1:((a400:Int) != 0)=true:=by simp;omega
       have q2:((a400:Int)==0)=false:=by simp;omega
       have HY:Hid (Pl.daysP y 2=28):=Lib.hid (by rw[HX.out,if_pos rfl,if_pos (.inr ⟨rfl,h400⟩)]);exact J51
     have q1:((a100:Int) != 0)=true:=by simp;omega
     have q2:((a100:Int)==0)=false:=by simp;omega
     have HY:Hid (Pl.daysP y 2=29):=Lib.hid (by rw[HX.out,if_pos rfl,if_neg (by rintro (h|h);exact h rfl;exact h100 h.1)]);exact J51
   have q1:((a4:Int) != 0)=true:=by simp;omega
   have q2:((a4:Int)==0)=false:=by simp;omega
   have HY:Hid (Pl.daysP y 2=28):=Lib.hid (by rw[HX.out,if_pos rfl,if_pos (.inl h4)]);exact J51
 have q2:((m:Int)==2)=false:=by simp;omega
 rw[if_neg h2]at HX;by_cases h4:m=4
 · subst h4;have HY:Hid (Pl.daysP y 4=30):=Lib.hid (by rw[HX.out];rfl);exact J51
 have q4:((m:Int)==4)=false:=by simp;omega
 by_cases h6:m=6
 · subst h6;have HY:Hid (Pl.daysP y 6=30):=Lib.hid (by rw[HX.out];rfl);exact J51
 have q6:((m:Int)==6)=false:=by simp;omega
 by_cases h9:m=9
 · subst h9;have HY:Hid (Pl.daysP y 9=30):=Lib.hid (by rw[HX.out];rfl);exact J51
 have q9:((m:Int)==9)=false:=by simp;omega
 by_cases h11:m=11
 · subst h11;have HY:Hid (Pl.daysP y 11=30):=Lib.hid (by rw[HX.out];rfl);exact J51
 have q11:((m:Int)==11)=false:=by simp;omega
 have HY:Hid (Pl.daysP y m=31):=Lib.hid (by rw[HX.out,if_neg (by omega)]);exact J51
end Go.Proofs.YtfogfaagjpebcaaGreatDoor
