/-
 The walks and plain laws that the claim rests on, part 41.
-/
import Derived.Test.YtkplelejagpkmaaGreatDoorP20
import Derived.Test.YtkplelejagpkmaaGreatDoorP29
import Derived.Test.YtkplelejagpkmaaGreatDoorP34
set_option maxHeartbeats 16000000
set_option linter.all false
set_option linter.unusedVariables false
set_option linter.unusedSimpArgs false
namespace Go.Proofs.YtkplelejagpkmaaGreatDoor
open Go.RowKit Go.Shelf Go.Joins
attribute [local go_sem] Oper.semAt_some
theorem fl_right4 (b:Nat) (x0 x1 x2 x3 V:Bool) (hV:(x0 && x1 && x2 && x3)=V) (w:World) (h0:w.cell? ⟨b,0,none⟩=some (.bool x0)) (h1:w.cell? ⟨b,1,none⟩=some (.bool x1)) (h2:w.cell? ⟨b,2,none⟩=some (.bool x2)) (h3:w.cell? ⟨b,3,none⟩=some (.bool x3)) :
    Calls Tryz.prog 103 #[.slice (some ⟨b,0,none⟩) 4 4] w fun e w'=>e = .returned (.bool V)∧w'=w:=by
 subst hV;exact fl_rightA b x0 x1 x2 x3 w h0 h1 h2 h3
theorem fl_power (s:ByteArray) (hs:s.size≤20000000) (w:World):Calls Tryz.prog 106 #[.string s] w fun e w'=>e = .returned (.bool (Pl.power (bs s)))∧Gr w w':=by
 rcases str_em s with⟨h1,h2,h3⟩|⟨h1,h2,h3⟩
 · have h4:bs s=[]:=List.isEmpty_iff.1 h3;have HX:Hid (Pl.power (bs s)=Pl.rightD isDec (bs s)):=Lib.hid (by unfold Pl.power;rw[h4];rfl);have HD:=Lib.hid (fl_digits s hs);clear h4;go_enter Tryz.func106,Tryz.ntmps106;go_wp2_with fail;refine (HD.out _).mono ?_;rintro e w1 ⟨rfl,g1⟩;go_wp2_with fail
   go_ret
   exact⟨by (rw[HX.out];try rfl),g1⟩
 have e0:0<s.size:=by
  rcases Nat.eq_zero_or_pos s.size with h|h
  · exfalso;apply h1;rw[Lib.toList_data];exact List.eq_nil_of_length_eq_zero (by rw[bs_length];exact h)
  exact h
 have e1:(0:Int)<(s.size:Int):=by omega
 have hh:=idx_bs s 0 e0;simp only[List.drop_zero]at hh;obtain⟨r,hr⟩:∃r,s.extract 1 s.size=r:=⟨_,rfl⟩
 have hrb:bs r=(bs s).drop 1:=by rw[←hr,bs_extract]
 have hrz:r.size≤20000000:=by rw[←hr];simp;omega
 have HR:=Lib.hid (fl_digits r hrz);have HD:=Lib.hid (fl_digits s hs);have k1:(1:Int)≤(s.size:Int):=by omega
 cases hz:((s[0]'e0).toNat==43) with
 | true =>
  have z1:(((s[0]'e0).toNat:Int)==43)=true:=(beqs _ 43 _ hz).1;have HX:Hid (Pl.power (bs s)=Pl.rightD isDec (bs r)):=Lib.hid (by
   unfold Pl.power;have:Pl.heads Pl.isSign (bs s)=true:=by rw[hh];simp only[Pl.heads,Pl.isSign];rw[show ((s[0]'e0).toNat==43)=true from hz];rfl
   rw[if_pos this,hrb])
  clear hz hh hrb h3;go_enter Tryz.func106,Tryz.ntmps106;go_wp2_with fail
  try rw[hr]
  refine (HR.out _).mono ?_;rintro e w1 ⟨rfl,g1⟩;go_wp2_with fail
  go_ret
  exact⟨by (rw[HX.out];try rfl),g1⟩
 | false =>
  have z1:(((s[0]'e0).toNat:Int)==43)=false:=(beqs _ 43 _ hz).1;cases hy:((s[0]'e0).toNat==45) with
  | true =>
   have z2:(((s[0]'e0).toNat:Int)==45)=true:=(beqs _ 45 _ hy).1;have HX:Hid (Pl.power (bs s)=Pl.rightD isDec (bs r)):=Lib.hid (by
    unfold Pl.power;have:Pl.heads Pl.isSign (bs s)=true:=by rw[hh];simp only[Pl.heads,Pl.isSign];rw[show ((s[0]'e0).toNat==45)=true from hy];simp
    rw[if_pos this,hrb])
   clear hz hy hh hrb h3;go_enter Tryz.func106,Tryz.ntmps106;go_wp2_with fail
   try rw[hr]
   refine (HR.out _).mono ?_;rintro e w1 ⟨rfl,g1⟩;go_wp2_with fail
   go_ret
   exact⟨by (rw[HX.out];try rfl),g1⟩
  | false =>
   have z2:(((s[0]'e0).toNat:Int)==45)=false:=(beqs _ 45 _ hy).1;have HX:Hid (Pl.power (bs s)=Pl.rightD isDec (bs s)):=Lib.hid (by
    unfold Pl.power;have:Pl.heads Pl.isSign (bs s)=false:=by rw[hh];simp only[Pl.heads,Pl.isSign];rw[show ((s[0]'e0).toNat==43)=false from hz,show ((s[0]'e0).toNat==45)=false from hy];rfl
    rw[if_neg (by rw[this];simp)])
   clear hz hy hh hrb h3 HR;go_enter Tryz.func106,Tryz.ntmps106;go_wp2_with fail;refine (HD.out _).mono ?_;rintro e w1 ⟨rfl,g1⟩;go_wp2_with fail
   go_ret
   exact⟨by (rw[HX.out];try rfl),g1⟩
namespace Pl
theorem cutP_mem (p:UInt8→Bool) (l a b:Bs) (c:Bool) (h:cutP p l=(a,b,c)):∀x∈a,x∈l:=by
 unfold cutP at h
 split at h
 · cases h;exact fun x hx=>hx
 cases h;exact fun x hx=>(List.takeWhile_sublist _).subset hx
theorem flt_eq (l rest e n part:Bs) (ra pt:Bool) (h1:cutP isRaise l=(rest,e,ra)) (h2:cutP isDot rest=(n,part,pt)) (hs:¬(fltSpecial l≠[]∧l.length-(unsigned l).length<2)) :
    fltRead l=if ((pt || ra) && wholeI n && (!pt || rightD isDec part) && (!ra || power e))=true then decRead (Lib.trimPrefix (lowless l) [43]) else .bad 3 0:=by
 unfold fltRead;rw[if_neg hs,h1];simp only;rw[h2];simp only;congr 2;cases lowless l with
 | nil=>rfl
 | cons c t =>
  unfold Lib.trimPrefix Lib.hasPrefix;by_cases hc:c=43
  · subst hc;simp
  have:(List.isPrefixOf [43] (c::t))=false:=by simp[List.isPrefixOf];intro e;exact hc e.symm
  rw[if_neg (by rw[this];simp)]
  split
  · rename_i heq;cases heq;exact absurd rfl hc
  rfl
set_option maxRecDepth 100000 in
theorem raise_mem:(bs ⟨#[101,69]⟩).contains=isRaise:=funext fun c=>by
 have h:∀n:Fin 256,(bs ⟨#[101,69]⟩).contains (UInt8.ofNat n.1)=isRaise (UInt8.ofNat n.1):=by decide
 simpa using h ⟨c.toNat,UInt8.toNat_lt c⟩
set_option maxRecDepth 100000 in
theorem dot_mem:(bs ⟨#[46]⟩).contains=isDot:=funext fun c=>by
 have h:∀n:Fin 256,(bs ⟨#[46]⟩).contains (UInt8.ofNat n.1)=isDot (UInt8.ofNat n.1):=by decide
 simpa using h ⟨c.toNat,UInt8.toNat_lt c⟩
end Pl
set_option maxRecDepth 100000 in
theorem fl_Read (s:ByteArray) (hs:s.size≤20000000) (ha:∀c∈bs s,c.toNat<128) (w:World) (hw:IntW w) :
    Calls Tryz.prog 73 #[.string s] w fun e w'=>IntPost (Pl.fltRead (bs s)) e∧Gr w w':=by
 obtain⟨T,hT⟩:∃T:ByteArray,⟨(Pl.unsigned (bs s)).toArray⟩=T:=⟨_,rfl⟩
 have hTb:Pl.unsigned (bs s)=bs T:=by rw[←hT,bs_of]
 have hTz:T.size≤s.size:=by rw[←bs_length,←hTb,←bs_length];exact (List.dropWhile_sublist _).length_le
 have hTu:s.size-T.size=(bs s).length-(Pl.unsigned (bs s)).length:=by rw[hTb,bs_length,bs_length]
 have hw1:IntKind.i64.wrap ((s.size:Int)-(T.size:Int))=((s.size-T.size:Nat):Int):=by rw[IntWalk.i64_in _ ⟨by omega,by omega⟩];omega
 have HT:=Lib.hid hT;have HW:=Lib.hid hw;have HA:=Lib.hid ha;have HU:=Lib.hid hTu;clear hT hTb hw ha hTu;have HS:=Lib.hid (fl_specialA s hs);have HC1:=Lib.hid (fun W=>fl_cutA s ⟨#[101,69]⟩ hs (by decide) (low128 HA.out) (ascii_of_all (by decide)) Pl.isRaise Pl.raise_mem W);by_cases hsp:Pl.fltSpecial (bs s)≠[]∧s.size-T.size<2
 · have HX:Hid (Pl.fltRead (bs s) = .ok (Pl.fltSpecial (bs s))):=Lib.hid (by unfold Pl.fltRead;rw[if_pos ⟨hsp.1,by rw[←HU.out];exact hsp.2⟩]);have d1:decide (((s.size-T.size:Nat):Int)<2)=true:=by simp;omega
   have HN:=Lib.hid hsp.1;clear hsp HC1;go_enter Tryz.func73,Tryz.ntmps73;go_wp2_with (go_at_call 79;refine (fl_trimS s T HT.out _).mono ?_;rintro e w1 ⟨rfl,g1⟩);refine (HS.out _).mono ?_;rintro e w2 ⟨⟨t,rfl,ht⟩,g2⟩;have q1:¬t.toList=[]:=by rw[Lib.toList_data];show ¬bs t=[];rw[ht];exact HN.out
   have q2:t.toList.isEmpty=false:=by simpa using q1
   have HY:Hid (Pl.fltRead (bs s) = .ok (bs t)):=Lib.hid (by rw[HX.out,ht]);clear ht;go_wp2_with fail;exact bodyPost_ret (v := .tuple #[.string t,.int .i64 0]) (by simp[results,Tryz.results73,go_sem]) rfl ⟨post_str HY.out,Gr.auto⟩
 have HX0:=Lib.hid (fun rest e n part ra pt h1 h2=>Pl.flt_eq (bs s) rest e n part ra pt h1 h2 (by rw[←HU.out];exact hsp));have hc:(Pl.fltSpecial (bs s)=[])∨(Pl.fltSpecial (bs s)≠[]∧decide (((s.size-T.size:Nat):Int)<2)=false):=by
  by_cases h:Pl.fltSpecial (bs s)=[]
  · exact .inl h
  refine .inr ⟨h,?_⟩;have:¬s.size-T.size<2:=fun h2=>hsp ⟨h,h2⟩
  simp;omega
 have HCC:=Lib.hid hc;clear hsp hc;go_enter Tryz.func73,Tryz.ntmps73;go_wp2_with (go_at_call 79;refine (fl_trimS s T HT.out _).mono ?_;rintro e w1 ⟨rfl,g1⟩);refine (HS.out _).mono ?_;rintro e w2 ⟨⟨t,rfl,ht⟩,g2⟩;have ht2:(t.toList=[]∧t.toList.isEmpty=true)∨(¬t.toList=[]∧t.toList.isEmpty=false∧decide (((s.size-T.size:Nat):Int)<2)=false):=by
  rcases HCC.out with h|⟨h,h2⟩
  · left;have:t.toList=[]:=by rw[Lib.toList_data];show bs t=[];rw[ht,h]
    exact⟨this,by rw[this];rfl⟩
  right;have:¬t.toList=[]:=by rw[Lib.toList_data];show ¬bs t=[];rw[ht];exact h
  exact⟨this,by simpa using this,h2⟩
 have hG2:Gr w w2:=g1.trans g2;clear ht HCC g1 g2 HS;rcases ht2 with⟨q1,q2⟩|⟨q1,q2,q3⟩
 all_goals
  go_wp2_with fail;refine (HC1.out _).mono ?_;rintro e w3 ⟨⟨rest,ee,ra,rfl,hc1,hz1,hz2⟩,g3⟩;have hr128:∀c∈bs rest,c.toNat<128:=fun c hc=>HA.out c (Pl.cutP_mem _ _ _ _ _ hc1 c hc)
  have HC2:=Lib.hid (fun W=>fl_cutA rest ⟨#[46]⟩ (by omega) (by decide) (low128 hr128) (ascii_of_all (by decide)) Pl.isDot Pl.dot_mem W);have H1:=Lib.hid hc1;clear hc1 hr128;go_wp2_with fail;refine (HC2.out _).mono ?_;rintro e w4 ⟨⟨n,part,pt,rfl,hc2,hz3,hz4⟩,g4⟩;have hX:=HX0.out _ _ _ _ _ _ H1.out hc2;have hG4:Gr w w4:=(hG2.trans g3).trans g4;have HG2:=Lib.hid hG2;clear H1 hc2 HC2 g3 g4 HX0 hG2;obtain⟨bw,hbw⟩:∃b,Pl.wholeI (bs n)=b:=⟨_,rfl⟩
  obtain⟨bd,hbd⟩:∃b,Pl.rightD isDec (bs part)=b:=⟨_,rfl⟩
  obtain⟨bp,hbp⟩:∃b,Pl.power (bs ee)=b:=⟨_,rfl⟩
  have HWn:=Lib.hid (fl_wholeA n (by omega));have HDg:=Lib.hid (fl_digits part (by omega));have HPw:=Lib.hid (fl_power ee (by omega));rw[hbw]at HWn hX;rw[hbd]at HDg hX;rw[hbp]at HPw hX;have HX:=Lib.hid hX;clear hbw hbd hbp hX;cases ra with
  | false =>
   cases pt with
   | false =>
    go_wp2_with fail;refine (HWn.out _ (HW.out.gr Gr.auto)).mono ?_;rintro e w5 ⟨rfl,g5⟩;obtain⟨V,hV⟩:∃V,(false && bw && true && true)=V:=⟨_,rfl⟩
    have HVV:=Lib.hid hV;go_wp2_with fail;refine (fl_right4 _ false bw true true V hV _ (by simp) (by simp) (by simp) (by simp)).mono ?_;rintro e w7 ⟨rfl,rfl⟩;clear hV;cases V with
    | false =>
     have HV:Hid (Pl.fltRead (bs s) = .bad 3 0):=Lib.hid (by rw[HX.out,if_neg (fun h=>by have h2:=h.symm.trans HVV.out;cases h2)]);clear HX;go_wp2_with fail;exact bodyPost_ret (v := .tuple #[.string ⟨#[]⟩,.int .i64 3]) (by simp[results,Tryz.results73,go_sem]) rfl ⟨post_bad HV.out,Gr.auto⟩
    | true =>
     have HV:Hid (Pl.fltRead (bs s)=Pl.decRead (Lib.trimPrefix (Pl.lowless (bs s)) [43])):=Lib.hid (HX.out.trans (if_pos HVV.out));clear HX;go_wp2_with fail;refine (replace_low s hs _ (HW.out.gr Gr.auto)).mono ?_;rintro e w8 ⟨rfl,g8⟩;obtain⟨L1,hL1⟩:∃L1:ByteArray,⟨(Lib.replaceAll (bs s) [95] []).toArray⟩=L1:=⟨_,rfl⟩
     have hL1b:bs L1=Pl.lowless (bs s):=by rw[←hL1,bs_of];rfl
     rw[hL1];have HL:=Lib.hid hL1b;clear hL1 hL1b;go_wp2_with fail;refine (Tryz.strings_TrimPrefix L1 ⟨#[43]⟩ _).mono ?_;rintro e w9 ⟨rfl,rfl⟩;obtain⟨L2,hL2⟩:∃L2:ByteArray,⟨(Lib.trimPrefix L1.data.toList (ByteArray.mk #[43]).data.toList).toArray⟩=L2:=⟨_,rfl⟩
     have hL2b:bs L2=Lib.trimPrefix (Pl.lowless (bs s)) [43]:=by rw[←hL2,bs_of,←HL.out]
     have hL2z:L2.size≤20000000:=by
      rw[←bs_length,hL2b];have h1:=Pl.lowless_len (bs s);rw[bs_length]at h1;unfold Lib.trimPrefix
      split
      · rw[List.length_drop];omega
      omega
     rw[hL2];have HL2:=Lib.hid hL2b;clear hL2 hL2b;go_wp2_with fail;refine (dc_read L2 hL2z _ (HW.out.gr Gr.auto)).mono ?_;rintro e w10 ⟨hp,g10⟩;rw[HL2.out,←HV.out]at hp;have HP:=Lib.hid hp;clear hp;unfold IntPost at HP;cases hX:Pl.fltRead (bs s) with
     | ok x =>
      rw[hX]at HP;have he:=HP.out;subst he;clear HV;go_wp2_with fail;exact bodyPost_ret (v := .tuple #[.string ⟨x.toArray⟩,.int .i64 0]) (by simp[results,Tryz.results73,go_sem]) rfl ⟨(by rw[hX];rfl),Gr.auto⟩
     | bad c p =>
      rw[hX]at HP;have he:=HP.out;subst he;go_wp2_with fail;exact bodyPost_ret (v := .tuple #[.string ⟨#[]⟩,.int .i64 c]) (by simp[results,Tryz.results73,go_sem]) rfl ⟨(by rw[hX];rfl),Gr.auto⟩
   | true =>
    go_wp2_with fail;refine (HWn.out _ (HW.out.gr Gr.auto)).mono ?_;rintro e w5 ⟨rfl,g5⟩;go_wp2_with fail;refine (HDg.out _).mono ?_;rintro e w51 ⟨rfl,g51⟩;obtain⟨V,hV⟩:∃V,(true && bw && bd && true)=V:=⟨_,rfl⟩
    have HVV:=Lib.hid hV;go_wp2_with fail;refine (fl_right4 _ true bw bd true V hV _ (by simp) (by simp) (by simp) (by simp)).mono ?_;rintro e w7 ⟨rfl,rfl⟩;clear hV;cases V with
    | false =>
     have HV:Hid (Pl.fltRead (bs s) = .bad 3 0):=Lib.hid (by rw[HX.out,if_neg (fun h=>by have h2:=h.symm.trans HVV.out;cases h2)]);clear HX;go_wp2_with fail;exact bodyPost_ret (v := .tuple #[.string ⟨#[]⟩,.int .i64 3]) (by simp[results,Tryz.results73,go_sem]) rfl ⟨post_bad HV.out,Gr.auto⟩
    | true =>
     have HV:Hid (Pl.fltRead (bs s)=Pl.decRead (Lib.trimPrefix (Pl.lowless (bs s)) [43])):=Lib.hid (HX.out.trans (if_pos HVV.out));clear HX;go_wp2_with fail;refine (replace_low s hs _ (HW.out.gr Gr.auto)).mono ?_;rintro e w8 ⟨rfl,g8⟩;obtain⟨L1,hL1⟩:∃L1:ByteArray,⟨(Lib.replaceAll (bs s) [95] []).toArray⟩=L1:=⟨_,rfl⟩
     have hL1b:bs L1=Pl.lowless (bs s):=by rw[←hL1,bs_of];rfl
     rw[hL1];have HL:=Lib.hid hL1b;clear hL1 hL1b;go_wp2_with fail;refine (Tryz.strings_TrimPrefix L1 ⟨#[43]⟩ _).mono ?_;rintro e w9 ⟨rfl,rfl⟩;obtain⟨L2,hL2⟩:∃L2:ByteArray,⟨(Lib.trimPrefix L1.data.toList (ByteArray.mk #[43]).data.toList).toArray⟩=L2:=⟨_,rfl⟩
     have hL2b:bs L2=Lib.trimPrefix (Pl.lowless (bs s)) [43]:=by rw[←hL2,bs_of,←HL.out]
     have hL2z:L2.size≤20000000:=by
      rw[←bs_length,hL2b];have h1:=Pl.lowless_len (bs s);rw[bs_length]at h1;unfold Lib.trimPrefix
      split
      · rw[List.length_drop];omega
      omega
     rw[hL2];have HL2:=Lib.hid hL2b;clear hL2 hL2b;go_wp2_with fail;refine (dc_read L2 hL2z _ (HW.out.gr Gr.auto)).mono ?_;rintro e w10 ⟨hp,g10⟩;rw[HL2.out,←HV.out]at hp;have HP:=Lib.hid hp;clear hp;unfold IntPost at HP;cases hX:Pl.fltRead (bs s) with
     | ok x =>
      rw[hX]at HP;have he:=HP.out;subst he;clear HV;go_wp2_with fail;exact bodyPost_ret (v := .tuple #[.string ⟨x.toArray⟩,.int .i64 0]) (by simp[results,Tryz.results73,go_sem]) rfl ⟨(by rw[hX];rfl),Gr.auto⟩
     | bad c p =>
      rw[hX]at HP;have he:=HP.out;subst he;go_wp2_with fail;exact bodyPost_ret (v := .tuple #[.string ⟨#[]⟩,.int .i64 c]) (by simp[results,Tryz.results73,go_sem]) rfl ⟨(by rw[hX];rfl),Gr.auto⟩
  | true =>
   cases pt with
   | false =>
    go_wp2_with fail;refine (HWn.out _ (HW.out.gr Gr.auto)).mono ?_;rintro e w5 ⟨rfl,g5⟩;go_wp2_with fail;refine (HPw.out _).mono ?_;rintro e w52 ⟨rfl,g52⟩;obtain⟨V,hV⟩:∃V,(true && bw && true && bp)=V:=⟨_,rfl⟩
    have HVV:=Lib.hid hV;go_wp2_with fail;refine (fl_right4 _ true bw true bp V hV _ (by simp) (by simp) (by simp) (by simp)).mono ?_;rintro e w7 ⟨rfl,rfl⟩;clear hV;cases V with
    | false =>
     have HV:Hid (Pl.fltRead (bs s) = .bad 3 0):=Lib.hid (by rw[HX.out,if_neg (fun h=>by have h2:=h.symm.trans HVV.out;cases h2)]);clear HX;go_wp2_with fail;exact bodyPost_ret (v := .tuple #[.string ⟨#[]⟩,.int .i64 3]) (by simp[results,Tryz.results73,go_sem]) rfl ⟨post_bad HV.out,Gr.auto⟩
    | true =>
     have HV:Hid (Pl.fltRead (bs s)=Pl.decRead (Lib.trimPrefix (Pl.lowless (bs s)) [43])):=Lib.hid (HX.out.trans (if_pos HVV.out));clear HX;go_wp2_with fail;refine (replace_low s hs _ (HW.out.gr Gr.auto)).mono ?_;rintro e w8 ⟨rfl,g8⟩;obtain⟨L1,hL1⟩:∃L1:ByteArray,⟨(Lib.replaceAll (bs s) [95] []).toArray⟩=L1:=⟨_,rfl⟩
     have hL1b:bs L1=Pl.lowless (bs s):=by rw[←hL1,bs_of];rfl
     rw[hL1];have HL:=Lib.hid hL1b;clear hL1 hL1b;go_wp2_with fail;refine (Tryz.strings_TrimPrefix L1 ⟨#[43]⟩ _).mono ?_;rintro e w9 ⟨rfl,rfl⟩;obtain⟨L2,hL2⟩:∃L2:ByteArray,⟨(Lib.trimPrefix L1.data.toList (ByteArray.mk #[43]).data.toList).toArray⟩=L2:=⟨_,rfl⟩
     have hL2b:bs L2=Lib.trimPrefix (Pl.lowless (bs s)) [43]:=by rw[←hL2,bs_of,←HL.out]
     have hL2z:L2.size≤20000000:=by
      rw[←bs_length,hL2b];have h1:=Pl.lowless_len (bs s);rw[bs_length]at h1;unfold Lib.trimPrefix
      split
      · rw[List.length_drop];omega
      omega
     rw[hL2];have HL2:=Lib.hid hL2b;clear hL2 hL2b;go_wp2_with fail;refine (dc_read L2 hL2z _ (HW.out.gr Gr.auto)).mono ?_;rintro e w10 ⟨hp,g10⟩;rw[HL2.out,←HV.out]at hp;have HP:=Lib.hid hp;clear hp;unfold IntPost at HP;cases hX:Pl.fltRead (bs s) with
     | ok x =>
      rw[hX]at HP;have he:=HP.out;subst he;clear HV;go_wp2_with fail;exact bodyPost_ret (v := .tuple #[.string ⟨x.toArray⟩,.int .i64 0]) (by simp[results,Tryz.results73,go_sem]) rfl ⟨(by rw[hX];rfl),Gr.auto⟩
     | bad c p =>
      rw[hX]at HP;have he:=HP.out;subst he;go_wp2_with fail;exact bodyPost_ret (v := .tuple #[.string ⟨#[]⟩,.int .i64 c]) (by simp[results,Tryz.results73,go_sem]) rfl ⟨(by rw[hX];rfl),Gr.auto⟩
   | true =>
    go_wp2_with fail;refine (HWn.out _ (HW.out.gr Gr.auto)).mono ?_;rintro e w5 ⟨rfl,g5⟩;go_wp2_with fail;refine (HDg.out _).mono ?_;rintro e w51 ⟨rfl,g51⟩;go_wp2_with fail;refine (HPw.out _).mono ?_;rintro e w52 ⟨rfl,g52⟩;obtain⟨V,hV⟩:∃V,(true && bw && bd && bp)=V:=⟨_,rfl⟩
    have HVV:=Lib.hid hV;go_wp2_with fail;refine (fl_right4 _ true bw bd bp V hV _ (by simp) (by simp) (by simp) (by simp)).mono ?_;rintro e w7 ⟨rfl,rfl⟩;clear hV;cases V with
    | false =>
     have HV:Hid (Pl.fltRead (bs s) = .bad 3 0):=Lib.hid (by rw[HX.out,if_neg (fun h=>by have h2:=h.symm.trans HVV.out;cases h2)]);clear HX;go_wp2_with fail;exact bodyPost_ret (v := .tuple #[.string ⟨#[]⟩,.int .i64 3]) (by simp[results,Tryz.results73,go_sem]) rfl ⟨post_bad HV.out,Gr.auto⟩
    | true =>
     have HV:Hid (Pl.fltRead (bs s)=Pl.decRead (Lib.trimPrefix (Pl.lowless (bs s)) [43])):=Lib.hid (HX.out.trans (if_pos HVV.out));clear HX;go_wp2_with fail;refine (replace_low s hs _ (HW.out.gr Gr.auto)).mono ?_;rintro e w8 ⟨rfl,g8⟩;obtain⟨L1,hL1⟩:∃L1:ByteArray,⟨(Lib.replaceAll (bs s) [95] []).toArray⟩=L1:=⟨_,rfl⟩
     have hL1b:bs L1=Pl.lowless (bs s):=by rw[←hL1,bs_of];rfl
     rw[hL1];have HL:=Lib.hid hL1b;clear hL1 hL1b;go_wp2_with fail;refine (Tryz.strings_TrimPrefix L1 ⟨#[43]⟩ _).mono ?_;rintro e w9 ⟨rfl,rfl⟩;obtain⟨L2,hL2⟩:∃L2:ByteArray,⟨(Lib.trimPrefix L1.data.toList (ByteArray.mk #[43]).data.toList).toArray⟩=L2:=⟨_,rfl⟩
     have hL2b:bs L2=Lib.trimPrefix (Pl.lowless (bs s)) [43]:=by rw[←hL2,bs_of,←HL.out]
     have hL2z:L2.size≤20000000:=by
      rw[←bs_length,hL2b];have h1:=Pl.lowless_len (bs s);rw[bs_length]at h1;unfold Lib.trimPrefix
      split
      · rw[List.length_drop];omega
      omega
     rw[hL2];have HL2:=Lib.hid hL2b;clear hL2 hL2b;go_wp2_with fail;refine (dc_read L2 hL2z _ (HW.out.gr Gr.auto)).mono ?_;rintro e w10 ⟨hp,g10⟩;rw[HL2.out,←HV.out]at hp;have HP:=Lib.hid hp;clear hp;unfold IntPost at HP;cases hX:Pl.fltRead (bs s) with
     | ok x =>
      rw[hX]at HP;have he:=HP.out;subst he;clear HV;go_wp2_with fail;exact bodyPost_ret (v := .tuple #[.string ⟨x.toArray⟩,.int .i64 0]) (by simp[results,Tryz.results73,go_sem]) rfl ⟨(by rw[hX];rfl),Gr.auto⟩
     | bad c p =>
      rw[hX]at HP;have he:=HP.out;subst he;go_wp2_with fail;exact bodyPost_ret (v := .tuple #[.string ⟨#[]⟩,.int .i64 c]) (by simp[results,Tryz.results73,go_sem]) rfl ⟨(by rw[hX];rfl),Gr.auto⟩
end Go.Proofs.YtkplelejagpkmaaGreatDoor
namespace Go.Proofs.YtkplelejagpkmaaGreatDoor
open Go.RowKit Go.Shelf Go.Joins
attribute [local go_sem] Oper.semAt_some
def PlainO (X:Pl.Out (Nat × Pl.Bs)) (k:Nat) (x:ByteArray) (c:Nat):Prop:=match X with
 | .ok (k',t')=>k=k'∧bs x=t'∧c=0
 | .bad c' _=>c=c'∧c'≠0
namespace Pl
def datP (l:Bs):Out (Nat × Bs):=match datRead l with
 | .ok x => .ok (6,x)
 | .bad c p => .bad c p
theorem datRead_code' {l:Bs} {c p:Nat} (h:datRead l = .bad c p):c≠0:=by
 unfold datRead at h;simp only at h
 split at h
 · cases h;omega
 split at h
 · cases h
 cases h;omega
theorem intRead_code' {l:Bs} {c p:Nat} (h:intRead l = .bad c p):c=3∨c=8:=by
 unfold intRead at h;have key:∀r sg ds,intRead3 r sg ds = .bad c p→c=3∨c=8:=by
  intro r sg ds h;unfold intRead3 at h
  split at h
  · cases h;exact .inl rfl
  split at h
  · cases h
  · cases h;exact .inr rfl
  cases h;exact .inl rfl
 split at h
 · exact key _ _ _ h
 exact key _ _ _ h
theorem fltRead_code' {l:Bs} {c p:Nat} (h:fltRead l = .bad c p):c≠0:=by
 unfold fltRead at h
 split at h
 · cases h
 split at h
 split at h
 split at h
 · unfold decRead at h
   split at h
   · cases h;omega
   split at h
   · cases h;omega
   simp only at h
   split at h
   · cases h
   split at h
   · cases h
   cases h;omega
 cases h;omega
end Pl
theorem tv_plain_date (t:ByteArray) (hs:t.size≤20000000) (w:World) (hw:IntW w) :
    Calls Tryz.prog 57 #[.string t,.bool true] w fun e w'=>(∃(k:Nat) (x:ByteArray) (c:Nat),e = .returned (.tuple #[.int .u8 k,.string x,.int .i64 c])∧PlainO (Pl.datP (bs t)) k x c)∧Gr w w':=by
 have HD:=Lib.hid (dt_Read t hs w);go_enter Tryz.func57,Tryz.ntmps57;go_wp2_with fail;refine HD.out.mono ?_;rintro e w1 ⟨hp,g1⟩;unfold IntPost at hp;cases hX:Pl.datRead (bs t) with
 | ok x =>
  rw[hX]at hp;have he:=hp;clear hp;subst he;go_wp2_with fail;exact bodyPost_ret (v := .tuple #[.int .u8 6,.string ⟨x.toArray⟩,.int .i64 0]) (by simp[results,Tryz.results57,go_sem]) rfl ⟨⟨6,⟨x.toArray⟩,0,rfl,by rw[show Pl.datP (bs t) = .ok (6,x) by unfold Pl.datP;rw[hX]];exact⟨rfl,bs_of x,rfl⟩⟩,g1⟩
 | bad c p =>
  rw[hX]at hp;have he:=hp;clear hp;subst he;have hc:=Pl.datRead_code' hX;go_wp2_with fail;exact bodyPost_ret (v := .tuple #[.int .u8 6,.string ⟨#[]⟩,.int .i64 c]) (by simp[results,Tryz.results57,go_sem]) rfl ⟨⟨6,⟨#[]⟩,c,rfl,by rw[show Pl.datP (bs t) = .bad c p by unfold Pl.datP;rw[hX]];exact⟨rfl,hc⟩⟩,g1⟩
theorem tv_plain_tok (t:ByteArray) (hs:t.size≤20000000) (ha:∀c∈bs t,c.toNat<128) (w:World) (hw:IntW w) :
    Calls Tryz.prog 57 #[.string t,.bool false] w fun e w'=>(∃(k:Nat) (x:ByteArray) (c:Nat),e = .returned (.tuple #[.int .u8 k,.string x,.int .i64 c])∧PlainO (Pl.plainS (bs t)) k x c)∧Gr w w':=by
 have HI:=Lib.hid (in_read t hs w hw);have HF:=Lib.hid (fun W (hW:IntW W)=>fl_Read t hs ha W hW);have HW:=Lib.hid hw;clear hw ha;by_cases h1:bs t=Pl.trueB
 · have d1:(t.toList==[116,114,117,101])=true:=by rw[Lib.toList_data];exact beq_iff_eq.2 h1
   have HX:Hid (Pl.plainS (bs t) = .ok (1,bs t)):=Lib.hid (by unfold Pl.plainS;rw[if_pos (.inl h1)]);clear h1;go_enter Tryz.func57,Tryz.ntmps57;go_wp2_with fail;exact bodyPost_ret (v := .tuple #[.int .u8 1,.string t,.int .i64 0]) (by simp[results,Tryz.results57,go_sem]) rfl ⟨⟨1,t,0,rfl,by rw[HX.out];exact⟨rfl,rfl,rfl⟩⟩,Gr.refl _⟩
 have d1:(t.toList==[116,114,117,101])=false:=by rw[Lib.toList_data];exact beq_eq_false_iff_ne.2 h1
 by_cases h2:bs t=Pl.falseB
 · have d2:(t.toList==[102,97,108,115,101])=true:=by rw[Lib.toList_data];exact beq_iff_eq.2 h2
   have HX:Hid (Pl.plainS (bs t) = .ok (1,bs t)):=Lib.hid (by unfold Pl.plainS;rw[if_pos (.inr h2)]);clear h1 h2;go_enter Tryz.func57,Tryz.ntmps57;go_wp2_with fail;exact bodyPost_ret (v := .tuple #[.int .u8 1,.string t,.int .i64 0]) (by simp[results,Tryz.results57,go_sem]) rfl ⟨⟨1,t,0,rfl,by rw[HX.out];exact⟨rfl,rfl,rfl⟩⟩,Gr.refl _⟩
 have d2:(t.toList==[102,97,108,115,101])=false:=by rw[Lib.toList_data];exact beq_eq_false_iff_ne.2 h2
 have HX:Hid (Pl.plainS (bs t)=match Pl.intRead (bs t) with
  | .ok x => .ok (4,x)
  | .bad c p=>if c=3 then (match Pl.fltRead (bs t) with
   | .ok x => .ok (5,x)
   | .bad c p => .bad c p) else .bad c p):=Lib.hid (by unfold Pl.plainS;rw[if_neg (by rintro (h|h);exact h1 h;exact h2 h)];rfl)
 clear h1 h2;go_enter Tryz.func57,Tryz.ntmps57;go_wp2_with fail;refine HI.out.mono ?_;rintro e w1 ⟨hp,g1⟩;unfold IntPost at hp;cases hX:Pl.intRead (bs t) with
 | ok x =>
  rw[hX]at hp HX;have he:=hp;clear hp;subst he;go_wp2_with fail;exact bodyPost_ret (v := .tuple #[.int .u8 4,.string ⟨x.toArray⟩,.int .i64 0]) (by simp[results,Tryz.results57,go_sem]) rfl ⟨⟨4,⟨x.toArray⟩,0,rfl,by rw[HX.out];exact⟨rfl,bs_of x,rfl⟩⟩,g1⟩
 | bad c p =>
  rw[hX]at hp HX;have he:=hp;clear hp;subst he;rcases Pl.intRead_code' hX with rfl|rfl
  · clear hX;go_wp2_with fail;refine (HF.out _ (HW.out.gr g1)).mono ?_;rintro e w2 ⟨hp,g2⟩;unfold IntPost at hp;cases hY:Pl.fltRead (bs t) with
    | ok x =>
     rw[hY]at hp HX;have he:=hp;clear hp;subst he;go_wp2_with fail;exact bodyPost_ret (v := .tuple #[.int .u8 5,.string ⟨x.toArray⟩,.int .i64 0]) (by simp[results,Tryz.results57,go_sem]) rfl ⟨⟨5,⟨x.toArray⟩,0,rfl,by rw[HX.out];exact⟨rfl,bs_of x,rfl⟩⟩,g1.trans g2⟩
    | bad c q =>
     rw[hY]at hp HX;have he:=hp;clear hp;subst he;have hc:=Pl.fltRead_code' hY;go_wp2_with fail;exact bodyPost_ret (v := .tuple #[.int .u8 5,.string ⟨#[]⟩,.int .i64 c]) (by simp[results,Tryz.results57,go_sem]) rfl ⟨⟨5,⟨#[]⟩,c,rfl,by rw[HX.out];exact⟨rfl,hc⟩⟩,g1.trans g2⟩
  go_wp2_with fail;exact bodyPost_ret (v := .tuple #[.int .u8 4,.string ⟨#[]⟩,.int .i64 8]) (by simp[results,Tryz.results57,go_sem]) rfl ⟨⟨4,⟨#[]⟩,8,rfl,by rw[HX.out];exact⟨rfl,by omega⟩⟩,g1⟩
end Go.Proofs.YtkplelejagpkmaaGreatDoor
