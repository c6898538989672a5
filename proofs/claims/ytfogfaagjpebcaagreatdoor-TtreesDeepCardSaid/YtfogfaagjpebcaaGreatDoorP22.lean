/-
 The walks and plain laws that the claim rests on, part 22.
-/
import Derived.Test.YtfogfaagjpebcaaGreatDoorP00
import Derived.Test.YtfogfaagjpebcaaGreatDoorP17
set_option maxHeartbeats 16000000
set_option linter.all false
set_option linter.unusedVariables false
set_option linter.unusedSimpArgs false
namespace Go.Proofs.YtfogfaagjpebcaaGreatDoor
open Go.RowKit Go.Shelf Go.Joins
attribute [local go_sem] Oper.semAt_some
set_option maxRecDepth 100000 in
theorem in_read_TN (bg:ByteArray) (bb:Nat) (ds:ByteArray) (hbg:bg=⟨#[]⟩) (hbb:bb=10) (hds:ds=decD) (s:ByteArray) (hs:s.size≤20000000) (hrv:radOfV (bs s)=radV bg bb ds) (h0:0<s.size) (hc:(s[0]'h0).toNat≠43∧(s[0]'h0).toNat≠45) (r:Bool) (hr:∀w,Calls Tryz.prog 142 #[radV bg bb ds,.string s] w fun e w'=>e = .returned (.bool r)∧Gr w w')
    (L:ByteArray) (hL:L=⟨(Lib.replaceAll (bs s) [95] []).toArray⟩) (T:ByteArray) (hcat:(⟨#[]⟩:ByteArray)++L=T) (Y:Lib.NumEnd Int) (hY:r=true→Y≠Lib.NumEnd.syntax∧(∀v,Y = .ok v → -9223372036854775808≤v∧v≤9223372036854775807)∧∀w ep,w.cell? ⟨11,0,none⟩=some (.iface 280 (.pointer (some ep)))→Calls Tryz.prog 143 #[.string T,.int .i64 bb,.int .i64 64] w (ParsePost ep w Y))
    (X:Pl.Out Pl.Bs) (hXf:r=false→X = .bad 3 0) (hXz:1<s.size∧(bs s)[0]?=some 48→X = .bad 3 0) (hXt:r=true→¬(1<s.size∧(bs s)[0]?=some 48)→X=intY Y) (w:World) (hw:IntW w) :
    Calls Tryz.prog 128 #[.string s] w fun e w'=>IntPost X e∧Gr w w':=by
 refine Z126 ?_;intro HW HRV HR HY HL HXf HXz HXt;have hDz:=hs;have hne:¬s.toList=[]:=fun e=>by rw[Lib.toList_data]at e;have h2:=bs_length s;rw[show bs s=[] from e]at h2;simp at h2;omega
 refine Z198 ?_;intro hemp hp0 hp1;have y1:(((s[0]'h0).toNat:Int)==43)=false:=(beqs (s[0]'h0).toNat 43 false (by simpa using hc.1)).1;have y3:(((s[0]'h0).toNat:Int)==45)=false:=(beqs (s[0]'h0).toNat 45 false (by simpa using hc.2)).1;refine Z203 ?_;intro hLz hnb hnb2;have q:∀W,(Go.binOp .eql 215 (radV bg bb ds) tensV).run Tryz.prog W = .ok (.bool true) W:=fun _=>by subst hbg hbb hds;kernel_rfl
 have hb1:(bg.size:Int)≤(s.size:Int):=by rw[hbg,show (⟨#[]⟩:ByteArray).size=0 from rfl];omega
 refine Z196 ?_;intro hb2 hB;clear hbg hbb hds;clear hw hrv hr hY hL hXf hXz hXt;go_enter Tryz.func128,Tryz.ntmps128;go_wp2_with (go_at_call 140;refine (in_of_all s _ ((HW.out.gr Gr.auto).rad)).mono ?_;rw[HRV.out];rintro e w1 ⟨rfl,g1⟩);refine Z150 ?_;intro W0 hW0;have hR0:radC3 bg bb ds w1.heap.size W0:=by rw[←hW0];exact⟨⟨by simp,by simp,by simp⟩,by simp⟩
 have hG0:Gr w W0:=by rw[←hW0];exact g1.alloc _
 rw[hW0];clear hW0 g1;obtain⟨⟨c0,c1,c2⟩,hlt⟩:=hR0
 go_quiet (fail)
 have hGq:Gr w (W0.drewN nq):=hG0.drewN _;go_wp2_with fail;refine Z15 ?_;intro hS0 w2 g2 hS1;refine Z307 ?_;refine Z19 ?_;refine Z12 ?_;have hG2:Gr w w2:=hGq.drew.trans g2;clear g2 hG0 hGq c0 c1 c2 hlt hS0;obtain⟨⟨c0,c1,c2⟩,hlt⟩:=hS1;go_wp2_with fail;refine Z312 ?_;intro hS2 w3 g3 hS3;cases r with
 | false =>
  refine Z22 ?_;refine Z12 ?_;have hG3:Gr w w3:=hG2.drew.trans g3;exact J96
 | true =>
  by_cases h1:1<s.size
  · have e1:decide ((1:Int)<(s.size:Int))=true:=by simp;omega
    have H1:=Lib.hid h1;have e0:0<s.size:=by omega
    have e2:(0:Int)<(s.size:Int):=by omega
    cases hz:((s[0]'e0).toNat==48) with
    | true =>
     obtain⟨z1,z2⟩:=beqs _ 48 _ hz;have HZ:Hid ((bs s)[0]?=some 48):=Lib.hid (by
      have h2:=idx_bs s 0 e0;simp only[List.drop_zero]at h2;rw[h2];simp only[List.getElem?_cons_zero,Option.some.injEq,←UInt8.toNat_inj]
      simpa using hz)
     clear hz;refine Z5 ?_;intro w4 g4 hS4;refine Z77 ?_;refine Z101 ?_;refine Z12 ?_;have hG4:Gr w w4:=(hG2.drew.trans g3).trans g4;exact J161
    | false =>
     obtain⟨z1,z2⟩:=beqs _ 48 _ hz;have HIF:Hid (¬(1<s.size∧(bs s)[0]?=some 48)):=Lib.hid (by
      rintro⟨_,h3⟩;have h2:=idx_bs s 0 e0;simp only[List.drop_zero]at h2;rw[h2]at h3;simp only[List.getElem?_cons_zero,Option.some.injEq]at h3;rw[h3]at hz;simp at hz)
     clear hz;refine Z5 ?_;intro w4 g4 hS4;refine Z77 ?_;exact J76
  have e1:decide ((1:Int)<(s.size:Int))=false:=by simp;omega
  have HIF:Hid (¬(1<s.size∧(bs s)[0]?=some 48)):=Lib.hid (fun h3=>h1 h3.1);refine Z5 ?_;intro w4 g4 hS4;refine Z94 ?_;exact J76
end Go.Proofs.YtfogfaagjpebcaaGreatDoor
namespace Go.Proofs.YtfogfaagjpebcaaGreatDoor
open Go.RowKit Go.Shelf Go.Joins
attribute [local go_sem] Oper.semAt_some
set_option maxRecDepth 100000 in
theorem in_read_TE (bg:ByteArray) (bb:Nat) (ds:ByteArray) (hbg:bg=⟨#[]⟩) (hbb:bb=10) (hds:ds=decD) (s:ByteArray) (hs:s.size≤20000000) (hrv:radOfV (bs s)=radV bg bb ds) (h0:s.toList=[]) (r:Bool) (hr0:r=false) (hr:∀w,Calls Tryz.prog 142 #[radV bg bb ds,.string s] w fun e w'=>e = .returned (.bool r)∧Gr w w')
    (L:ByteArray) (hL:L=⟨(Lib.replaceAll (bs s) [95] []).toArray⟩) (T:ByteArray) (hcat:(⟨#[]⟩:ByteArray)++L=T) (Y:Lib.NumEnd Int) (hY:r=true→Y≠Lib.NumEnd.syntax∧(∀v,Y = .ok v → -9223372036854775808≤v∧v≤9223372036854775807)∧∀w ep,w.cell? ⟨11,0,none⟩=some (.iface 280 (.pointer (some ep)))→Calls Tryz.prog 143 #[.string T,.int .i64 bb,.int .i64 64] w (ParsePost ep w Y))
    (X:Pl.Out Pl.Bs) (hXf:r=false→X = .bad 3 0) (hXz:1<s.size∧(bs s)[0]?=some 48→X = .bad 3 0) (hXt:r=true→¬(1<s.size∧(bs s)[0]?=some 48)→X=intY Y) (w:World) (hw:IntW w) :
    Calls Tryz.prog 128 #[.string s] w fun e w'=>IntPost X e∧Gr w w':=by
 refine Z126 ?_;intro HW HRV HR HY HL HXf HXz HXt;have hDz:=hs;have hemp:s.toList.isEmpty=true:=by rw[h0];rfl
 refine Z203 ?_;intro hLz hnb hnb2;have q:∀W,(Go.binOp .eql 215 (radV bg bb ds) tensV).run Tryz.prog W = .ok (.bool true) W:=fun _=>by subst hbg hbb hds;kernel_rfl
 have hb1:(bg.size:Int)≤(s.size:Int):=by rw[hbg,show (⟨#[]⟩:ByteArray).size=0 from rfl];omega
 refine Z196 ?_;intro hb2 hB;clear hbg hbb hds;clear hw hrv hr hY hL hXf hXz hXt;go_enter Tryz.func128,Tryz.ntmps128;go_wp2_with (go_at_call 140;refine (in_of_all s _ ((HW.out.gr Gr.auto).rad)).mono ?_;rw[HRV.out];rintro e w1 ⟨rfl,g1⟩);refine Z150 ?_;intro W0 hW0;have hR0:radC3 bg bb ds w1.heap.size W0:=by rw[←hW0];exact⟨⟨by simp,by simp,by simp⟩,by simp⟩
 have hG0:Gr w W0:=by rw[←hW0];exact g1.alloc _
 rw[hW0];clear hW0 g1;obtain⟨⟨c0,c1,c2⟩,hlt⟩:=hR0
 go_quiet (fail)
 have hGq:Gr w (W0.drewN nq):=hG0.drewN _;go_wp2_with fail;refine Z15 ?_;intro hS0 w2 g2 hS1;refine Z307 ?_;refine Reg.ty 7 ?_;refine Z45 ?_;refine Reg.ty 16 ?_;refine Z12 ?_;have hG2:Gr w w2:=hGq.drew.trans g2;clear g2 hG0 hGq c0 c1 c2 hlt hS0;obtain⟨⟨c0,c1,c2⟩,hlt⟩:=hS1;go_wp2_with fail;have hrf:Hid (r=false):=hr0;clear hr0;refine Z312 ?_;intro hS2 w3 g3 hS3;cases r with
 | false =>
  refine Z22 ?_;refine Z12 ?_;have hG3:Gr w w3:=hG2.drew.trans g3;exact J96
 | true=>exact absurd hrf.out (by simp)
theorem has_dig (ds:ByteArray) (f:UInt8→Bool) (h:∀n:Fin 256,(bs ds).contains (UInt8.ofNat n.val)=f (UInt8.ofNat n.val)):(bs ds).contains=f:=by
 funext c
 exact J27
theorem has_hex:(bs hexD).contains=Pl.hexDigit:=has_dig hexD _ (by decide +kernel)
theorem has_oct:(bs octD).contains=(fun c=>decide (48≤c.toNat) && decide (c.toNat≤55)):=has_dig octD _ (by decide +kernel)
theorem has_bin:(bs binD).contains=(fun c=>decide (48≤c.toNat) && decide (c.toNat≤49)):=has_dig binD _ (by decide +kernel)
theorem has_dec:(bs decD).contains=isDec:=has_dig decD _ (by decide +kernel)
theorem ascii_all (ds:ByteArray) (h:((bs ds).all fun c=>decide (c.toNat<128))=true):∀(j:Nat) b,ds.data.toList[j]?=some b→b.toNat<128:=by
 intro j b hb;have:=List.all_eq_true.1 h b (List.mem_of_getElem? hb);exact J14
theorem intVal_bounds (b:Nat) (l:List UInt8) (v:Int) (h:Pl.intVal b l = .ok v) : -9223372036854775808≤v∧v≤9223372036854775807:=by
 unfold Pl.intVal at h
 split at h
 · -- base ten
   unfold Lib.parseIntB at h
   split at h
   · cases h
   simp only at h;have e:(2:Nat) ^ (64-1)=9223372036854775808:=by decide
   split at h
   · cases h
   · cases h
   rename_i u _
   rw[e]at h
   split at h
   · cases h
   split at h
   · cases h
   rename_i h1 h2
   simp only[Lib.NumEnd.ok.injEq]at h
   split at h
   · rename_i hn
     have:u≤9223372036854775808:=by
      by_cases hu:9223372036854775808<u
      · exact absurd ⟨hn,hu⟩ h2
      omega
     omega
   rename_i hn
   have:u<9223372036854775808:=by
    by_cases hu:9223372036854775808≤u
    · exact absurd ⟨hn,hu⟩ h1
    omega
   omega
 split at h
 · split at h
   · simp only[Lib.NumEnd.ok.injEq]at h;omega
   cases h
 · cases h
 cases h
theorem parse_right (b:Nat) (ds:ByteArray) (hb:(b=10∧ds=decD)∨((b=16∧ds=hexD)∨(b=8∧ds=octD)∨(b=2∧ds=binD))) (S D L T:ByteArray) (hS:(b=10∧(bs S=[]∨bs S=[43]∨bs S=[45]))∨bs S=[]) (hD:(bs S).length+D.size≤20000000) (hL:L=⟨(Lib.replaceAll (bs D) [95] []).toArray⟩) (hT:S++L=T) (hr:Pl.rightD (bs ds).contains (bs D)=true) :
    Pl.intVal b (bs S++Pl.lowless (bs D))≠Lib.NumEnd.syntax∧(∀v,Pl.intVal b (bs S++Pl.lowless (bs D)) = .ok v → -9223372036854775808≤v∧v≤9223372036854775807) ∧
    ∀w ep,w.cell? ⟨11,0,none⟩=some (.iface 280 (.pointer (some ep)))→Calls Tryz.prog 143 #[.string T,.int .i64 b,.int .i64 64] w (ParsePost ep w (Pl.intVal b (bs S++Pl.lowless (bs D)))):=by
 obtain⟨hdg,hne⟩:=Pl.right_digits _ _ hr;have hbT:bs T=bs S++Pl.lowless (bs D):=by
  rw[←hT,hL];simp[bs,ByteArray.data_append,Pl.lowless]
 have hTz:T.size≤20000000:=by
  rw[←bs_length,hbT,List.length_append];have:=Pl.lowless_len (bs D);rw[bs_length]at this;omega
 have hany:=fun h w ep hw=>parse_any b T hTz h w ep hw
 rw[hbT]at hany;rcases hb with⟨rfl,rfl⟩|hb
 · have hd:∀c∈Pl.lowless (bs D),isDec c=true:=fun c hc=>by have:=hdg c hc;rw[has_dec]at this;exact this
   have hns:Lib.parseIntB 64 (bs S++Pl.lowless (bs D))≠Lib.NumEnd.syntax:=Pl.parse_digits _ _ (by rcases hS with⟨_,h⟩|h;exact h;exact .inl h) hd hne;have e:Pl.intVal 10 (bs S++Pl.lowless (bs D))=Lib.parseIntB 64 (bs S++Pl.lowless (bs D)):=by unfold Pl.intVal;rw[if_pos rfl]
   exact⟨by rw[e];exact hns,fun v hv=>intVal_bounds _ _ v hv,fun w ep hw=>hany (.inl ⟨rfl,hns⟩) w ep hw⟩
 have hb10:b≠10:=by rcases hb with⟨rfl,_⟩|⟨rfl,_⟩|⟨rfl,_⟩ <;> decide
 have hS0:bs S=[]:=by rcases hS with⟨h,_⟩|h;exact absurd h hb10;exact h
 have hb3:b=16∨b=8∨b=2:=by rcases hb with⟨h,_⟩|⟨h,_⟩|⟨h,_⟩;exact .inl h;exact .inr (.inl h);exact .inr (.inr h)
 have hd:∀c∈Pl.lowless (bs D),Pl.digV c.toNat<b:=by
  intro c hc;have h2:=hdg c hc;rcases hb with⟨rfl,rfl⟩|⟨rfl,rfl⟩|⟨rfl,rfl⟩
  · rw[has_hex]at h2;simp only[Pl.hexDigit,isDec,Bool.or_eq_true,Bool.and_eq_true,decide_eq_true_eq]at h2;unfold Pl.digV
    split
    · omega
    split
    · omega
    split
    · omega
    omega
  · rw[has_oct]at h2;exact J45
  rw[has_bin]at h2;exact J45
 have h0:0<T.size:=by
  rw[←bs_length,hbT,hS0,List.nil_append];exact List.length_pos_iff.2 hne
 have hTl:bs S++Pl.lowless (bs D)=Pl.lowless (bs D):=by rw[hS0];rfl
 refine⟨?_,fun v hv=>intVal_bounds _ _ v hv,fun w ep hw=>hany (.inr ⟨hb3,h0,by rw[hTl];exact hd⟩) w ep hw⟩;rw[intVal_clamp b _ hb10,hTl];have:=Pl.puM_digits b 18446744073709551615 _ 0 hd;revert this;cases Pl.puM b 18446744073709551615 0 (Pl.lowless (bs D)) with
 | range=>intro _ h;cases h
 | ok v=>intro _ h;unfold clampI at h;simp only at h;split at h <;> cases h
 | _=>intro h;exact absurd rfl h
theorem intX_F (bb:Nat) (ds S D:ByteArray) (dig:UInt8→Bool) (hdig:(bs ds).contains=dig) (hb:bb≠10) (hS:bs S=[]) (lg:Nat) :
    (if Pl.rightD (bs ds).contains (bs D)=false then .bad 3 0 else intY (Pl.intVal bb (bs S++Pl.lowless (bs D))))=Pl.intRead3 ⟨lg,bb,dig⟩ [] (bs D):=by
 unfold Pl.intRead3;rw[hdig,hS];by_cases h:Pl.rightD dig (bs D)=false
 · rw[if_pos h,if_pos (.inl h)]
 rw[if_neg h,if_neg (by rintro (h1|⟨h1,_⟩);exact h h1;exact hb h1)];simp only;cases Pl.intVal bb ([]++Pl.lowless (bs D)) <;> rfl
theorem intX_T (S D:ByteArray) (lg:Nat):let X:=Pl.intRead3 ⟨lg,10,isDec⟩ (bs S) (bs D)
    (Pl.rightD (bs decD).contains (bs D)=false→X = .bad 3 0)∧(1<D.size∧(bs D)[0]?=some 48→X = .bad 3 0) ∧
    (Pl.rightD (bs decD).contains (bs D)=true→¬(1<D.size∧(bs D)[0]?=some 48)→X=intY (Pl.intVal 10 (bs S++Pl.lowless (bs D)))):=by
 intro X;have hX:X=Pl.intRead3 ⟨lg,10,isDec⟩ (bs S) (bs D):=rfl
 clear_value X
 subst hX;unfold Pl.intRead3;rw[has_dec];refine⟨fun h=>by rw[if_pos (.inl h)],fun h=>by rw[if_pos (.inr ⟨rfl,by rw[bs_length];exact h.1,h.2⟩)],fun h h2=>?_⟩;rw[if_neg (by rintro (h1|⟨_,h1,h3⟩);rw[h]at h1;cases h1;exact h2 ⟨by rw[bs_length]at h1;exact h1,h3⟩)];simp only;cases Pl.intVal 10 (bs S++Pl.lowless (bs D)) <;> rfl
theorem in_read (s:ByteArray) (hs:s.size≤20000000) (w:World) (hw:IntW w):Calls Tryz.prog 128 #[.string s] w fun e w'=>IntPost (Pl.intRead (bs s)) e∧Gr w w':=by
 have other:∀(bg:ByteArray) (bb:Nat) (ds:ByteArray) (dig:UInt8→Bool),(bs ds).contains=dig→bb≠10→((bb=16∧ds=hexD)∨(bb=8∧ds=octD)∨(bb=2∧ds=binD))→ds.size≤100→(∀(j:Nat) b,ds.data.toList[j]?=some b→b.toNat<128)→bg.size=2→2≤s.size →
     radOfV (bs s)=radV bg bb ds→Pl.radOf (bs s)=⟨2,bb,dig⟩→(∀W,(Go.binOp .eql 215 (radV bg bb ds) tensV).run Tryz.prog W = .ok (.bool false) W) →
     Calls Tryz.prog 128 #[.string s] w fun e w'=>IntPost (Pl.intRead (bs s)) e∧Gr w w':=by
  intro bg bb ds dig hdig hb10 hb hds ha hbg hsz hrv hro hq;have hDz:(s.extract bg.size s.size).size≤20000000:=by simp;omega
  have h:=in_read_F bg bb ds s hs hrv (by omega) hq (s.extract bg.size s.size) rfl _ (fun w=>in_right_all bg bb ds hds ha _ hDz w) _ rfl
   (Pl.intVal bb (bs ⟨#[]⟩++Pl.lowless (bs (s.extract bg.size s.size)))) (fun hr=>parse_right bb ds (.inr hb) ⟨#[]⟩ _ _ _ (.inr rfl) (by simp only[bs];simp;omega) rfl (by apply ByteArray.ext;simp[ByteArray.data_append]) hr) w hw
  rw[intX_F bb ds ⟨#[]⟩ (s.extract bg.size s.size) dig hdig hb10 rfl 2]at h;have e:Pl.intRead (bs s)=Pl.intRead3 ⟨2,bb,dig⟩ [] (bs (s.extract bg.size s.size)):=by
   unfold Pl.intRead Pl.signIs;rw[hro];have:(decide (bb=10) && Pl.signed (bs s))=false:=by simp[hb10]
   simp only[this];rw[bs_extract,hbg];rfl
  rw[e];exact h
 have hsz:∀x:UInt8,Pl.pre (bs s) [48,x]=true→2≤s.size:=fun x h=>by
  have:=Pl.pre_length _ _ h;rw[bs_length]at this
  simpa using this
 by_cases h0:Pl.pre (bs s) [48,120]=true
 · exact other ⟨#[48,120]⟩ 16 hexD _ has_hex (by decide) (.inl ⟨rfl,rfl⟩) (by decide) (ascii_all _ (by decide)) rfl (hsz _ h0) (by unfold radOfV;rw[if_pos h0]) (by unfold Pl.radOf;rw[if_pos h0]) (fun _=>by kernel_rfl)
 by_cases h1:Pl.pre (bs s) [48,111]=true
 · exact other ⟨#[48,111]⟩ 8 octD _ has_oct (by decide) (.inr (.inl ⟨rfl,rfl⟩)) (by decide) (ascii_all _ (by decide)) rfl (hsz _ h1) (by unfold radOfV;rw[if_neg h0,if_pos h1]) (by unfold Pl.radOf;rw[if_neg h0,if_pos h1]) (fun _=>by kernel_rfl)
 by_cases h2:Pl.pre (bs s) [48,98]=true
 · exact other ⟨#[48,98]⟩ 2 binD _ has_bin (by decide) (.inr (.inr ⟨rfl,rfl⟩)) (by decide) (ascii_all _ (by decide)) rfl (hsz _ h2) (by unfold radOfV;rw[if_neg h0,if_neg h1,if_pos h2]) (by unfold Pl.radOf;rw[if_neg h0,if_neg h1,if_pos h2]) (fun _=>by kernel_rfl)
 have hrv:radOfV (bs s)=radV ⟨#[]⟩ 10 decD:=by unfold radOfV;rw[if_neg h0,if_neg h1,if_neg h2];rfl
 have hro:Pl.radOf (bs s)=⟨0,10,isDec⟩:=by unfold Pl.radOf;rw[if_neg h0,if_neg h1,if_neg h2]
 have hright:=fun (D:ByteArray) (hD:D.size≤20000000) (w:World)=>in_right_all ⟨#[]⟩ 10 decD (by decide) (ascii_all _ (by decide)) D hD w
 by_cases hz:0<s.size
 · have hidx:=idx_bs s 0 hz;simp only[List.drop_zero]at hidx;by_cases h43:(s[0]'hz).toNat=43∨(s[0]'hz).toNat=45
   · have hS:bs (s.extract 0 1)=[s[0]'hz]:=by
      have h5:bs (s.extract 0 1)=(bs s).take 1:=by simp only[bs,Lib.extract_data];simp
      rw[h5,hidx];rfl
     have hSgn:bs (s.extract 0 1)=[43]∨bs (s.extract 0 1)=[45]:=by
      rw[hS];rcases h43 with h|h
      · left;congr 1;rw[←UInt8.toNat_inj];exact h
      right;congr 1;rw[←UInt8.toNat_inj];exact h
     have hDz:(s.extract 1 s.size).size≤20000000:=by simp;omega
     obtain⟨x1,x2,x3⟩:=intX_T (s.extract 0 1) (s.extract 1 s.size) 0;have e:Pl.intRead (bs s)=Pl.intRead3 ⟨0,10,isDec⟩ (bs (s.extract 0 1)) (bs (s.extract 1 s.size)):=by
      have hsg:Pl.signIs (bs s)=true:=by
       unfold Pl.signIs;rw[hro,hidx];simp only[decide_true,Bool.true_and,Pl.signed,Pl.isSign];rcases h43 with h|h <;> rw[h] <;> rfl
      unfold Pl.intRead;rw[if_pos hsg,hro];have h5:bs (s.extract 0 1)=(bs s).take 1:=by simp only[bs,Lib.extract_data];simp
      rw[h5,bs_extract]
     rw[e];have hP:=fun hr=>parse_right 10 decD (.inl ⟨rfl,rfl⟩) (s.extract 0 1) (s.extract 1 s.size) _ _ (.inl ⟨rfl,.inr hSgn⟩) (by rw[hS];simp;omega) rfl rfl hr
     rcases h43 with h|h
     · exact in_read_T3 ⟨#[]⟩ 10 decD rfl rfl rfl s hs hrv hz h _ _ rfl rfl _ (hright _ hDz) _ rfl _ rfl _ hP _ x1 x2 x3 w hw
     exact in_read_T5 ⟨#[]⟩ 10 decD rfl rfl rfl s hs hrv hz h _ _ rfl rfl _ (hright _ hDz) _ rfl _ rfl _ hP _ x1 x2 x3 w hw
   obtain⟨x1,x2,x3⟩:=intX_T ⟨#[]⟩ s 0;have e:Pl.intRead (bs s)=Pl.intRead3 ⟨0,10,isDec⟩ (bs ⟨#[]⟩) (bs s):=by
    have hsg:Pl.signIs (bs s)=false:=by
     unfold Pl.signIs;rw[hro,hidx];simp only[decide_true,Bool.true_and,Pl.signed,Pl.isSign];simp only[Bool.or_eq_false_iff,beq_eq_false_iff_ne];exact⟨fun h=>h43 (.inl h),fun h=>h43 (.inr h)⟩
    unfold Pl.intRead;rw[if_neg (by rw[hsg];simp),hro];rfl
   rw[e];exact in_read_TN ⟨#[]⟩ 10 decD rfl rfl rfl s hs hrv hz ⟨fun h=>h43 (.inl h),fun h=>h43 (.inr h)⟩ _ (hright _ hs) _ rfl _ rfl _
    (fun hr=>parse_right 10 decD (.inl ⟨rfl,rfl⟩) ⟨#[]⟩ s _ _ (.inr rfl) (by simp only[bs];simp;omega) rfl rfl hr) _ x1 x2 x3 w hw
 have hbs:bs s=[]:=List.length_eq_zero_iff.1 (by rw[bs_length];omega);have hse:s.toList=[]:=by rw[Lib.toList_data];exact hbs
 obtain⟨x1,x2,x3⟩:=intX_T ⟨#[]⟩ s 0;have e:Pl.intRead (bs s)=Pl.intRead3 ⟨0,10,isDec⟩ (bs ⟨#[]⟩) (bs s):=by rw[hbs];rfl
 rw[e];exact in_read_TE ⟨#[]⟩ 10 decD rfl rfl rfl s hs hrv hse _ (by rw[hbs];rfl) (hright _ hs) _ rfl _ rfl _
  (fun hr=>parse_right 10 decD (.inl ⟨rfl,rfl⟩) ⟨#[]⟩ s _ _ (.inr rfl) (by simp only[bs];simp;omega) rfl rfl hr) _ x1 x2 x3 w hw
end Go.Proofs.YtfogfaagjpebcaaGreatDoor
