/- The proof's part 22. -/
import Derived.Test.YtnkgknbdaiakgaaGreatDoorP16
set_option maxHeartbeats 16000000
set_option linter.all false
set_option maxRecDepth 100000
namespace Go.Proofs.YtnkgknbdaiakgaaGreatDoor
open Pl Go.Proofs.Tryz Go.RowKit Go.Shelf Go.Joins
attribute [local go_sem] Uy
theorem Ofa(bg:ByteArray)(bb:Nat)(ds:ByteArray)(jq:bg=⟨#[]⟩)(cR:bb=10)(kz:ds=V31)(s:ByteArray)(hs:s.size<=20000000)(jm:O1h (bs s)=V3p bg bb ds)(h0:s.toList=[])(r:Bool)(DS:r=false)(hr:∀w,Calls prog 133 #[V3p bg bb ds,.string s] w λ e w'=>e = .returned (.bool r)/\Gr w w')
    (L:ByteArray)(hL:L=⟨(Lib.replaceAll (bs s) [95] []).toArray⟩)(T:ByteArray)(sP:(⟨#[]⟩:ByteArray)++L=T)(Y:Lib.NumEnd Int)(hY:r=true->Y≠Lib.NumEnd.syntax/\(∀v,Y = .ok v -> -9223372036854775808<=v/\v<=9223372036854775807)/\∀w ep,w.cell? ⟨1,0,none⟩=some (.iface 288 (.pointer (some ep)))->Calls prog 134 #[.string T,bb,(64:Int)] w (O1c ep w Y))
    (X:V2x Pl.Bs)(uw:r=false->X = .bad 3 0)(ux:1<s.size/\(bs s)[0]?=some 48->X = .bad 3 0)(uy:r=true->¬(1<s.size/\(bs s)[0]?=some 48)->X=V6u Y)(w:World)(hw:V3z w) :
    Calls prog 99 #[.string s] w λ e w'=>Ol X e/\Gr w w':=by
 refine Z122 ?_;intro HW oJ HR HY HL zh zi wJ;have pB:=hs;have eO:s.toList.isEmpty=true:=by rw[h0];rfl
 refine Z204 ?_;intro uA fd mK;have q:∀W,(Go.binOp .eql 205 (V3p bg bb ds) O2g).run prog W = .ok (.bool true) W:=λ _=>by subst jq cR kz;kernel_rfl
 have bA:(bg.size:Int)<=(s.size:Int):=by rw[jq,show (⟨#[]⟩:ByteArray).size=0 from rfl];omega
 refine Z196 ?_;intro aA hB;clear jq cR kz;clear hw jm hr hY hL uw ux uy;go_enter func99,ntmps99;go_wp2_with (go_at_call 131;refine (O2w s _ ((HW.o.gr Gr.auto).rad)).mono ?_;rw[oJ.o];rintro e w1 ⟨rfl,g1⟩);refine Z148 ?_;intro W0 aM;have ek:Op bg bb ds w1.heap.size W0:=by rw[<-aM];exact⟨⟨by simp,by simp,by simp⟩,by simp⟩
 have eR:Gr w W0:=by rw[<-aM];exact g1.alloc _
 rw[aM];clear aM g1;obtain⟨⟨c0,c1,c2⟩,aa⟩:=ek
 go_quiet (fail)
 have nT:Gr w (W0.drewN nq):=eR.drewN _;go_wp2_with fail;refine Z15 ?_;intro bi w2 g2 cm;refine Z309 ?_;refine Reg.ty 7 ?_;refine Z45 ?_;refine Reg.ty 16 ?_;refine Z12 ?_;have bC:Gr w w2:=nT.drew.trans g2;clear g2 eR nT c0 c1 c2 aa bi;obtain⟨⟨c0,c1,c2⟩,aa⟩:=cm;go_wp2_with fail;have P2:Hid (r=false):=DS;clear DS;refine Z314 ?_;intro bj w3 g3 aD;cases r with
 |false =>
  refine Z21 ?_;refine Z12 ?_;have dh:Gr w w3:=bC.drew.trans g3;exact J125
 |true=>exact absurd P2.o (by simp)
theorem O6k(ds:ByteArray)(f:UInt8->Bool)(h:∀n:Fin 256,(bs ds).contains (UInt8.ofNat n.val)=f (UInt8.ofNat n.val)):(bs ds).contains=f:=by
 funext c
 exact J29
theorem Oea:(bs V6d).contains=V5y:=O6k V6d _ (by decide +kernel)
theorem Oeb:(bs V6e).contains=(λ c=>decide (48<=c.toNat)&&decide (c.toNat<=55)):=O6k V6e _ (by decide +kernel)
theorem Oec:(bs V6f).contains=(λ c=>decide (48<=c.toNat)&&decide (c.toNat<=49)):=O6k V6f _ (by decide +kernel)
theorem Oed:(bs V31).contains=O2:=O6k V31 _ (by decide +kernel)
theorem O3v(ds:ByteArray)(h:((bs ds).all λ c=>decide (c.toNat<128))=true):∀(j:Nat) b,ds.data.toList[j]?=some b->b.toNat<128:=by
 intro j b hb;have:=U1g.1 h b (U1r hb);exact J15
theorem O5l(b:Nat)(l:List UInt8)(v:Int)(h:V1w b l = .ok v) : -9223372036854775808<=v/\v<=9223372036854775807:=by
 unfold V1w at h
 split at h
 -- base ten
 unfold Lib.parseIntB at h
 split at h;cases h
 simp only at h;have e:(2:Nat) ^ (64-1)=9223372036854775808:=by decide
 split at h;cases h
 cases h
 rename_i u _
 rw[e]at h
 split at h;cases h
 split at h;cases h
 rename_i h1 h2
 simp only[U3p]at h
 split at h
 rename_i hn
 have:u<=9223372036854775808:=by
  by_cases hu:9223372036854775808<u;exact absurd ⟨hn,hu⟩ h2
  omega
 omega
 rename_i hn
 have:u<9223372036854775808:=by
  by_cases hu:9223372036854775808<=u;exact absurd ⟨hn,hu⟩ h1
  omega
 omega
 split at h
 split at h;simp only[U3p]at h;omega
 cases h
 cases h
 cases h
theorem O2s(b:Nat)(ds:ByteArray)(hb:(b=10/\ds=V31)\/((b=16/\ds=V6d)\/(b=8/\ds=V6e)\/(b=2/\ds=V6f)))(S D L T:ByteArray)(hS:(b=10/\(bs S=[]\/bs S=[43]\/bs S=[45]))\/bs S=[])(hD:(bs S).length+D.size<=20000000)(hL:L=⟨(Lib.replaceAll (bs D) [95] []).toArray⟩)(hT:S++L=T)(hr:Vx (bs ds).contains (bs D)=true) :
    V1w b (bs S++Vm (bs D))≠Lib.NumEnd.syntax/\(∀v,V1w b (bs S++Vm (bs D)) = .ok v -> -9223372036854775808<=v/\v<=9223372036854775807) /\
    ∀w ep,w.cell? ⟨1,0,none⟩=some (.iface 288 (.pointer (some ep)))->Calls prog 134 #[.string T,b,(64:Int)] w (O1c ep w (V1w b (bs S++Vm (bs D)))):=by
 obtain⟨Lm,a8⟩:=V6p _ _ hr;have j9:bs T=bs S++Vm (bs D):=by
  rw[<-hT,hL];simp[bs,U1n,Vm]
 have rg:T.size<=20000000:=by
  rw[<-O0,j9,Ug];have:=V3q (bs D);rw[O0]at this;omega
 have xy:=λ h w ep hw=>Ogw b T rg h w ep hw
 rw[j9]at xy;rcases hb with⟨rfl,rfl⟩|hb
 have hd:∀c∈Vm (bs D),O2 c=true:=λ c hc=>by have:=Lm c hc;rw[Oed]at this;exact this
 have uU:Lib.parseIntB 64 (bs S++Vm (bs D))≠Lib.NumEnd.syntax:=V6q _ _ (by rcases hS with⟨_,h⟩|h;exact h;exact .inl h) hd a8;have e:V1w 10 (bs S++Vm (bs D))=Lib.parseIntB 64 (bs S++Vm (bs D)):=by unfold V1w;rw[Ua rfl]
 exact⟨by rw[e];exact uU,λ v hv=>O5l _ _ v hv,λ w ep hw=>xy (.inl ⟨rfl,uU⟩) w ep hw⟩
 have lj:b≠10:=by rcases hb with⟨rfl,_⟩|⟨rfl,_⟩|⟨rfl,_⟩ <;> decide
 have bi:bs S=[]:=by rcases hS with⟨h,_⟩|h;exact absurd h lj;exact h
 have aO:b=16\/b=8\/b=2:=by rcases hb with⟨h,_⟩|⟨h,_⟩|⟨h,_⟩;exact .inl h;exact .inr (.inl h);exact .inr (.inr h)
 have hd:∀c∈Vm (bs D),V28 c.toNat<b:=by
  intro c hc;have h2:=Lm c hc;rcases hb with⟨rfl,rfl⟩|⟨rfl,rfl⟩|⟨rfl,rfl⟩
  rw[Oea]at h2;simp only[V5y,O2,Bool.or_eq_true,Uf,Ux]at h2;unfold V28
  split;omega
  split;omega
  split;omega
  omega;rw[Oeb]at h2;exact J47
  rw[Oec]at h2;exact J47
 have h0:0<T.size:=by
  rw[<-O0,j9,bi,U1c];exact U2b.2 a8
 have ut:bs S++Vm (bs D)=Vm (bs D):=by rw[bi];rfl
 refine⟨?_,λ v hv=>O5l _ _ v hv,λ w ep hw=>xy (.inr ⟨aO,h0,by rw[ut];exact hd⟩) w ep hw⟩;rw[O5x b _ lj,ut];have:=V4j b 18446744073709551615 _ 0 hd;revert this;cases Vp b 18446744073709551615 0 (Vm (bs D)) with
 |range=>intro _ h;cases h
 |ok v=>intro _ h;unfold O2x at h;simp only at h;split at h <;> cases h
 |_=>intro h;exact absurd rfl h
theorem Ony(bb:Nat)(ds S D:ByteArray)(dig:UInt8->Bool)(lm:(bs ds).contains=dig)(hb:bb≠10)(hS:bs S=[])(lg:Nat) :
    (if Vx (bs ds).contains (bs D)=false then .bad 3 0 else V6u (V1w bb (bs S++Vm (bs D))))=V1m ⟨lg,bb,dig⟩ [] (bs D):=by
 unfold V1m;rw[lm,hS];by_cases h:Vx dig (bs D)=false;rw[Ua h,Ua (.inl h)]
 rw[Ud h,Ud (by rintro (h1|⟨h1,_⟩);exact h h1;exact hb h1)];simp only;cases V1w bb ([]++Vm (bs D)) <;> rfl
theorem Obt(S D:ByteArray)(lg:Nat):let X:=V1m ⟨lg,10,O2⟩ (bs S) (bs D)
    (Vx (bs V31).contains (bs D)=false->X = .bad 3 0)/\(1<D.size/\(bs D)[0]?=some 48->X = .bad 3 0) /\
    (Vx (bs V31).contains (bs D)=true->¬(1<D.size/\(bs D)[0]?=some 48)->X=V6u (V1w 10 (bs S++Vm (bs D)))):=by
 intro X;have hX:X=V1m ⟨lg,10,O2⟩ (bs S) (bs D):=rfl
 clear_value X
 subst hX;unfold V1m;rw[Oed];refine⟨λ h=>by rw[Ua (.inl h)],λ h=>by rw[Ua (.inr ⟨rfl,by rw[O0];exact h.1,h.2⟩)],λ h h2=>?_⟩;rw[Ud (by rintro (h1|⟨_,h1,h3⟩);rw[h]at h1;cases h1;exact h2 ⟨by rw[O0]at h1;exact h1,h3⟩)];simp only;cases V1w 10 (bs S++Vm (bs D)) <;> rfl
theorem Oee(s:ByteArray)(hs:s.size<=20000000)(w:World)(hw:V3z w):Calls prog 99 #[.string s] w λ e w'=>Ol (V1d (bs s)) e/\Gr w w':=by
 have other:∀(bg:ByteArray)(bb:Nat)(ds:ByteArray)(dig:UInt8->Bool),(bs ds).contains=dig->bb≠10->((bb=16/\ds=V6d)\/(bb=8/\ds=V6e)\/(bb=2/\ds=V6f))->ds.size<=100->(∀(j:Nat) b,ds.data.toList[j]?=some b->b.toNat<128)->bg.size=2->2<=s.size ->
     O1h (bs s)=V3p bg bb ds->V4l (bs s)=⟨2,bb,dig⟩->(∀W,(Go.binOp .eql 205 (V3p bg bb ds) O2g).run prog W = .ok (.bool false) W) ->
     Calls prog 99 #[.string s] w λ e w'=>Ol (V1d (bs s)) e/\Gr w w':=by
  intro bg bb ds dig lm lj hb kz ha jq d5 jm sy hq;have pB:(s.extract bg.size s.size).size<=20000000:=by simp;omega
  have h:=Ogy bg bb ds s hs jm (by omega) hq (s.extract bg.size s.size) rfl _ (λ w=>O5v bg bb ds kz ha _ pB w) _ rfl
   (V1w bb (bs ⟨#[]⟩++Vm (bs (s.extract bg.size s.size)))) (λ hr=>O2s bb ds (.inr hb) ⟨#[]⟩ _ _ _ (.inr rfl) (by simp only[bs];simp;omega) rfl (by apply U1y;simp[U1n]) hr) w hw
  rw[Ony bb ds ⟨#[]⟩ (s.extract bg.size s.size) dig lm lj rfl 2]at h;have e:V1d (bs s)=V1m ⟨2,bb,dig⟩ [] (bs (s.extract bg.size s.size)):=by
   unfold V1d V54;rw[sy];have:(decide (bb=10)&&Pl.signed (bs s))=false:=by simp[lj]
   simp only[this];rw[O3,jq];rfl
  rw[e];exact h
 have d5:∀x:UInt8,Pl.pre (bs s) [48,x]=true->2<=s.size:=λ x h=>by
  have:=V18 _ _ h;rw[O0]at this
  simpa using this
 by_cases h0:Pl.pre (bs s) [48,120]=true;exact other ⟨#[48,120]⟩ 16 V6d _ Oea (by decide) (.inl ⟨rfl,rfl⟩) (by decide) (O3v _ (by decide)) rfl (d5 _ h0) (by unfold O1h;rw[Ua h0]) (by unfold V4l;rw[Ua h0]) (λ _=>by kernel_rfl)
 by_cases h1:Pl.pre (bs s) [48,111]=true;exact other ⟨#[48,111]⟩ 8 V6e _ Oeb (by decide) (.inr (.inl ⟨rfl,rfl⟩)) (by decide) (O3v _ (by decide)) rfl (d5 _ h1) (by unfold O1h;rw[Ud h0,Ua h1]) (by unfold V4l;rw[Ud h0,Ua h1]) (λ _=>by kernel_rfl)
 by_cases h2:Pl.pre (bs s) [48,98]=true;exact other ⟨#[48,98]⟩ 2 V6f _ Oec (by decide) (.inr (.inr ⟨rfl,rfl⟩)) (by decide) (O3v _ (by decide)) rfl (d5 _ h2) (by unfold O1h;rw[Ud h0,Ud h1,Ua h2]) (by unfold V4l;rw[Ud h0,Ud h1,Ua h2]) (λ _=>by kernel_rfl)
 have jm:O1h (bs s)=V3p ⟨#[]⟩ 10 V31:=by unfold O1h;rw[Ud h0,Ud h1,Ud h2];rfl
 have sy:V4l (bs s)=⟨0,10,O2⟩:=by unfold V4l;rw[Ud h0,Ud h1,Ud h2]
 have ja:=λ(D:ByteArray)(hD:D.size<=20000000)(w:World)=>O5v ⟨#[]⟩ 10 V31 (by decide) (O3v _ (by decide)) D hD w
 by_cases hz:0<s.size
 have dB:=O8 s 0 hz;simp only[U1l]at dB;by_cases n7:(s[0]'hz).toNat=43\/(s[0]'hz).toNat=45
 have hS:bs (s.extract 0 1)=[s[0]'hz]:=by
  have h5:bs (s.extract 0 1)=(bs s).take 1:=by simp only[bs,U27];simp
  rw[h5,dB];rfl
 have GJ:bs (s.extract 0 1)=[43]\/bs (s.extract 0 1)=[45]:=by
  rw[hS];rcases n7 with h|h
  left;congr 1;rw[<-U1b];exact h
  right;congr 1;rw[<-U1b];exact h
 have pB:(s.extract 1 s.size).size<=20000000:=by simp;omega
 obtain⟨x1,x2,x3⟩:=Obt (s.extract 0 1) (s.extract 1 s.size) 0;have e:V1d (bs s)=V1m ⟨0,10,O2⟩ (bs (s.extract 0 1)) (bs (s.extract 1 s.size)):=by
  have GK:V54 (bs s)=true:=by
   unfold V54;rw[sy,dB];simp only[decide_true,Bool.true_and,Pl.signed,Vq];rcases n7 with h|h <;> rw[h] <;> rfl
  unfold V1d;rw[Ua GK,sy];have h5:bs (s.extract 0 1)=(bs s).take 1:=by simp only[bs,U27];simp
  rw[h5,O3]
 rw[e];have hP:=λ hr=>O2s 10 V31 (.inl ⟨rfl,rfl⟩) (s.extract 0 1) (s.extract 1 s.size) _ _ (.inl ⟨rfl,.inr GJ⟩) (by rw[hS];simp;omega) rfl rfl hr
 rcases n7 with h|h
 exact Of7 ⟨#[]⟩ 10 V31 rfl rfl rfl s hs jm hz h _ _ rfl rfl _ (ja _ pB) _ rfl _ rfl _ hP _ x1 x2 x3 w hw
 exact Of8 ⟨#[]⟩ 10 V31 rfl rfl rfl s hs jm hz h _ _ rfl rfl _ (ja _ pB) _ rfl _ rfl _ hP _ x1 x2 x3 w hw
 obtain⟨x1,x2,x3⟩:=Obt ⟨#[]⟩ s 0;have e:V1d (bs s)=V1m ⟨0,10,O2⟩ (bs ⟨#[]⟩) (bs s):=by
  have GK:V54 (bs s)=false:=by
   unfold V54;rw[sy,dB];simp only[decide_true,Bool.true_and,Pl.signed,Vq];simp only[Bool.or_eq_false_iff,U2r];exact⟨λ h=>n7 (.inl h),λ h=>n7 (.inr h)⟩
  unfold V1d;rw[Ud (by rw[GK];simp),sy];rfl
 rw[e];exact Of9 ⟨#[]⟩ 10 V31 rfl rfl rfl s hs jm hz ⟨λ h=>n7 (.inl h),λ h=>n7 (.inr h)⟩ _ (ja _ hs) _ rfl _ rfl _
  (λ hr=>O2s 10 V31 (.inl ⟨rfl,rfl⟩) ⟨#[]⟩ s _ _ (.inr rfl) (by simp only[bs];simp;omega) rfl rfl hr) _ x1 x2 x3 w hw
 have uV:bs s=[]:=List.length_eq_zero_iff.1 (by rw[O0];omega);have P3:s.toList=[]:=by rw[Uz];exact uV
 obtain⟨x1,x2,x3⟩:=Obt ⟨#[]⟩ s 0;have e:V1d (bs s)=V1m ⟨0,10,O2⟩ (bs ⟨#[]⟩) (bs s):=by rw[uV];rfl
 rw[e];exact Ofa ⟨#[]⟩ 10 V31 rfl rfl rfl s hs jm P3 _ (by rw[uV];rfl) (ja _ hs) _ rfl _ rfl _
  (λ hr=>O2s 10 V31 (.inl ⟨rfl,rfl⟩) ⟨#[]⟩ s _ _ (.inr rfl) (by simp only[bs];simp;omega) rfl rfl hr) _ x1 x2 x3 w hw
