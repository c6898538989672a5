/- The proof's part 31. -/
import Derived.Test.YtnkgknbdaiakgaaGreatDoorY24
set_option maxHeartbeats 16000000
set_option linter.all false
set_option maxRecDepth 100000
namespace Go.Proofs.YtnkgknbdaiakgaaGreatDoor
open Pl Go.Proofs.Tryz Go.RowKit Go.Shelf Go.Joins
theorem Oo2(s:ByteArray)(hs:s.size<=20000000)(w:World)(hw:V4d w):Calls prog 144 #[.string s] w λ e w'=>Op (V17 (bs s)) e/\Gr w w':=by
 have hx:V17 (bs s)=V17 (bs s):=rfl;have lm:=V8t s.size (bs s) (by rw[O0];exact U12 _);have HE:=U10 lm;have HW:=U10 hw;clear hx lm hw;go_enter func144,ntmps144;go_wp2_with fail;refine (Olj s hs _).mono ?_;rintro e w1 ⟨hp,g1⟩;cases hd:V48 s.size (bs s) with
 |none =>
  unfold O1z at hp;rw[hd]at hp;obtain⟨b0,b5,b6,a1,a2,a3,a4,rfl⟩:=hp;have HX:Hid (V17 (bs s)=.bad 3 0):=U10 (by unfold V17;rw[HE.o,hd];rfl);clear hd;go_wp2_with fail;exact U11 (v:=.tuple #[.string ⟨#[]⟩,(3:Int)]) (by simp[results,results144,go_sem]) rfl ⟨O1t HX.o,Gr.auto⟩
 |some d =>
  unfold O1z at hp;rw[hd]at hp;obtain⟨b5,b6,a1,a2,a3,a4,rfl,h1,h2,h3,h4⟩:=hp;obtain⟨ad,lq⟩:=V8f _ _ _ hd;rw[<-h1,<-h2,<-h4,O0,O0,O0,O0]at ad;rw[<-h4]at lq;have HX:Hid (V58 (bs s)=some ⟨d.minus,bs a1,bs a2,decide (bs a3=[45]),bs a4⟩):=U10 (by rw[HE.o,hd,h1,h2,h3,h4];rfl);have HN:=U10 (λ W=>Oh9 d.minus b5 b6 a1 a2 a3 a4 Ya lq W);obtain⟨m,hm⟩:=ExZ (d.minus)
  rw[hm]at HX HN⊢;clear hd h1 h2 h3 h4 lq hm;go_wp2_with fail;refine (HN.o _).mono ?_;rintro e w2 ⟨hq,g2⟩;have bC:Gr w w2:=(g1.alloc _).trans g2;have c0:w2.cell? w1=some (.bool m):=(g2.use.1 _ _ Yb).trans Yb;have c1:w2.cell? ⟨w1,1,none⟩=some (.string a1):=(g2.use.1 _ _ Yb).trans Yb;have c2:w2.cell? ⟨w1,2,none⟩=some (.string a2):=(g2.use.1 _ _ Yb).trans Yb;clear g2;cases hn:V4w (decide (bs a3=[45])) (bs a4) with
  |none =>
   unfold O6p at hq;rw[hn]at hq;obtain⟨n,rfl⟩:=hq;have HY:Hid (V17 (bs s)=.bad 7 0):=U10 (by unfold V17;rw[HX.o];simp only;rw[hn]);clear hn;go_wp2_with fail;exact U11 (v:=.tuple #[.string ⟨#[]⟩,(7:Int)]) (by simp[results,results144,go_sem]) rfl ⟨O1t HY.o,bC⟩
  |some n =>
   unfold O6p at hq;rw[hn]at hq;have he:e=.returned (.tuple #[n,.bool true]):=hq;clear hq;subst he;obtain⟨n8,l0⟩:=V8v _ _ _ hn;obtain⟨S,hS⟩:∃S:ByteArray,a1++a2=S:=⟨_,rfl⟩
   have IG:bs S=bs a1++bs a2:=by rw[<-hS];simp[bs,U2m]
   have Hg:S.size<=20000000:=by rw[<-O0,IG,U1c,O0,O0];omega
   have IH:¬ 9223372036854775807<a1.size+a2.size:=Ya;have fX:=U1i (n-(a2.size:Int)) ⟨Ya,Ya⟩;have MH:=U10 (λ W=>Oha m S (n-(a2.size:Int)) Hg ⟨Ya,Ya⟩ W);have hY:V17 (bs s)=(if Vm (Vk (bs S))=[] then .ok [48] else if V31 (O2f (bs S) (n-(a2.size:Int)))=true then .ok (O73 m (Vm (Vk (bs S))) (O2f (bs S) (n-(a2.size:Int)))) else .bad 7 0):=by
    unfold V17;rw[HX.o];simp only;rw[hn];simp only;rw[<-IG];by_cases lB:Vm (Vk (bs S))=[];rw[U18 lB,U18 lB]
    rw[U1b lB,U1b lB];unfold O2f O73;rw[U1b lB,O0]
   have HY:=U10 hY;have hE : -9223372036854775808<=O2f (bs S) (n-(a2.size:Int))/\O2f (bs S) (n-(a2.size:Int))<=9223372036854775807:=by
    unfold O2f;have h5:=V59 (bs S);have h6:=V4e (Vk (bs S));rw[O0]at h5
    split <;> omega
   have hL:(O58 (bs S)).length<=20000000:=by
    unfold O58;have h5:=V59 (bs S);have h6:=V4e (Vk (bs S));rw[O0]at h5
    split;simp
    omega
   have HL:=U10 hL;clear hn IG hY hL HN;go_wp2_with fail;refine (MH.o _).mono ?_;rintro e w3 ⟨⟨dd,rfl,qm⟩,g3⟩;have d7:=bC.trans g3;have HD:=U10 qm;have II:dd.size<=20000000:=by rw[<-O0,qm];exact HL.o
   clear qm g3 c0 c1 c2 bC MH HL;by_cases lB:Vm (Vk (bs S))=[]
   ·have h1:O57 m (bs S)=false:=by unfold O57;rw[U18 lB]
    have h2:O2f (bs S) (n-(a2.size:Int))=0:=by unfold O2f;rw[U18 lB]
    have h3:dd=⟨#[48]⟩:=by
     have h4:=HD.o;unfold O58 at h4;rw[U18 lB]at h4;exact U31 (U32.1 h4)
    have HZ:Hid (V17 (bs s)=.ok (bs ⟨#[48]⟩)):=U10 (by rw[HY.o,U18 lB];try rfl);rw[h1,h2];subst h3;clear lB h1 h2 hE;go_wp2_with fail;refine (O36 0 _).mono ?_;refine Z44 ?_;have rY:V31 0=true:=Yd;go_wp2_with fail;refine (Olk _).mono ?_;rintro e w5 ⟨rfl,g5⟩;go_wp2_with fail;exact U11 (v:=.tuple #[.string ⟨#[48]⟩,(0:Int)]) (by simp[results,results144,go_sem]) rfl ⟨O5n HZ.o,(d7.alloc _).trans g5⟩
   have h1:O57 m (bs S)=m:=by unfold O57;rw[U1b lB]
   have qm:bs dd=Vm (Vk (bs S)):=by
    have h4:=HD.o;unfold O58 at h4;rw[U1b lB]at h4;exact h4
   have a8:¬bs dd=[48]:=by rw[qm];exact V7s _
   rw[h1];obtain⟨x,hx⟩:=ExZ (O2f (bs S) (n-(a2.size:Int)))
   rw[hx]at hE⊢;have hZ:V17 (bs s)=if V31 x=true then .ok (O73 m (bs dd) x) else .bad 7 0:=by rw[HY.o,U1b lB,hx,<-qm]
   have HZ:=U10 hZ;have HT:=U10 (λ W (hW:V4d W)=>Oo1 m dd x II a8 hE.1 hE.2 W hW);clear hZ hx lB h1 qm a8 HD HY;cases F3:V31 x with
   |false =>
    have HB:Hid (V17 (bs s)=.bad 7 0):=U10 (by rw[HZ.o,F3];rfl);go_wp2_with fail;refine (O36 x _).mono ?_;refine Z44 ?_;go_wp2_with fail;exact U11 (v:=.tuple #[.string ⟨#[]⟩,(7:Int)]) (by simp[results,results144,go_sem]) rfl ⟨O1t HB.o,d7.alloc _⟩
   |true =>
    have HB:Hid (V17 (bs s)=.ok (O73 m (bs dd) x)):=U10 (by rw[HZ.o,F3];rfl);go_wp2_with fail;refine (O36 x _).mono ?_;refine Z44 ?_;go_wp2_with fail;refine (HT.o _ (HW.o.gr (d7.alloc _))).mono ?_;rintro e w5 ⟨⟨t,rfl,ht⟩,g5⟩;have HQ:Hid (V17 (bs s)=.ok (bs t)):=U10 (by rw[HB.o,ht]);clear ht;go_wp2_with fail;exact U11 (v:=.tuple #[.string t,(0:Int)]) (by simp[results,results144,go_sem]) rfl ⟨O5n HQ.o,(d7.alloc _).trans g5⟩
end Go.Proofs.YtnkgknbdaiakgaaGreatDoor
namespace Go.Proofs.YtnkgknbdaiakgaaGreatDoor
open Pl Go.Proofs.Tryz Go.RowKit Go.Shelf Go.Joins
attribute [local go_sem] U28
theorem O49(b:Nat)(x0 x1 x2 x3 V:Bool)(hV:(x0&&x1&&x2&&x3)=V)(w:World)(h0:w.cell? b=some (.bool x0))(h1:w.cell? ⟨b,1,none⟩=some (.bool x1))(h2:w.cell? ⟨b,2,none⟩=some (.bool x2))(h3:w.cell? ⟨b,3,none⟩=some (.bool x3)):Calls prog 140 #[.slice b 4 4] w λ e w'=>e=.returned (.bool V)/\w'=w:=by
 subst hV;exact Oiz b x0 x1 x2 x3 w h0 h1 h2 h3
theorem Oll(s:ByteArray)(hs:s.size<=20000000)(w:World):Calls prog 143 #[.string s] w λ e w'=>e=.returned (.bool (Pl.power (bs s)))/\Gr w w':=by
 rcases O2c s with⟨h1,h2,h3⟩|⟨h1,h2,h3⟩
 have h4:bs s=[]:=U3q.1 h3;have HX:Hid (Pl.power (bs s)=V15 O2 (bs s)):=U10 (by unfold Pl.power;rw[h4];rfl);have HD:=U10 (O48 s hs);clear h4;exact J212
 refine Z218 ?_;intro e0 e1;have hh:=O9 s 0 e0;simp only[U2j]at hh;obtain⟨r,hr⟩:=ExZ (s.extract 1 s.size)
 have gR:bs r=(bs s).drop 1:=by rw[<-hr,O3]
 have om:r.size<=20000000:=by rw[<-hr];simp;omega
 have HR:=U10 (O48 r om);have HD:=U10 (O48 s hs);have k1:(1:Int)<=(s.size:Int):=Ya
 cases hz:((s[0]'e0).toNat==43) with
 |true =>
  have z1:(((s[0]'e0).toNat:Int)==43)=true:=(V1q _ 43 _ hz).1;have HX:Hid (Pl.power (bs s)=V15 O2 (bs r)):=U10 (by
   unfold Pl.power;have:Vg Vx (bs s)=true:=by rw[hh];simp only[Vg,Vx];rw[show ((s[0]'e0).toNat==43)=true from hz];rfl
   rw[U18 this,gR])
  clear hz hh gR h3;exact J211
 |false =>
  have z1:(((s[0]'e0).toNat:Int)==43)=false:=(V1q _ 43 _ hz).1;cases hy:((s[0]'e0).toNat==45) with
  |true =>
   have z2:(((s[0]'e0).toNat:Int)==45)=true:=(V1q _ 45 _ hy).1;have HX:Hid (Pl.power (bs s)=V15 O2 (bs r)):=U10 (by
    unfold Pl.power;have:Vg Vx (bs s)=true:=by rw[hh];simp only[Vg,Vx];rw[show ((s[0]'e0).toNat==45)=true from hy];simp
    rw[U18 this,gR])
   clear hz hy hh gR h3;exact J211
  |false =>
   have z2:(((s[0]'e0).toNat:Int)==45)=false:=(V1q _ 45 _ hy).1;have HX:Hid (Pl.power (bs s)=V15 O2 (bs s)):=U10 (by
    unfold Pl.power;have:Vg Vx (bs s)=false:=by rw[hh];simp only[Vg,Vx];rw[show ((s[0]'e0).toNat==43)=false from hz,show ((s[0]'e0).toNat==45)=false from hy];rfl
    rw[U1b (by rw[this];simp)])
   clear hz hy hh gR h3 HR;exact J212
namespace Pl
theorem V9h(p:UInt8->Bool)(l a b:Bs)(c:Bool)(h:V5v p l=(a,b,c)):∀x∈a,x∈l:=by
 unfold V5v at h
 split at h;cases h;exact λ x hx=>hx
 cases h;exact λ x hx=>(List.takeWhile_sublist _).subset hx
theorem Vb6(l rest e n part:Bs)(ra pt:Bool)(h1:V5v Vz l=(rest,e,ra))(h2:V5v V2u rest=(n,part,pt))(hs:¬(V1u l≠[]/\l.length-(V38 l).length<2)):V25 l=if ((pt || ra)&&V66 n&&(!pt || V15 O2 part)&&(!ra || power e))=true then V17 (Lib.trimPrefix (Vo l) [43]) else .bad 3 0:=by
 unfold V25;rw[U1b hs,h1];simp only;rw[h2];simp only;congr 2;cases Vo l with
 |nil=>rfl
 |cons c t =>
  unfold Lib.trimPrefix Lib.hasPrefix;by_cases hc:c=43;subst hc;simp
  have:(List.isPrefixOf [43] (c::t))=false:=by simp[List.isPrefixOf];intro e;exact hc e.symm
  rw[U1b (by rw[this];simp)]
  split;rename_i lm;cases lm;exact absurd rfl hc
  rfl
theorem V91:(bs ⟨#[101,69]⟩).contains=Vz:=funext λ c=>by
 have h:∀n:Fin 256,(bs ⟨#[101,69]⟩).contains (UInt8.ofNat n.1)=Vz (UInt8.ofNat n.1):=Yd
 simpa using h ⟨c.toNat,U4v c⟩
theorem Va0:(bs ⟨#[46]⟩).contains=V2u:=funext λ c=>by
 have h:∀n:Fin 256,(bs ⟨#[46]⟩).contains (UInt8.ofNat n.1)=V2u (UInt8.ofNat n.1):=Yd
 simpa using h ⟨c.toNat,U4v c⟩
end Pl
theorem Oo3(s:ByteArray)(hs:s.size<=20000000)(ha:∀c∈bs s,c.toNat<128)(w:World)(hw:V4d w):Calls prog 100 #[.string s] w λ e w'=>Op (V25 (bs s)) e/\Gr w w':=by
 obtain⟨T,hT⟩:∃T:ByteArray,⟨(V38 (bs s)).toArray⟩=T:=⟨_,rfl⟩
 have oh:V38 (bs s)=bs T:=by rw[<-hT,O1w]
 have rH:T.size<=s.size:=by rw[<-O0,<-oh,<-O0];exact (U39 _).length_le
 have MI:s.size-T.size=(bs s).length-(V38 (bs s)).length:=by rw[oh,O0,O0]
 have fX:IntKind.i64.wrap ((s.size:Int)-(T.size:Int))=((s.size-T.size:Nat):Int):=by rw[U1i _ ⟨Ya,Ya⟩];omega
 have HT:=U10 hT;have HW:=U10 hw;have HA:=U10 ha;have HU:=U10 MI;clear hT oh hw ha MI;have HS:=U10 (Oem s hs);have Fc:=U10 (λ W=>Ofg s ⟨#[101,69]⟩ hs Yd (Obq HA.o) (ascii_of_all Yd) Vz V91 W);by_cases dm:V1u (bs s)≠[]/\s.size-T.size<2
 ·have HX:Hid (V25 (bs s)=.ok (V1u (bs s))):=U10 (by unfold V25;rw[U18 ⟨dm.1,by rw[<-HU.o];exact dm.2⟩]);have d1:decide (((s.size-T.size:Nat):Int)<2)=true:=by simp;omega
  have HN:=U10 dm.1;clear dm Fc;go_enter func100,ntmps100;go_wp2_with (go_at_call 41;refine (O2i s T HT.o _).mono ?_;rintro e w1 ⟨rfl,g1⟩);refine (HS.o _).mono ?_;rintro e w2 ⟨⟨t,rfl,ht⟩,g2⟩;have q1:¬t.toList=[]:=by rw[U1y];show ¬bs t=[];rw[ht];exact HN.o
  have q2:t.toList.isEmpty=false:=by simpa using q1
  have HY:Hid (V25 (bs s)=.ok (bs t)):=U10 (by rw[HX.o,ht]);clear ht;go_wp2_with fail;exact U11 (v:=.tuple #[.string t,(0:Int)]) (by simp[results,results100,go_sem]) rfl ⟨O5n HY.o,Gr.auto⟩
 have MJ:=U10 (λ rest e n part ra pt h1 h2=>Vb6 (bs s) rest e n part ra pt h1 h2 (by rw[<-HU.o];exact dm));have hc:(V1u (bs s)=[])\/(V1u (bs s)≠[]/\decide (((s.size-T.size:Nat):Int)<2)=false):=by
  by_cases h:V1u (bs s)=[];exact .inl h
  refine .inr ⟨h,?_⟩;have:¬s.size-T.size<2:=λ h2=>dm ⟨h,h2⟩
  simp;omega
 have MK:=U10 hc;clear dm hc;go_enter func100,ntmps100;go_wp2_with (go_at_call 41;refine (O2i s T HT.o _).mono ?_;rintro e w1 ⟨rfl,g1⟩);refine (HS.o _).mono ?_;rintro e w2 ⟨⟨t,rfl,ht⟩,g2⟩;have An:(t.toList=[]/\t.toList.isEmpty=true)\/(¬t.toList=[]/\t.toList.isEmpty=false/\decide (((s.size-T.size:Nat):Int)<2)=false):=by
  rcases MK.o with h|⟨h,h2⟩
  left;have:t.toList=[]:=by rw[U1y];show bs t=[];rw[ht,h]
  exact⟨this,by rw[this];rfl⟩
  right;have:¬t.toList=[]:=by rw[U1y];show ¬bs t=[];rw[ht];exact h
  exact⟨this,by simpa using this,h2⟩
 have bC:Gr w w2:=g1.trans g2;clear ht MK g1 g2 HS;rcases An with⟨q1,q2⟩|⟨q1,q2,q3⟩
 all_goals
  go_wp2_with fail;refine (Fc.o _).mono ?_;rintro e w3 ⟨⟨rest,ee,ra,rfl,ah,ax,aL⟩,g3⟩;have vG:∀c∈bs rest,c.toNat<128:=λ c hc=>HA.o c (V9h _ _ _ _ _ ah c hc)
  have og:=U10 (λ W=>Ofg rest ⟨#[46]⟩ Ya Yd (Obq vG) (ascii_of_all Yd) V2u Va0 W);have H1:=U10 ah;clear ah vG;go_wp2_with fail;refine (og.o _).mono ?_;rintro e w4 ⟨⟨n,part,pt,rfl,aE,j9,mZ⟩,g4⟩;have hX:=MJ.o _ _ _ _ _ _ H1.o aE;have dk:Gr w w4:=(bC.trans g3).trans g4;have ja:=U10 bC;clear H1 aE og g3 g4 MJ bC;obtain⟨bw,IJ⟩:=ExZ (V66 (bs n))
  obtain⟨bd,sb⟩:=ExZ (V15 O2 (bs part))
  obtain⟨bp,ML⟩:=ExZ (Pl.power (bs ee))
  have LI:=U10 (Oiy n Ya);have IK:=U10 (O48 part Ya);have IL:=U10 (Oll ee Ya);rw[IJ]at LI hX;rw[sb]at IK hX;rw[ML]at IL hX;have HX:=U10 hX;clear IJ sb ML hX;cases ra with
  |false =>
   cases pt with
   |false =>
    go_wp2_with fail;refine Z298 ?_;intro w5 g5;obtain⟨V,hV⟩:=ExZ ((false&&bw&&true&&true))
    have Bj:=U10 hV;go_wp2_with fail;refine (O49 _ false bw true true V hV _ Yb Yb Yb Yb).mono ?_;exact J72
   |true =>
    go_wp2_with fail;refine Z298 ?_;intro w5 g5;go_wp2_with fail;refine (IK.o _).mono ?_;rintro e QN ⟨rfl,QO⟩;obtain⟨V,hV⟩:=ExZ ((true&&bw&&bd&&true))
    have Bj:=U10 hV;go_wp2_with fail;refine (O49 _ true bw bd true V hV _ Yb Yb Yb Yb).mono ?_;exact J72
  |true =>
   cases pt with
   |false =>
    go_wp2_with fail;refine Z298 ?_;intro w5 g5;go_wp2_with fail;refine (IL.o _).mono ?_;rintro e QP ⟨rfl,QQ⟩;obtain⟨V,hV⟩:=ExZ ((true&&bw&&true&&bp))
    have Bj:=U10 hV;go_wp2_with fail;refine (O49 _ true bw true bp V hV _ Yb Yb Yb Yb).mono ?_;exact J72
   |true =>
    go_wp2_with fail;refine Z298 ?_;intro w5 g5;go_wp2_with fail;refine (IK.o _).mono ?_;rintro e QN ⟨rfl,QO⟩;go_wp2_with fail;refine (IL.o _).mono ?_;rintro e QP ⟨rfl,QQ⟩;obtain⟨V,hV⟩:=ExZ ((true&&bw&&bd&&bp))
    have Bj:=U10 hV;go_wp2_with fail;refine (O49 _ true bw bd bp V hV _ Yb Yb Yb Yb).mono ?_;exact J72
def Oj5(X:V35 (Nat×Pl.Bs))(k:Nat)(x:ByteArray)(c:Nat):Prop:=match X with
 |.ok (k',t')=>k=k'/\bs x=t'/\c=0
 |.bad c' _=>c=c'/\c'≠0
namespace Pl
def V5n(l:Bs):V35 (Nat×Bs):=match V1x l with
 |.ok x => .ok (6,x)
 |.bad c p => .bad c p
theorem V75{l:Bs}{c p:Nat}(h:V1x l=.bad c p):c≠0:=by
 unfold V1x at h;simp only at h
 split at h;exact J1
 split at h;cases h
 exact J1
theorem V76{l:Bs}{c p:Nat}(h:V1i l=.bad c p):c=3\/c=8:=by
 unfold V1i at h;have key:∀r sg ds,V1t r sg ds=.bad c p->c=3\/c=8:=by
  exact J169
 split at h;exact key _ _ _ h
 exact key _ _ _ h
theorem V77{l:Bs}{c p:Nat}(h:V25 l=.bad c p):c≠0:=by
 unfold V25 at h
 split at h;cases h
 split at h
 split at h
 split at h
 unfold V17 at h
 split at h;exact J1
 split at h;exact J1
 simp only at h
 split at h;cases h
 split at h;cases h
 exact J1
 exact J1
end Pl
theorem Oba(t:ByteArray)(hs:t.size<=20000000)(w:World)(hw:V4d w):Calls prog 73 #[.string t,.bool true] w λ e w'=>(∃(k:Nat)(x:ByteArray)(c:Nat),e=.returned (.tuple #[.int .u8 k,.string x,c])/\Oj5 (V5n (bs t)) k x c)/\Gr w w':=by
 have HD:=U10 (Oo6 t hs w);go_enter func73,ntmps73;go_wp2_with fail;refine HD.o.mono ?_;rintro e w1 ⟨hp,g1⟩;unfold Op at hp;cases hX:V1x (bs t) with
 |ok x =>
  rw[hX]at hp;have he:=hp;clear hp;subst he;go_wp2_with fail;exact U11 (v:=.tuple #[.int .u8 6,.string ⟨x.toArray⟩,(0:Int)]) (by simp[results,results73,go_sem]) rfl ⟨⟨6,⟨x.toArray⟩,0,rfl,by rw[show V5n (bs t)=.ok (6,x) by unfold V5n;rw[hX]];exact⟨rfl,O1w x,rfl⟩⟩,g1⟩
 |bad c p =>
  rw[hX]at hp;have he:=hp;clear hp;subst he;have hc:=V75 hX;go_wp2_with fail;exact U11 (v:=.tuple #[.int .u8 6,.string ⟨#[]⟩,c]) (by simp[results,results73,go_sem]) rfl ⟨⟨6,⟨#[]⟩,c,rfl,by rw[show V5n (bs t)=.bad c p by unfold V5n;rw[hX]];exact⟨rfl,hc⟩⟩,g1⟩
theorem Odb(t:ByteArray)(hs:t.size<=20000000)(ha:∀c∈bs t,c.toNat<128)(w:World)(hw:V4d w):Calls prog 73 #[.string t,.bool false] w λ e w'=>(∃(k:Nat)(x:ByteArray)(c:Nat),e=.returned (.tuple #[.int .u8 k,.string x,c])/\Oj5 (V2l (bs t)) k x c)/\Gr w w':=by
 have HI:=U10 (Off t hs w hw);have HF:=U10 (λ W (hW:V4d W)=>Oo3 t hs ha W hW);have HW:=U10 hw;clear hw ha;by_cases h1:bs t=Va7
 have d1:(t.toList==[116,114,117,101])=true:=by rw[U1y];exact U2w.2 h1
 have HX:Hid (V2l (bs t)=.ok (1,bs t)):=U10 (by unfold V2l;rw[U18 (.inl h1)]);clear h1;exact J145
 have d1:(t.toList==[116,114,117,101])=false:=by rw[U1y];exact U3l.2 h1
 by_cases h2:bs t=V9b
 have d2:(t.toList==[102,97,108,115,101])=true:=by rw[U1y];exact U2w.2 h2
 have HX:Hid (V2l (bs t)=.ok (1,bs t)):=U10 (by unfold V2l;rw[U18 (.inr h2)]);clear h1 h2;exact J145
 have d2:(t.toList==[102,97,108,115,101])=false:=by rw[U1y];exact U3l.2 h2
 have HX:Hid (V2l (bs t)=match V1i (bs t) with
  |.ok x => .ok (4,x)
  | .bad c p=>if c=3 then (match V25 (bs t) with
   |.ok x => .ok (5,x)
   |.bad c p => .bad c p) else .bad c p):=U10 (by unfold V2l;rw[U1b (by rintro (h|h);exact h1 h;exact h2 h)];rfl)
 clear h1 h2;go_enter func73,ntmps73;go_wp2_with fail;refine HI.o.mono ?_;rintro e w1 ⟨hp,g1⟩;unfold Op at hp;cases hX:V1i (bs t) with
 |ok x =>
  rw[hX]at hp HX;have he:=hp;clear hp;subst he;go_wp2_with fail;exact U11 (v:=.tuple #[.int .u8 4,.string ⟨x.toArray⟩,(0:Int)]) (by simp[results,results73,go_sem]) rfl ⟨⟨4,⟨x.toArray⟩,0,rfl,by rw[HX.o];exact⟨rfl,O1w x,rfl⟩⟩,g1⟩
 |bad c p =>
  rw[hX]at hp HX;have he:=hp;clear hp;subst he;rcases V76 hX with rfl|rfl
  ·clear hX;go_wp2_with fail;refine (HF.o _ (HW.o.gr g1)).mono ?_;rintro e w2 ⟨hp,g2⟩;unfold Op at hp;cases hY:V25 (bs t) with
   |ok x =>
    rw[hY]at hp HX;have he:=hp;clear hp;subst he;go_wp2_with fail;exact U11 (v:=.tuple #[.int .u8 5,.string ⟨x.toArray⟩,(0:Int)]) (by simp[results,results73,go_sem]) rfl ⟨⟨5,⟨x.toArray⟩,0,rfl,by rw[HX.o];exact⟨rfl,O1w x,rfl⟩⟩,g1.trans g2⟩
   |bad c q =>
    rw[hY]at hp HX;have he:=hp;clear hp;subst he;have hc:=V77 hY;go_wp2_with fail;exact U11 (v:=.tuple #[.int .u8 5,.string ⟨#[]⟩,c]) (by simp[results,results73,go_sem]) rfl ⟨⟨5,⟨#[]⟩,c,rfl,by rw[HX.o];exact⟨rfl,hc⟩⟩,g1.trans g2⟩
  go_wp2_with fail;exact U11 (v:=.tuple #[.int .u8 4,.string ⟨#[]⟩,(8:Int)]) (by simp[results,results73,go_sem]) rfl ⟨⟨4,⟨#[]⟩,8,rfl,by rw[HX.o];exact⟨rfl,Ya⟩⟩,g1⟩
