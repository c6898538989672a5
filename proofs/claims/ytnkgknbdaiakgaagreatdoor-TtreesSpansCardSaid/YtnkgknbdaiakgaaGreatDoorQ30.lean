/- The proof's part 30. -/
import Derived.Test.YtnkgknbdaiakgaaGreatDoorQ22
set_option maxHeartbeats 16000000
set_option linter.all false
set_option maxRecDepth 100000
namespace Go.Proofs.YtnkgknbdaiakgaaGreatDoor
open Pl Go.Proofs.Tryz Go.RowKit Go.Shelf Go.Joins
theorem Ona(s:ByteArray)(hs:s.size<=20000000)(w:World)(hw:V3y w):Calls prog 144 #[.string s] w λ e w'=>Oq (V18 (bs s)) e/\Gr w w':=by
 have hx:V18 (bs s)=V18 (bs s):=rfl;have tR:=V83 s.size (bs s) (by rw[O0];exact U12 _);have HE:=U10 tR;have HW:=U10 hw;clear hx tR hw;go_enter func144,ntmps144;go_wp2_with fail;refine (Okr s hs _).mono ?_;rintro e w1 ⟨hp,g1⟩;cases hd:V3s s.size (bs s) with
 |none =>
  unfold O1s at hp;rw[hd]at hp;obtain⟨b0,b5,b6,a1,a2,a3,a4,rfl⟩:=hp;have HX:Hid (V18 (bs s)=.bad 3 0):=U10 (by unfold V18;rw[HE.o,hd];rfl);clear hd;go_wp2_with fail;exact U11 (v:=.tuple #[.string ⟨#[]⟩,(3:Int)]) (by simp[results,results144,go_sem]) rfl ⟨O1l HX.o,Gr.auto⟩
 |some d =>
  unfold O1s at hp;rw[hd]at hp;obtain⟨b5,b6,a1,a2,a3,a4,rfl,h1,h2,h3,h4⟩:=hp;obtain⟨ap,lJ⟩:=V7p _ _ _ hd;rw[<-h1,<-h2,<-h4,O0,O0,O0,O0]at ap;rw[<-h4]at lJ;have HX:Hid (V4v (bs s)=some ⟨d.minus,bs a1,bs a2,decide (bs a3=[45]),bs a4⟩):=U10 (by rw[HE.o,hd,h1,h2,h3,h4];rfl);have HN:=U10 (λ W=>Oga d.minus b5 b6 a1 a2 a3 a4 Ya lJ W);obtain⟨m,hm⟩:=ExZ (d.minus)
  rw[hm]at HX HN⊢;clear hd h1 h2 h3 h4 lJ hm;go_wp2_with fail;refine (HN.o _).mono ?_;rintro e w2 ⟨hq,g2⟩;have bM:Gr w w2:=(g1.alloc _).trans g2;have c0:w2.cell? w1=some (.bool m):=(g2.use.1 _ _ Yb).trans Yb;have c1:w2.cell? ⟨w1,1,none⟩=some (.string a1):=(g2.use.1 _ _ Yb).trans Yb;have c2:w2.cell? ⟨w1,2,none⟩=some (.string a2):=(g2.use.1 _ _ Yb).trans Yb;clear g2;cases hn:V4i (decide (bs a3=[45])) (bs a4) with
  |none =>
   unfold O67 at hq;rw[hn]at hq;obtain⟨n,rfl⟩:=hq;have HY:Hid (V18 (bs s)=.bad 7 0):=U10 (by unfold V18;rw[HX.o];simp only;rw[hn]);clear hn;go_wp2_with fail;exact U11 (v:=.tuple #[.string ⟨#[]⟩,(7:Int)]) (by simp[results,results144,go_sem]) rfl ⟨O1l HY.o,bM⟩
  |some n =>
   unfold O67 at hq;rw[hn]at hq;have he:e=.returned (.tuple #[n,.bool true]):=hq;clear hq;subst he;obtain⟨nX,oU⟩:=V85 _ _ _ hn;obtain⟨S,hS⟩:∃S:ByteArray,a1++a2=S:=⟨_,rfl⟩
   have Jk:bs S=bs a1++bs a2:=by rw[<-hS];simp[bs,U2n]
   have Ia:S.size<=20000000:=by rw[<-O0,Jk,U1b,O0,O0];omega
   have UN:¬ 9223372036854775807<a1.size+a2.size:=Ya;have fD:=U1k (n-(a2.size:Int)) ⟨Ya,Ya⟩;have Nb:=U10 (λ W=>Ogb m S (n-(a2.size:Int)) Ia ⟨Ya,Ya⟩ W);have hY:V18 (bs s)=(if Vm (Vk (bs S))=[] then .ok [48] else if V2t (O28 (bs S) (n-(a2.size:Int)))=true then .ok (O6j m (Vm (Vk (bs S))) (O28 (bs S) (n-(a2.size:Int)))) else .bad 7 0):=by
    unfold V18;rw[HX.o];simp only;rw[hn];simp only;rw[<-Jk];by_cases lS:Vm (Vk (bs S))=[];rw[U1a lS,U1a lS]
    rw[U1c lS,U1c lS];unfold O28 O6j;rw[U1c lS,O0]
   have HY:=U10 hY;have hE : -9223372036854775808<=O28 (bs S) (n-(a2.size:Int))/\O28 (bs S) (n-(a2.size:Int))<=9223372036854775807:=by
    unfold O28;have h5:=V4w (bs S);have h6:=V3z (Vk (bs S));rw[O0]at h5
    split <;> omega
   have hL:(O4v (bs S)).length<=20000000:=by
    unfold O4v;have h5:=V4w (bs S);have h6:=V3z (Vk (bs S));rw[O0]at h5
    split;simp
    omega
   have HL:=U10 hL;clear hn Jk hY hL HN;go_wp2_with fail;refine (Nb.o _).mono ?_;rintro e w3 ⟨⟨dd,rfl,qV⟩,g3⟩;have dj:=bM.trans g3;have HD:=U10 qV;have Jl:dd.size<=20000000:=by rw[<-O0,qV];exact HL.o
   clear qV g3 c0 c1 c2 bM Nb HL;by_cases lS:Vm (Vk (bs S))=[]
   ·have h1:O4u m (bs S)=false:=by unfold O4u;rw[U1a lS]
    have h2:O28 (bs S) (n-(a2.size:Int))=0:=by unfold O28;rw[U1a lS]
    have h3:dd=⟨#[48]⟩:=by
     have h4:=HD.o;unfold O4v at h4;rw[U1a lS]at h4;exact U30 (U2q.1 h4)
    have HZ:Hid (V18 (bs s)=.ok (bs ⟨#[48]⟩)):=U10 (by rw[HY.o,U1a lS];try rfl);rw[h1,h2];subst h3;clear lS h1 h2 hE;go_wp2_with fail;refine (O30 0 _).mono ?_;refine Z48 ?_;have AM:V2t 0=true:=Yd;go_wp2_with fail;refine (Oks _).mono ?_;rintro e w5 ⟨rfl,g5⟩;go_wp2_with fail;exact U11 (v:=.tuple #[.string ⟨#[48]⟩,(0:Int)]) (by simp[results,results144,go_sem]) rfl ⟨O57 HZ.o,(dj.alloc _).trans g5⟩
   have h1:O4u m (bs S)=m:=by unfold O4u;rw[U1c lS]
   have qV:bs dd=Vm (Vk (bs S)):=by
    have h4:=HD.o;unfold O4v at h4;rw[U1c lS]at h4;exact h4
   have a8:¬bs dd=[48]:=by rw[qV];exact V73 _
   rw[h1];obtain⟨x,hx⟩:=ExZ (O28 (bs S) (n-(a2.size:Int)))
   rw[hx]at hE⊢;have hZ:V18 (bs s)=if V2t x=true then .ok (O6j m (bs dd) x) else .bad 7 0:=by rw[HY.o,U1c lS,hx,<-qV]
   have HZ:=U10 hZ;have HT:=U10 (λ W (hW:V3y W)=>On9 m dd x Jl a8 hE.1 hE.2 W hW);clear hZ hx lS h1 qV a8 HD HY;cases Fv:V2t x with
   |false =>
    have HB:Hid (V18 (bs s)=.bad 7 0):=U10 (by rw[HZ.o,Fv];rfl);go_wp2_with fail;refine (O30 x _).mono ?_;refine Z48 ?_;go_wp2_with fail;exact U11 (v:=.tuple #[.string ⟨#[]⟩,(7:Int)]) (by simp[results,results144,go_sem]) rfl ⟨O1l HB.o,dj.alloc _⟩
   |true =>
    have HB:Hid (V18 (bs s)=.ok (O6j m (bs dd) x)):=U10 (by rw[HZ.o,Fv];rfl);go_wp2_with fail;refine (O30 x _).mono ?_;refine Z48 ?_;go_wp2_with fail;refine (HT.o _ (HW.o.gr (dj.alloc _))).mono ?_;rintro e w5 ⟨⟨t,rfl,ht⟩,g5⟩;have HQ:Hid (V18 (bs s)=.ok (bs t)):=U10 (by rw[HB.o,ht]);clear ht;go_wp2_with fail;exact U11 (v:=.tuple #[.string t,(0:Int)]) (by simp[results,results144,go_sem]) rfl ⟨O57 HQ.o,(dj.alloc _).trans g5⟩
end Go.Proofs.YtnkgknbdaiakgaaGreatDoor
namespace Go.Proofs.YtnkgknbdaiakgaaGreatDoor
open Pl Go.Proofs.Tryz Go.RowKit Go.Shelf Go.Joins
attribute [local go_sem] U22
theorem O41(b:Nat)(x0 x1 x2 x3 V:Bool)(hV:(x0&&x1&&x2&&x3)=V)(w:World)(h0:w.cell? b=some (.bool x0))(h1:w.cell? ⟨b,1,none⟩=some (.bool x1))(h2:w.cell? ⟨b,2,none⟩=some (.bool x2))(h3:w.cell? ⟨b,3,none⟩=some (.bool x3)):Calls prog 140 #[.slice b 4 4] w λ e w'=>e=.returned (.bool V)/\w'=w:=by
 subst hV;exact Oi4 b x0 x1 x2 x3 w h0 h1 h2 h3
theorem Okt(s:ByteArray)(hs:s.size<=20000000)(w:World):Calls prog 143 #[.string s] w λ e w'=>e=.returned (.bool (Pl.power (bs s)))/\Gr w w':=by
 rcases O25 s with⟨h1,h2,h3⟩|⟨h1,h2,h3⟩
 have h4:bs s=[]:=U3m.1 h3;have HX:Hid (Pl.power (bs s)=V13 O2 (bs s)):=U10 (by unfold Pl.power;rw[h4];rfl);have HD:=U10 (O40 s hs);clear h4;exact J217
 refine Z217 ?_;intro e0 e1;have hh:=O8 s 0 e0;simp only[U2b]at hh;obtain⟨r,hr⟩:=ExZ (s.extract 1 s.size)
 have ib:bs r=(bs s).drop 1:=by rw[<-hr,O4]
 have pm:r.size<=20000000:=by rw[<-hr];simp;omega
 have HR:=U10 (O40 r pm);have HD:=U10 (O40 s hs);have k1:(1:Int)<=(s.size:Int):=Ya
 cases hz:((s[0]'e0).toNat==43) with
 |true =>
  have z1:(((s[0]'e0).toNat:Int)==43)=true:=(V1u _ 43 _ hz).1;have HX:Hid (Pl.power (bs s)=V13 O2 (bs r)):=U10 (by
   unfold Pl.power;have:Vg Vq (bs s)=true:=by rw[hh];simp only[Vg,Vq];rw[show ((s[0]'e0).toNat==43)=true from hz];rfl
   rw[U1a this,ib])
  clear hz hh ib h3;exact J216
 |false =>
  have z1:(((s[0]'e0).toNat:Int)==43)=false:=(V1u _ 43 _ hz).1;cases hy:((s[0]'e0).toNat==45) with
  |true =>
   have z2:(((s[0]'e0).toNat:Int)==45)=true:=(V1u _ 45 _ hy).1;have HX:Hid (Pl.power (bs s)=V13 O2 (bs r)):=U10 (by
    unfold Pl.power;have:Vg Vq (bs s)=true:=by rw[hh];simp only[Vg,Vq];rw[show ((s[0]'e0).toNat==45)=true from hy];simp
    rw[U1a this,ib])
   clear hz hy hh ib h3;exact J216
  |false =>
   have z2:(((s[0]'e0).toNat:Int)==45)=false:=(V1u _ 45 _ hy).1;have HX:Hid (Pl.power (bs s)=V13 O2 (bs s)):=U10 (by
    unfold Pl.power;have:Vg Vq (bs s)=false:=by rw[hh];simp only[Vg,Vq];rw[show ((s[0]'e0).toNat==43)=false from hz,show ((s[0]'e0).toNat==45)=false from hy];rfl
    rw[U1c (by rw[this];simp)])
   clear hz hy hh ib h3 HR;exact J217
namespace Pl
theorem V8s(p:UInt8->Bool)(l a b:Bs)(c:Bool)(h:V5b p l=(a,b,c)):∀x∈a,x∈l:=by
 unfold V5b at h
 split at h;cases h;exact λ x hx=>hx
 cases h;exact λ x hx=>(List.takeWhile_sublist _).subset hx
theorem Vaa(l rest e n part:Bs)(ra pt:Bool)(h1:V5b Vr l=(rest,e,ra))(h2:V5b V2m rest=(n,part,pt))(hs:¬(V1v l≠[]/\l.length-(V30 l).length<2)):V21 l=if ((pt || ra)&&V5k n&&(!pt || V13 O2 part)&&(!ra || power e))=true then V18 (Lib.trimPrefix (Vn l) [43]) else .bad 3 0:=by
 unfold V21;rw[U1c hs,h1];simp only;rw[h2];simp only;congr 2;cases Vn l with
 |nil=>rfl
 |cons c t =>
  unfold Lib.trimPrefix Lib.hasPrefix;by_cases hc:c=43;subst hc;simp
  have:(List.isPrefixOf [43] (c::t))=false:=by simp[List.isPrefixOf];intro e;exact hc e.symm
  rw[U1c (by rw[this];simp)]
  split;rename_i tR;cases tR;exact absurd rfl hc
  rfl
theorem V89:(bs ⟨#[101,69]⟩).contains=Vr:=funext λ c=>by
 have h:∀n:Fin 256,(bs ⟨#[101,69]⟩).contains (UInt8.ofNat n.1)=Vr (UInt8.ofNat n.1):=Yd
 simpa using h ⟨c.toNat,UInt8.toNat_lt c⟩
theorem V9c:(bs ⟨#[46]⟩).contains=V2m:=funext λ c=>by
 have h:∀n:Fin 256,(bs ⟨#[46]⟩).contains (UInt8.ofNat n.1)=V2m (UInt8.ofNat n.1):=Yd
 simpa using h ⟨c.toNat,UInt8.toNat_lt c⟩
end Pl
theorem Onb(s:ByteArray)(hs:s.size<=20000000)(ha:∀c∈bs s,c.toNat<128)(w:World)(hw:V3y w):Calls prog 100 #[.string s] w λ e w'=>Oq (V21 (bs s)) e/\Gr w w':=by
 obtain⟨T,hT⟩:∃T:ByteArray,⟨(V30 (bs s)).toArray⟩=T:=⟨_,rfl⟩
 have pk:V30 (bs s)=bs T:=by rw[<-hT,O1o]
 have sw:T.size<=s.size:=by rw[<-O0,<-pk,<-O0];exact (U39 _).length_le
 have CU:s.size-T.size=(bs s).length-(V30 (bs s)).length:=by rw[pk,O0,O0]
 have fD:IntKind.i64.wrap ((s.size:Int)-(T.size:Int))=((s.size-T.size:Nat):Int):=by rw[U1k _ ⟨Ya,Ya⟩];omega
 have HT:=U10 hT;have HW:=U10 hw;have HA:=U10 ha;have HU:=U10 CU;clear hT pk hw ha CU;have HS:=U10 (Odl s hs);have FC:=U10 (λ W=>Oeg s ⟨#[101,69]⟩ hs Yd (Ob1 HA.o) (ascii_of_all Yd) Vr V89 W);by_cases cg:V1v (bs s)≠[]/\s.size-T.size<2
 ·have HX:Hid (V21 (bs s)=.ok (V1v (bs s))):=U10 (by unfold V21;rw[U1a ⟨cg.1,by rw[<-HU.o];exact cg.2⟩]);have d1:decide (((s.size-T.size:Nat):Int)<2)=true:=by simp;omega
  have HN:=U10 cg.1;clear cg FC;go_enter func100,ntmps100;go_wp2_with (go_at_call 41;refine (O2a s T HT.o _).mono ?_;rintro e w1 ⟨rfl,g1⟩);refine (HS.o _).mono ?_;rintro e w2 ⟨⟨t,rfl,ht⟩,g2⟩;have q1:¬t.toList=[]:=by rw[U21];show ¬bs t=[];rw[ht];exact HN.o
  have q2:t.toList.isEmpty=false:=by simpa using q1
  have HY:Hid (V21 (bs s)=.ok (bs t)):=U10 (by rw[HX.o,ht]);clear ht;go_wp2_with fail;exact U11 (v:=.tuple #[.string t,(0:Int)]) (by simp[results,results100,go_sem]) rfl ⟨O57 HY.o,Gr.auto⟩
 have Nc:=U10 (λ rest e n part ra pt h1 h2=>Vaa (bs s) rest e n part ra pt h1 h2 (by rw[<-HU.o];exact cg));have hc:(V1v (bs s)=[])\/(V1v (bs s)≠[]/\decide (((s.size-T.size:Nat):Int)<2)=false):=by
  by_cases h:V1v (bs s)=[];exact .inl h
  refine .inr ⟨h,?_⟩;have:¬s.size-T.size<2:=λ h2=>cg ⟨h,h2⟩
  simp;omega
 have Nf:=U10 hc;clear cg hc;go_enter func100,ntmps100;go_wp2_with (go_at_call 41;refine (O2a s T HT.o _).mono ?_;rintro e w1 ⟨rfl,g1⟩);refine (HS.o _).mono ?_;rintro e w2 ⟨⟨t,rfl,ht⟩,g2⟩;have wB:(t.toList=[]/\t.toList.isEmpty=true)\/(¬t.toList=[]/\t.toList.isEmpty=false/\decide (((s.size-T.size:Nat):Int)<2)=false):=by
  rcases Nf.o with h|⟨h,h2⟩
  left;have:t.toList=[]:=by rw[U21];show bs t=[];rw[ht,h]
  exact⟨this,by rw[this];rfl⟩
  right;have:¬t.toList=[]:=by rw[U21];show ¬bs t=[];rw[ht];exact h
  exact⟨this,by simpa using this,h2⟩
 have bM:Gr w w2:=g1.trans g2;clear ht Nf g1 g2 HS;rcases wB with⟨q1,q2⟩|⟨q1,q2,q3⟩
 all_goals
  go_wp2_with fail;refine (FC.o _).mono ?_;rintro e w3 ⟨⟨rest,ee,ra,rfl,ag,az,aM⟩,g3⟩;have wI:∀c∈bs rest,c.toNat<128:=λ c hc=>HA.o c (V8s _ _ _ _ _ ag c hc)
  have pi:=U10 (λ W=>Oeg rest ⟨#[46]⟩ Ya Yd (Ob1 wI) (ascii_of_all Yd) V2m V9c W);have H1:=U10 ag;clear ag wI;go_wp2_with fail;refine (pi.o _).mono ?_;rintro e w4 ⟨⟨n,part,pt,rfl,aF,iW,nR⟩,g4⟩;have hX:=Nc.o _ _ _ _ _ _ H1.o aF;have dw:Gr w w4:=(bM.trans g3).trans g4;have nH:=U10 bM;clear H1 aF pi g3 g4 Nc bM;obtain⟨bw,Ng⟩:=ExZ (V5k (bs n))
  obtain⟨bd,dP⟩:=ExZ (V13 O2 (bs part))
  obtain⟨bp,Nh⟩:=ExZ (Pl.power (bs ee))
  have Mf:=U10 (Oi3 n Ya);have Jm:=U10 (O40 part Ya);have Jn:=U10 (Okt ee Ya);rw[Ng]at Mf hX;rw[dP]at Jm hX;rw[Nh]at Jn hX;have HX:=U10 hX;clear Ng dP Nh hX;cases ra with
  |false =>
   cases pt with
   |false =>
    go_wp2_with fail;refine Z296 ?_;intro w5 g5;obtain⟨V,hV⟩:=ExZ ((false&&bw&&true&&true))
    have BN:=U10 hV;go_wp2_with fail;refine (O41 _ false bw true true V hV _ Yb Yb Yb Yb).mono ?_;exact J77
   |true =>
    go_wp2_with fail;refine Z296 ?_;intro w5 g5;go_wp2_with fail;refine (Jm.o _).mono ?_;rintro e Rb ⟨rfl,Rc⟩;obtain⟨V,hV⟩:=ExZ ((true&&bw&&bd&&true))
    have BN:=U10 hV;go_wp2_with fail;refine (O41 _ true bw bd true V hV _ Yb Yb Yb Yb).mono ?_;exact J77
  |true =>
   cases pt with
   |false =>
    go_wp2_with fail;refine Z296 ?_;intro w5 g5;go_wp2_with fail;refine (Jn.o _).mono ?_;rintro e Rd ⟨rfl,Re⟩;obtain⟨V,hV⟩:=ExZ ((true&&bw&&true&&bp))
    have BN:=U10 hV;go_wp2_with fail;refine (O41 _ true bw true bp V hV _ Yb Yb Yb Yb).mono ?_;exact J77
   |true =>
    go_wp2_with fail;refine Z296 ?_;intro w5 g5;go_wp2_with fail;refine (Jm.o _).mono ?_;rintro e Rb ⟨rfl,Rc⟩;go_wp2_with fail;refine (Jn.o _).mono ?_;rintro e Rd ⟨rfl,Re⟩;obtain⟨V,hV⟩:=ExZ ((true&&bw&&bd&&bp))
    have BN:=U10 hV;go_wp2_with fail;refine (O41 _ true bw bd bp V hV _ Yb Yb Yb Yb).mono ?_;exact J77
def Oia(X:V2x (Nat×Pl.Bs))(k:Nat)(x:ByteArray)(c:Nat):Prop:=match X with
 |.ok (k',t')=>k=k'/\bs x=t'/\c=0
 |.bad c' _=>c=c'/\c'≠0
namespace Pl
def V53(l:Bs):V2x (Nat×Bs):=match V1w l with
 |.ok x => .ok (6,x)
 |.bad c p => .bad c p
theorem V6f{l:Bs}{c p:Nat}(h:V1w l=.bad c p):c≠0:=by
 unfold V1w at h;simp only at h
 split at h;exact J1
 split at h;cases h
 exact J1
theorem V6g{l:Bs}{c p:Nat}(h:V1d l=.bad c p):c=3\/c=8:=by
 unfold V1d at h;have key:∀r sg ds,V1t r sg ds=.bad c p->c=3\/c=8:=by
  exact J172
 split at h;exact key _ _ _ h
 exact key _ _ _ h
theorem V6h{l:Bs}{c p:Nat}(h:V21 l=.bad c p):c≠0:=by
 unfold V21 at h
 split at h;cases h
 split at h
 split at h
 split at h
 unfold V18 at h
 split at h;exact J1
 split at h;exact J1
 simp only at h
 split at h;cases h
 split at h;cases h
 exact J1
 exact J1
end Pl
theorem Oak(t:ByteArray)(hs:t.size<=20000000)(w:World)(hw:V3y w):Calls prog 73 #[.string t,.bool true] w λ e w'=>(∃(k:Nat)(x:ByteArray)(c:Nat),e=.returned (.tuple #[.int .u8 k,.string x,c])/\Oia (V53 (bs t)) k x c)/\Gr w w':=by
 have HD:=U10 (One t hs w);go_enter func73,ntmps73;go_wp2_with fail;refine HD.o.mono ?_;rintro e w1 ⟨hp,g1⟩;unfold Oq at hp;cases hX:V1w (bs t) with
 |ok x =>
  rw[hX]at hp;have he:=hp;clear hp;subst he;go_wp2_with fail;exact U11 (v:=.tuple #[.int .u8 6,.string ⟨x.toArray⟩,(0:Int)]) (by simp[results,results73,go_sem]) rfl ⟨⟨6,⟨x.toArray⟩,0,rfl,by rw[show V53 (bs t)=.ok (6,x) by unfold V53;rw[hX]];exact⟨rfl,O1o x,rfl⟩⟩,g1⟩
 |bad c p =>
  rw[hX]at hp;have he:=hp;clear hp;subst he;have hc:=V6f hX;go_wp2_with fail;exact U11 (v:=.tuple #[.int .u8 6,.string ⟨#[]⟩,c]) (by simp[results,results73,go_sem]) rfl ⟨⟨6,⟨#[]⟩,c,rfl,by rw[show V53 (bs t)=.bad c p by unfold V53;rw[hX]];exact⟨rfl,hc⟩⟩,g1⟩
theorem Och(t:ByteArray)(hs:t.size<=20000000)(ha:∀c∈bs t,c.toNat<128)(w:World)(hw:V3y w):Calls prog 73 #[.string t,.bool false] w λ e w'=>(∃(k:Nat)(x:ByteArray)(c:Nat),e=.returned (.tuple #[.int .u8 k,.string x,c])/\Oia (V2j (bs t)) k x c)/\Gr w w':=by
 have HI:=U10 (Oef t hs w hw);have HF:=U10 (λ W (hW:V3y W)=>Onb t hs ha W hW);have HW:=U10 hw;clear hw ha;by_cases h1:bs t=V9h
 have d1:(t.toList==[116,114,117,101])=true:=by rw[U21];exact U2z.2 h1
 have HX:Hid (V2j (bs t)=.ok (1,bs t)):=U10 (by unfold V2j;rw[U1a (.inl h1)]);clear h1;exact J151
 have d1:(t.toList==[116,114,117,101])=false:=by rw[U21];exact U3u.2 h1
 by_cases h2:bs t=V8l
 have d2:(t.toList==[102,97,108,115,101])=true:=by rw[U21];exact U2z.2 h2
 have HX:Hid (V2j (bs t)=.ok (1,bs t)):=U10 (by unfold V2j;rw[U1a (.inr h2)]);clear h1 h2;exact J151
 have d2:(t.toList==[102,97,108,115,101])=false:=by rw[U21];exact U3u.2 h2
 have HX:Hid (V2j (bs t)=match V1d (bs t) with
  |.ok x => .ok (4,x)
  | .bad c p=>if c=3 then (match V21 (bs t) with
   |.ok x => .ok (5,x)
   |.bad c p => .bad c p) else .bad c p):=U10 (by unfold V2j;rw[U1c (by rintro (h|h);exact h1 h;exact h2 h)];rfl)
 clear h1 h2;go_enter func73,ntmps73;go_wp2_with fail;refine HI.o.mono ?_;rintro e w1 ⟨hp,g1⟩;unfold Oq at hp;cases hX:V1d (bs t) with
 |ok x =>
  rw[hX]at hp HX;have he:=hp;clear hp;subst he;go_wp2_with fail;exact U11 (v:=.tuple #[.int .u8 4,.string ⟨x.toArray⟩,(0:Int)]) (by simp[results,results73,go_sem]) rfl ⟨⟨4,⟨x.toArray⟩,0,rfl,by rw[HX.o];exact⟨rfl,O1o x,rfl⟩⟩,g1⟩
 |bad c p =>
  rw[hX]at hp HX;have he:=hp;clear hp;subst he;rcases V6g hX with rfl|rfl
  ·clear hX;go_wp2_with fail;refine (HF.o _ (HW.o.gr g1)).mono ?_;rintro e w2 ⟨hp,g2⟩;unfold Oq at hp;cases hY:V21 (bs t) with
   |ok x =>
    rw[hY]at hp HX;have he:=hp;clear hp;subst he;go_wp2_with fail;exact U11 (v:=.tuple #[.int .u8 5,.string ⟨x.toArray⟩,(0:Int)]) (by simp[results,results73,go_sem]) rfl ⟨⟨5,⟨x.toArray⟩,0,rfl,by rw[HX.o];exact⟨rfl,O1o x,rfl⟩⟩,g1.trans g2⟩
   |bad c q =>
    rw[hY]at hp HX;have he:=hp;clear hp;subst he;have hc:=V6h hY;go_wp2_with fail;exact U11 (v:=.tuple #[.int .u8 5,.string ⟨#[]⟩,c]) (by simp[results,results73,go_sem]) rfl ⟨⟨5,⟨#[]⟩,c,rfl,by rw[HX.o];exact⟨rfl,hc⟩⟩,g1.trans g2⟩
  go_wp2_with fail;exact U11 (v:=.tuple #[.int .u8 4,.string ⟨#[]⟩,(8:Int)]) (by simp[results,results73,go_sem]) rfl ⟨⟨4,⟨#[]⟩,8,rfl,by rw[HX.o];exact⟨rfl,Ya⟩⟩,g1⟩
