/-
 A law's walk.
-/
import Derived.Test.YtnkgknbdaiakgaaGreatDoorY30
import Derived.Test.YtnkgknbdaiakgaaGreatDoorY32
import Derived.Test.YtnkgknbdaiakgaaGreatDoorY37
import Derived.Test.YtnkgknbdaiakgaaGreatDoorY42
import Derived.Test.YtnkgknbdaiakgaaGreatDoorCards
import Derived.Test.YtnkgknbdaiakgaaGreatDoorTie
import Derived.Lib.LaidPrint
import Derived.Lib.LaidU8T
import Derived.Lay
import Derived.Deep.DeepHandedRow
set_option maxHeartbeats 16000000
set_option linter.all false
set_option maxRecDepth 100000
namespace Go.Proofs.YtnkgknbdaiakgaaGreatDoor
section
open Pl Go.Proofs.Tryz Go.RowKit Go.Shelf Go.Joins
theorem Pl.keyT_le(k:Nat):∀(ws:List Pl.Bs),(∀w∈ws,w.length<=k)->(Vb ws).length<=ws.length*(6*k+3):=by
 intro ws
 induction ws with
 |nil=>intro _;simp[Vb]
 |cons w r ih =>
  intro h;have h1:=Ofm w;have h2:=h w Yb;have h3:=ih (λ x hx=>h x (by simp[hx]));cases r with
  |nil=>simp[Vb]at h1⊢;omega
  |cons a r =>
   rw[V2b,U1c,U17,U17,Nat.add_mul,Nat.one_mul];omega
theorem Pl.dot_of{init:List Pl.Bs}{last v:Pl.Bs}{root:Nat}{nds:Ve}(h0:init≠[])(hl:init.length<=5)(hw:∀w∈init,w.length<=60)(eu:last.length<=60)(hv:v.length<=200)(hr:V1j (V29 Vd) v 0 10=.ok (root,v.length,nds)):V5e init last v root nds:=by
 have h1:=Pl.keyT_le 60 init hw;have h2:=Pl.keyT_le 60 [last] (λ w h=>by rw[U22.1 h];exact eu);have h3:init.length*(6*60+3)<=5*363:=U44 _ hl;have h4:=((V4z (V3r Vd) v Ya 258).resolve_right Ya) 11 0 [] Ya (λ i nd h=>by simp at h) Yb Ya;have h5:=(h4.2 _ _ _ hr).len;simp only[U17,U1t]at h2;exact⟨h0,hl,Ya,Ya,Ya,hr,Ya⟩
theorem Oep(PT:Lib.PrintTabs){init:List Pl.Bs}{last v:Pl.Bs}{root:Nat}{nds:Ve}(H:V5e init last v root nds)(w:Pl.Bs)(r:List Pl.Bs)(hw:init++[last]=w::r):∃G1 G2 G3 F tt,V1f (V29 Vd) (V34 init last v)=.ok G1 /\V1f (V29 Vd) (91::(Vb init++93::10::(Vb [last]++32::61::32::v)))=.ok G2 /\V1f (V29 Vd) (Vb [w]++32::61::32::V18 r v)=.ok G3 /\(V5h G1.nds=true/\G1.nds.length<=1000000)/\(V5h G2.nds=true/\G2.nds.length<=1000000)/\(V5h G3.nds=true/\G3.nds.length<=1000000) /\V2e (V5j PT) G1.nds F 0=some tt/\V2e (V5j PT) G2.nds F 0=some tt/\V2e (V5j PT) G3.nds F 0=some tt/\tt.length<=1000000000000000000 /\(Vb [w]++32::61::32::V18 r v).length<=100000:=by
 obtain⟨G1,a1,a2⟩:=H.docA;obtain⟨G2,b1,b2⟩:=H.docB;obtain⟨G3,c1,c2⟩:=H.docC w r hw;have hk:=H.key;have hl:=H.lst;have hv:=H.vl;have lh:=H.kl;have mb:=H.pair_len;have Fn:∀r:List Pl.Bs,(V18 r v).length<=6*(Vb r).length+6+v.length:=by
  intro r
  induction r with
  |nil=>simp[V18]
  |cons a r ih =>
   cases r with
   |nil=>simp[V18,Vb];omega
   |cons b r =>
    rw[V2b];simp only[V18,Vb,U4x,U2i,U3k,U17,U1c,U1t]at ih⊢;omega
 have pK:(Vb [w]).length+(Vb r).length<=(Vb (init++[last])).length:=by
  rw[hw];cases r with
  |nil=>simp[Vb]
  |cons b r=>rw[V2b];simp[Vb]
 have h6:=Fn r;have hC:(Vb [w]++32::61::32::V18 r v).length<=100000:=Ye;obtain⟨_,t1,l1,x1⟩:=V5l (V3r Vd) (V67 Vd) Ya a1;obtain⟨_,t2,l2,_⟩:=V5l (V3r Vd) (V67 Vd) Ye b1;obtain⟨_,t3,l3,_⟩:=V5l (V3r Vd) (V67 Vd) hC c1;obtain⟨F,tt,y1,y2⟩:=x1 (V5j PT) 1000602 (λ l hl=>Om2 PT l hl);exact⟨G1,G2,G3,F,tt,a1,b1,c1,⟨t1,l1⟩,⟨t2,l2⟩,⟨t3,l3⟩,y1,by rw[V7y (b2.trans a2.symm)];exact y1,by rw[V7y (c2.trans a2.symm)];exact y1,Ya,hC⟩
end
section
open Pl Go.Proofs.Tryz Go.RowKit Go.Shelf Go.Joins
attribute [local go_sem] U28
structure V98(w:World)(a:Option Addr)(zs:List ByteArray):Prop where
 cell:∀(j:Nat) z,zs[j]?=some z->∃b off,a=some ⟨b,off,none⟩/\b<w.heap.size/\w.cell? ⟨b,off+j,none⟩=some (.string z)
theorem V98.gr{w w':World}{a:Option Addr}{zs:List ByteArray}(h:V98 w a zs)(g:Gr w w'):V98 w' a zs :=
 ⟨λ j z hz=>by
  obtain⟨b,off,h1,h2,h3⟩:=h.cell j z hz;exact⟨b,off,h1,U13 h2 g.size,(g.use.1 _ _ h2).trans h3⟩⟩
theorem Oji(zs:List ByteArray):Lib.join ((zs.map wz).map (·.data.toList)) [46]=Vb (zs.map bs):=by
 induction zs with
 |nil=>rfl
 |cons z rest ih =>
  have hz:(wz z).data.toList=V2k (bs z):=Omf z;cases rest with
  |nil=>simp[Lib.join,List.intercalate,Vb,hz]
  |cons y rest =>
   rw[U35 (f:=bs),U35 (f:=bs),V2b,<-U35 (f:=bs),<-ih];simp[Lib.join,List.intercalate,hz]
theorem Oav{w:World}{b off:Nat}(hT:ShW Vd w)(zs:List ByteArray)(c:Nat)(h0:0<zs.length)(hn:zs.length<=1000)(bY:∀z∈zs,z.size<=1100000)(hc:∀(j:Nat) z,zs[j]?=some z->w.cell? ⟨b,off+j,none⟩=some (.string z)):Calls prog 14 #[.slice (some ⟨b,off,none⟩) zs.length c] w λ e w'=>∃q:ByteArray,e=.returned (.string q)/\bs q=Vb (zs.map bs)/\Gr w w':=by
 refine (Om9 b off c zs w hT h0 hn bY hc).mono ?_;rintro e w' ⟨rfl,g⟩;exact⟨_,rfl,by rw[<-Oji],g⟩
theorem O3c{w:World}{b:Nat}(hT:ShW Vd w)(z:ByteArray)(c:Nat)(bY:z.size<=1100000)(hc:w.cell? b=some (.string z)):Calls prog 14 #[.slice b 1 c] w λ e w'=>∃q:ByteArray,e=.returned (.string q)/\bs q=Vb [bs z]/\Gr w w':=by
 refine (show Calls prog 14 #[.slice b 1 c] w _ from Oav hT [z] c Yb Yb (λ y hy=>by simp at hy;subst hy;exact bY) (λ j y hy=>by
  cases j with
  |zero=>simp at hy;subst hy;exact hc
  |succ j=>simp at hy)).mono ?_
 rintro e w' ⟨q,h1,h2,h3⟩;exact⟨q,h1,h2,h3⟩
theorem Oq4(s:ByteArray)(c:Nat)(w:World)(h0:0<s.size)(hs:s.size<=3)(hc:c<=300):Calls prog 35 #[.string s,c] w λ e w'=>∃r:ByteArray,e=.returned (.string r)/\bs r=Lib.repeatL (bs s) c/\Gr w w':=by
 match c,hc with
 |0,_ =>
  refine (show Calls prog 35 #[.string s,(0:Int)] w _ from strings_Repeat_zero s w).mono ?_;refine Z44 ?_;exact⟨⟨#[]⟩,rfl,rfl,Gr.refl _⟩
 |1,_ =>
  refine (show Calls prog 35 #[.string s,(1:Int)] w _ from strings_Repeat_one s w).mono ?_;refine Z44 ?_;exact⟨s,rfl,by simp[Lib.repeatL],Gr.refl _⟩
 |c+2,hc =>
  refine (strings_Repeat_main s (c+2) w Ya Ya ?_ h0).mono ?_;have:s.size*(c+2)<=3*300:=Nat.mul_le_mul hs hc;omega
  rintro e w' ⟨rfl,hb⟩;exact⟨_,rfl,by simp[bs],hb⟩
def Vau(w:Pl.Bs):Pl.Bs:=123::(Vb [w]++[32,61,32])
theorem O96(v:Pl.Bs):∀r:List Pl.Bs,V18 r v=r.flatMap Vau++(v++List.replicate r.length 125)
 |[]=>by simp[V18]
 | w::r=>by
  rw[V18,O96 v r,U17,U4p,U37,Vau];simp
theorem Ofn:∀n,Lib.repeatL [125] n=List.replicate n (125:UInt8)
 |0=>rfl
 |n+1=>by rw[Lib.repeatL,Ofn n];rfl
theorem Ojj(w:World)(hT:RW Vd w)(a:Option Addr)(c:Nat)(ws:List ByteArray)(mh:V98 w a ws)(h2:2<=ws.length)(h6:ws.length<=6)(bY:∀z∈ws,z.size<=60)(v:ByteArray)(hv:v.size<=200)(w0:Pl.Bs)(r:List Pl.Bs)(hr:ws.map bs=w0::r):Calls prog 15 #[.slice a ws.length c,.string v] w λ e w'=>∃q:ByteArray,e=.returned (.string q)/\bs q=Vb [w0]++32::61::32::V18 r (bs v)/\Gr w w':=by
 obtain⟨n,hn⟩:=ExZ (ws.length)
 rw[hn]at h2 h6⊢;have HN:=U10 hn;have pU:=U10 mh;have HT:=U10 hT;have By:=U10 bY;have HR:=U10 hr;have me:r.length+1=n:=by
  have:=U2b List.length hr;rw[U1n,U17]at this;omega
 obtain⟨z0,dL⟩:∃z,ws[0]?=some z:=⟨_,U1h Ya⟩
 obtain⟨b,off,nO,aO,dF⟩:=mh.cell 0 z0 dL;subst nO;have iG:bs z0=w0:=by
  have h1:(ws.map bs)[0]?=some w0:=by rw[hr];rfl
  rw[U1m,dL]at h1
  simpa using h1
 have fe:=bY z0 (U2g dL);rw[U42]at dF;have Ay:=U10 iG;have OP:=U10 me;have i0:(0:Int)<(n:Int):=Ya;have VI:IntKind.i64.wrap ((n:Int)-1)=((n-1:Nat):Int):=by rw[U1i _ ⟨Ya,Ya⟩];omega
 clear mh hT bY hr hn dL iG me;have z3:(⟨#[32,61,32]⟩:ByteArray).size=3:=rfl;have z1:(⟨#[123]⟩:ByteArray).size=1:=rfl;go_enter func15,ntmps15;go_wp2_with fail;obtain⟨W1,aK⟩:=ExZ (w.alloc (.cells #[.string z0] 9))
 have g1:Gr w W1:=by rw[<-aK];exact (Gr.refl w).alloc _
 have n1:W1.cell? w=some (.string z0):=by rw[<-aK];simp[go_sem]
 rw[aK];clear aK;refine (O3c (HT.o.gr g1).2.2 z0 1 Ya n1).mono ?_;rintro e w2 ⟨q0,rfl,FW,g2⟩;rw[Ay.o]at FW;have OL:q0.size<=363:=by
  have h1:=Pl.keyT_le 60 [w0] (λ x hx=>by rw[U22.1 hx,<-Ay.o,O0];exact fe);rw[<-FW,O0,U25]at h1;omega
 have Tw:=U10 FW;have ja:=U10 (g1.trans g2);clear FW g1 g2 n1;go_wp2_with fail
 go_loopw [5,6] (λ v5 v6 wr=>∃(i:Nat)(t:ByteArray),v5=.string t/\v6=.int .i64 i/\1<=i/\i<=n/\Hid (bs t=Vb [w0]++32::61::32::(r.take (i-1)).flatMap Vau)/\t.size<=i*400/\Gr w wr) (λ _ v6 _=>n-(intOf v6).toNat)
 case atStart =>
  refine⟨1,q0++⟨#[32,61,32]⟩,rfl,rfl,Ya,Ya,U10 ?_,?_,ja.o⟩;rw[Og,Tw.o];simp[bs]
  rw[U2r,z3];omega
 case round =>
  obtain⟨i,t,rfl,rfl,nQ,hi,ht,FU,hg⟩:=hrel;by_cases fP:i<n
  ·have e1:decide ((i:Int)<(n:Int))=true:=by simp;omega
   have Lc:decide (i<n)=true:=Ye;refine Z149 ?_;intro i1 i2 wi;obtain⟨z,hz⟩:∃z,ws[i]?=some z:=⟨_,U1h (by have:=HN.o;omega)⟩
   obtain⟨b',Ld,nO,_,DZ⟩:=pU.o.cell i z hz;cases nO;have IH:=(hg.use.1 _ _ aO).trans DZ;have IJ:=U13 aO hg.size;have bY:=By.o z (U2g hz);have fG:r[i-1]?=some (bs z):=by
    have h1:(ws.map bs)[i]?=some (bs z):=by rw[U1m,hz];rfl
    rw[HR.o,show i=(i-1)+1 by omega,List.getElem?_cons_succ]at h1;exact h1
   have Ih:=U10 fG;have Le:=U10 ht.o;have HG:=U10 hg;clear hz DZ fG ht hg;go_wp2_with fail;obtain⟨W3,bM⟩:=ExZ (wr.alloc (.cells #[.string z] 9))
   have g3:Gr wr W3:=by rw[<-bM];exact (Gr.refl wr).alloc _
   have n3:W3.cell? wr=some (.string z):=by rw[<-bM];simp[go_sem]
   rw[bM];clear bM;refine (O3c (HT.o.gr (HG.o.trans g3)).2.2 z 1 Ya n3).mono ?_;rintro e w4 ⟨q,rfl,hq,g4⟩;have Tx:q.size<=363:=by
    have h1:=Pl.keyT_le 60 [bs z] (λ x hx=>by rw[U22.1 hx,O0];exact bY);rw[<-hq,O0,U25]at h1;omega
   have HQ:=U10 hq;have xU:=U10 ((HG.o.trans g3).trans g4);clear hq g3 g4 n3 IH;go_wp2_with fail;have hrel:bs (t++⟨#[123]⟩++q++⟨#[32,61,32]⟩)=Vb [w0]++32::61::32::(r.take (i+1-1)).flatMap Vau:=by
    rw[Og,Og,Og,Le.o,HQ.o,show i+1-1=(i-1)+1 by omega,List.take_succ,Ih.o,List.flatMap_append];simp[bs,Vau]
   have iM:(t++⟨#[123]⟩++q++⟨#[32,61,32]⟩:ByteArray).size<=(i+1)*400:=by rw[U2r,U2r,U2r,z3,z1];omega
   have D':=U10 hrel;clear hrel
   go_roundw
   case rel=>first|exact⟨i+1,_,rfl,by go_num,Ya,Ya,D',iM,xU.o⟩|((repeat apply Exists.intro);exact⟨⟨i+1,_,rfl,by go_num,Ya,Ya,D',iM,xU.o⟩,rfl⟩)
   case measure=>simp[intOf];omega
  have e1:decide ((i:Int)<(n:Int))=false:=Ye;have Lc:decide (i<n)=false:=Ye;have yy:i=n:=Ya;subst yy;have Le:=U10 ht.o;have HG:=U10 hg;clear ht hg;go_wp2_with fail;refine (Oq4 ⟨#[125]⟩ (i-1) wr Yd Yd Ya).mono ?_;rintro e w5 ⟨q,rfl,hq,g5⟩;have OL:q.size=i-1:=by rw[<-O0,hq,Lib.repeatL_length];simp
  have HQ:=U10 hq;have qO:=U10 (HG.o.trans g5);clear hq g5;go_wp2_with fail;refine U11 (v:=.string (t++v++q)) (by simp[results,results15,go_sem]) rfl ⟨_,rfl,?_,qO.o⟩;rw[Og,Og,Le.o,HQ.o,O96,U3x (by have:=OP.o;omega)];have:=OP.o;rw[show (bs (⟨#[125]⟩:ByteArray))=[125] from rfl,Ofn,show i-1=r.length by omega];simp
structure Vj4(ws:List ByteArray)(init:List Pl.Bs)(last:Pl.Bs)(i0:List Pl.Bs)(u:Pl.Bs)(zl zu:ByteArray):Prop where
 hi:(ws.take (ws.length-1)).map bs=init
 ha:ws.map bs=init++[last]
 hzl:ws[ws.length-1]?=some zl
 hl:bs zl=last
 hzu:ws[ws.length-2]?=some zu
 hu:bs zu=u
 h0:init=i0++[u]
theorem Oor(ws:List ByteArray)(h:2<=ws.length):∃init last i0 u zl zu,Vj4 ws init last i0 u zl zu:=by
 obtain⟨zl,hzl⟩:∃z,ws[ws.length-1]?=some z:=⟨_,U1h Ya⟩
 obtain⟨zu,hzu⟩:∃z,ws[ws.length-2]?=some z:=⟨_,U1h Ya⟩
 have h1:ws=ws.take (ws.length-1)++[zl]:=by
  have:=List.take_succ (l:=ws) (i:=ws.length-1);rw[hzl,show ws.length-1+1=ws.length by omega,List.take_length]at this;exact this
 have h2:ws.take (ws.length-1)=ws.take (ws.length-2)++[zu]:=by
  have:=List.take_succ (l:=ws) (i:=ws.length-2);rw[hzu,show ws.length-2+1=ws.length-1 by omega]at this;exact this
 refine⟨_,_,(ws.take (ws.length-2)).map bs,bs zu,zl,zu,rfl,?_,hzl,rfl,hzu,rfl,?_⟩
 conv=>lhs;rw[h1]
 simp
 rw[h2];simp
theorem Ogy(PT:Lib.PrintTabs)(w:World)(bW:RW Vd w)(sG:TxW PT w)(a:Option Addr)(ws:List ByteArray)(c:Nat)(mh:V98 w a ws)(Lf:ws.length<=c)(v:ByteArray):Calls prog 5 #[.slice a ws.length c,.string v] w λ e w'=>e=.returned (.bool true)/\Gr w w':=by
 have ex:=U10 bW;have rp:=U10 sG;have pU:=U10 mh;have HL:=U10 (λ W (g:Gr w W)=>Om1 Vd PT W (ex.o.gr g) (rp.o.gr g));obtain⟨n,hn⟩:=ExZ (ws.length)
 rw[hn]at Lf⊢;have HN:=U10 hn;clear bW sG mh hn;by_cases jP:n<2\/6<n\/200<v.size
 ·have d:(decide ((n:Int)<2)=true)\/(decide ((n:Int)<2)=false/\decide ((6:Int)<(n:Int))=true)\/(decide ((n:Int)<2)=false/\decide ((6:Int)<(n:Int))=false/\decide ((200:Int)<(v.size:Int))=true):=by simp;omega
  have H:=U10 (HL.o w (Gr.refl w));clear jP;rcases d with d1|⟨d1,d2⟩|⟨d1,d2,d3⟩
  all_goals
   go_enter func5,ntmps5;exact J160
 have d1:decide ((n:Int)<2)=false:=Ye;have d2:decide ((6:Int)<(n:Int))=false:=Ye;have d3:decide ((200:Int)<(v.size:Int))=false:=Ye;have l0:2<=n:=Ya;have VJ:n<=6:=Ya;have wD:v.size<=200:=Ya;clear jP;go_enter func5,ntmps5;go_wp2_with fail
 go_loopw [5] (λ v5 wr=>∃i:Nat,v5=.int .i64 i/\i<=n/\Hid (∀(j:Nat) z,j<i->ws[j]?=some z->z.size<=60)/\w=wr) (λ v5 _=>n-(intOf v5).toNat)
 case atStart=>exact⟨0,rfl,Ya,U10 (λ j z h=>by omega),rfl⟩
 case round =>
  obtain⟨i,rfl,hi,aH,rfl⟩:=hrel;by_cases fP:i<n
  ·have e1:decide ((i:Int)<(n:Int))=true:=by simp;omega
   have Lc:decide (i<n)=true:=Ye;refine Z149 ?_;intro i1 i2 wi;obtain⟨z,hz⟩:∃z,ws[i]?=some z:=⟨_,U1h (by have:=HN.o;omega)⟩
   obtain⟨b,off,rfl,aO,IH⟩:=pU.o.cell i z hz;have HZ:=U10 hz;have Lg:=aH;clear hz aH;by_cases E0:60<z.size
   have q1:decide ((60:Int)<(z.size:Int))=true:=Ye;have H:=U10 (HL.o w (Gr.refl w));exact J160
   have q1:decide ((60:Int)<(z.size:Int))=false:=Ye;have Lh:=U10 E0;clear E0;go_wp2_with fail;have BR:Hid (∀(j:Nat) y,j<i+1->ws[j]?=some y->y.size<=60):=λ j y hj hy=>by
    by_cases dv:j=i;subst dv;rw[HZ.o]at hy;cases hy;have:=Lh.o;omega
    exact Lg.o j y Ya hy
   go_roundw
   case rel=>exact⟨i+1,by go_num,Ya,BR,U3i⟩
   case measure=>simp[intOf];omega
  have e1:decide ((i:Int)<(n:Int))=false:=Ye;have Lc:decide (i<n)=false:=Ye;have OQ:∀z∈ws,z.size<=60:=λ z hz=>by
   obtain⟨j,hj⟩:=U4s hz;exact aH.o j z (by have:=(U16.1 hj).1;have:=HN.o;omega) hj
  have AO:=U10 OQ;clear aH OQ;obtain⟨X,hX⟩:=ExZ (V1j (V29 Vd) (bs v) 0 10)
  have zw:=U10 (V4k (V3r Vd) (bs v) (by rw[O0];omega) 0 10 Ya);rw[hX]at zw;have HR:=U10 (O9v w ex.o v Ya 0 0 rfl Ya 10 10 Yd X hX zw.o.1);have HX:=U10 hX;clear hX;go_wp2_with fail;refine HR.o.mono ?_;clear HR;cases X with
  |non=>exact absurd rfl zw.o.1
  |bad c' p =>
   rintro e w1 ⟨rfl,hc,g1⟩;have kR:¬(c':Int)=0:=Ya
   have dn:=U10 g1;clear g1;exact J147
  |ok x =>
   obtain⟨root,m,st⟩:=x;rintro e w1 ⟨g,L,rfl,hm,fG,hL,sD,g1⟩;have dn:=U10 g1;clear g1 sD hL;by_cases pE:m=v.size
   ·subst pE;have q2:((v.size:Int) != (v.size:Int))=false:=by simp
    have a9:st.length=st.length:=rfl;obtain⟨init,last,i0,u,zl,zu,HD⟩:=Oor ws (by have:=HN.o;omega);have dO:init.length=n-1:=by
     have:=U2b List.length HD.hi;rw[U1n,U2d,HN.o]at this;omega
    have E1:V5e init last (bs v) root st:=by
     refine Pl.dot_of (by rw[HD.h0];simp) Ya (λ x hx=>?_) ?_ (by rw[O0];exact wD) (by rw[O0];exact HX.o);rw[<-HD.hi]at hx;obtain⟨z,hz,rfl⟩:=U3n.1 hx;rw[O0];exact AO.o z (U4r hz)
     rw[<-HD.hl,O0];exact AO.o zl (U2g HD.hzl)
    have lN:=U10 E1;obtain⟨k,hk⟩:=ExZ (n-1)
    have Ei:n=k+1:=Ya;have hzl:ws[k]?=some zl:=by rw[<-hk,<-HN.o];exact HD.hzl
    obtain⟨j,hj⟩:=ExZ (k-1)
    have hzu:ws[j]?=some zu:=by have:=HD.hzu;rw[HN.o,show n-2=j by omega]at this;exact this
    obtain⟨b,off,nO,aO,bN⟩:=pU.o.cell k zl hzl;subst nO;obtain⟨b',Ld,nO,_,zN⟩:=pU.o.cell j zu hzu;cases nO;have OR:=AO.o zl (U2g hzl);have OS:=AO.o zu (U2g hzu);have wE:=U10 HD;have VK:=U10 dO;have jQ:(ws.take k).length=k:=by rw[U2d];have:=HN.o;omega
    have OT:=U10 jQ;have wn:IntKind.i64.wrap ((n:Int)-1)=(k:Int):=by rw[U1i _ ⟨Ya,Ya⟩];omega
    have wk:IntKind.i64.wrap ((k:Int)-1)=(j:Int):=by rw[U1i _ ⟨Ya,Ya⟩];omega
    have k0:(0:Int)<=(k:Int):=Ya;have k1:(k:Int)<(n:Int):=Ya;have k2:(k:Int)<=(c:Int):=Ya;refine Z252 ?_;intro k3;have k4:(j:Int)<(n:Int):=Ya;obtain⟨hA,gA,zA⟩:=bx2 w1 (.slice g st.length st.length) root 26;obtain⟨W0,aI⟩:=ExZ (w1.alloc (.cells #[.slice g st.length st.length,root] 26))
    rw[aI]at hA gA zA;refine Z101 ?_;intro W1 aK gB hB zB;have kt:=U10 (dn.o.trans (gA.trans gB));have HB:=U10 hB;have lY:=U10 (show (w1.alloc (.cells #[.slice g st.length st.length,root] 26)).alloc (.cells #[(0:Int),(0:Int)] 29)=W1 by rw[aI,aK]);have Ai:=Oav (ex.o.gr kt.o).2.2 (ws.take k) c Ya Ya (λ z hz=>by have:=AO.o z (U4r hz);omega) (λ j z hz=>by
     have aL:ws[j]?=some z:=by
      have hj:=(U16.1 hz).1;rw[OT.o]at hj;rw[List.getElem?_take_of_lt hj]at hz;exact hz
     obtain⟨b',o',h1,_,h2⟩:=(pU.o.gr kt.o).cell j z aL;cases h1;exact h2)
    rw[OT.o]at Ai;have OU:=U10 Ai;have E2:=(kt.o.use.1 _ _ aO).trans bN;have zx:=U13 aO kt.o.size;have Ty:=U10 zN;have VL:=U10 bN;have Bz:k=j+1:=Ya
    have OV:=U10 Bz;clear Bz hj;clear E1 HD dO hzl hzu zN bN jQ hA gA zA gB zB aI aK Ai hk
    go_upto_region 12 with fail
    rw[show (w1.alloc (.cells #[.slice g st.length st.length,root] 26)).alloc (.cells #[(0:Int),(0:Int)] 29)=W1 from lY.o];clear hB;go_wp2_with fail;refine OU.o.mono ?_;rintro e w2 ⟨q1,rfl,sY,g2⟩;have zy:bs q1=Vb init:=by
     have:=wE.o.hi;rw[HN.o,show n-1=k by omega]at this;rw[sY,this]
    have Tz:q1.size<=3000:=by rw[<-O0,zy];exact lN.o.key
    have sN:=U10 zy;have ja:=U10 (kt.o.trans g2);have kV:=U10 (HB.o.gr g2);have u9:=(g2.use.1 _ _ zx).trans E2;have Li:=U13 zx g2.size;clear sY zy g2 E2 zx OU HB;go_wp2_with fail;obtain⟨W3,bM⟩:=ExZ (w2.alloc (.cells #[.string zl] 9))
    have g3:Gr w2 W3:=by rw[<-bM];exact (Gr.refl w2).alloc _
    have n3:W3.cell? w2=some (.string zl):=by rw[<-bM];simp[go_sem]
    rw[bM];clear bM;refine (O3c (ex.o.gr (ja.o.trans g3)).2.2 zl 1 Ya n3).mono ?_;rintro e w4 ⟨Lj,rfl,sZ,g4⟩;rw[wE.o.hl]at sZ;have TA:Lj.size<=3000:=by rw[<-O0,sZ];exact lN.o.lst
    have AE:=U10 sZ;have xU:=U10 ((ja.o.trans g3).trans g4);have pH:=U10 (kV.o.gr (g3.trans g4));clear sZ g3 g4 n3 u9 Li kV;obtain⟨w0,r,rY⟩:∃w0 r,init++[last]=w0::r:=by
     cases h:init++[last] with
     |nil=>simp at h
     |cons a l=>exact⟨a,l,rfl⟩
    obtain⟨G1,G2,G3,F,tt,p1,p2,p3,⟨y1,l1⟩,⟨y2,l2⟩,⟨y3,l3⟩,x1,x2,x3,xl,xc⟩:=Oep PT lN.o w0 r rY;have AM:=U10 rY;clear rY
    go_upto_region 15 with fail
    have VM:(⟨#[46]⟩:ByteArray).size=1:=rfl;have z3:(⟨#[32,61,32]⟩:ByteArray).size=3:=rfl;have VN:(⟨#[10]⟩:ByteArray).size=1:=rfl;obtain⟨sA,FY⟩:=ExZ (q1++({ data:=#[46] }:ByteArray)++Lj++{ data:=#[32,61,32] }++v++{ data:=#[10] })
    have OW:bs sA=V34 init last (bs v):=by
     rw[<-FY,Og,Og,Og,Og,Og,sN.o,AE.o,V34,V7x _ _ lN.o.ne];simp[bs]
    have TC:sA.size<=7000:=by rw[<-FY];simp only[U2r];omega
    rw[FY];have FZ:=U10 OW;clear FY OW;rw[<-FZ.o]at p1;have OX:=U10 (O7z Vd (Lib.bytesWorld w4 5 sA) (ex.o.gr (xU.o.trans (Oi w4 5 sA))) sA Ya (some ⟨w4,0,none⟩) sA.size (grownCap w4 sA.size 0 5) (λ V q=>O6l w4 sA _ V q) _ p1 Yb);have dE:=U3g (P:=prog) w4 9 22 5 sA (u:=.string) Yc Yc Yc;have rU:=U10 (And.intro y1 (And.intro l1 x1));have gd:=U10 (And.intro p2 (And.intro y2 (And.intro l2 x2)));have vO:=U10 (And.intro p3 (And.intro y3 (And.intro l3 (And.intro x3 xc))));have Fg:=U10 xl;clear p1 p2 p3 y1 y2 y3 l1 l2 l3 x1 x2 x3 xl xc;go_wp2_with fail;clear dE;refine OX.o.mono ?_;clear OX;rintro e w5 ⟨gn,LA,he,OY,AL,g5⟩;subst he;have dc:=xU.o.trans ((Oi w4 5 sA).trans g5);have E3:=pH.o.gr ((Oi w4 5 sA).trans g5);obtain⟨Lk,g6,z6⟩:=bx2 w5 (.slice gn LA.length LA.length) (0:Int) 26;obtain⟨W6,rz⟩:=ExZ (w5.alloc (.cells #[.slice gn LA.length LA.length,(0:Int)] 26))
    rw[rz]at Lk g6 z6;have fJ:=E3.gr g6;have TD:=U10 rz;have xW:=U10 (dc.trans g6);have TE:=U10 fJ;have Kp:=U10 Lk;have TF:=U10 (AL.gr g6);have eC:=U10 OY;obtain⟨pR,pS,ff,fl⟩:=id E3;clear rz dc g5 g6 z6 AL OY pH
    go_upto_region 16 with fail
    rw[O5 E3.1,O5 E3.2.1,TD.o];have vz:LA.length<=1000000:=by have:=rU.o.2.1;rw[<-eC.o,U1n]at this;exact this
    have E4:=U10 (Ofl PT F 0 tt W6 (rp.o.gr xW.o) _ gn LA TF.o (by rw[eC.o];exact rU.o.1) vz Ya (by rw[eC.o];exact rU.o.2.2) Fg.o 0);obtain⟨t0,t1,tf,tl⟩:=id Kp.o;clear vz E3 fJ Lk pR pS ff fl;go_wp2_with fail;refine E4.o.mono ?_;clear E4 t0 t1 tf tl;rintro e w7 ⟨qt,rfl,Ll,g7⟩;have OZ:=U10 Ll;have tF:=U10 (xW.o.trans g7);have Lm:=TE.o.gr g7;obtain⟨b0,b1,bf,bl⟩:=id Lm;have VO:(⟨#[91]⟩:ByteArray).size=1:=rfl;have VP:(⟨#[93,10]⟩:ByteArray).size=2:=rfl;have E5:qt.size<=1000000000000000000:=by rw[<-O0,Ll];exact Fg.o
    have VQ:=U10 Lm;have rD:=U10 (λ W (q:Gr w W)=>O80 Vd PT W (ex.o.gr q) (rp.o.gr q) (({ data:=#[91] }:ByteArray)++q1++{ data:=#[93,10] }++Lj++{ data:=#[32,61,32] }++v) qt (by simp only[U2r];omega) G2
     (by have h:=gd.o.1;rw[Og,Og,Og,Og,Og,sN.o,AE.o];rw[show V29 Vd=⟨Vu Vd,Vl⟩ from rfl]at h;rw[<-h];simp[bs]) gd.o.2.1 gd.o.2.2.1 F (by rw[OZ.o];exact gd.o.2.2.2) E5)
    clear Ll g7 Lm;go_wp2_with fail;refine (rD.o _ tF.o).mono ?_;rintro e w8 ⟨rfl,g8⟩;have Ln:=U10 (tF.o.trans g8);clear g8 b0 b1 bf bl;have rq:=Ojj w8 (ex.o.gr Ln.o) (some ⟨b,off,none⟩) c ws (pU.o.gr Ln.o) (by have:=HN.o;omega) (by have:=HN.o;omega) AO.o v wD w0 r (by rw[wE.o.ha,AM.o]);rw[HN.o,Ei]at rq;have wG:=U10 rq;clear rq;go_wp2_with fail;refine wG.o.mono ?_;clear wG rD;rintro e w9 ⟨q3,rfl,F4,g9⟩;have CO:=U10 (Ln.o.trans g9);have O':=U10 (O80 Vd PT w9 (ex.o.gr CO.o) (rp.o.gr CO.o) q3 qt (by rw[<-O0,F4];have:=vO.o.2.2.2.2;omega) G3 (by rw[F4];exact vO.o.1) vO.o.2.1 vO.o.2.2.1 F (by rw[OZ.o];exact vO.o.2.2.2.1) E5);clear F4 g9;go_wp2_with fail;refine O'.o.mono ?_;clear O';rintro e ca ⟨rfl,eR⟩;have uH:=U10 (CO.o.trans eR);clear eR;have Lo:q1.size=V3c i0+(V2k u).length:=by rw[<-O0,sN.o,wE.o.h0,V68]
    have ed:(V2k u).length<=q1.size:=Ya;obtain⟨X1,TG⟩:=ExZ (sA.size+q1.size)
    obtain⟨P1,Ht⟩:=ExZ (X1+1)
    obtain⟨X2,kJ⟩:=ExZ (sA.size+1)
    obtain⟨X3,eo⟩:=ExZ (X2+q1.size)
    obtain⟨P2,M0⟩:=ExZ (X3-(V2k u).length)
    obtain⟨Y1,TH⟩:=ExZ (3+q1.size)
    obtain⟨Y2,TI⟩:=ExZ (Y1+1)
    obtain⟨Y3,TJ⟩:=ExZ (Y2+q1.size)
    obtain⟨P3,TK⟩:=ExZ (Y3-(V2k u).length)
    have VS:IntKind.i64.wrap ((sA.size:Int)+(q1.size:Int))=(X1:Int):=by rw[U1i _ ⟨Ya,Ya⟩];omega
    have VT:IntKind.i64.wrap ((X1:Int)+1)=(P1:Int):=by rw[U1i _ ⟨Ya,Ya⟩];omega
    have TL:IntKind.i64.wrap ((sA.size:Int)+1)=(X2:Int):=by rw[U1i _ ⟨Ya,Ya⟩];omega
    have TM:IntKind.i64.wrap ((X2:Int)+(q1.size:Int))=(X3:Int):=by rw[U1i _ ⟨Ya,Ya⟩];omega
    have VU:IntKind.i64.wrap (3+(q1.size:Int))=(Y1:Int):=by rw[U1i _ ⟨Ya,Ya⟩];omega
    have VW:IntKind.i64.wrap ((Y1:Int)+1)=(Y2:Int):=by rw[U1i _ ⟨Ya,Ya⟩];omega
    have VX:IntKind.i64.wrap ((Y2:Int)+(q1.size:Int))=(Y3:Int):=by rw[U1i _ ⟨Ya,Ya⟩];omega
    have VY:IntKind.i64.wrap ((X3:Int)-((V2k u).length:Int))=(P2:Int):=by rw[U1i _ ⟨Ya,Ya⟩];omega
    have VZ:IntKind.i64.wrap ((Y3:Int)-((V2k u).length:Int))=(P3:Int):=by rw[U1i _ ⟨Ya,Ya⟩];omega
    have eL:sA.size=(V34 init last (bs v)).length:=by rw[<-O0,FZ.o]
    have eK:q1.size=(Vb init).length:=by rw[<-O0,sN.o]
    have hD:=lN.o.docD;rw[<-FZ.o,O0,<-eK,show sA.size+q1.size+1=P1 by omega]at hD;have hE:=lN.o.docE i0 u wE.o.h0;rw[<-FZ.o,O0,show sA.size+1+V3c i0=P2 by omega]at hE;have hF:=lN.o.docF i0 u wE.o.h0;rw[<-eK,show 3+q1.size+1+V3c i0=P3 by omega]at hF;rw[show V29 Vd=⟨Vu Vd,Vl⟩ from rfl]at hD hE hF;have TN:(⟨#[93]⟩:ByteArray).size=1:=rfl;have TO:(⟨#[93,10,91]⟩:ByteArray).size=3:=rfl;have zH:=U10 (λ W (q:Gr w W)=>O2z Vd W (ex.o.gr q) (sA++sA) (by simp only[U2r];omega) 5 P1 Yd (by rw[Og];exact hD));have TP:=U10 (λ W (q:Gr w W)=>O2z Vd W (ex.o.gr q) (sA++({ data:=#[91] }:ByteArray)++q1++{ data:=#[93] }) (by simp only[U2r];omega) 5 P2 Yd (by rw[<-hE,Og,Og,Og,sN.o];simp[bs]));have TQ:=U10 (λ W (q:Gr w W)=>O2z Vd W (ex.o.gr q) (({ data:=#[91] }:ByteArray)++q1++{ data:=#[93,10,91] }++q1++{ data:=#[93] }) (by simp only[U2r];omega) 5 P3 Yd (by rw[<-hF,Og,Og,Og,Og,sN.o];simp[bs]));have wH:=(uH.o.use.1 _ _ aO).trans Ty.o;have rt:=U13 aO uH.o.size;have k5:(j:Int)<(k:Int)+1:=by have:=OV.o;omega
    have k6:(j:Int)<((k+1:Nat):Int):=by have:=OV.o;omega
    clear TG Ht kJ eo M0 TH TI TJ TK hD hE hF Lo eL eK Ei ed;go_wp2_with fail;obtain⟨P0,uI⟩:=ExZ (ca.alloc (.cells #[.string zu] 9))
    have rg:Gr ca P0:=by rw[<-uI];exact (Gr.refl ca).alloc _
    have P4:P0.cell? ca=some (.string zu):=by rw[<-uI];simp[go_sem]
    rw[uI];clear uI;refine (O3c (ex.o.gr (uH.o.trans rg)).2.2 zu 1 Ya P4).mono ?_;rintro e lF ⟨q4,rfl,wY,fQ⟩;have wZ:q4.size=(V2k u).length:=by rw[<-O0,wY,wE.o.hu];simp[Vb]
    have E6:=U10 ((uH.o.trans rg).trans fQ);have wI:=((rg.trans fQ).use.1 _ _ rt).trans wH;have ru:=U13 rt (rg.trans fQ).size;clear rg fQ P4 wY wH rt TL TM k6;go_wp2_with fail;refine (zH.o _ E6.o).mono ?_;rintro e SQ ⟨rfl,G0⟩;have E7:=U10 (E6.o.trans G0);have wJ:=(G0.use.1 _ _ ru).trans wI;have rv:=U13 ru G0.size;clear G0 wI ru;go_wp2_with fail;refine (TP.o _ E7.o).mono ?_;rintro e G6 ⟨rfl,G8⟩;have E8:=U10 (E7.o.trans G8);have P5:=(G8.use.1 _ _ rv).trans wJ;have P6:=U13 rv G8.size;clear G8 wJ rv;go_wp2_with fail;obtain⟨P7,uJ⟩:=ExZ (G6.alloc (.cells #[.string zu] 9))
    have Lp:Gr G6 P7:=by rw[<-uJ];exact (Gr.refl G6).alloc _
    have P8:P7.cell? G6=some (.string zu):=by rw[<-uJ];simp[go_sem]
    rw[uJ];clear uJ;refine (O3c (ex.o.gr (E8.o.trans Lp)).2.2 zu 1 Ya P8).mono ?_;rintro e Wa ⟨q5,rfl,P9,Pa⟩;have TR:q5.size=(V2k u).length:=by rw[<-O0,P9,wE.o.hu];simp[Vb]
    have E9:=U10 ((E8.o.trans Lp).trans Pa);clear Lp Pa P8 P9;go_wp2_with fail;refine (TQ.o _ E9.o).mono ?_;rintro e Wb ⟨rfl,Pb⟩;have Ea:=U10 (E9.o.trans Pb);clear Pb;go_wp2_with fail;refine (HL.o _ Ea.o).mono ?_;rintro e Wc ⟨rfl,Pc⟩;have Lq:=U10 (Ea.o.trans Pc);clear Pc;go_wp2_with fail;exact U11 (v:=.bool true) (by simp[results,results5,go_sem]) rfl ⟨rfl,Lq.o⟩
   have q2:((m:Int) != (v.size:Int))=true:=Ye
   exact J147
end
end Go.Proofs.YtnkgknbdaiakgaaGreatDoor
