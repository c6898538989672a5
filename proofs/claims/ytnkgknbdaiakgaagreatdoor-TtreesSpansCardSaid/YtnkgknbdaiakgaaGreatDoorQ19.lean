/- The proof's part 19. -/
import Derived.Test.YtnkgknbdaiakgaaGreatDoorQ15
import Derived.Test.YtnkgknbdaiakgaaGreatDoorQ18
import Derived.Lib.ItoaLen
set_option maxHeartbeats 16000000
set_option linter.all false
set_option maxRecDepth 100000
namespace Go.Proofs.YtnkgknbdaiakgaaGreatDoor
open Pl Go.Proofs.Tryz Go.RowKit Go.Joins
theorem O25(x:ByteArray):(x.toList=[]/\x.toList.isEmpty=true/\(bs x).isEmpty=true)\/(¬x.toList=[]/\x.toList.isEmpty=false/\(bs x).isEmpty=false):=by
 exact J148
theorem O1o(l:List UInt8):bs ⟨l.toArray⟩=l:=by simp[bs]
theorem Oaq(s T:ByteArray)(hT:⟨(Vk (bs s)).toArray⟩=T)(w:World):Calls prog 41 #[.string s,.string ⟨#[48]⟩] w λ e w'=>e=.returned (.string T)/\w'=w:=by
 refine (Any.strings_TrimLeft_one lays161 s 48 Yd w).mono ?_;refine Z48 ?_;refine⟨?_,rfl⟩;rw[<-hT];have:Lib.trimLeftB s.data.toList 48=Vk (bs s):=by
  unfold Vk Lib.trimLeftS Lib.trimLeftB;congr 1
  funext c
  exact U3d.2 Yb
 rw[this]
theorem Ob0(s T:ByteArray)(hs:s.size<=20000000)(hT:⟨(Vm (bs s)).toArray⟩=T)(w:World):Calls prog 164 #[.string s,.string ⟨#[48]⟩] w λ e w'=>e=.returned (.string T)/\w'=w:=by
 refine (Any.strings_TrimRight_one lays162 s 48 Yd w Ya).mono ?_;refine Z48 ?_;refine⟨?_,rfl⟩;rw[<-hT];have:Lib.trimRightB s.data.toList 48=Vm (bs s):=by
  unfold Vm Lib.trimRightS Lib.trimRightB;congr 2
  funext c
  exact U3d.2 Yb
 rw[this]
namespace Pl
theorem O6o:∀(l:Bs)(a:Nat),(∀c∈l,O2 c=true)->Lib.decFrom a l=some (l.foldl (λ a c=>a*10+(c.toNat-48)) a):=by
 intro l
 induction l with
 |nil=>intro a _;rfl
 |cons c l ih =>
  refine Z291 ?_;intro a h hc;unfold Lib.decFrom Lib.digitVal;rw[U1a hc];simp only[List.foldl_cons];exact ih _ (λ d hd=>h d (U24 _ hd))
theorem V6i:∀(l:Bs)(a:Nat),(∀c∈l,O2 c=true)->l.foldl (λ a c=>a*10+(c.toNat-48)) a<(a+1)*10 ^ l.length:=by
 intro l
 induction l with
 |nil=>intro a _;simp
 |cons c l ih =>
  refine Z291 ?_;intro a h hc;simp only[List.foldl_cons,U1d];refine U13 (ih _ (λ d hd=>h d (U24 _ hd))) ?_;rw[Nat.pow_succ,Nat.mul_comm (10 ^ l.length) 10,<-Nat.mul_assoc];exact U4h _ Ya
theorem V72(l:Bs)(c:UInt8)(h:c∈Vk l):c∈l:=(U39 _).subset h
theorem V4w(l:Bs):(Vk l).length<=l.length:=(U39 _).length_le
theorem V3z(l:Bs):(Vm l).length<=l.length:=by
 unfold Vm Lib.trimRightS;rw[U4n];have:=(U39 (l:=l.reverse) (λ c=>([48]:Bs).contains c)).length_le;rw[U4n]at this;exact this
theorem V84(l:Bs)(h:∀c∈l,O2 c=true):Lib.atoi (48::l)=some (V1j l:Int):=by
 have h1:Lib.atoi (48::l)=(Lib.decNat (48::l)).map λ(m:Nat)=>(m:Int):=rfl
 rw[h1];unfold Lib.decNat;have h2:Lib.decFrom 0 (48::l)=Lib.decFrom 0 l:=rfl;rw[U1c Yb,h2,O6o l 0 h];rfl
end Pl
theorem O30(n:Int)(w:World):Calls prog 177 #[n] w λ e w'=>e=.returned (.bool (V2t n))/\w'=w:=by
 have hx:V2t n=(decide (-1000000000<=n)&&decide (n<=1000000000)):=rfl;have HX:=U10 hx;clear hx;go_enter func177,ntmps177;by_cases h1 : -1000000000<=n
 ·have d1:decide (n >= -1000000000)=true:=by simpa using h1
  by_cases h2:n<=1000000000
  ·have d2:decide (n<=1000000000)=true:=by simpa using h2
   go_wp2_with fail
   go_ret
   rw[HX.o];simp[h1,h2]
  have d2:decide (n<=1000000000)=false:=by simpa using h2
  go_wp2_with fail
  go_ret
  rw[HX.o];simp[h1,h2]
 have d1:decide (n >= -1000000000)=false:=by simpa using h1
 go_wp2_with fail
 go_ret
 rw[HX.o,show decide (-1000000000<=n)=false by simpa using h1];simp
def O67(X:Option Int)(e:Ending):Prop:=match X with
 |none=>∃n:Int,e=.returned (.tuple #[n,.bool false])
 |some n=>e=.returned (.tuple #[n,.bool true])
theorem Odu(neg:Bool)(p:List UInt8)(h:¬ 12<(Vk p).length)(n:Int)(hn:n=if neg then -(V1j (Vk p):Int) else (V1j (Vk p):Int))(e:Ending)(he:e=.returned (.tuple #[n,.bool (V2t n)])):O67 (V4i neg p) e:=by
 unfold V4i;rw[U1c h];subst he;simp only[<-hn];cases hw:V2t n with
 |true=>rw[U1a rfl];rfl
 |false=>rw[U1c Yb];exact⟨n,rfl⟩
theorem Oga(b0 b5 b6:Bool)(a1 a2 a3 a4:ByteArray)(hz:a4.size<=20000000)(hd:∀c∈bs a4,O2 c=true)(w:World):Calls prog 175 #[.agg #[.bool b0,.string a1,.string a2,.string a3,.string a4,.bool b5,.bool b6]] w λ e w'=>O67 (V4i (decide (bs a3=[45])) (bs a4)) e/\Gr w w':=by
 obtain⟨T,hT⟩:∃T:ByteArray,⟨(Vk (bs a4)).toArray⟩=T:=⟨_,rfl⟩
 have jy:Vk (bs a4)=bs T:=by rw[<-hT,O1o]
 have HT:=U10 hT;have HB:=U10 jy;have HD:Hid (∀c∈bs T,O2 c=true):=U10 (λ c hc=>hd c (V72 _ _ (by rw[jy];exact hc)));clear hT jy hd;go_enter func175,ntmps175;by_cases hl:12<T.size
 ·have d1:decide ((12:Int)<(T.size:Int))=true:=by simp;omega
  go_wp2_with (go_at_call 41;refine (Oaq a4 T HT.o _).mono ?_;rintro e w1 ⟨rfl,rfl⟩);refine U11 (v:=.tuple #[.int .i64 0,.bool false]) (by simp[results,results175,go_sem]) rfl ⟨?_,Gr.auto⟩;unfold V4i;rw[U1a (by rw[HB.o,O0];exact hl)];exact⟨0,rfl⟩
 have d1:decide ((12:Int)<(T.size:Int))=false:=Ye;have hv:V1j (bs T)<1*10 ^ 12:=U13 (V6i (bs T) 0 HD.o) (Nat.mul_le_mul_left _ (U4j Ya (by rw[O0];omega)));have eO:¬ 9223372036854775807<1+T.size:=Ya;obtain⟨U,hU⟩:∃U:ByteArray,(⟨#[48]⟩:ByteArray)++T=U:=⟨_,rfl⟩
 have qy:bs U=48::bs T:=by rw[<-hU];simp[bs,U2n]
 have Cj:U.size<=18:=by rw[<-O0,qy,U1d,O0];omega
 obtain⟨m,hm⟩:=ExZ (V1j (bs T))
 have cX:Lib.atoi U.data.toList=some (m:Int):=by
  show Lib.atoi (bs U)=_;rw[qy,<-hm];exact V84 _ HD.o
 have HA:∀W,Calls prog 161 #[.string U] W λ e w'=>e=.returned (.tuple #[.int .i64 (m:Int),.nilIface])/\Gr W w':=λ W=>by
  refine (strconv_Atoi U (m:Int) Cj cX W).mono ?_;rintro e w' ⟨rfl,t,rfl⟩;exact⟨rfl,O11 W 5 t⟩
 have ud:=U10 HA;rw[hm]at hv;have HM:=U10 hm;have me:(m:Int)<1000000000000:=Ya;have sj:(0:Int)<=(m:Int):=Ya;have Ue : -(m:Int)<=9223372036854775807:=Ya;have Uf : -9223372036854775808 <= -(m:Int):=Ya;clear HA cX qy Cj hm hv;have HN:Hid (¬ 12<(Vk (bs a4)).length):=U10 (by rw[HB.o,O0];exact hl);go_wp2_with (go_at_call 41;refine (Oaq a4 T HT.o _).mono ?_;rintro e w1 ⟨rfl,rfl⟩);refine (ud.o _).mono ?_;rintro e w2 ⟨rfl,g2⟩;have hG:Gr w w2:=((Gr.refl w).alloc _).trans g2;have hc:w2.cell? ⟨w,3,none⟩=some (.string a3):=(g2.use.1 _ _ Yb).trans Yb;clear g2;by_cases h3:a3=⟨#[45]⟩
 ·subst h3;go_wp2_with fail;refine (O30 _ _).mono ?_;refine Z48 ?_;go_wp2_with fail;refine U11 (v:=.tuple #[.int .i64 (-(m:Int)),.bool (V2t (-(m:Int)))]) (by simp[results,results175,go_sem]) rfl ⟨Odu _ _ HN.o _ ?_ _ rfl,hG⟩;rw[HB.o,HM.o];rfl
 have aV:¬bs a3=[45]:=λ h=>h3 (U30 (U2q.1 h))
 have d3:(a3.toList==[45])=false:=by
  rw[U21]
  simpa using aV
 have HZ:=U10 aV;clear aV h3;go_wp2_with fail;refine (O30 _ _).mono ?_;refine Z48 ?_;go_wp2_with fail;refine U11 (v:=.tuple #[.int .i64 (m:Int),.bool (V2t (m:Int))]) (by simp[results,results175,go_sem]) rfl ⟨Odu _ _ HN.o _ ?_ _ rfl,hG⟩;rw[HB.o,HM.o,U48 HZ.o];rfl
def O4u(b:Bool)(l:List UInt8):Bool:=if Vm (Vk l)=[] then false else b
def O4v(l:List UInt8):List UInt8:=if Vm (Vk l)=[] then [48] else Vm (Vk l)
def O28(l:List UInt8)(e:Int):Int:=if Vm (Vk l)=[] then 0 else e+(Vk l).length-(Vm (Vk l)).length
theorem Ogb(b:Bool)(s:ByteArray)(n:Int)(hs:s.size<=20000000)(hn : -2000000000<=n/\n<=2000000000)(w:World):Calls prog 176 #[.bool b,.string s,n] w λ e w'=>(∃d:ByteArray,e=.returned (.agg #[.bool (O4u b (bs s)),.string d,.int .i64 (O28 (bs s) n)])/\bs d=O4v (bs s))/\Gr w w':=by
 obtain⟨T,hT⟩:∃T:ByteArray,⟨(Vk (bs s)).toArray⟩=T:=⟨_,rfl⟩
 have jy:Vk (bs s)=bs T:=by rw[<-hT,O1o]
 have sw:T.size<=20000000:=by have:=V4w (bs s);rw[jy,O0,O0]at this;omega
 obtain⟨U,hU⟩:∃U:ByteArray,⟨(Vm (bs T)).toArray⟩=U:=⟨_,rfl⟩
 have Id:Vm (bs T)=bs U:=by rw[<-hU,O1o]
 have Cj:U.size<=T.size:=by have:=V3z (bs T);rw[Id,O0,O0]at this;omega
 have HT:=U10 hT;have HU:=U10 hU;have hb:Vm (Vk (bs s))=bs U:=by rw[jy,Id]
 have Qh:=U10 jy;have HB:=U10 hb;clear hT hU jy Id hb;obtain⟨nX,oU⟩:=hn;have fD:=U1k (n+(T.size:Int)) ⟨Ya,Ya⟩;have fq:=U1k (n+(T.size:Int)-(U.size:Int)) ⟨Ya,Ya⟩;go_enter func176,ntmps176;rcases O25 U with⟨e1,e2,e3⟩|⟨e1,e2,e3⟩
 ·have E:Hid (bs U=[]):=U10 (U3m.1 e3);clear e3;go_wp2_with (first|(go_at_call 41;refine (Oaq s T HT.o _).mono ?_;rintro e w1 ⟨rfl,rfl⟩)|(go_at_call 164;refine (Ob0 T U sw HU.o _).mono ?_;rintro e w2 ⟨rfl,rfl⟩));refine U11 (v:=.agg #[.bool false,.string ⟨#[48]⟩,(0:Int)]) (by simp[results,results176,go_sem]) rfl ⟨⟨⟨#[48]⟩,?_,?_⟩,?_⟩
  unfold O4u O28;rw[HB.o,U1a E.o,U1a E.o]
  ·unfold O4v;rw[HB.o,U1a E.o];try rfl
  exact J17
 have E:Hid (¬bs U=[]):=U10 (λ h=>by rw[h]at e3;cases e3);clear e3;go_wp2_with (first|(go_at_call 41;refine (Oaq s T HT.o _).mono ?_;rintro e w1 ⟨rfl,rfl⟩)|(go_at_call 164;refine (Ob0 T U sw HU.o _).mono ?_;rintro e w2 ⟨rfl,rfl⟩));refine U11 (v:=.agg #[.bool b,.string U,.int .i64 (n+(T.size:Int)-(U.size:Int))]) (by simp[results,results176,go_sem]) rfl ⟨⟨U,?_,?_⟩,?_⟩;unfold O4u O28;rw[HB.o,U1c E.o,U1c E.o,Qh.o,O0,O0];unfold O4v;rw[HB.o,U1c E.o]
 exact J17
theorem O4m(ds:ByteArray)(f:UInt8->Bool)(h:∀n:Fin 256,(bs ds).contains (UInt8.ofNat n.val)=f (UInt8.ofNat n.val)):(bs ds).contains=f:=by
 funext c
 exact J40
theorem Ofp:(bs ⟨#[45]⟩).contains=V2k:=O4m _ _ Yg
theorem Okq:(bs ⟨#[46]⟩).contains=V2m:=O4m _ _ Yg
theorem Ofq:(bs ⟨#[101,69]⟩).contains=Vr:=O4m _ _ Yg
theorem Oi5:(bs ⟨#[43,45]⟩).contains=Vq:=O4m _ _ Yg
theorem O7d:(bs V2y).contains=O2:=O4m _ _ Yg
theorem O56{b C cur W}(h:DsW b C cur W)(hs:cur.size<=20000000)(set:ByteArray)(many:Nat)(hm:many<=20000000)(p:UInt8->Bool)(hp:(bs set).contains=p):Calls prog 214 #[.string set,many,.pointer (some ⟨b+1,0,none⟩)] W λ e W'=>∃out rest:ByteArray,e=.returned (.string out)/\Pl.tk p many (bs cur)=(bs out,bs rest)/\rest.size<=cur.size/\out.size<=cur.size/\DsW b C rest W'/\(∀w,Gr w W->w.heap.size<=b->Gr w W'):=by
 refine (On7 h hs set many hm _ rfl).mono ?_;rintro e W' ⟨rfl,hd,hg,_⟩;refine⟨_,_,rfl,?_,Yb,Yf,hd,hg⟩;rw[hp];unfold Pl.tk;congr 1;simp only[bs,U36];simp
 exact (O4 cur _).symm
theorem DsW.facts{b:Nat}{v0 v1 v2 v3 v4 v5 v6:Value}{cur:ByteArray}{w:World}(h:DsW b #[v0,v1,v2,v3,v4,v5,v6] cur w):w.cell? b=some v0/\w.cell? ⟨b,1,none⟩=some v1/\w.cell? ⟨b,2,none⟩=some v2/\w.cell? ⟨b,3,none⟩=some v3/\w.cell? ⟨b,4,none⟩=some v4/\w.cell? ⟨b,5,none⟩=some v5/\w.cell? ⟨b,6,none⟩=some v6/\(∀o,w.frozen? ⟨b,o,none⟩=false)/\b<w.heap.size :=
 ⟨(h.cell 0).trans rfl,(h.cell 1).trans rfl,(h.cell 2).trans rfl,(h.cell 3).trans rfl,(h.cell 4).trans rfl,(h.cell 5).trans rfl,(h.cell 6).trans rfl,h.fz,h.lt.1⟩
theorem O2n(x:ByteArray):(x.toList=[]/\x.toList.isEmpty=true/\(bs x).isEmpty=true)\/(¬x.toList=[]/\x.toList.isEmpty=false/\(bs x).isEmpty=false):=by
 exact J148
namespace Pl
theorem Va5{N l o1 r1 o2 r2}(h1:tk V2k 1 l=(o1,r1))(h2:tk O2 N r1=(o2,r2))(h:o2=[]\/(1<o2.length/\o2[0]?=some 48)):V3s N l=none:=by
 unfold V3s;simp only[h1,h2];rw[U1a h]
theorem Va6{N l o1 r1 o2 r2 o3 r3 o4 r4 o5 r5 o6 r6 o7 r7}(h1:tk V2k 1 l=(o1,r1))(h2:tk O2 N r1=(o2,r2))(h:¬(o2=[]\/(1<o2.length/\o2[0]?=some 48)))(h3:tk V2m 1 r2=(o3,r3))(h4:(if o3.isEmpty then ([],r3) else tk O2 N r3)=(o4,r4))(h5:tk Vr 1 r4=(o5,r5))(h6:(if o5.isEmpty then ([],r5) else tk Vq 1 r5)=(o6,r6))(h7:(if o5.isEmpty then ([],r6) else tk O2 N r6)=(o7,r7)):V3s N l=if r7.isEmpty&&(o3.isEmpty==o4.isEmpty)&&(o5.isEmpty==o7.isEmpty) then some ⟨!o1.isEmpty,o2,o4,o6,o7⟩ else none:=by
 unfold V3s;simp only[h1,h2];rw[U1c h];simp only[h3,h4,h5,h6,h7]
end Pl
theorem Oog(x:ByteArray):x.toList.isEmpty=(bs x).isEmpty:=by rw[U21] <;> rfl
def O1s(N:Nat)(l:List UInt8)(e:Ending):Prop:=match V3s N l with
 |none=>∃(b0 b5 b6:Bool)(a1 a2 a3 a4:ByteArray),e=.returned (.tuple #[.agg #[.bool b0,.string a1,.string a2,.string a3,.string a4,.bool b5,.bool b6],.bool false])
 |some d=>∃(b5 b6:Bool)(a1 a2 a3 a4:ByteArray),e=.returned (.tuple #[.agg #[.bool d.minus,.string a1,.string a2,.string a3,.string a4,.bool b5,.bool b6],.bool true])/\bs a1=d.whole/\bs a2=d.part/\bs a3=d.sign/\bs a4=d.power
theorem Ofr{N l}(h:V3s N l=none)(b0 b5 b6:Bool)(a1 a2 a3 a4:ByteArray):O1s N l (.returned (.tuple #[.agg #[.bool b0,.string a1,.string a2,.string a3,.string a4,.bool b5,.bool b6],.bool false])):=by
 unfold O1s;rw[h];exact⟨b0,b5,b6,a1,a2,a3,a4,rfl⟩
theorem Oi6{N l c m w2 x4 x6 x7}(h:V3s N l=if c=true then some ⟨m,w2,x4,x6,x7⟩ else none)(b0 b5 b6 k:Bool)(a1 a2 a3 a4:ByteArray)(hk:k=c)(h0:b0=m)(h1:bs a1=w2)(h2:bs a2=x4)(h3:bs a3=x6)(h4:bs a4=x7):O1s N l (.returned (.tuple #[.agg #[.bool b0,.string a1,.string a2,.string a3,.string a4,.bool b5,.bool b6],.bool k])):=by
 subst hk h0;unfold O1s;rw[h];cases k with
 |true=>exact⟨b5,b6,a1,a2,a3,a4,rfl,h1,h2,h3,h4⟩
 |false=>exact⟨_,b5,b6,a1,a2,a3,a4,rfl⟩
def SpS(b:Nat)(v0 v1 v2 v3 v4 v5 v6:Value)(cur:ByteArray)(w:World):Prop:=(w.cell? b=some v0/\w.cell? ⟨b,1,none⟩=some v1/\w.cell? ⟨b,2,none⟩=some v2/\w.cell? ⟨b,3,none⟩=some v3/\w.cell? ⟨b,4,none⟩=some v4/\w.cell? ⟨b,5,none⟩=some v5/\w.cell? ⟨b,6,none⟩=some v6/\(∀o,w.frozen? ⟨b,o,none⟩=false)/\b<w.heap.size)/\w.cell? (b+1:Nat)=some (.string cur)
theorem O1t{w wc:World}{x0 x1 x2 x3 x4 x5 x6:Value}{cur:ByteArray}(hD:DsW w.heap.size #[x0,x1,x2,x3,x4,x5,x6] cur wc)(hG:Gr w wc)(v0 v1 v2 v3 v4 v5 v6:Value):∃W,(((((((wc.setCell w v0).setCell ⟨w,1,none⟩ v1).setCell ⟨w,2,none⟩ v2).setCell ⟨w,3,none⟩ v3).setCell ⟨w,4,none⟩ v4).setCell ⟨w,5,none⟩ v5).setCell ⟨w,6,none⟩ v6)=W/\DsW w.heap.size #[v0,v1,v2,v3,v4,v5,v6] cur W/\Gr w W :=
 ⟨_,rfl,((((((hD.set 0 v0).set 1 v1).set 2 v2).set 3 v3).set 4 v4).set 5 v5).set 6 v6,by (repeat refine Gr.setCell ?_ Yb _);exact hG⟩
theorem Okr(s:ByteArray)(hs:s.size<=20000000)(w:World):Calls prog 174 #[.string s] w λ e w'=>O1s s.size (bs s) e/\Gr w w':=by
 go_enter func174,ntmps174;go_wp2_with (go_at_call 200;refine (Oiv s _).mono ?_;rintro e w1 ⟨rfl,rfl⟩);have Mp:=DsW.new w s;have eV:Gr w ((w.alloc (.cells #[.bool false,.string ⟨#[]⟩,.string ⟨#[]⟩,.string ⟨#[]⟩,.string ⟨#[]⟩,.bool false,.bool false] 240)).alloc (.cells #[.string s] 9)):=((Gr.refl w).alloc _).alloc _;refine (O56 Mp Ya ⟨#[45]⟩ 1 Ya _ Ofp).mono ?_;rintro e W1 ⟨o1,r1,rfl,bB,az,dQ,vZ,fU⟩;have cB:=fU w eV (U12 _);have K1:=U10 bB;clear fU bB eV Mp;obtain⟨k0,k1,k2,k3,k4,k5,k6,kf,kl⟩:=vZ.facts;go_wp2_with fail;refine (O56 (vZ.set 0 _) Ya V2y s.size Ya _ O7d).mono ?_;rintro e W2 ⟨o2,r2,rfl,bX,aM,dx,sJ,cb⟩;have bM:=cb w (cB.setCell Yb _) (U12 _);have K2:=U10 bX;clear cb bX k0 k1 k2 k3 k4 k5 k6 kf kl;obtain⟨k0,k1,k2,k3,k4,k5,k6,kf,kl⟩:=sJ.facts
 go_upto_region 4 with fail
 go_cut [34] (λ Qi wx=>∃c:Bool,Qi=.bool c/\(c=true ↔ (bs o2=[]\/(1<(bs o2).length/\(bs o2)[0]?=some 48)))/\DsW w.heap.size #[.bool (!o1.toList.isEmpty),.string o2,.string ⟨#[]⟩,.string ⟨#[]⟩,.string ⟨#[]⟩,.bool (false),.bool (false)] r2 wx/\Gr w wx)
 case first =>
  have pj:=sJ.set 1 (.string o2);have cb:Gr w (W2.setCell ⟨w,1,none⟩ (.string o2)):=bM.setCell Yb _;have HD:=U10 pj;have HG:=U10 cb;clear pj cb sJ bM;rcases O2n o2 with⟨e1,e2,e3⟩|⟨e1,e2,e3⟩
  ·have E:=U10 e3;clear e3;go_wp2_with fail
   go_meet
   exact⟨true,rfl,⟨λ _ => .inl (U3m.1 E.o),λ _=>rfl⟩,HD.o,HG.o⟩
  have E:Hid (bs o2≠[]):=U10 (λ h=>by rw[h]at e3;cases e3);clear e3;have e0:0<o2.size:=by have h2:=U3t.2 E.o;rw[O0]at h2;exact h2
  have e4:(0:Int)<(o2.size:Int):=Ya
  by_cases hl:1<o2.size
  ·have d1:decide ((1:Int)<(o2.size:Int))=true:=by simp;omega
   have HL:=U10 hl;have dF:(bs o2)[0]?=some (o2[0]'e0):=by have h2:=O8 o2 0 e0;simp only[U2b]at h2;rw[h2];rfl
   have HI:=U10 dF;clear dF hl;cases hz:((o2[0]'e0).toNat==48) with
   |true =>
    have z1:(((o2[0]'e0).toNat:Int)==48)=true:=(V1u _ 48 _ hz).1;have HZ:=U10 hz;clear hz;go_wp2_with fail
    go_meet
    refine⟨true,rfl,⟨λ _ => .inr ⟨by rw[O0];exact HL.o,?_⟩,λ _=>rfl⟩,HD.o,HG.o⟩;rw[HI.o,U1f,<-U2d];simpa using HZ.o
   |false =>
    have z1:(((o2[0]'e0).toNat:Int)==48)=false:=(V1u _ 48 _ hz).1;have HZ:=U10 hz;clear hz;go_wp2_with fail
    go_meet
    refine⟨false,rfl,⟨λ h=>(by cases h),λ h=>?_⟩,HD.o,HG.o⟩;rcases h with h|⟨_,h⟩
    exact absurd h E.o
    rw[HI.o,U1f]at h;have h2:=HZ.o;rw[h]at h2;simp at h2
  have d1:decide ((1:Int)<(o2.size:Int))=false:=Ye
  go_wp2_with fail
  go_meet
  refine⟨false,rfl,⟨λ h=>(by cases h),λ h=>?_⟩,HD.o,HG.o⟩;rcases h with h|⟨h,_⟩
  exact absurd h E.o
  rw[O0]at h;exact absurd h hl
 case rest =>
  obtain⟨c,rfl,hc,Ie,If⟩:=hcut;have HC:=U10 hc;clear hc sJ bM k0 k1 k2 k3 k4 k5 k6 kf kl;obtain⟨k0,k1,k2,k3,k4,k5,k6,kf,kl⟩:=Ie.facts;cases c with
  |true =>
   go_wp2_with fail;refine U11 (v:=.tuple #[.agg #[.bool (!o1.toList.isEmpty),.string o2,.string ⟨#[]⟩,.string ⟨#[]⟩,.string ⟨#[]⟩,.bool (false),.bool (false)],.bool false]) (by simp[results,results174,go_sem,k0,k1,k2,k3,k4,k5,k6,kf]) rfl ⟨Ofr (Va5 K1.o K2.o (HC.o.1 Yb)) _ _ _ _ _ _ _,?_⟩
   (repeat refine Gr.setCell ?_ Yb _);exact If
  |false =>
   go_wp2_with fail;refine (O56 Ie Ya ⟨#[46]⟩ 1 Ya _ Okq).mono ?_;rintro e W3 ⟨o3,r3,rfl,fy,iW,Ug,Fd,dp⟩;have dj:=dp w If (U12 _);have K3:=U10 fy;clear dp fy k0 k1 k2 k3 k4 k5 k6 kf kl Ie If;obtain⟨k0,k1,k2,k3,k4,k5,k6,kf,kl⟩:=Fd.facts
   go_upto_if 41 with fail
   go_cut [41] (λ Uh wx=>∃o4 r4:ByteArray,(if (bs o3).isEmpty then ([],bs r3) else Pl.tk O2 s.size (bs r3))=(bs o4,bs r4)/\r4.size<=r3.size/\DsW w.heap.size #[.bool (!o1.toList.isEmpty),.string o2,.string o4,.string ⟨#[]⟩,.string ⟨#[]⟩,.bool (!o3.toList.isEmpty),.bool (false)] r4 wx/\Gr w wx)
   case first =>
    have sE:=Fd.set 5 (.bool (!o3.toList.isEmpty));have dp:Gr w (W3.setCell ⟨w,5,none⟩ (.bool (!o3.toList.isEmpty))):=dj.setCell Yb _;clear Fd dj;generalize W3.setCell ⟨w,5,none⟩ (.bool (!o3.toList.isEmpty))=Wx at sE dp⊢;have HD:=U10 sE;have HG:=U10 dp;rcases O2n o3 with⟨e1,e2,e3⟩|⟨e1,e2,e3⟩
    ·have E:=U10 e3;simp only[e2,Bool.not_true];clear e3 sE dp;go_wp2_with fail
     go_meet
     exact⟨⟨#[]⟩,r3,by rw[E.o];rfl,U12 _,HD.o,HG.o⟩
    have E:=U10 e3;simp only[e2,Bool.not_false];clear e3 dp;clear k0 k1 k2 k3 k4 k5 k6 kf kl;obtain⟨k0,k1,k2,k3,k4,k5,k6,kf,kl⟩:=sE.facts;clear sE;go_wp2_with fail;refine (O56 HD.o Ya V2y s.size Ya _ O7d).mono ?_;rintro e W4 ⟨o4,r4,rfl,nO,nR,Ui,Ig,Ck⟩;have dw:=Ck w HG.o (U12 _);have K4:=U10 nO;have Qj:=U10 (Ig.set 2 (.string o4));have AJ:Hid (Gr w (W4.setCell ⟨w,2,none⟩ (.string o4))):=U10 (dw.setCell Yb _);clear Ck nO k0 k1 k2 k3 k4 k5 k6 kf kl;obtain⟨k0,k1,k2,k3,k4,k5,k6,kf,kl⟩:=Ig.facts;clear Ig dw;go_wp2_with fail
    go_meet
    exact⟨o4,r4,by rw[E.o];exact K4.o,nR,Qj.o,AJ.o⟩
   case rest =>
    obtain⟨o4,r4,nO,nR,AK,Mq⟩:=hcut;have K4:=U10 nO;clear nO Fd dj k0 k1 k2 k3 k4 k5 k6 kf kl;obtain⟨k0,k1,k2,k3,k4,k5,k6,kf,kl⟩:=AK.facts;go_wp2_with fail;refine (O56 AK Ya ⟨#[101,69]⟩ 1 Ya _ Ofq).mono ?_;rintro e W5 ⟨o5,r5,rfl,C0,vJ,Uj,Fe,yC⟩;have dN:=yC w Mq (U12 _);have K5:=U10 C0;clear yC C0 k0 k1 k2 k3 k4 k5 k6 kf kl AK Mq;obtain⟨k0,k1,k2,k3,k4,k5,k6,kf,kl⟩:=Fe.facts
    go_upto_if 52 with fail
    go_cut [52] (λ Uk wx=>∃o6 r6 o7 r7:ByteArray,(if (bs o5).isEmpty then ([],bs r5) else Pl.tk Vq 1 (bs r5))=(bs o6,bs r6)/\(if (bs o5).isEmpty then ([],bs r6) else Pl.tk O2 s.size (bs r6))=(bs o7,bs r7)/\DsW w.heap.size #[.bool (!o1.toList.isEmpty),.string o2,.string o4,.string o6,.string o7,.bool (!o3.toList.isEmpty),.bool (!o5.toList.isEmpty)] r7 wx/\Gr w wx)
    case first =>
     have vR:=Fe.set 6 (.bool (!o5.toList.isEmpty));have yC:Gr w (W5.setCell ⟨w,6,none⟩ (.bool (!o5.toList.isEmpty))):=dN.setCell Yb _;clear Fe dN;generalize W5.setCell ⟨w,6,none⟩ (.bool (!o5.toList.isEmpty))=Wx at vR yC⊢;have HD:=U10 vR;have HG:=U10 yC;rcases O2n o5 with⟨e1,e2,e3⟩|⟨e1,e2,e3⟩
     ·have E:=U10 e3;simp only[e2,Bool.not_true];clear e3 vR yC;go_wp2_with fail
      go_meet
      exact⟨⟨#[]⟩,r5,⟨#[]⟩,r5,by rw[E.o];rfl,by rw[E.o];rfl,HD.o,HG.o⟩
     have E:=U10 e3;simp only[e2,Bool.not_false];clear e3 yC;clear k0 k1 k2 k3 k4 k5 k6 kf kl;obtain⟨k0,k1,k2,k3,k4,k5,k6,kf,kl⟩:=vR.facts;clear vR;go_wp2_with fail;refine (O56 HD.o Ya ⟨#[43,45]⟩ 1 Ya _ Oi5).mono ?_;rintro e W6 ⟨o6,r6,rfl,yD,tA,Ul,Ih,Fg⟩;have eR:=Fg w HG.o (U12 _);have K6:=U10 yD;have Qk:=U10 (Ih.set 3 (.string o6));have mA:Hid (Gr w (W6.setCell ⟨w,3,none⟩ (.string o6))):=U10 (eR.setCell Yb _);clear Fg yD k0 k1 k2 k3 k4 k5 k6 kf kl;obtain⟨k0,k1,k2,k3,k4,k5,k6,kf,kl⟩:=Ih.facts;clear Ih eR;go_wp2_with fail;refine (O56 Qk.o Ya V2y s.size Ya _ O7d).mono ?_;rintro e W7 ⟨o7,r7,rfl,ph,ls,Um,Ii,nY⟩;have oT:=nY w mA.o (U12 _);have K7:=U10 ph;have Ql:=U10 (Ii.set 4 (.string o7));have Fh:Hid (Gr w (W7.setCell ⟨w,4,none⟩ (.string o7))):=U10 (oT.setCell Yb _);clear nY ph k0 k1 k2 k3 k4 k5 k6 kf kl;obtain⟨k0,k1,k2,k3,k4,k5,k6,kf,kl⟩:=Ii.facts;clear Ii oT;go_wp2_with fail
     go_meet
     exact⟨o6,r6,o7,r7,by rw[E.o];exact K6.o,by rw[E.o];exact K7.o,Ql.o,Fh.o⟩
    case rest =>
     obtain⟨o6,r6,o7,r7,yD,ph,l0,qA⟩:=hcut;have K6:=U10 yD;have K7:=U10 ph;clear yD ph Fe dN k0 k1 k2 k3 k4 k5 k6 kf kl;have hX:=Va6 K1.o K2.o (λ h=>by have h2:=HC.o.2 h;simp at h2) K3.o K4.o K5.o K6.o K7.o;simp only[<-Oog]at hX;have HX:=U10 hX;clear hX;generalize aV:(!o3.toList.isEmpty)=b3 at l0⊢;generalize iq:(!o5.toList.isEmpty)=b5 at l0⊢;have ir:=U10 aV;have ue:=U10 iq;clear aV iq;have jr:=l0.cs;have fc:SpS w.heap.size (.bool (!o1.toList.isEmpty)) (.string o2) (.string o4) (.string o6) (.string o7) (.bool b3) (.bool b5) r7 wc.drew:=⟨l0.facts,jr⟩
     obtain⟨k0,k1,k2,k3,k4,k5,k6,kf,kl⟩:=l0.facts;go_wp2_with fail;refine Reg.begin' (W:=λ i=>i != 19) (S:=SpS w.heap.size (.bool (!o1.toList.isEmpty)) (.string o2) (.string o4) (.string o6) (.string o7) (.bool b3) (.bool b5) r7) Yc ?_;refine Reg.tl 0 fc ?_ (hy:=by intro w ab;obtain⟨⟨q0,q1,q2,q3,q4,q5,q6,qf,ql⟩,qc⟩:=ab;go_simp;try with_reducible rfl);refine Reg.ty 1 ?_;refine Reg.on 2 ?_;go_simp;refine (Olq r7 _ _ fc.2).mono ?_;refine Z48 ?_;refine⟨by first|exact fc|exact λ _=>fc|exact λ _ _=>fc,?_⟩;refine Reg.pt ?_;cases bV:r7.toList.isEmpty with
     |false =>
      refine Reg.ty 3 ?_;refine Reg.sk 4 ?_;refine Reg.sk 5 ?_;refine Reg.sk 6 ?_;refine Reg.sk 7 ?_;refine Reg.sk 8 ?_;refine Reg.sk 9 ?_;refine Z61 ?_;refine Z45 ?_;refine Z176 ?_;refine Reg.ty 20 ?_;refine Z12 ?_;go_wp2_with fail;obtain⟨Wf,fA,iA,iB⟩:=O1t l0 qA (.bool (!o1.toList.isEmpty)) (.string o2) (.string o4) (.string o6) (.string o7) (.bool b3) (.bool b5);have HK:Hid (false=(r7.toList.isEmpty&&(o3.toList.isEmpty==o4.toList.isEmpty)&&(o5.toList.isEmpty==o7.toList.isEmpty))):=U10 (by rw[bV,U4l,U4l]);rw[fA];clear fc fA k0 k1 k2 k3 k4 k5 k6 kf kl;obtain⟨k0,k1,k2,k3,k4,k5,k6,kf,kl⟩:=iA.facts;refine U11 (v:=.tuple #[.agg #[.bool (!o1.toList.isEmpty),.string o2,.string o4,.string o6,.string o7,.bool b3,.bool b5],.bool false]) (by simp[results,results174,go_sem,k0,k1,k2,k3,k4,k5,k6,kf]) rfl ⟨?_,iB.drew⟩;exact J76
     |true =>
      cases b3 with
      |false =>
       have H3:Hid (o3.toList.isEmpty=true):=U10 (by have:=ir.o;revert this;cases o3.toList.isEmpty <;> simp);rcases O2n o4 with⟨f1,f2,f3⟩|⟨f1,f2,f3⟩
       ·clear f3;refine Z24 ?_;cases b5 with
        |false =>
         have H5:Hid (o5.toList.isEmpty=true):=U10 (by have:=ue.o;revert this;cases o5.toList.isEmpty <;> simp);rcases O2n o7 with⟨g1,g2,g3⟩|⟨g1,g2,g3⟩
         ·clear g3;refine Z9 ?_;go_wp2_with fail;obtain⟨Wf,fA,iA,iB⟩:=O1t l0 qA (.bool (!o1.toList.isEmpty)) (.string o2) (.string o4) (.string o6) (.string o7) (.bool false) (.bool false);refine Z97 ?_;intro HK;clear fc fA k0 k1 k2 k3 k4 k5 k6 kf kl;obtain⟨k0,k1,k2,k3,k4,k5,k6,kf,kl⟩:=iA.facts;refine U11 (v:=.tuple #[.agg #[.bool (!o1.toList.isEmpty),.string o2,.string o4,.string o6,.string o7,.bool false,.bool false],.bool true]) (by simp[results,results174,go_sem,k0,k1,k2,k3,k4,k5,k6,kf]) rfl ⟨?_,iB.drew⟩;exact J76
         clear g3;refine Z9 ?_;go_wp2_with fail;obtain⟨Wf,fA,iA,iB⟩:=O1t l0 qA (.bool (!o1.toList.isEmpty)) (.string o2) (.string o4) (.string o6) (.string o7) (.bool false) (.bool false);refine Z96 ?_;intro HK;clear fc fA k0 k1 k2 k3 k4 k5 k6 kf kl;obtain⟨k0,k1,k2,k3,k4,k5,k6,kf,kl⟩:=iA.facts;refine U11 (v:=.tuple #[.agg #[.bool (!o1.toList.isEmpty),.string o2,.string o4,.string o6,.string o7,.bool false,.bool false],.bool false]) (by simp[results,results174,go_sem,k0,k1,k2,k3,k4,k5,k6,kf]) rfl ⟨?_,iB.drew⟩;exact J76
        |true =>
         have H5:Hid (o5.toList.isEmpty=false):=U10 (by have:=ue.o;revert this;cases o5.toList.isEmpty <;> simp);rcases O2n o7 with⟨g1,g2,g3⟩|⟨g1,g2,g3⟩
         ·clear g3;refine Z9 ?_;go_wp2_with fail;obtain⟨Wf,fA,iA,iB⟩:=O1t l0 qA (.bool (!o1.toList.isEmpty)) (.string o2) (.string o4) (.string o6) (.string o7) (.bool false) (.bool true);refine Z96 ?_;intro HK;clear fc fA k0 k1 k2 k3 k4 k5 k6 kf kl;obtain⟨k0,k1,k2,k3,k4,k5,k6,kf,kl⟩:=iA.facts;refine U11 (v:=.tuple #[.agg #[.bool (!o1.toList.isEmpty),.string o2,.string o4,.string o6,.string o7,.bool false,.bool true],.bool false]) (by simp[results,results174,go_sem,k0,k1,k2,k3,k4,k5,k6,kf]) rfl ⟨?_,iB.drew⟩;exact J76
         clear g3;refine Z9 ?_;go_wp2_with fail;obtain⟨Wf,fA,iA,iB⟩:=O1t l0 qA (.bool (!o1.toList.isEmpty)) (.string o2) (.string o4) (.string o6) (.string o7) (.bool false) (.bool true);refine Z97 ?_;intro HK;clear fc fA k0 k1 k2 k3 k4 k5 k6 kf kl;obtain⟨k0,k1,k2,k3,k4,k5,k6,kf,kl⟩:=iA.facts;refine U11 (v:=.tuple #[.agg #[.bool (!o1.toList.isEmpty),.string o2,.string o4,.string o6,.string o7,.bool false,.bool true],.bool true]) (by simp[results,results174,go_sem,k0,k1,k2,k3,k4,k5,k6,kf]) rfl ⟨?_,iB.drew⟩;exact J76
       clear f3;refine Z24 ?_;refine Z45 ?_;refine Z176 ?_;refine Reg.ty 20 ?_;refine Z12 ?_;go_wp2_with fail;obtain⟨Wf,fA,iA,iB⟩:=O1t l0 qA (.bool (!o1.toList.isEmpty)) (.string o2) (.string o4) (.string o6) (.string o7) (.bool false) (.bool b5);refine Z216 ?_;intro HK;clear fc fA k0 k1 k2 k3 k4 k5 k6 kf kl;obtain⟨k0,k1,k2,k3,k4,k5,k6,kf,kl⟩:=iA.facts;refine U11 (v:=.tuple #[.agg #[.bool (!o1.toList.isEmpty),.string o2,.string o4,.string o6,.string o7,.bool false,.bool b5],.bool false]) (by simp[results,results174,go_sem,k0,k1,k2,k3,k4,k5,k6,kf]) rfl ⟨?_,iB.drew⟩;exact J76
      |true =>
       have H3:Hid (o3.toList.isEmpty=false):=U10 (by have:=ir.o;revert this;cases o3.toList.isEmpty <;> simp);rcases O2n o4 with⟨f1,f2,f3⟩|⟨f1,f2,f3⟩
       ·clear f3;refine Z24 ?_;refine Z45 ?_;refine Z176 ?_;refine Reg.ty 20 ?_;refine Z12 ?_;go_wp2_with fail;obtain⟨Wf,fA,iA,iB⟩:=O1t l0 qA (.bool (!o1.toList.isEmpty)) (.string o2) (.string o4) (.string o6) (.string o7) (.bool true) (.bool b5);refine Z216 ?_;intro HK;clear fc fA k0 k1 k2 k3 k4 k5 k6 kf kl;obtain⟨k0,k1,k2,k3,k4,k5,k6,kf,kl⟩:=iA.facts;refine U11 (v:=.tuple #[.agg #[.bool (!o1.toList.isEmpty),.string o2,.string o4,.string o6,.string o7,.bool true,.bool b5],.bool false]) (by simp[results,results174,go_sem,k0,k1,k2,k3,k4,k5,k6,kf]) rfl ⟨?_,iB.drew⟩;exact J76
       clear f3;refine Z24 ?_;cases b5 with
       |false =>
        have H5:Hid (o5.toList.isEmpty=true):=U10 (by have:=ue.o;revert this;cases o5.toList.isEmpty <;> simp);rcases O2n o7 with⟨g1,g2,g3⟩|⟨g1,g2,g3⟩
        ·clear g3;refine Z9 ?_;go_wp2_with fail;obtain⟨Wf,fA,iA,iB⟩:=O1t l0 qA (.bool (!o1.toList.isEmpty)) (.string o2) (.string o4) (.string o6) (.string o7) (.bool true) (.bool false);refine Z97 ?_;intro HK;clear fc fA k0 k1 k2 k3 k4 k5 k6 kf kl;obtain⟨k0,k1,k2,k3,k4,k5,k6,kf,kl⟩:=iA.facts;refine U11 (v:=.tuple #[.agg #[.bool (!o1.toList.isEmpty),.string o2,.string o4,.string o6,.string o7,.bool true,.bool false],.bool true]) (by simp[results,results174,go_sem,k0,k1,k2,k3,k4,k5,k6,kf]) rfl ⟨?_,iB.drew⟩;exact J76
        clear g3;refine Z9 ?_;go_wp2_with fail;obtain⟨Wf,fA,iA,iB⟩:=O1t l0 qA (.bool (!o1.toList.isEmpty)) (.string o2) (.string o4) (.string o6) (.string o7) (.bool true) (.bool false);refine Z96 ?_;intro HK;clear fc fA k0 k1 k2 k3 k4 k5 k6 kf kl;obtain⟨k0,k1,k2,k3,k4,k5,k6,kf,kl⟩:=iA.facts;refine U11 (v:=.tuple #[.agg #[.bool (!o1.toList.isEmpty),.string o2,.string o4,.string o6,.string o7,.bool true,.bool false],.bool false]) (by simp[results,results174,go_sem,k0,k1,k2,k3,k4,k5,k6,kf]) rfl ⟨?_,iB.drew⟩;exact J76
       |true =>
        have H5:Hid (o5.toList.isEmpty=false):=U10 (by have:=ue.o;revert this;cases o5.toList.isEmpty <;> simp);rcases O2n o7 with⟨g1,g2,g3⟩|⟨g1,g2,g3⟩
        ·clear g3;refine Z9 ?_;go_wp2_with fail;obtain⟨Wf,fA,iA,iB⟩:=O1t l0 qA (.bool (!o1.toList.isEmpty)) (.string o2) (.string o4) (.string o6) (.string o7) (.bool true) (.bool true);refine Z96 ?_;intro HK;clear fc fA k0 k1 k2 k3 k4 k5 k6 kf kl;obtain⟨k0,k1,k2,k3,k4,k5,k6,kf,kl⟩:=iA.facts;refine U11 (v:=.tuple #[.agg #[.bool (!o1.toList.isEmpty),.string o2,.string o4,.string o6,.string o7,.bool true,.bool true],.bool false]) (by simp[results,results174,go_sem,k0,k1,k2,k3,k4,k5,k6,kf]) rfl ⟨?_,iB.drew⟩;exact J76
        clear g3;refine Z9 ?_;go_wp2_with fail;obtain⟨Wf,fA,iA,iB⟩:=O1t l0 qA (.bool (!o1.toList.isEmpty)) (.string o2) (.string o4) (.string o6) (.string o7) (.bool true) (.bool true);refine Z97 ?_;intro HK;clear fc fA k0 k1 k2 k3 k4 k5 k6 kf kl;obtain⟨k0,k1,k2,k3,k4,k5,k6,kf,kl⟩:=iA.facts;refine U11 (v:=.tuple #[.agg #[.bool (!o1.toList.isEmpty),.string o2,.string o4,.string o6,.string o7,.bool true,.bool true],.bool true]) (by simp[results,results174,go_sem,k0,k1,k2,k3,k4,k5,k6,kf]) rfl ⟨?_,iB.drew⟩;exact J76
end Go.Proofs.YtnkgknbdaiakgaaGreatDoor
namespace Go.Proofs.YtnkgknbdaiakgaaGreatDoor
open Pl Go.Proofs.Tryz Go.RowKit Go.Shelf Go.Joins
attribute [local go_sem] U22
def V8d(a:Nat)(b:Bool)(d:ByteArray)(n:Int)(w:World):Prop:=w.cell? a=some (.bool b)/\w.cell? ⟨a,1,none⟩=some (.string d)/\w.cell? ⟨a,2,none⟩=some (.int .i64 n)
theorem V8d.gr{a b d n w w'}(h:V8d a b d n w)(g:Gr w w'):V8d a b d n w':=by
 obtain⟨h0,h1,h2⟩:=h;exact⟨(g.use.1 _ _ (Lib.lt_of_cell h0)).trans h0,(g.use.1 _ _ (Lib.lt_of_cell h1)).trans h1,(g.use.1 _ _ (Lib.lt_of_cell h2)).trans h2⟩
def O6j(b:Bool)(l:List UInt8)(n:Int):List UInt8:=(if b then [45] else [])++l++[101]++Lib.itoa n
theorem Oks(w:World):Calls prog 178 #[.agg #[.bool false,.string ⟨#[48]⟩,(0:Int)]] w λ e w'=>e=.returned (.string ⟨#[48]⟩)/\Gr w w':=by
 have q:∀W,(Go.binOp .eql 245 (.agg #[.bool false,.string ⟨#[48]⟩,(0:Int)]) (.agg #[.bool false,.string ⟨#[48]⟩,(0:Int)])).run prog W=.ok (.bool true) W:=λ _=>by kernel_rfl
 go_enter func178,ntmps178;go_wp2_with fail;exact U11 (v:=.string ⟨#[48]⟩) (by simp[results,results178,go_sem]) rfl ⟨rfl,Gr.auto⟩
theorem On8(b:Bool)(d:ByteArray)(n:Int)(h:¬bs d=[48])(W:World):(Go.binOp .eql 245 (.agg #[.bool b,.string d,n]) (.agg #[.bool false,.string ⟨#[48]⟩,(0:Int)])).run prog W=.ok (.bool false) W:=by
 have d3:(d.toList==[48])=false:=by
  rw[U21]
  simpa using h
 cases b <;> go_simp
theorem On9(b:Bool)(d:ByteArray)(n:Int)(hz:d.size<=20000000)(hd:¬bs d=[48])(iY : -9223372036854775808<=n)(nX:n<=9223372036854775807)(w:World)(hw:V3y w):Calls prog 178 #[.agg #[.bool b,.string d,n]] w λ e w'=>(∃t:ByteArray,e=.returned (.string t)/\bs t=O6j b (bs d) n)/\Gr w w':=by
 have q:=λ W=>On8 b d n hd W
 have HW:=U10 hw;have HI:=U10 (λ W (hW:V3y W)=>strconv_Itoa n iY nX W hW.pow);obtain⟨I,hI⟩:∃I:ByteArray,(⟨(Lib.itoa n).toArray⟩:ByteArray)=I:=⟨_,rfl⟩
 have kC:bs I=Lib.itoa n:=by rw[<-hI,O1o]
 have Un:I.size<=21:=by rw[<-O0,kC];exact Lib.itoa_length_le n iY nX
 obtain⟨P,hP⟩:∃P:ByteArray,(⟨if b then #[45] else #[]⟩:ByteArray)++d=P:=⟨_,rfl⟩
 have Ij:bs P=(if b then [45] else [])++bs d:=by rw[<-hP];cases b <;> simp[bs,U2n]
 have Qm:P.size<=20000001:=by rw[<-O0,Ij,U1b,O0];cases b <;> simp <;> omega
 obtain⟨Q,hQ⟩:∃Q:ByteArray,P++(⟨#[101]⟩:ByteArray)=Q:=⟨_,rfl⟩
 have Ik:bs Q=bs P++[101]:=by rw[<-hQ];simp[bs,U2n]
 have Uo:Q.size<=20000002:=by rw[<-O0,Ik,U1b,O0];simp;omega
 obtain⟨R,hR⟩:∃R:ByteArray,Q++I=R:=⟨_,rfl⟩
 have Il:bs R=O6j b (bs d) n:=by
  have:bs R=bs Q++bs I:=by rw[<-hR];simp[bs,U2n]
  rw[this,Ik,Ij,kC];rfl
 have HR:=U10 Il;have az:¬ 9223372036854775807<d.size:=Ya;have aM:¬ 9223372036854775807<1+d.size:=Ya;have iW:¬ 9223372036854775807<P.size+1:=Ya;have nR:¬ 9223372036854775807<Q.size+I.size:=Ya;have vJ:¬ 9223372036854775807<d.size+1:=Ya;rw[hI]at HI;clear hw hd kC Ij Ik Il hI;go_enter func178,ntmps178;cases b with
 |true =>
  have Uq:(⟨#[45]⟩:ByteArray)++d=P:=hP;clear hP;go_wp2_with fail;have hS:V8d w.heap.size true d n (w.alloc (.cells #[.bool true,.string d,n] 245)).drew:=⟨(by show (w.alloc _).cell? _=_;simp),(by show (w.alloc _).cell? _=_;simp),(by show (w.alloc _).cell? _=_;simp)⟩
  have hG:Gr w (w.alloc (.cells #[.bool true,.string d,n] 245)).drew:=((Gr.refl w).alloc _).drew;refine Reg.begin' (W:=λ _=>true) (S:=V8d w.heap.size true d n) Yc ?_;exact J135
 |false =>
  have Qn:(⟨#[]⟩:ByteArray)++d=P:=hP;have Qo:d=P:=by rw[<-Qn];apply U30;simp[U2n]
  subst Qo;clear hP;go_wp2_with fail;have hS:V8d w.heap.size false d n (w.alloc (.cells #[.bool false,.string d,n] 245)).drew:=⟨(by show (w.alloc _).cell? _=_;simp),(by show (w.alloc _).cell? _=_;simp),(by show (w.alloc _).cell? _=_;simp)⟩
  have hG:Gr w (w.alloc (.cells #[.bool false,.string d,n] 245)).drew:=((Gr.refl w).alloc _).drew;refine Reg.begin' (W:=λ _=>true) (S:=V8d w.heap.size false d n) Yc ?_;exact J135
end Go.Proofs.YtnkgknbdaiakgaaGreatDoor
namespace Go.Proofs.YtnkgknbdaiakgaaGreatDoor
open Pl Go.Proofs.Tryz Go.RowKit Go.Shelf Go.Joins
namespace Pl
theorem O3u(p:UInt8->Bool)(m:Nat)(l:Bs):(tk p m l).1.length+(tk p m l).2.length=l.length:=by
 unfold tk;simp only[U26,U16];have:=V71 p m l;omega
theorem V5d(p:UInt8->Bool):∀(l:Bs),∀c∈l.takeWhile p,p c=true:=by
 intro l
 induction l with
 |nil=>intro c hc;simp at hc
 |cons a l ih =>
  intro c hc;rw[U1p]at hc
  split at hc
  rename_i ha
  rcases U2s.1 hc with rfl|h
  exact ha
  exact ih c h
  simp at hc
theorem Ooh(p:UInt8->Bool)(m:Nat)(l:Bs):∀c∈(tk p m l).1,p c=true:=by
 intro c hc;have h1:(tk p m l).1=(l.takeWhile p).take (V42 p m l):=by
  unfold tk;simp only;have h2:V42 p m l<=(l.takeWhile p).length:=by unfold V42;omega
  have h3:=U3s.1 (U3y p (l:=l));obtain⟨n,hn⟩:=ExZ ((l.takeWhile p).length)
  rw[hn]at h2 h3;rw[h3,List.take_take,Nat.min_eq_left h2]
 rw[h1]at hc;exact V5d p l c (List.mem_of_mem_take hc)
theorem V7p(N:Nat)(l:Bs)(d:Dw)(h:V3s N l=some d):d.whole.length+d.part.length+d.power.length<=l.length/\(∀c∈d.power,O2 c=true):=by
 unfold V3s at h;simp only at h;simp only[Option.ite_none_left_eq_some,U44,U1f]at h;obtain⟨_,_,rfl⟩:=h;simp only;have t1:=O3u V2k 1 l;generalize tk V2k 1 l=a1 at *;have t2:=O3u O2 N a1.2;generalize tk O2 N a1.2=a2 at *;have t3:=O3u V2m 1 a2.2;generalize tk V2m 1 a2.2=a3 at *;have t4:∀b:Bool,(if b then ([],a3.2) else tk O2 N a3.2).1.length+(if b then ([],a3.2) else tk O2 N a3.2).2.length=a3.2.length:=by
  intro b;cases b
  exact O3u O2 N a3.2
  simp
 have t4:=t4 a3.1.isEmpty;generalize (if a3.1.isEmpty=true then ([],a3.2) else tk O2 N a3.2)=a4 at *;have t5:=O3u Vr 1 a4.2;generalize tk Vr 1 a4.2=a5 at *;have t6:∀b:Bool,(if b then ([],a5.2) else tk Vq 1 a5.2).1.length+(if b then ([],a5.2) else tk Vq 1 a5.2).2.length=a5.2.length:=by
  intro b;cases b
  exact O3u Vq 1 a5.2
  simp
 have t6:=t6 a5.1.isEmpty;generalize (if a5.1.isEmpty=true then ([],a5.2) else tk Vq 1 a5.2)=a6 at *;have t7:∀b:Bool,(if b then ([],a6.2) else tk O2 N a6.2).1.length+(if b then ([],a6.2) else tk O2 N a6.2).2.length=a6.2.length/\∀c∈(if b then ([],a6.2) else tk O2 N a6.2).1,O2 c=true:=by
  intro b;cases b
  exact⟨O3u O2 N a6.2,Ooh O2 N a6.2⟩
  simp
 have t7:=t7 a5.1.isEmpty;refine⟨Ya,t7.2⟩
theorem O95(p:UInt8->Bool):∀(l:Bs)(c:UInt8)(t:Bs),l.dropWhile p=c::t->p c=false:=by
 intro l
 induction l with
 |nil=>intro c t h;simp at h
 |cons a l ih =>
  intro c t h;rw[U3c]at h
  split at h;exact ih c t h
  rename_i ha
  simp only[U27]at h;rw[<-h.1];simpa using ha
theorem V85(neg:Bool)(p:Bs)(n:Int)(h:V4i neg p=some n) : -1000000000<=n/\n<=1000000000:=by
 unfold V4i at h;simp only[Option.ite_none_left_eq_some,U44,U1f]at h;obtain⟨_,h1,rfl⟩:=h;unfold V2t at h1
 simpa using h1
theorem V73(l:Bs):Vm l≠[48]:=by
 intro h;unfold Vm Lib.trimRightS at h;have h2:l.reverse.dropWhile (λ c=>([48]:Bs).contains c)=[48]:=by
  have:=U2w List.reverse h;exact J5
 have:=O95 _ _ _ _ h2;simp at this
end Pl
theorem O57{X:V2x Pl.Bs}{t:ByteArray}(h:X=.ok (bs t)):Oq X (.returned (.tuple #[.string t,(0:Int)])):=by
 rw[h];show _=_;have:(⟨(bs t).toArray⟩:ByteArray)=t:=U30 (by simp[bs]);rw[this]
end Go.Proofs.YtnkgknbdaiakgaaGreatDoor
namespace Go.Proofs.YtnkgknbdaiakgaaGreatDoor
open Pl Go.Proofs.Tryz Go.RowKit Go.Shelf Go.Joins
attribute [local go_sem] U22
theorem O2a(s T:ByteArray)(hT:⟨(V30 (bs s)).toArray⟩=T)(w:World):Calls prog 41 #[.string s,.string ⟨#[43,45]⟩] w λ e w'=>e=.returned (.string T)/\Gr w w':=by
 refine (Any.strings_TrimLeft_laid lays161 O48 s ⟨#[43,45]⟩ w Yd (ascii_of_all Yd)).mono ?_;rintro e w' ⟨rfl,hb⟩;exact⟨by rw[<-hT];rfl,hb⟩
theorem Ocg(s:ByteArray)(w:World)(t:ByteArray)(c:Int)(h:Calls prog 99 #[.string s] w λ e w'=>e=.returned (.tuple #[.string t,c])/\Gr w w'):Calls prog 141 #[.string s] w λ e w'=>e=.returned (.bool (c != 3))/\Gr w w':=by
 have H:=U10 h;clear h;go_enter func141,ntmps141;go_wp2_with (go_at_call 99;refine H.o.mono ?_;rintro e w1 ⟨rfl,g1⟩)
 go_ret
 exact⟨rfl,g1⟩
theorem Oi3(s:ByteArray)(hs:s.size<=20000000)(w:World)(hw:V3y w):Calls prog 141 #[.string s] w λ e w'=>e=.returned (.bool (V5k (bs s)))/\Gr w w':=by
 have h:=Oef s hs w hw;have hx:V5k (bs s)=(match V1d (bs s) with|.ok _=>true|.bad c _=>c != 3):=rfl;cases hr:V1d (bs s) with
 |ok x =>
  rw[hr]at h hx;have h2:Calls prog 99 #[.string s] w λ e w'=>e=.returned (.tuple #[.string ⟨x.toArray⟩,(0:Int)])/\Gr w w':=h
  have:=Ocg s w _ 0 h2;rw[hx];exact this
 |bad c k =>
  rw[hr]at h hx;have h2:Calls prog 99 #[.string s] w λ e w'=>e=.returned (.tuple #[.string ⟨#[]⟩,.int .i64 (c:Int)])/\Gr w w':=h
  have:=Ocg s w _ _ h2;rw[hx];refine this.mono ?_;rintro e w' ⟨rfl,g⟩;refine⟨?_,g⟩;congr 2;exact U3d.2 Ye
theorem Odl(s:ByteArray)(hs:s.size<=20000000)(w:World):Calls prog 138 #[.string s] w λ e w'=>(∃t:ByteArray,e=.returned (.string t)/\bs t=V1v (bs s))/\Gr w w':=by
 obtain⟨T,hT⟩:∃T:ByteArray,⟨(V30 (bs s)).toArray⟩=T:=⟨_,rfl⟩
 have jy:V30 (bs s)=bs T:=by rw[<-hT,O1o]
 have HT:=U10 hT;have hF:V1v (bs s)=if bs T=V5w then (if 3<s.size/\(bs s)[0]?=some 45 then 45::V5w else V5w) else if bs T=V6n then V6n else []:=by unfold V1v;rw[jy,O0]
 have HF:=U10 hF;clear hT jy hF;go_enter func138,ntmps138;by_cases h1:bs T=V5w
 ·have d1:(T.toList==[105,110,102])=true:=by rw[U21];exact U2z.2 h1
  have H1:=U10 h1;clear h1;by_cases h3:3<s.size
  ·have d2:decide ((3:Int)<(s.size:Int))=true:=by simp;omega
   have e0:0<s.size:=Ya;have e1:(0:Int)<(s.size:Int):=Ya;have dF:(bs s)[0]?=some (s[0]'e0):=by have h2:=O8 s 0 e0;simp only[U2b]at h2;rw[h2];rfl
   have HI:=U10 dF;have H3:=U10 h3;clear dF h3;cases hz:((s[0]'e0).toNat==45) with
   |true =>
    have z1:(((s[0]'e0).toNat:Int)==45)=true:=(V1u _ 45 _ hz).1;have HZ:Hid ((bs s)[0]?=some 45):=U10 (by rw[HI.o,U1f,<-U2d];simpa using hz);clear hz;go_wp2_with (go_at_call 41;refine (O2a s T HT.o _).mono ?_;rintro e w1 ⟨rfl,g1⟩)
    go_ret
    exact⟨⟨_,rfl,by rw[HF.o,U1a H1.o,U1a ⟨H3.o,HZ.o⟩];rfl⟩,g1⟩
   |false =>
    have z1:(((s[0]'e0).toNat:Int)==45)=false:=(V1u _ 45 _ hz).1;have HZ:Hid (¬(bs s)[0]?=some 45):=U10 (λ h=>by rw[HI.o,U1f]at h;rw[h]at hz;simp at hz);clear hz;go_wp2_with (go_at_call 41;refine (O2a s T HT.o _).mono ?_;rintro e w1 ⟨rfl,g1⟩)
    go_ret
    exact⟨⟨_,rfl,by rw[HF.o,U1a H1.o,U1c (λ h=>HZ.o h.2)];rfl⟩,g1⟩
  have d2:decide ((3:Int)<(s.size:Int))=false:=Ye;have H3:=U10 h3;clear h3;go_wp2_with (go_at_call 41;refine (O2a s T HT.o _).mono ?_;rintro e w1 ⟨rfl,g1⟩)
  go_ret
  exact⟨⟨_,rfl,by rw[HF.o,U1a H1.o,U1c (λ h=>H3.o h.1)];rfl⟩,g1⟩
 have d1:(T.toList==[105,110,102])=false:=by rw[U21];exact U3u.2 h1
 have H1:=U10 h1;clear h1;by_cases h2:bs T=V6n
 ·have d2:(T.toList==[110,97,110])=true:=by rw[U21];exact U2z.2 h2
  have H2:=U10 h2;clear h2;go_wp2_with (go_at_call 41;refine (O2a s T HT.o _).mono ?_;rintro e w1 ⟨rfl,g1⟩)
  go_ret
  exact⟨⟨_,rfl,by rw[HF.o,U1c H1.o,U1a H2.o];rfl⟩,g1⟩
 have d2:(T.toList==[110,97,110])=false:=by rw[U21];exact U3u.2 h2
 have H2:=U10 h2;clear h2;go_wp2_with (go_at_call 41;refine (O2a s T HT.o _).mono ?_;rintro e w1 ⟨rfl,g1⟩)
 go_ret
 exact⟨⟨_,rfl,by rw[HF.o,U1c H1.o,U1c H2.o];try rfl⟩,g1⟩
