/- The proof's part 20. -/
import Derived.Test.YtnkgknbdaiakgaaGreatDoorP19
import Derived.Test.YtnkgknbdaiakgaaGreatDoorP22
import Derived.Lib.ItoaLen
set_option maxHeartbeats 16000000
set_option linter.all false
set_option maxRecDepth 100000
namespace Go.Proofs.YtnkgknbdaiakgaaGreatDoor
open Pl Go.Proofs.Tryz Go.RowKit Go.Joins
theorem O26(x:ByteArray):(x.toList=[]/\x.toList.isEmpty=true/\(bs x).isEmpty=true)\/(¬x.toList=[]/\x.toList.isEmpty=false/\(bs x).isEmpty=false):=by
 exact J144
theorem O1o(l:List UInt8):bs ⟨l.toArray⟩=l:=by simp[bs]
theorem Ob2(s T:ByteArray)(hT:⟨(Vh (bs s)).toArray⟩=T)(w:World):Calls prog 41 #[.string s,.string ⟨#[48]⟩] w λ e w'=>e = .returned (.string T)/\w'=w:=by
 refine (Any.strings_TrimLeft_one lays161 s 48 (by decide) w).mono ?_;refine Z48 ?_;refine⟨?_,rfl⟩;rw[<-hT];have:Lib.trimLeftB s.data.toList 48=Vh (bs s):=by
  unfold Vh Lib.trimLeftS Lib.trimLeftB;congr 1
  funext c
  exact U2f.2 (by simp)
 rw[this]
theorem Obu(s T:ByteArray)(hs:s.size<=20000000)(hT:⟨(Vk (bs s)).toArray⟩=T)(w:World):Calls prog 164 #[.string s,.string ⟨#[48]⟩] w λ e w'=>e = .returned (.string T)/\w'=w:=by
 refine (Any.strings_TrimRight_one lays162 s 48 (by decide) w (by omega)).mono ?_;refine Z48 ?_;refine⟨?_,rfl⟩;rw[<-hT];have:Lib.trimRightB s.data.toList 48=Vk (bs s):=by
  unfold Vk Lib.trimRightS Lib.trimRightB;congr 2
  funext c
  exact U2f.2 (by simp)
 rw[this]
namespace Pl
theorem O71:∀(l:Bs)(a:Nat),(∀c∈l,O2 c=true)->Lib.decFrom a l=some (l.foldl (λ a c=>a*10+(c.toNat-48)) a):=by
 intro l
 induction l with
 |nil=>intro a _;rfl
 |cons c l ih =>
  intro a h;have hc:=h c (by simp);simp only[O2,Uf,Ux]at hc;unfold Lib.decFrom Lib.digitVal;rw[Ua hc];simp only[List.foldl_cons];exact ih _ (λ d hd=>h d (U15 _ hd))
theorem V6l:∀(l:Bs)(a:Nat),(∀c∈l,O2 c=true)->l.foldl (λ a c=>a*10+(c.toNat-48)) a<(a+1)*10 ^ l.length:=by
 intro l
 induction l with
 |nil=>intro a _;simp
 |cons c l ih =>
  intro a h;have hc:=h c (by simp);simp only[O2,Uf,Ux]at hc;simp only[List.foldl_cons,Ub];refine U4 (ih _ (λ d hd=>h d (U15 _ hd))) ?_;rw[Nat.pow_succ,Nat.mul_comm (10 ^ l.length) 10,<-Nat.mul_assoc];exact U3i _ (by omega)
theorem V73(l:Bs)(c:UInt8)(h:c∈Vh l):c∈l:=(U29 _).subset h
theorem V51(l:Bs):(Vh l).length<=l.length:=(U29 _).length_le
theorem V40(l:Bs):(Vk l).length<=l.length:=by
 unfold Vk Lib.trimRightS;rw[U3q];have:=(U29 (l:=l.reverse) (λ c=>([48]:Bs).contains c)).length_le;rw[U3q]at this;exact this
theorem V82(l:Bs)(h:∀c∈l,O2 c=true):Lib.atoi (48::l)=some (V1g l:Int):=by
 have h1:Lib.atoi (48::l)=(Lib.decNat (48::l)).map λ(m:Nat)=>(m:Int):=rfl
 rw[h1];unfold Lib.decNat;have h2:Lib.decFrom 0 (48::l)=Lib.decFrom 0 l:=rfl;rw[Ud (by simp),h2,O71 l 0 h];rfl
end Pl
theorem O2y(n:Int)(w:World):Calls prog 177 #[n] w λ e w'=>e = .returned (.bool (V2w n))/\w'=w:=by
 have hx:V2w n=(decide (-1000000000<=n)&&decide (n<=1000000000)):=rfl;have HX:=U0 hx;clear hx;go_enter func177,ntmps177;by_cases h1 : -1000000000<=n
 ·have d1:decide (n >= -1000000000)=true:=by simpa using h1
  by_cases h2:n<=1000000000
  ·have d2:decide (n<=1000000000)=true:=by simpa using h2
   go_wp2_with fail
   go_ret
   rw[HX.o];simp[h1,h2]
  have d2:decide (n<=1000000000)=false:=by simpa using h2
  go_wp2_with fail
  go_ret
  rw[HX.o];simp[h1,h2]
 have d1:decide (n >= -1000000000)=false:=by simpa using h1
 go_wp2_with fail
 go_ret
 rw[HX.o,show decide (-1000000000<=n)=false by simpa using h1];simp
def O6l(X:Option Int)(e:Ending):Prop:=match X with
 |none=>∃n:Int,e = .returned (.tuple #[n,.bool false])
 |some n=>e = .returned (.tuple #[n,.bool true])
theorem Oef(neg:Bool)(p:List UInt8)(h:¬ 12<(Vh p).length)(n:Int)(hn:n=if neg then -(V1g (Vh p):Int) else (V1g (Vh p):Int))(e:Ending)(he:e = .returned (.tuple #[n,.bool (V2w n)])):O6l (V4m neg p) e:=by
 unfold V4m;rw[Ud h];subst he;simp only[<-hn];cases hw:V2w n with
 |true=>rw[Ua rfl];rfl
 |false=>rw[Ud (by simp)];exact⟨n,rfl⟩
theorem Oh2(b0 b5 b6:Bool)(a1 a2 a3 a4:ByteArray)(hz:a4.size<=20000000)(hd:∀c∈bs a4,O2 c=true)(w:World) :
    Calls prog 175 #[.agg #[.bool b0,.string a1,.string a2,.string a3,.string a4,.bool b5,.bool b6]] w λ e w'=>O6l (V4m (decide (bs a3=[45])) (bs a4)) e/\Gr w w':=by
 obtain⟨T,hT⟩:∃T:ByteArray,⟨(Vh (bs a4)).toArray⟩=T:=⟨_,rfl⟩
 have j9:Vh (bs a4)=bs T:=by rw[<-hT,O1o]
 have HT:=U0 hT;have HB:=U0 j9;have HD:Hid (∀c∈bs T,O2 c=true):=U0 (λ c hc=>hd c (V73 _ _ (by rw[j9];exact hc)));clear hT j9 hd;go_enter func175,ntmps175;by_cases hl:12<T.size
 ·have d1:decide ((12:Int)<(T.size:Int))=true:=by simp;omega
  go_wp2_with (go_at_call 41;refine (Ob2 a4 T HT.o _).mono ?_;rintro e w1 ⟨rfl,rfl⟩);refine U1 (v := .tuple #[.int .i64 0,.bool false]) (by simp[results,results175,go_sem]) rfl ⟨?_,Gr.auto⟩;unfold V4m;rw[Ua (by rw[HB.o,O0];exact hl)];exact⟨0,rfl⟩
 have d1:decide ((12:Int)<(T.size:Int))=false:=by simp;omega
 have hv:V1g (bs T)<1*10 ^ 12:=U4 (V6l (bs T) 0 HD.o) (Nat.mul_le_mul_left _ (U3k (by omega) (by rw[O0];omega)));have fd:¬ 9223372036854775807<1+T.size:=by omega
 obtain⟨U,hU⟩:∃U:ByteArray,(⟨#[48]⟩:ByteArray)++T=U:=⟨_,rfl⟩
 have pC:bs U=48::bs T:=by rw[<-hU];simp[bs,U1n]
 have Bp:U.size<=18:=by rw[<-O0,pC,Ub,O0];omega
 obtain⟨m,hm⟩:=ExZ (V1g (bs T))
 have cY:Lib.atoi U.data.toList=some (m:Int):=by
  show Lib.atoi (bs U)=_;rw[pC,<-hm];exact V82 _ HD.o
 have HA:∀W,Calls prog 161 #[.string U] W λ e w'=>e = .returned (.tuple #[.int .i64 (m:Int),.nilIface])/\Gr W w':=λ W=>by
  refine (strconv_Atoi U (m:Int) Bp cY W).mono ?_;rintro e w' ⟨rfl,t,rfl⟩;exact⟨rfl,O11 W 5 t⟩
 have Gp:=U0 HA;rw[hm]at hv;have HM:=U0 hm;have lK:(m:Int)<1000000000000:=by omega
 have r9:(0:Int)<=(m:Int):=by omega
 have Sy : -(m:Int)<=9223372036854775807:=by omega
 have Sz : -9223372036854775808 <= -(m:Int):=by omega
 clear HA cY pC Bp hm hv;have HN:Hid (¬ 12<(Vh (bs a4)).length):=U0 (by rw[HB.o,O0];exact hl);go_wp2_with (go_at_call 41;refine (Ob2 a4 T HT.o _).mono ?_;rintro e w1 ⟨rfl,rfl⟩);refine (Gp.o _).mono ?_;rintro e w2 ⟨rfl,g2⟩;have hG:Gr w w2:=((Gr.refl w).alloc _).trans g2;have hc:w2.cell? ⟨w.heap.size,3,none⟩=some (.string a3):=(g2.use.1 _ _ (by simp)).trans (by simp);clear g2;by_cases h3:a3=⟨#[45]⟩
 ·subst h3;go_wp2_with fail;refine (O2y _ _).mono ?_;refine Z48 ?_;go_wp2_with fail;refine U1 (v := .tuple #[.int .i64 (-(m:Int)),.bool (V2w (-(m:Int)))]) (by simp[results,results175,go_sem]) rfl ⟨Oef _ _ HN.o _ ?_ _ rfl,hG⟩;rw[HB.o,HM.o];rfl
 have aO:¬bs a3=[45]:=λ h=>h3 (U1y (U21.1 h))
 have d3:(a3.toList==[45])=false:=by
  rw[Uz]
  simpa using aO
 have HZ:=U0 aO;clear aO h3;go_wp2_with fail;refine (O2y _ _).mono ?_;refine Z48 ?_;go_wp2_with fail;refine U1 (v := .tuple #[.int .i64 (m:Int),.bool (V2w (m:Int))]) (by simp[results,results175,go_sem]) rfl ⟨Oef _ _ HN.o _ ?_ _ rfl,hG⟩;rw[HB.o,HM.o,U3a HZ.o];rfl
def O4y(b:Bool)(l:List UInt8):Bool:=if Vk (Vh l)=[] then false else b
def O4z(l:List UInt8):List UInt8:=if Vk (Vh l)=[] then [48] else Vk (Vh l)
def O28(l:List UInt8)(e:Int):Int:=if Vk (Vh l)=[] then 0 else e+(Vh l).length-(Vk (Vh l)).length
theorem Oh3(b:Bool)(s:ByteArray)(n:Int)(hs:s.size<=20000000)(hn : -2000000000<=n/\n<=2000000000)(w:World) :
    Calls prog 176 #[.bool b,.string s,n] w λ e w'=>(∃d:ByteArray,e = .returned (.agg #[.bool (O4y b (bs s)),.string d,.int .i64 (O28 (bs s) n)])/\bs d=O4z (bs s))/\Gr w w':=by
 obtain⟨T,hT⟩:∃T:ByteArray,⟨(Vh (bs s)).toArray⟩=T:=⟨_,rfl⟩
 have j9:Vh (bs s)=bs T:=by rw[<-hT,O1o]
 have rg:T.size<=20000000:=by have:=V51 (bs s);rw[j9,O0,O0]at this;omega
 obtain⟨U,hU⟩:∃U:ByteArray,⟨(Vk (bs T)).toArray⟩=U:=⟨_,rfl⟩
 have Gq:Vk (bs T)=bs U:=by rw[<-hU,O1o]
 have Bp:U.size<=T.size:=by have:=V40 (bs T);rw[Gq,O0,O0]at this;omega
 have HT:=U0 hT;have HU:=U0 hU;have hb:Vk (Vh (bs s))=bs U:=by rw[j9,Gq]
 have Gs:=U0 j9;have HB:=U0 hb;clear hT hU j9 Gq hb;obtain⟨mY,nN⟩:=hn;have fZ:=Uk (n+(T.size:Int)) ⟨by omega,by omega⟩;have fh:=Uk (n+(T.size:Int)-(U.size:Int)) ⟨by omega,by omega⟩;go_enter func176,ntmps176;rcases O26 U with⟨e1,e2,e3⟩|⟨e1,e2,e3⟩
 ·have E:Hid (bs U=[]):=U0 (U2l.1 e3);clear e3;go_wp2_with (first|(go_at_call 41;refine (Ob2 s T HT.o _).mono ?_;rintro e w1 ⟨rfl,rfl⟩)|(go_at_call 164;refine (Obu T U rg HU.o _).mono ?_;rintro e w2 ⟨rfl,rfl⟩));refine U1 (v := .agg #[.bool false,.string ⟨#[48]⟩,(0:Int)]) (by simp[results,results176,go_sem]) rfl ⟨⟨⟨#[48]⟩,?_,?_⟩,?_⟩
  unfold O4y O28;rw[HB.o,Ua E.o,Ua E.o]
  ·unfold O4z;rw[HB.o,Ua E.o];try rfl
  exact J48
 have E:Hid (¬bs U=[]):=U0 (λ h=>by rw[h]at e3;cases e3);clear e3;go_wp2_with (first|(go_at_call 41;refine (Ob2 s T HT.o _).mono ?_;rintro e w1 ⟨rfl,rfl⟩)|(go_at_call 164;refine (Obu T U rg HU.o _).mono ?_;rintro e w2 ⟨rfl,rfl⟩));refine U1 (v := .agg #[.bool b,.string U,.int .i64 (n+(T.size:Int)-(U.size:Int))]) (by simp[results,results176,go_sem]) rfl ⟨⟨U,?_,?_⟩,?_⟩;unfold O4y O28;rw[HB.o,Ud E.o,Ud E.o,Gs.o,O0,O0];unfold O4z;rw[HB.o,Ud E.o]
 exact J48
theorem O4e(ds:ByteArray)(f:UInt8->Bool)(h:∀n:Fin 256,(bs ds).contains (UInt8.ofNat n.val)=f (UInt8.ofNat n.val)):(bs ds).contains=f:=by
 funext c
 exact J29
theorem Ofd:(bs ⟨#[45]⟩).contains=V2k:=O4e _ _ (by decide +kernel)
theorem Ojl:(bs ⟨#[46]⟩).contains=V2p:=O4e _ _ (by decide +kernel)
theorem Ofe:(bs ⟨#[101,69]⟩).contains=Vs:=O4e _ _ (by decide +kernel)
theorem Oh9:(bs ⟨#[43,45]⟩).contains=Vq:=O4e _ _ (by decide +kernel)
theorem O7f:(bs V31).contains=O2:=O4e _ _ (by decide +kernel)
theorem O50{b C cur W}(h:DsW b C cur W)(hs:cur.size<=20000000)(set:ByteArray)(many:Nat)(hm:many<=20000000)(p:UInt8->Bool)(hp:(bs set).contains=p) :
    Calls prog 214 #[.string set,many,.pointer (some ⟨b+1,0,none⟩)] W λ e W'=>∃out rest:ByteArray,e = .returned (.string out)/\Pl.tk p many (bs cur)=(bs out,bs rest)/\rest.size<=cur.size/\out.size<=cur.size/\DsW b C rest W'/\(∀w,Gr w W->w.heap.size<=b->Gr w W'):=by
 refine (Oma h hs set many hm _ rfl).mono ?_;rintro e W' ⟨rfl,hd,hg,_⟩;refine⟨_,_,rfl,?_,by simp,by first|(simp;done)|(simp;omega),hd,hg⟩;rw[hp];unfold Pl.tk;congr 1;simp only[bs,U27];simp
 exact (O3 cur _).symm
theorem DsW.facts{b:Nat}{v0 v1 v2 v3 v4 v5 v6:Value}{cur:ByteArray}{w:World}(h:DsW b #[v0,v1,v2,v3,v4,v5,v6] cur w) :
    w.cell? ⟨b,0,none⟩=some v0/\w.cell? ⟨b,1,none⟩=some v1/\w.cell? ⟨b,2,none⟩=some v2/\w.cell? ⟨b,3,none⟩=some v3/\w.cell? ⟨b,4,none⟩=some v4/\w.cell? ⟨b,5,none⟩=some v5/\w.cell? ⟨b,6,none⟩=some v6/\(∀o,w.frozen? ⟨b,o,none⟩=false)/\b<w.heap.size :=
 ⟨(h.cell 0).trans rfl,(h.cell 1).trans rfl,(h.cell 2).trans rfl,(h.cell 3).trans rfl,(h.cell 4).trans rfl,(h.cell 5).trans rfl,(h.cell 6).trans rfl,h.fz,h.lt.1⟩
theorem O2k(x:ByteArray):(x.toList=[]/\x.toList.isEmpty=true/\(bs x).isEmpty=true)\/(¬x.toList=[]/\x.toList.isEmpty=false/\(bs x).isEmpty=false):=by
 exact J144
namespace Pl
theorem Va4{N l o1 r1 o2 r2}(h1:tk V2k 1 l=(o1,r1))(h2:tk O2 N r1=(o2,r2))(h:o2=[]\/(1<o2.length/\o2[0]?=some 48)):V3t N l=none:=by
 unfold V3t;simp only[h1,h2];rw[Ua h]
theorem Va5{N l o1 r1 o2 r2 o3 r3 o4 r4 o5 r5 o6 r6 o7 r7}(h1:tk V2k 1 l=(o1,r1))(h2:tk O2 N r1=(o2,r2))(h:¬(o2=[]\/(1<o2.length/\o2[0]?=some 48)))(h3:tk V2p 1 r2=(o3,r3))
    (h4:(if o3.isEmpty then ([],r3) else tk O2 N r3)=(o4,r4))(h5:tk Vs 1 r4=(o5,r5))(h6:(if o5.isEmpty then ([],r5) else tk Vq 1 r5)=(o6,r6))(h7:(if o5.isEmpty then ([],r6) else tk O2 N r6)=(o7,r7)) :
    V3t N l=if r7.isEmpty&&(o3.isEmpty==o4.isEmpty)&&(o5.isEmpty==o7.isEmpty) then some ⟨!o1.isEmpty,o2,o4,o6,o7⟩ else none:=by
 unfold V3t;simp only[h1,h2];rw[Ud h];simp only[h3,h4,h5,h6,h7]
end Pl
theorem Onz(x:ByteArray):x.toList.isEmpty=(bs x).isEmpty:=by rw[Uz] <;> rfl
def O1s(N:Nat)(l:List UInt8)(e:Ending):Prop:=match V3t N l with
 |none=>∃(b0 b5 b6:Bool)(a1 a2 a3 a4:ByteArray),e = .returned (.tuple #[.agg #[.bool b0,.string a1,.string a2,.string a3,.string a4,.bool b5,.bool b6],.bool false])
 |some d=>∃(b5 b6:Bool)(a1 a2 a3 a4:ByteArray),e = .returned (.tuple #[.agg #[.bool d.minus,.string a1,.string a2,.string a3,.string a4,.bool b5,.bool b6],.bool true])/\bs a1=d.whole/\bs a2=d.part/\bs a3=d.sign/\bs a4=d.power
theorem Off{N l}(h:V3t N l=none)(b0 b5 b6:Bool)(a1 a2 a3 a4:ByteArray):O1s N l (.returned (.tuple #[.agg #[.bool b0,.string a1,.string a2,.string a3,.string a4,.bool b5,.bool b6],.bool false])):=by
 unfold O1s;rw[h];exact⟨b0,b5,b6,a1,a2,a3,a4,rfl⟩
theorem Oha{N l c m w2 x4 x6 x7}(h:V3t N l=if c=true then some ⟨m,w2,x4,x6,x7⟩ else none)(b0 b5 b6 k:Bool)(a1 a2 a3 a4:ByteArray)(hk:k=c)(h0:b0=m)(h1:bs a1=w2)(h2:bs a2=x4)(h3:bs a3=x6)(h4:bs a4=x7):O1s N l (.returned (.tuple #[.agg #[.bool b0,.string a1,.string a2,.string a3,.string a4,.bool b5,.bool b6],.bool k])):=by
 subst hk h0;unfold O1s;rw[h];cases k with
 |true=>exact⟨b5,b6,a1,a2,a3,a4,rfl,h1,h2,h3,h4⟩
 |false=>exact⟨_,b5,b6,a1,a2,a3,a4,rfl⟩
def SpS(b:Nat)(v0 v1 v2 v3 v4 v5 v6:Value)(cur:ByteArray)(w:World):Prop:=(w.cell? ⟨b,0,none⟩=some v0/\w.cell? ⟨b,1,none⟩=some v1/\w.cell? ⟨b,2,none⟩=some v2/\w.cell? ⟨b,3,none⟩=some v3/\w.cell? ⟨b,4,none⟩=some v4/\w.cell? ⟨b,5,none⟩=some v5/\w.cell? ⟨b,6,none⟩=some v6/\(∀o,w.frozen? ⟨b,o,none⟩=false)/\b<w.heap.size)/\w.cell? ⟨b+1,0,none⟩=some (.string cur)
theorem O1t{w wc:World}{x0 x1 x2 x3 x4 x5 x6:Value}{cur:ByteArray}(hD:DsW w.heap.size #[x0,x1,x2,x3,x4,x5,x6] cur wc)(hG:Gr w wc)(v0 v1 v2 v3 v4 v5 v6:Value) :
    ∃W,(((((((wc.setCell ⟨w.heap.size,0,none⟩ v0).setCell ⟨w.heap.size,1,none⟩ v1).setCell ⟨w.heap.size,2,none⟩ v2).setCell ⟨w.heap.size,3,none⟩ v3).setCell ⟨w.heap.size,4,none⟩ v4).setCell ⟨w.heap.size,5,none⟩ v5).setCell ⟨w.heap.size,6,none⟩ v6)=W/\DsW w.heap.size #[v0,v1,v2,v3,v4,v5,v6] cur W/\Gr w W :=
 ⟨_,rfl,((((((hD.set 0 v0).set 1 v1).set 2 v2).set 3 v3).set 4 v4).set 5 v5).set 6 v6,by (repeat refine Gr.setCell ?_ (by simp) _);exact hG⟩
theorem Ojm(s:ByteArray)(hs:s.size<=20000000)(w:World) :
    Calls prog 174 #[.string s] w λ e w'=>O1s s.size (bs s) e/\Gr w w':=by
 go_enter func174,ntmps174;go_wp2_with (go_at_call 200;refine (Ojk s _).mono ?_;rintro e w1 ⟨rfl,rfl⟩);have Lb:=DsW.new w s;have eR:Gr w ((w.alloc (.cells #[.bool false,.string ⟨#[]⟩,.string ⟨#[]⟩,.string ⟨#[]⟩,.string ⟨#[]⟩,.bool false,.bool false] 240)).alloc (.cells #[.string s] 9)):=((Gr.refl w).alloc _).alloc _;refine (O50 Lb (by omega) ⟨#[45]⟩ 1 (by omega) _ Ofd).mono ?_;rintro e W1 ⟨o1,r1,rfl,bx,ay,dL,uN,fO⟩;have cy:=fO w eR (U2 _);have K1:=U0 bx;clear fO bx eR Lb;obtain⟨k0,k1,k2,k3,k4,k5,k6,kf,kl⟩:=uN.facts;go_wp2_with fail;refine (O50 (uN.set 0 _) (by omega) V31 s.size (by omega) _ O7f).mono ?_;rintro e W2 ⟨o2,r2,rfl,cb,aJ,di,rv,cP⟩;have bC:=cP w (cy.setCell (by simp) _) (U2 _);have K2:=U0 cb;clear cP cb k0 k1 k2 k3 k4 k5 k6 kf kl;obtain⟨k0,k1,k2,k3,k4,k5,k6,kf,kl⟩:=rv.facts
 go_upto_region 4 with fail
 go_cut [34] (λ OM wx=>∃c:Bool,OM = .bool c/\(c=true ↔ (bs o2=[]\/(1<(bs o2).length/\(bs o2)[0]?=some 48)))/\DsW w.heap.size #[.bool (!o1.toList.isEmpty),.string o2,.string ⟨#[]⟩,.string ⟨#[]⟩,.string ⟨#[]⟩,.bool (false),.bool (false)] r2 wx/\Gr w wx)
 case first =>
  have oa:=rv.set 1 (.string o2);have cP:Gr w (W2.setCell ⟨w.heap.size,1,none⟩ (.string o2)):=bC.setCell (by simp) _;have HD:=U0 oa;have HG:=U0 cP;clear oa cP rv bC;rcases O2k o2 with⟨e1,e2,e3⟩|⟨e1,e2,e3⟩
  ·have E:=U0 e3;clear e3;go_wp2_with fail
   go_meet
   exact⟨true,rfl,⟨λ _ => .inl (U2l.1 E.o),λ _=>rfl⟩,HD.o,HG.o⟩
  have E:Hid (bs o2≠[]):=U0 (λ h=>by rw[h]at e3;cases e3);clear e3;have e0:0<o2.size:=by have h2:=U2b.2 E.o;rw[O0]at h2;exact h2
  have e4:(0:Int)<(o2.size:Int):=by omega
  by_cases hl:1<o2.size
  ·have d1:decide ((1:Int)<(o2.size:Int))=true:=by simp;omega
   have HL:=U0 hl;have dB:(bs o2)[0]?=some (o2[0]'e0):=by have h2:=O8 o2 0 e0;simp only[U1l]at h2;rw[h2];rfl
   have HI:=U0 dB;clear dB hl;cases hz:((o2[0]'e0).toNat==48) with
   |true =>
    have z1:(((o2[0]'e0).toNat:Int)==48)=true:=(V1o _ 48 _ hz).1;have HZ:=U0 hz;clear hz;go_wp2_with fail
    go_meet
    refine⟨true,rfl,⟨λ _ => .inr ⟨by rw[O0];exact HL.o,?_⟩,λ _=>rfl⟩,HD.o,HG.o⟩;rw[HI.o,Uc,<-U1b];simpa using HZ.o
   |false =>
    have z1:(((o2[0]'e0).toNat:Int)==48)=false:=(V1o _ 48 _ hz).1;have HZ:=U0 hz;clear hz;go_wp2_with fail
    go_meet
    refine⟨false,rfl,⟨λ h=>(by cases h),λ h=>?_⟩,HD.o,HG.o⟩;rcases h with h|⟨_,h⟩
    exact absurd h E.o
    rw[HI.o,Uc]at h;have h2:=HZ.o;rw[h]at h2;simp at h2
  have d1:decide ((1:Int)<(o2.size:Int))=false:=by simp;omega
  go_wp2_with fail
  go_meet
  refine⟨false,rfl,⟨λ h=>(by cases h),λ h=>?_⟩,HD.o,HG.o⟩;rcases h with h|⟨h,_⟩
  exact absurd h E.o
  rw[O0]at h;exact absurd h hl
 case rest =>
  obtain⟨c,rfl,hc,Gt,Gu⟩:=hcut;have HC:=U0 hc;clear hc rv bC k0 k1 k2 k3 k4 k5 k6 kf kl;obtain⟨k0,k1,k2,k3,k4,k5,k6,kf,kl⟩:=Gt.facts;cases c with
  |true =>
   go_wp2_with fail;refine U1 (v := .tuple #[.agg #[.bool (!o1.toList.isEmpty),.string o2,.string ⟨#[]⟩,.string ⟨#[]⟩,.string ⟨#[]⟩,.bool (false),.bool (false)],.bool false]) (by simp[results,results174,go_sem,k0,k1,k2,k3,k4,k5,k6,kf]) rfl ⟨Off (Va4 K1.o K2.o (HC.o.1 (by simp))) _ _ _ _ _ _ _,?_⟩
   (repeat refine Gr.setCell ?_ (by simp) _);exact Gu
  |false =>
   go_wp2_with fail;refine (O50 Gt (by omega) ⟨#[46]⟩ 1 (by omega) _ Ojl).mono ?_;rintro e W3 ⟨o3,r3,rfl,fw,iX,SA,E4,dQ⟩;have dh:=dQ w Gu (U2 _);have K3:=U0 fw;clear dQ fw k0 k1 k2 k3 k4 k5 k6 kf kl Gt Gu;obtain⟨k0,k1,k2,k3,k4,k5,k6,kf,kl⟩:=E4.facts
   go_upto_if 41 with fail
   go_cut [41] (λ SB wx=>∃o4 r4:ByteArray,(if (bs o3).isEmpty then ([],bs r3) else Pl.tk O2 s.size (bs r3))=(bs o4,bs r4)/\r4.size<=r3.size/\DsW w.heap.size #[.bool (!o1.toList.isEmpty),.string o2,.string o4,.string ⟨#[]⟩,.string ⟨#[]⟩,.bool (!o3.toList.isEmpty),.bool (false)] r4 wx/\Gr w wx)
   case first =>
    have rx:=E4.set 5 (.bool (!o3.toList.isEmpty));have dQ:Gr w (W3.setCell ⟨w.heap.size,5,none⟩ (.bool (!o3.toList.isEmpty))):=dh.setCell (by simp) _;clear E4 dh;generalize W3.setCell ⟨w.heap.size,5,none⟩ (.bool (!o3.toList.isEmpty))=Wx at rx dQ⊢;have HD:=U0 rx;have HG:=U0 dQ;rcases O2k o3 with⟨e1,e2,e3⟩|⟨e1,e2,e3⟩
    ·have E:=U0 e3;simp only[e2,Bool.not_true];clear e3 rx dQ;go_wp2_with fail
     go_meet
     exact⟨⟨#[]⟩,r3,by rw[E.o];rfl,U2 _,HD.o,HG.o⟩
    have E:=U0 e3;simp only[e2,Bool.not_false];clear e3 dQ;clear k0 k1 k2 k3 k4 k5 k6 kf kl;obtain⟨k0,k1,k2,k3,k4,k5,k6,kf,kl⟩:=rx.facts;clear rx;go_wp2_with fail;refine (O50 HD.o (by omega) V31 s.size (by omega) _ O7f).mono ?_;rintro e W4 ⟨o4,r4,rfl,mS,mX,SC,Gv,Lc⟩;have du:=Lc w HG.o (U2 _);have K4:=U0 mS;have ON:=U0 (Gv.set 2 (.string o4));have Gw:Hid (Gr w (W4.setCell ⟨w.heap.size,2,none⟩ (.string o4))):=U0 (du.setCell (by simp) _);clear Lc mS k0 k1 k2 k3 k4 k5 k6 kf kl;obtain⟨k0,k1,k2,k3,k4,k5,k6,kf,kl⟩:=Gv.facts;clear Gv du;go_wp2_with fail
    go_meet
    exact⟨o4,r4,by rw[E.o];exact K4.o,mX,ON.o,Gw.o⟩
   case rest =>
    obtain⟨o4,r4,mS,mX,zV,Ld⟩:=hcut;have K4:=U0 mS;clear mS E4 dh k0 k1 k2 k3 k4 k5 k6 kf kl;obtain⟨k0,k1,k2,k3,k4,k5,k6,kf,kl⟩:=zV.facts;go_wp2_with fail;refine (O50 zV (by omega) ⟨#[101,69]⟩ 1 (by omega) _ Ofe).mono ?_;rintro e W5 ⟨o5,r5,rfl,uO,uE,SD,E5,xr⟩;have dJ:=xr w Ld (U2 _);have K5:=U0 uO;clear xr uO k0 k1 k2 k3 k4 k5 k6 kf kl zV Ld;obtain⟨k0,k1,k2,k3,k4,k5,k6,kf,kl⟩:=E5.facts
    go_upto_if 52 with fail
    go_cut [52] (λ SE wx=>∃o6 r6 o7 r7:ByteArray,(if (bs o5).isEmpty then ([],bs r5) else Pl.tk Vq 1 (bs r5))=(bs o6,bs r6)/\(if (bs o5).isEmpty then ([],bs r6) else Pl.tk O2 s.size (bs r6))=(bs o7,bs r7)/\DsW w.heap.size #[.bool (!o1.toList.isEmpty),.string o2,.string o4,.string o6,.string o7,.bool (!o3.toList.isEmpty),.bool (!o5.toList.isEmpty)] r7 wx/\Gr w wx)
    case first =>
     have uP:=E5.set 6 (.bool (!o5.toList.isEmpty));have xr:Gr w (W5.setCell ⟨w.heap.size,6,none⟩ (.bool (!o5.toList.isEmpty))):=dJ.setCell (by simp) _;clear E5 dJ;generalize W5.setCell ⟨w.heap.size,6,none⟩ (.bool (!o5.toList.isEmpty))=Wx at uP xr⊢;have HD:=U0 uP;have HG:=U0 xr;rcases O2k o5 with⟨e1,e2,e3⟩|⟨e1,e2,e3⟩
     ·have E:=U0 e3;simp only[e2,Bool.not_true];clear e3 uP xr;go_wp2_with fail
      go_meet
      exact⟨⟨#[]⟩,r5,⟨#[]⟩,r5,by rw[E.o];rfl,by rw[E.o];rfl,HD.o,HG.o⟩
     have E:=U0 e3;simp only[e2,Bool.not_false];clear e3 xr;clear k0 k1 k2 k3 k4 k5 k6 kf kl;obtain⟨k0,k1,k2,k3,k4,k5,k6,kf,kl⟩:=uP.facts;clear uP;go_wp2_with fail;refine (O50 HD.o (by omega) ⟨#[43,45]⟩ 1 (by omega) _ Oh9).mono ?_;rintro e W6 ⟨o6,r6,rfl,zX,se,SF,Gx,E6⟩;have eN:=E6 w HG.o (U2 _);have K6:=U0 zX;have OO:=U0 (Gx.set 3 (.string o6));have xt:Hid (Gr w (W6.setCell ⟨w.heap.size,3,none⟩ (.string o6))):=U0 (eN.setCell (by simp) _);clear E6 zX k0 k1 k2 k3 k4 k5 k6 kf kl;obtain⟨k0,k1,k2,k3,k4,k5,k6,kf,kl⟩:=Gx.facts;clear Gx eN;go_wp2_with fail;refine (O50 OO.o (by omega) V31 s.size (by omega) _ O7f).mono ?_;rintro e W7 ⟨o7,r7,rfl,o8,kS,SG,Gy,mZ⟩;have nM:=mZ w xt.o (U2 _);have K7:=U0 o8;have OP:=U0 (Gy.set 4 (.string o7));have E7:Hid (Gr w (W7.setCell ⟨w.heap.size,4,none⟩ (.string o7))):=U0 (nM.setCell (by simp) _);clear mZ o8 k0 k1 k2 k3 k4 k5 k6 kf kl;obtain⟨k0,k1,k2,k3,k4,k5,k6,kf,kl⟩:=Gy.facts;clear Gy nM;go_wp2_with fail
     go_meet
     exact⟨o6,r6,o7,r7,by rw[E.o];exact K6.o,by rw[E.o];exact K7.o,OP.o,E7.o⟩
    case rest =>
     obtain⟨o6,r6,o7,r7,zX,o8,kA,pD⟩:=hcut;have K6:=U0 zX;have K7:=U0 o8;clear zX o8 E5 dJ k0 k1 k2 k3 k4 k5 k6 kf kl;have hX:=Va5 K1.o K2.o (λ h=>by have h2:=HC.o.2 h;simp at h2) K3.o K4.o K5.o K6.o K7.o;simp only[<-Onz]at hX;have HX:=U0 hX;clear hX;generalize aO:(!o3.toList.isEmpty)=b3 at kA⊢;generalize ie:(!o5.toList.isEmpty)=b5 at kA⊢;have ig:=U0 aO;have sR:=U0 ie;clear aO ie;have iY:=kA.cs;have eY:SpS w.heap.size (.bool (!o1.toList.isEmpty)) (.string o2) (.string o4) (.string o6) (.string o7) (.bool b3) (.bool b5) r7 wc.drew:=⟨kA.facts,iY⟩
     obtain⟨k0,k1,k2,k3,k4,k5,k6,kf,kl⟩:=kA.facts;go_wp2_with fail;refine Reg.begin' (W:=λ i=>i != 19) (S:=SpS w.heap.size (.bool (!o1.toList.isEmpty)) (.string o2) (.string o4) (.string o6) (.string o7) (.bool b3) (.bool b5) r7) (by kernel_rfl) ?_;refine Reg.tl 0 eY ?_ (hy:=by intro w ab;obtain⟨⟨q0,q1,q2,q3,q4,q5,q6,qf,ql⟩,qc⟩:=ab;go_simp;try with_reducible rfl);refine Reg.ty 1 ?_;refine Reg.on 2 ?_;go_simp;refine (Om8 r7 _ _ eY.2).mono ?_;refine Z48 ?_;refine⟨by first|exact eY|exact λ _=>eY|exact λ _ _=>eY,?_⟩;refine Reg.pt ?_;cases bR:r7.toList.isEmpty with
     |false =>
      refine Reg.ty 3 ?_;refine Reg.sk 4 ?_;refine Reg.sk 5 ?_;refine Reg.sk 6 ?_;refine Reg.sk 7 ?_;refine Reg.sk 8 ?_;refine Reg.sk 9 ?_;refine Z61 ?_;refine Z44 ?_;refine Z174 ?_;refine Reg.ty 20 ?_;refine Z12 ?_;go_wp2_with fail;obtain⟨Wf,fx,im,io⟩:=O1t kA pD (.bool (!o1.toList.isEmpty)) (.string o2) (.string o4) (.string o6) (.string o7) (.bool b3) (.bool b5);have HK:Hid (false=(r7.toList.isEmpty&&(o3.toList.isEmpty==o4.toList.isEmpty)&&(o5.toList.isEmpty==o7.toList.isEmpty))):=U0 (by rw[bR,U3o,U3o]);rw[fx];clear eY fx k0 k1 k2 k3 k4 k5 k6 kf kl;obtain⟨k0,k1,k2,k3,k4,k5,k6,kf,kl⟩:=im.facts;refine U1 (v := .tuple #[.agg #[.bool (!o1.toList.isEmpty),.string o2,.string o4,.string o6,.string o7,.bool b3,.bool b5],.bool false]) (by simp[results,results174,go_sem,k0,k1,k2,k3,k4,k5,k6,kf]) rfl ⟨?_,io.drew⟩;exact J50
     |true =>
      cases b3 with
      |false =>
       have H3:Hid (o3.toList.isEmpty=true):=U0 (by have:=ig.o;revert this;cases o3.toList.isEmpty <;> simp);rcases O2k o4 with⟨f1,f2,f3⟩|⟨f1,f2,f3⟩
       ·clear f3;refine Z24 ?_;cases b5 with
        |false =>
         have H5:Hid (o5.toList.isEmpty=true):=U0 (by have:=sR.o;revert this;cases o5.toList.isEmpty <;> simp);rcases O2k o7 with⟨g1,g2,g3⟩|⟨g1,g2,g3⟩
         ·clear g3;refine Z9 ?_;go_wp2_with fail;obtain⟨Wf,fx,im,io⟩:=O1t kA pD (.bool (!o1.toList.isEmpty)) (.string o2) (.string o4) (.string o6) (.string o7) (.bool false) (.bool false);refine Z97 ?_;intro HK;clear eY fx k0 k1 k2 k3 k4 k5 k6 kf kl;obtain⟨k0,k1,k2,k3,k4,k5,k6,kf,kl⟩:=im.facts;refine U1 (v := .tuple #[.agg #[.bool (!o1.toList.isEmpty),.string o2,.string o4,.string o6,.string o7,.bool false,.bool false],.bool true]) (by simp[results,results174,go_sem,k0,k1,k2,k3,k4,k5,k6,kf]) rfl ⟨?_,io.drew⟩;exact J50
         clear g3;refine Z9 ?_;go_wp2_with fail;obtain⟨Wf,fx,im,io⟩:=O1t kA pD (.bool (!o1.toList.isEmpty)) (.string o2) (.string o4) (.string o6) (.string o7) (.bool false) (.bool false);refine Z96 ?_;intro HK;clear eY fx k0 k1 k2 k3 k4 k5 k6 kf kl;obtain⟨k0,k1,k2,k3,k4,k5,k6,kf,kl⟩:=im.facts;refine U1 (v := .tuple #[.agg #[.bool (!o1.toList.isEmpty),.string o2,.string o4,.string o6,.string o7,.bool false,.bool false],.bool false]) (by simp[results,results174,go_sem,k0,k1,k2,k3,k4,k5,k6,kf]) rfl ⟨?_,io.drew⟩;exact J50
        |true =>
         have H5:Hid (o5.toList.isEmpty=false):=U0 (by have:=sR.o;revert this;cases o5.toList.isEmpty <;> simp);rcases O2k o7 with⟨g1,g2,g3⟩|⟨g1,g2,g3⟩
         ·clear g3;refine Z9 ?_;go_wp2_with fail;obtain⟨Wf,fx,im,io⟩:=O1t kA pD (.bool (!o1.toList.isEmpty)) (.string o2) (.string o4) (.string o6) (.string o7) (.bool false) (.bool true);refine Z96 ?_;intro HK;clear eY fx k0 k1 k2 k3 k4 k5 k6 kf kl;obtain⟨k0,k1,k2,k3,k4,k5,k6,kf,kl⟩:=im.facts;refine U1 (v := .tuple #[.agg #[.bool (!o1.toList.isEmpty),.string o2,.string o4,.string o6,.string o7,.bool false,.bool true],.bool false]) (by simp[results,results174,go_sem,k0,k1,k2,k3,k4,k5,k6,kf]) rfl ⟨?_,io.drew⟩;exact J50
         clear g3;refine Z9 ?_;go_wp2_with fail;obtain⟨Wf,fx,im,io⟩:=O1t kA pD (.bool (!o1.toList.isEmpty)) (.string o2) (.string o4) (.string o6) (.string o7) (.bool false) (.bool true);refine Z97 ?_;intro HK;clear eY fx k0 k1 k2 k3 k4 k5 k6 kf kl;obtain⟨k0,k1,k2,k3,k4,k5,k6,kf,kl⟩:=im.facts;refine U1 (v := .tuple #[.agg #[.bool (!o1.toList.isEmpty),.string o2,.string o4,.string o6,.string o7,.bool false,.bool true],.bool true]) (by simp[results,results174,go_sem,k0,k1,k2,k3,k4,k5,k6,kf]) rfl ⟨?_,io.drew⟩;exact J50
       clear f3;refine Z24 ?_;refine Z44 ?_;refine Z174 ?_;refine Reg.ty 20 ?_;refine Z12 ?_;go_wp2_with fail;obtain⟨Wf,fx,im,io⟩:=O1t kA pD (.bool (!o1.toList.isEmpty)) (.string o2) (.string o4) (.string o6) (.string o7) (.bool false) (.bool b5);refine Z216 ?_;intro HK;clear eY fx k0 k1 k2 k3 k4 k5 k6 kf kl;obtain⟨k0,k1,k2,k3,k4,k5,k6,kf,kl⟩:=im.facts;refine U1 (v := .tuple #[.agg #[.bool (!o1.toList.isEmpty),.string o2,.string o4,.string o6,.string o7,.bool false,.bool b5],.bool false]) (by simp[results,results174,go_sem,k0,k1,k2,k3,k4,k5,k6,kf]) rfl ⟨?_,io.drew⟩;exact J50
      |true =>
       have H3:Hid (o3.toList.isEmpty=false):=U0 (by have:=ig.o;revert this;cases o3.toList.isEmpty <;> simp);rcases O2k o4 with⟨f1,f2,f3⟩|⟨f1,f2,f3⟩
       ·clear f3;refine Z24 ?_;refine Z44 ?_;refine Z174 ?_;refine Reg.ty 20 ?_;refine Z12 ?_;go_wp2_with fail;obtain⟨Wf,fx,im,io⟩:=O1t kA pD (.bool (!o1.toList.isEmpty)) (.string o2) (.string o4) (.string o6) (.string o7) (.bool true) (.bool b5);refine Z216 ?_;intro HK;clear eY fx k0 k1 k2 k3 k4 k5 k6 kf kl;obtain⟨k0,k1,k2,k3,k4,k5,k6,kf,kl⟩:=im.facts;refine U1 (v := .tuple #[.agg #[.bool (!o1.toList.isEmpty),.string o2,.string o4,.string o6,.string o7,.bool true,.bool b5],.bool false]) (by simp[results,results174,go_sem,k0,k1,k2,k3,k4,k5,k6,kf]) rfl ⟨?_,io.drew⟩;exact J50
       clear f3;refine Z24 ?_;cases b5 with
       |false =>
        have H5:Hid (o5.toList.isEmpty=true):=U0 (by have:=sR.o;revert this;cases o5.toList.isEmpty <;> simp);rcases O2k o7 with⟨g1,g2,g3⟩|⟨g1,g2,g3⟩
        ·clear g3;refine Z9 ?_;go_wp2_with fail;obtain⟨Wf,fx,im,io⟩:=O1t kA pD (.bool (!o1.toList.isEmpty)) (.string o2) (.string o4) (.string o6) (.string o7) (.bool true) (.bool false);refine Z97 ?_;intro HK;clear eY fx k0 k1 k2 k3 k4 k5 k6 kf kl;obtain⟨k0,k1,k2,k3,k4,k5,k6,kf,kl⟩:=im.facts;refine U1 (v := .tuple #[.agg #[.bool (!o1.toList.isEmpty),.string o2,.string o4,.string o6,.string o7,.bool true,.bool false],.bool true]) (by simp[results,results174,go_sem,k0,k1,k2,k3,k4,k5,k6,kf]) rfl ⟨?_,io.drew⟩;exact J50
        clear g3;refine Z9 ?_;go_wp2_with fail;obtain⟨Wf,fx,im,io⟩:=O1t kA pD (.bool (!o1.toList.isEmpty)) (.string o2) (.string o4) (.string o6) (.string o7) (.bool true) (.bool false);refine Z96 ?_;intro HK;clear eY fx k0 k1 k2 k3 k4 k5 k6 kf kl;obtain⟨k0,k1,k2,k3,k4,k5,k6,kf,kl⟩:=im.facts;refine U1 (v := .tuple #[.agg #[.bool (!o1.toList.isEmpty),.string o2,.string o4,.string o6,.string o7,.bool true,.bool false],.bool false]) (by simp[results,results174,go_sem,k0,k1,k2,k3,k4,k5,k6,kf]) rfl ⟨?_,io.drew⟩;exact J50
       |true =>
        have H5:Hid (o5.toList.isEmpty=false):=U0 (by have:=sR.o;revert this;cases o5.toList.isEmpty <;> simp);rcases O2k o7 with⟨g1,g2,g3⟩|⟨g1,g2,g3⟩
        ·clear g3;refine Z9 ?_;go_wp2_with fail;obtain⟨Wf,fx,im,io⟩:=O1t kA pD (.bool (!o1.toList.isEmpty)) (.string o2) (.string o4) (.string o6) (.string o7) (.bool true) (.bool true);refine Z96 ?_;intro HK;clear eY fx k0 k1 k2 k3 k4 k5 k6 kf kl;obtain⟨k0,k1,k2,k3,k4,k5,k6,kf,kl⟩:=im.facts;refine U1 (v := .tuple #[.agg #[.bool (!o1.toList.isEmpty),.string o2,.string o4,.string o6,.string o7,.bool true,.bool true],.bool false]) (by simp[results,results174,go_sem,k0,k1,k2,k3,k4,k5,k6,kf]) rfl ⟨?_,io.drew⟩;exact J50
        clear g3;refine Z9 ?_;go_wp2_with fail;obtain⟨Wf,fx,im,io⟩:=O1t kA pD (.bool (!o1.toList.isEmpty)) (.string o2) (.string o4) (.string o6) (.string o7) (.bool true) (.bool true);refine Z97 ?_;intro HK;clear eY fx k0 k1 k2 k3 k4 k5 k6 kf kl;obtain⟨k0,k1,k2,k3,k4,k5,k6,kf,kl⟩:=im.facts;refine U1 (v := .tuple #[.agg #[.bool (!o1.toList.isEmpty),.string o2,.string o4,.string o6,.string o7,.bool true,.bool true],.bool true]) (by simp[results,results174,go_sem,k0,k1,k2,k3,k4,k5,k6,kf]) rfl ⟨?_,io.drew⟩;exact J50
end Go.Proofs.YtnkgknbdaiakgaaGreatDoor
namespace Go.Proofs.YtnkgknbdaiakgaaGreatDoor
open Pl Go.Proofs.Tryz Go.RowKit Go.Shelf Go.Joins
attribute [local go_sem] Uy
def V8b(a:Nat)(b:Bool)(d:ByteArray)(n:Int)(w:World):Prop:=w.cell? ⟨a,0,none⟩=some (.bool b)/\w.cell? ⟨a,1,none⟩=some (.string d)/\w.cell? ⟨a,2,none⟩=some (.int .i64 n)
theorem V8b.gr{a b d n w w'}(h:V8b a b d n w)(g:Gr w w'):V8b a b d n w':=by
 obtain⟨h0,h1,h2⟩:=h;exact⟨(g.use.1 _ _ (Lib.lt_of_cell h0)).trans h0,(g.use.1 _ _ (Lib.lt_of_cell h1)).trans h1,(g.use.1 _ _ (Lib.lt_of_cell h2)).trans h2⟩
def O6m(b:Bool)(l:List UInt8)(n:Int):List UInt8:=(if b then [45] else [])++l++[101]++Lib.itoa n
theorem Ojn(w:World):Calls prog 178 #[.agg #[.bool false,.string ⟨#[48]⟩,(0:Int)]] w λ e w'=>e = .returned (.string ⟨#[48]⟩)/\Gr w w':=by
 have q:∀W,(Go.binOp .eql 245 (.agg #[.bool false,.string ⟨#[48]⟩,(0:Int)]) (.agg #[.bool false,.string ⟨#[48]⟩,(0:Int)])).run prog W = .ok (.bool true) W:=λ _=>by kernel_rfl
 go_enter func178,ntmps178;go_wp2_with fail;exact U1 (v := .string ⟨#[48]⟩) (by simp[results,results178,go_sem]) rfl ⟨rfl,Gr.auto⟩
theorem Omb(b:Bool)(d:ByteArray)(n:Int)(h:¬bs d=[48])(W:World):(Go.binOp .eql 245 (.agg #[.bool b,.string d,n]) (.agg #[.bool false,.string ⟨#[48]⟩,(0:Int)])).run prog W = .ok (.bool false) W:=by
 have d3:(d.toList==[48])=false:=by
  rw[Uz]
  simpa using h
 cases b <;> go_simp
theorem Omc(b:Bool)(d:ByteArray)(n:Int)(hz:d.size<=20000000)(hd:¬bs d=[48])(iF : -9223372036854775808<=n)(mY:n<=9223372036854775807)(w:World)(hw:V3z w) :
    Calls prog 178 #[.agg #[.bool b,.string d,n]] w λ e w'=>(∃t:ByteArray,e = .returned (.string t)/\bs t=O6m b (bs d) n)/\Gr w w':=by
 have q:=λ W=>Omb b d n hd W
 have HW:=U0 hw;have HI:=U0 (λ W (hW:V3z W)=>strconv_Itoa n iF mY W hW.pow);obtain⟨I,hI⟩:∃I:ByteArray,(⟨(Lib.itoa n).toArray⟩:ByteArray)=I:=⟨_,rfl⟩
 have jP:bs I=Lib.itoa n:=by rw[<-hI,O1o]
 have SH:I.size<=21:=by rw[<-O0,jP];exact Lib.itoa_length_le n iF mY
 obtain⟨P,hP⟩:∃P:ByteArray,(⟨if b then #[45] else #[]⟩:ByteArray)++d=P:=⟨_,rfl⟩
 have Gz:bs P=(if b then [45] else [])++bs d:=by rw[<-hP];cases b <;> simp[bs,U1n]
 have OQ:P.size<=20000001:=by rw[<-O0,Gz,Ug,O0];cases b <;> simp <;> omega
 obtain⟨Q,hQ⟩:∃Q:ByteArray,P++(⟨#[101]⟩:ByteArray)=Q:=⟨_,rfl⟩
 have GA:bs Q=bs P++[101]:=by rw[<-hQ];simp[bs,U1n]
 have SI:Q.size<=20000002:=by rw[<-O0,GA,Ug,O0];simp;omega
 obtain⟨R,hR⟩:∃R:ByteArray,Q++I=R:=⟨_,rfl⟩
 have Gd:bs R=O6m b (bs d) n:=by
  have:bs R=bs Q++bs I:=by rw[<-hR];simp[bs,U1n]
  rw[this,GA,Gz,jP];rfl
 have HR:=U0 Gd;have ay:¬ 9223372036854775807<d.size:=by omega
 have aJ:¬ 9223372036854775807<1+d.size:=by omega
 have iX:¬ 9223372036854775807<P.size+1:=by omega
 have mX:¬ 9223372036854775807<Q.size+I.size:=by omega
 have uE:¬ 9223372036854775807<d.size+1:=by omega
 rw[hI]at HI;clear hw hd jP Gz GA Gd hI;go_enter func178,ntmps178;cases b with
 |true =>
  have SJ:(⟨#[45]⟩:ByteArray)++d=P:=hP;clear hP;go_wp2_with fail;have hS:V8b w.heap.size true d n (w.alloc (.cells #[.bool true,.string d,n] 245)).drew:=⟨(by show (w.alloc _).cell? _=_;simp),(by show (w.alloc _).cell? _=_;simp),(by show (w.alloc _).cell? _=_;simp)⟩
  have hG:Gr w (w.alloc (.cells #[.bool true,.string d,n] 245)).drew:=((Gr.refl w).alloc _).drew;refine Reg.begin' (W:=λ _=>true) (S:=V8b w.heap.size true d n) (by kernel_rfl) ?_;exact J134
 |false =>
  have OR:(⟨#[]⟩:ByteArray)++d=P:=hP;have OS:d=P:=by rw[<-OR];apply U1y;simp[U1n]
  subst OS;clear hP;go_wp2_with fail;have hS:V8b w.heap.size false d n (w.alloc (.cells #[.bool false,.string d,n] 245)).drew:=⟨(by show (w.alloc _).cell? _=_;simp),(by show (w.alloc _).cell? _=_;simp),(by show (w.alloc _).cell? _=_;simp)⟩
  have hG:Gr w (w.alloc (.cells #[.bool false,.string d,n] 245)).drew:=((Gr.refl w).alloc _).drew;refine Reg.begin' (W:=λ _=>true) (S:=V8b w.heap.size false d n) (by kernel_rfl) ?_;exact J134
end Go.Proofs.YtnkgknbdaiakgaaGreatDoor
namespace Go.Proofs.YtnkgknbdaiakgaaGreatDoor
open Pl Go.Proofs.Tryz Go.RowKit Go.Shelf Go.Joins
namespace Pl
theorem O3j(p:UInt8->Bool)(m:Nat)(l:Bs):(tk p m l).1.length+(tk p m l).2.length=l.length:=by
 unfold tk;simp only[U17,U3];have:=V72 p m l;omega
theorem V5l(p:UInt8->Bool):∀(l:Bs),∀c∈l.takeWhile p,p c=true:=by
 intro l
 induction l with
 |nil=>intro c hc;simp at hc
 |cons a l ih =>
  intro c hc;rw[Uo]at hc
  split at hc
  rename_i ha
  rcases U1k.1 hc with rfl|h
  exact ha
  exact ih c h
  simp at hc
theorem Oo0(p:UInt8->Bool)(m:Nat)(l:Bs):∀c∈(tk p m l).1,p c=true:=by
 intro c hc;have h1:(tk p m l).1=(l.takeWhile p).take (V43 p m l):=by
  unfold tk;simp only;have h2:V43 p m l<=(l.takeWhile p).length:=by unfold V43;omega
  have h3:=U2o.1 (U2y p (l:=l));obtain⟨n,hn⟩:=ExZ ((l.takeWhile p).length)
  rw[hn]at h2 h3;rw[h3,List.take_take,Nat.min_eq_left h2]
 rw[h1]at hc;exact V5l p l c (List.mem_of_mem_take hc)
theorem V7o(N:Nat)(l:Bs)(d:Dw)(h:V3t N l=some d):d.whole.length+d.part.length+d.power.length<=l.length/\(∀c∈d.power,O2 c=true):=by
 unfold V3t at h;simp only at h;simp only[Option.ite_none_left_eq_some,U35,Uc]at h;obtain⟨_,_,rfl⟩:=h;simp only;have t1:=O3j V2k 1 l;generalize tk V2k 1 l=a1 at *;have t2:=O3j O2 N a1.2;generalize tk O2 N a1.2=a2 at *;have t3:=O3j V2p 1 a2.2;generalize tk V2p 1 a2.2=a3 at *;have t4:∀b:Bool,(if b then ([],a3.2) else tk O2 N a3.2).1.length+(if b then ([],a3.2) else tk O2 N a3.2).2.length=a3.2.length:=by
  intro b;cases b
  exact O3j O2 N a3.2
  simp
 have t4:=t4 a3.1.isEmpty;generalize (if a3.1.isEmpty=true then ([],a3.2) else tk O2 N a3.2)=a4 at *;have t5:=O3j Vs 1 a4.2;generalize tk Vs 1 a4.2=a5 at *;have t6:∀b:Bool,(if b then ([],a5.2) else tk Vq 1 a5.2).1.length+(if b then ([],a5.2) else tk Vq 1 a5.2).2.length=a5.2.length:=by
  intro b;cases b
  exact O3j Vq 1 a5.2
  simp
 have t6:=t6 a5.1.isEmpty;generalize (if a5.1.isEmpty=true then ([],a5.2) else tk Vq 1 a5.2)=a6 at *;have t7:∀b:Bool,(if b then ([],a6.2) else tk O2 N a6.2).1.length+(if b then ([],a6.2) else tk O2 N a6.2).2.length=a6.2.length/\∀c∈(if b then ([],a6.2) else tk O2 N a6.2).1,O2 c=true:=by
  intro b;cases b
  exact⟨O3j O2 N a6.2,Oo0 O2 N a6.2⟩
  simp
 have t7:=t7 a5.1.isEmpty;refine⟨by omega,t7.2⟩
theorem O98(p:UInt8->Bool):∀(l:Bs)(c:UInt8)(t:Bs),l.dropWhile p=c::t->p c=false:=by
 intro l
 induction l with
 |nil=>intro c t h;simp at h
 |cons a l ih =>
  intro c t h;rw[U2c]at h
  split at h;exact ih c t h
  rename_i ha
  simp only[U1a]at h;rw[<-h.1];simpa using ha
theorem V83(neg:Bool)(p:Bs)(n:Int)(h:V4m neg p=some n) : -1000000000<=n/\n<=1000000000:=by
 unfold V4m at h;simp only[Option.ite_none_left_eq_some,U35,Uc]at h;obtain⟨_,h1,rfl⟩:=h;unfold V2w at h1
 simpa using h1
theorem V74(l:Bs):Vk l≠[48]:=by
 intro h;unfold Vk Lib.trimRightS at h;have h2:l.reverse.dropWhile (λ c=>([48]:Bs).contains c)=[48]:=by
  have:=U1q List.reverse h;exact J15
 have:=O98 _ _ _ _ h2;simp at this
end Pl
theorem O51{X:V2x Pl.Bs}{t:ByteArray}(h:X = .ok (bs t)):Ol X (.returned (.tuple #[.string t,(0:Int)])):=by
 rw[h];show _=_;have:(⟨(bs t).toArray⟩:ByteArray)=t:=U1y (by simp[bs]);rw[this]
end Go.Proofs.YtnkgknbdaiakgaaGreatDoor
namespace Go.Proofs.YtnkgknbdaiakgaaGreatDoor
open Pl Go.Proofs.Tryz Go.RowKit Go.Shelf Go.Joins
attribute [local go_sem] Uy
theorem O2a(s T:ByteArray)(hT:⟨(V34 (bs s)).toArray⟩=T)(w:World) :
    Calls prog 41 #[.string s,.string ⟨#[43,45]⟩] w λ e w'=>e = .returned (.string T)/\Gr w w':=by
 refine (Any.strings_TrimLeft_laid lays161 O4a s ⟨#[43,45]⟩ w (by decide) (ascii_of_all (by decide))).mono ?_;rintro e w' ⟨rfl,hb⟩;exact⟨by rw[<-hT];rfl,hb⟩
theorem Obv(s:ByteArray)(w:World)(t:ByteArray)(c:Int)(h:Calls prog 99 #[.string s] w λ e w'=>e = .returned (.tuple #[.string t,c])/\Gr w w') :
    Calls prog 141 #[.string s] w λ e w'=>e = .returned (.bool (c != 3))/\Gr w w':=by
 have H:=U0 h;clear h;go_enter func141,ntmps141;go_wp2_with (go_at_call 99;refine H.o.mono ?_;rintro e w1 ⟨rfl,g1⟩)
 go_ret
 exact⟨rfl,g1⟩
theorem Oh4(s:ByteArray)(hs:s.size<=20000000)(w:World)(hw:V3z w):Calls prog 141 #[.string s] w λ e w'=>e = .returned (.bool (V5p (bs s)))/\Gr w w':=by
 have h:=Oee s hs w hw;have hx:V5p (bs s)=(match V1d (bs s) with|.ok _=>true|.bad c _=>c != 3):=rfl;cases hr:V1d (bs s) with
 |ok x =>
  rw[hr]at h hx;have h2:Calls prog 99 #[.string s] w λ e w'=>e = .returned (.tuple #[.string ⟨x.toArray⟩,(0:Int)])/\Gr w w':=h
  have:=Obv s w _ 0 h2;rw[hx];exact this
 |bad c k =>
  rw[hr]at h hx;have h2:Calls prog 99 #[.string s] w λ e w'=>e = .returned (.tuple #[.string ⟨#[]⟩,.int .i64 (c:Int)])/\Gr w w':=h
  have:=Obv s w _ _ h2;rw[hx];refine this.mono ?_;rintro e w' ⟨rfl,g⟩;refine⟨?_,g⟩;congr 2;exact U2f.2 (by simp;omega)
theorem Odi(s:ByteArray)(hs:s.size<=20000000)(w:World):Calls prog 138 #[.string s] w λ e w'=>(∃t:ByteArray,e = .returned (.string t)/\bs t=V1p (bs s))/\Gr w w':=by
 obtain⟨T,hT⟩:∃T:ByteArray,⟨(V34 (bs s)).toArray⟩=T:=⟨_,rfl⟩
 have j9:V34 (bs s)=bs T:=by rw[<-hT,O1o]
 have HT:=U0 hT;have hF:V1p (bs s)=if bs T=V5z then (if 3<s.size/\(bs s)[0]?=some 45 then 45::V5z else V5z) else if bs T=V6o then V6o else []:=by unfold V1p;rw[j9,O0]
 have HF:=U0 hF;clear hT j9 hF;go_enter func138,ntmps138;by_cases h1:bs T=V5z
 ·have d1:(T.toList==[105,110,102])=true:=by rw[Uz];exact U1v.2 h1
  have H1:=U0 h1;clear h1;by_cases h3:3<s.size
  ·have d2:decide ((3:Int)<(s.size:Int))=true:=by simp;omega
   have e0:0<s.size:=by omega
   have e1:(0:Int)<(s.size:Int):=by omega
   have dB:(bs s)[0]?=some (s[0]'e0):=by have h2:=O8 s 0 e0;simp only[U1l]at h2;rw[h2];rfl
   have HI:=U0 dB;have H3:=U0 h3;clear dB h3;cases hz:((s[0]'e0).toNat==45) with
   |true =>
    have z1:(((s[0]'e0).toNat:Int)==45)=true:=(V1o _ 45 _ hz).1;have HZ:Hid ((bs s)[0]?=some 45):=U0 (by rw[HI.o,Uc,<-U1b];simpa using hz);clear hz;go_wp2_with (go_at_call 41;refine (O2a s T HT.o _).mono ?_;rintro e w1 ⟨rfl,g1⟩)
    go_ret
    exact⟨⟨_,rfl,by rw[HF.o,Ua H1.o,Ua ⟨H3.o,HZ.o⟩];rfl⟩,g1⟩
   |false =>
    have z1:(((s[0]'e0).toNat:Int)==45)=false:=(V1o _ 45 _ hz).1;have HZ:Hid (¬(bs s)[0]?=some 45):=U0 (λ h=>by rw[HI.o,Uc]at h;rw[h]at hz;simp at hz);clear hz;go_wp2_with (go_at_call 41;refine (O2a s T HT.o _).mono ?_;rintro e w1 ⟨rfl,g1⟩)
    go_ret
    exact⟨⟨_,rfl,by rw[HF.o,Ua H1.o,Ud (λ h=>HZ.o h.2)];rfl⟩,g1⟩
  have d2:decide ((3:Int)<(s.size:Int))=false:=by simp;omega
  have H3:=U0 h3;clear h3;go_wp2_with (go_at_call 41;refine (O2a s T HT.o _).mono ?_;rintro e w1 ⟨rfl,g1⟩)
  go_ret
  exact⟨⟨_,rfl,by rw[HF.o,Ua H1.o,Ud (λ h=>H3.o h.1)];rfl⟩,g1⟩
 have d1:(T.toList==[105,110,102])=false:=by rw[Uz];exact U2r.2 h1
 have H1:=U0 h1;clear h1;by_cases h2:bs T=V6o
 ·have d2:(T.toList==[110,97,110])=true:=by rw[Uz];exact U1v.2 h2
  have H2:=U0 h2;clear h2;go_wp2_with (go_at_call 41;refine (O2a s T HT.o _).mono ?_;rintro e w1 ⟨rfl,g1⟩)
  go_ret
  exact⟨⟨_,rfl,by rw[HF.o,Ud H1.o,Ua H2.o];rfl⟩,g1⟩
 have d2:(T.toList==[110,97,110])=false:=by rw[Uz];exact U2r.2 h2
 have H2:=U0 h2;clear h2;go_wp2_with (go_at_call 41;refine (O2a s T HT.o _).mono ?_;rintro e w1 ⟨rfl,g1⟩)
 go_ret
 exact⟨⟨_,rfl,by rw[HF.o,Ud H1.o,Ud H2.o];try rfl⟩,g1⟩
