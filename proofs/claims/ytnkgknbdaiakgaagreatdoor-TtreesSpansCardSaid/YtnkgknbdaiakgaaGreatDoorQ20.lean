/- The proof's part 20. -/
import Derived.Test.YtnkgknbdaiakgaaGreatDoorQ19
set_option maxHeartbeats 16000000
set_option linter.all false
set_option maxRecDepth 100000
namespace Go.Proofs.YtnkgknbdaiakgaaGreatDoor
open Pl Go.Proofs.Tryz Go.RowKit Go.Shelf Go.Joins
attribute [local go_sem] U22
theorem O1w(s:ByteArray)(n:Nat):bs (s.extract 0 n)=(bs s).take n:=by
 rw[Oax]
theorem Ogc(s:ByteArray)(a b:Nat):bs (s.extract a b)=((bs s).drop a).take (b-a):=by
 simp only[bs,U36]
theorem Ogd{a b:ByteArray}(h:bs a=bs b):a=b:=U30 (U2q.1 h)
theorem Ob1{l:List UInt8}(h:∀c∈l,c.toNat<128):∀(j:Nat) b,l[j]?=some b->b.toNat<128:=λ j b hj=>h b (U2p hj)
namespace Pl
theorem V74(c:UInt8):(bs V2y).contains c=O2 c:=by
 have h:∀n:Fin 256,(bs V2y).contains (UInt8.ofNat n.1)=O2 (UInt8.ofNat n.1):=Yd;have:=h ⟨c.toNat,UInt8.toNat_lt c⟩;exact J5
theorem V6e(p:UInt8->Bool)(l:Bs):l.take (l.length-(l.dropWhile p).length)=l.takeWhile p:=by
 have h:=U40 (p:=p) (l:=l);have h2:=U2w List.length h;rw[U1b]at h2;have h3:l.length-(l.dropWhile p).length=(l.takeWhile p).length:=Ya;rw[h3];exact (U3s.1 (U3y p)).symm
end Pl
theorem Oge(s:ByteArray)(hs:s.size<=20000000)(w:World):Calls prog 160 #[.string s] w λ e w'=>(∃t:ByteArray,e=.returned (.string t)/\bs t=(bs s).takeWhile O2/\t.size<=s.size)/\Gr w w':=by
 obtain⟨T,hT⟩:∃T:ByteArray,⟨(Lib.trimLeftS (bs s) (bs V2y)).toArray⟩=T:=⟨_,rfl⟩
 have jy:bs T=(bs s).dropWhile O2:=by
  rw[<-hT,O1o];unfold Lib.trimLeftS;congr 1
  funext c
  exact V74 c
 have dc:T.size<=s.size:=by rw[<-O0,jy,<-O0];exact (U39 _).length_le
 have hx:bs (s.extract 0 (s.size-T.size))=(bs s).takeWhile O2:=by
  rw[O1w,<-V6e,<-jy,O0,O0]
 have HX:=U10 hx;have HT:=U10 hT;have fD:IntKind.i64.wrap ((s.size:Int)-(T.size:Int))=((s.size-T.size:Nat):Int):=by rw[U1k _ ⟨Ya,Ya⟩];omega
 have e1:(0:Int)<=((s.size-T.size:Nat):Int):=Ya;have e2:((s.size-T.size:Nat):Int)<=(s.size:Int):=Ya;clear hT jy hx;go_enter func160,ntmps160;go_wp2_with (go_at_call 41;refine (Any.strings_TrimLeft_laid lays161 O48 s V2y _ Yd (ascii_of_all Yd)).mono ?_;rw[show (⟨(Lib.trimLeftS s.data.toList V2y.data.toList).toArray⟩:ByteArray)=T from HT.o];rintro e w1 ⟨rfl,g1⟩)
 go_ret
 exact⟨⟨_,rfl,HX.o,Yb⟩,g1⟩
theorem Ob2(s:ByteArray)(hs:s.size<=20000000)(w:World):Calls prog 126 #[.string s] w λ e w'=>(∃t p:ByteArray,e=.returned (.tuple #[.string t,.string p])/\Vl (bs s)=(bs t,bs p))/\Gr w w':=by
 cases hf:Vw (bs s) V4c with
 |false =>
  refine (Og3 s Ya hf w).mono ?_;rintro e w' ⟨rfl,g⟩;refine⟨⟨_,_,rfl,?_⟩,g⟩;unfold Vl;rw[hf];rfl
 |true =>
  have ap:8<=s.size:=by
   rcases Nat.lt_or_ge s.size 8 with h|h
   rw[V4d _ _ (by rw[O0];exact h)]at hf;cases hf
   exact h
  have HC:∀W,Calls prog 125 #[.string s,.string ⟨#[57,57,58,57,57,58,57,57]⟩] W λ e w'=>e=.returned (.string (s.extract 0 8))/\Gr W w':=λ W=>by
   refine (O65 s ⟨#[57,57,58,57,57,58,57,57]⟩ (O2f _ Yd) Ya W).mono ?_;rintro e w' ⟨rfl,g⟩;refine⟨?_,g⟩;rw[show Vw (bs s) (bs ⟨#[57,57,58,57,57,58,57,57]⟩)=true from hf,U1a rfl];rfl
  obtain⟨T,hT⟩:=ExZ (s.extract 0 8)
  have sw:T.size=8:=by rw[<-hT];simp;omega
  have pk:bs T=(bs s).take 8:=by rw[<-hT,O1w]
  refine Z229 ?_;intro mp GR;obtain⟨r,hr⟩:=ExZ (s.extract 8 s.size)
  have ib:bs r=(bs s).drop 8:=by rw[<-hr,O4]
  have pm:r.size=s.size-8:=by rw[<-hr];simp
  rw[hT]at HC;have HF:=U10 HC;have Im:(T.size:Int)=8:=Ya
  have k1:(0:Int)<=8:=Ya;have k2:(8:Int)<=(s.size:Int):=Ya
  cases hp:Pl.pre (bs r) [46] with
  |false =>
   have HP:=U10 hp;have hX:Hid (Vl (bs s)=(bs T,bs ⟨#[]⟩)):=U10 (by
    unfold Vl;rw[hf,U1a rfl,pk,<-ib];cases hz:bs r with
    |nil=>rfl
    |cons c l =>
     rw[hz]at hp;have:Vg V2m (c::l)=false:=by
      simp only[Pl.pre]at hp;simp only[Vg,V2m];simp at hp⊢
      first|exact hp|(intro e;exact hp (U2d.1 e))|omega
     rw[this];rfl)
   have HR:=U10 hr;clear HC hT pk hr ib hp hf;go_enter func126,ntmps126;go_wp2_with (go_at_call 125;refine (HF.o _).mono ?_;rintro e w1 ⟨rfl,g1⟩);rw[HR.o];refine (Om r ⟨#[46]⟩ false HP.o _).mono ?_;refine Z48 ?_;go_wp2_with fail
   go_ret2
   exact⟨⟨_,_,rfl,hX.o⟩,g1⟩
  |true =>
   have HP:=U10 hp;have aZ:1<=r.size:=by
    rcases Nat.eq_zero_or_pos r.size with h|h
    have:bs r=[]:=U31 (by rw[O0];exact h);rw[this]at hp;cases hp
    exact h
   obtain⟨r1,ug⟩:=ExZ (r.extract 1 r.size)
   have qB:bs r1=(bs s).drop 9:=by rw[<-ug,O4,ib,U2j]
   have hX:Hid (Vl (bs s)=(bs T,(bs r1).takeWhile O2)):=U10 (by
    unfold Vl;rw[hf,U1a rfl,pk,qB,<-ib];cases hz:bs r with
    |nil=>rw[hz]at hp;cases hp
    |cons c l =>
     rw[hz]at hp;have:Vg V2m (c::l)=true:=by
      simp only[Pl.pre]at hp;simp only[Vg,V2m];simp at hp⊢
      first|exact hp|(rw[hp];rfl)|(rw[<-hp];rfl)|omega
     rw[this];rfl)
   have HD:=U10 (Oge r1 (by rw[<-ug];simp;omega));have k3:(1:Int)<=(r.size:Int):=Ya;have HR:=U10 hr;have aN:=U10 ug;clear HC hT pk hr ib hp hf qB pm sw ug;go_enter func126,ntmps126;go_wp2_with (go_at_call 125;refine (HF.o _).mono ?_;rintro e w1 ⟨rfl,g1⟩);rw[HR.o];refine (Om r ⟨#[46]⟩ true HP.o _).mono ?_;refine Z48 ?_;go_wp2_with fail;rw[aN.o];refine (HD.o _).mono ?_;rintro e w3 ⟨⟨p,rfl,hp,Ur⟩,g3⟩;have mx:Vl (bs s)=(bs T,bs p):=by rw[hX.o,hp]
   clear hp;go_wp2_with fail
   go_ret2
   exact⟨⟨_,_,rfl,mx⟩,g1.trans g3⟩
theorem Ob3(t p:ByteArray)(ht:t.size<=20000000)(hp:p.size<=20000000)(w:World):Calls prog 127 #[.string t,.string p] w λ e w'=>e=.returned (.int .i64 (V2e (bs t) (bs p):Nat))/\w=w':=by
 rcases O25 p with⟨h1,h2,h3⟩|⟨h1,h2,h3⟩
 have HX:Hid (V2e (bs t) (bs p)=t.size):=U10 (by unfold V2e;rw[U1a (U3m.1 h3),O0]);exact J18
 have HX:Hid (V2e (bs t) (bs p)=t.size+1+p.size):=U10 (by unfold V2e;rw[U1c (λ e=>by rw[e]at h3;cases h3),O0,O0]);have w1:IntKind.i64.wrap ((t.size:Int)+1)=(t.size:Int)+1:=U1k _ ⟨Ya,Ya⟩;have w2:IntKind.i64.wrap ((t.size:Int)+1+(p.size:Int))=(t.size:Int)+1+(p.size:Int):=U1k _ ⟨Ya,Ya⟩;exact J18
theorem Olx(s:ByteArray)(hs:s.size<=20000000)(w:World):Calls prog 128 #[.string s] w λ e w'=>(∃z:ByteArray,e=.returned (.string z)/\bs z=V23 (bs s)/\z.size<=s.size)/\Gr w w':=by
 rcases O25 s with⟨h1,h2,h3⟩|⟨h1,h2,h3⟩
 have HX:Hid (V23 (bs s)=[]):=U10 (by rw[U3m.1 h3];rfl);exact J178
 refine Z217 ?_;intro e0 e1;have k1:(1:Int)<=(s.size:Int):=Ya;have hh:=O8 s 0 e0;simp only[U2b,U1v]at hh;have hZ:V23 (bs s)=if (s[0]'e0).toNat=90\/(s[0]'e0).toNat=122 then [s[0]'e0] else if Vq (s[0]'e0)&&Vw ((bs s).drop 1) V43 then (bs s).take 6 else []:=by
  conv=>lhs;rw[hh]
  unfold V23;simp only;rw[<-hh]
 have uh:bs (s.extract 0 1)=[s[0]'e0]:=by rw[O1w,hh];rfl
 have HZ:=U10 hZ;have vV:=U10 uh;cases hz:((s[0]'e0).toNat==90) with
 |true =>
  have z1:(((s[0]'e0).toNat:Int)==90)=true:=(V1u _ 90 _ hz).1;have HX:Hid (V23 (bs s)=bs (s.extract 0 1)):=U10 (by rw[HZ.o,vV.o,U1a (.inl (by simpa using hz))]);clear hz hh hZ uh h3;exact J175
 |false =>
  have z1:(((s[0]'e0).toNat:Int)==90)=false:=(V1u _ 90 _ hz).1;cases hy:((s[0]'e0).toNat==122) with
  |true =>
   have z2:(((s[0]'e0).toNat:Int)==122)=true:=(V1u _ 122 _ hy).1;have HX:Hid (V23 (bs s)=bs (s.extract 0 1)):=U10 (by rw[HZ.o,vV.o,U1a (.inr (by simpa using hy))]);clear hz hy hh hZ uh h3;exact J175
  |false =>
   have z2:(((s[0]'e0).toNat:Int)==122)=false:=(V1u _ 122 _ hy).1;have Mr:V23 (bs s)=if Vq (s[0]'e0)&&Vw ((bs s).drop 1) V43 then (bs s).take 6 else []:=by
    rw[HZ.o,U1c (by
     rintro (h|h);rw[h]at hz;cases hz
     rw[h]at hy;cases hy)]
   have tN:=U10 Mr;obtain⟨r,hr⟩:=ExZ (s.extract 1 s.size)
   have ib:bs r=(bs s).drop 1:=by rw[<-hr,O4]
   have pm:r.size=s.size-1:=by rw[<-hr];simp
   have HR:=U10 hr;have Fi:=U10 ib;have gy:((((s[0]'e0).toNat:Int)==43)=true/\Vq (s[0]'e0)=true)\/((((s[0]'e0).toNat:Int)==43)=false/\(((s[0]'e0).toNat:Int)==45)=true/\Vq (s[0]'e0)=true)\/((((s[0]'e0).toNat:Int)==43)=false/\(((s[0]'e0).toNat:Int)==45)=false/\Vq (s[0]'e0)=false):=by
    unfold Vq;cases nV:((s[0]'e0).toNat==43) with
    |true=>exact .inl ⟨(V1u _ 43 _ nV).1,rfl⟩
    |false =>
     cases Fj:((s[0]'e0).toNat==45) with
     |true=>exact .inr (.inl ⟨(V1u _ 43 _ nV).1,(V1u _ 45 _ Fj).1,rfl⟩)
     |false=>exact .inr (.inr ⟨(V1u _ 43 _ nV).1,(V1u _ 45 _ Fj).1,rfl⟩)
   clear hz hy hh hZ Mr uh h3 hr ib HZ vV;rcases gy with⟨q1,q3⟩|⟨q1,q2,q3⟩|⟨q1,q2,q3⟩
   case inr.inr =>
    have HX:Hid (V23 (bs s)=[]):=U10 (by rw[tN.o,q3];rfl);clear q3;exact J178
   all_goals
    have HF:Hid (∀W,Calls prog 125 #[.string r,.string ⟨#[57,57,58,57,57]⟩] W λ e w'=>e=.returned (.string (if Vw (bs r) V43=true then r.extract 0 5 else ⟨#[]⟩))/\Gr W w') :=
     U10 (λ W=>O65 r ⟨#[57,57,58,57,57]⟩ (O2f _ Yd) Ya W)
    cases hf:Vw (bs r) V43 with
    |true =>
     have ap:=V4d (bs r) V43;have h5:5<=r.size:=by
      rcases Nat.lt_or_ge r.size 5 with h|h
      rw[ap (by rw[O0];exact h)]at hf;cases hf
      exact h
     have k6:(6:Int)<=(s.size:Int):=Ya;have HX:Hid (V23 (bs s)=bs (s.extract 0 6)):=U10 (by rw[tN.o,q3,<-Fi.o,hf,O1w];rfl);rw[hf,U1a rfl]at HF;obtain⟨T,hT⟩:=ExZ (r.extract 0 5)
     have sw:T.size=5:=by rw[<-hT];simp;omega
     refine Z229 ?_;intro mp GR;rw[hT]at HF;clear ap hf hT sw q3;go_enter func128,ntmps128;go_wp2_with fail;rw[HR.o];refine (HF.o _).mono ?_;rintro e w1 ⟨rfl,g1⟩;go_wp2_with fail
     go_ret
     exact⟨⟨_,rfl,by (rw[HX.o];try rfl),by (simp;try omega)⟩,g1⟩
    |false =>
     have HX:Hid (V23 (bs s)=[]):=U10 (by rw[tN.o,<-Fi.o,hf,Bool.and_false];rfl);rw[hf,U1c Yb]at HF;clear hf q3;go_enter func128,ntmps128;go_wp2_with fail;rw[HR.o];refine (HF.o _).mono ?_;rintro e w1 ⟨rfl,g1⟩;go_wp2_with fail
     go_ret
     exact⟨⟨_,rfl,by (rw[HX.o];try rfl),U2u _⟩,g1⟩
namespace Pl
theorem V36(l m:Bs)(h:Vw l m=true):m.length<=l.length:=by
 by_cases hl:l.length<m.length;rw[V4d l m hl]at h;cases h
 omega
theorem V4j(l:Bs):V2e (Vl l).1 (Vl l).2<=l.length:=by
 unfold Vl;by_cases h:Vw l V4c=true
 rw[U1a h];have hl:=V36 _ _ h;have h8:V4c.length=8:=rfl;have ht:(l.take 8).length=8:=by rw[U26];omega
 unfold V2e;simp only;cases hd:Vg V2m (l.drop 8) with
 |false=>simp only[U23,U2f,U2o];omega
 |true =>
  simp only[U2o];have:=(List.takeWhile_sublist (l:=l.drop 9) O2).length_le;rw[U16]at this;cases hu:l.drop 8 with
  |nil=>rw[hu]at hd;cases hd
  |cons c v =>
   have h9:=U2w List.length hu;rw[U16]at h9;simp only[U1d]at h9;by_cases hp:List.takeWhile O2 (l.drop 9)=[];rw[U1a hp];omega
   rw[U1c hp];omega
 rw[U1c h];simp[V2e]
theorem Ogf(l:Bs):(V23 l).length<=l.length:=by
 exact J19
theorem V4z(l:Bs):(Vh l).long<=l.length:=by
 unfold Vh
 split
 rename_i h
 have hl:=V36 _ _ h;have da:V47.length=10:=rfl
 split
 rename_i ht
 have Fk:11<=l.length:=by
  cases hu:l.drop 10 with
  |nil=>rw[hu]at ht;cases ht
  |cons c v =>
   exact J20
 have hc:=V4j (l.drop 11);rw[U16]at hc;obtain⟨t,p,Ci⟩:∃t p,Vl (l.drop 11)=(t,p):=⟨_,_,rfl⟩
 rw[Ci]at hc⊢;simp only at hc⊢
 split;simp only;omega
 have hz:=Ogf (l.drop (10+(1+V2e t p)));rw[U16]at hz;simp only;omega
 simp only;omega
 exact V4j l
theorem V68(l:Bs):(Vl l).1.length<=l.length/\(Vl l).2.length<=l.length:=by
 have h:=V4j l;unfold V2e at h
 split at h;rename_i hp;rw[hp];exact⟨h,U2u _⟩
 omega
theorem V7q(l:Bs)(h:(Vl l).1=[]):(Vl l).2=[]:=by
 unfold Vl at h⊢
 split
 rename_i hf
 rw[U1a hf]at h;have h1:=V36 _ _ hf;have h8:V4c.length=8:=rfl;have h2:=U2w List.length h;simp only[U26,U1q]at h2;omega
 rfl
theorem V75:∀c:UInt8,(bs ⟨#[84,116,32]⟩).contains c=V48 c:=λ c=>by
 unfold V48;simp only[bs,List.contains_cons,List.contains_nil,Bool.or_false];have h:∀k:UInt8,(c==k)=(c.toNat==k.toNat):=λ k=>U3d.2 (by simp[U2d])
 rw[h,h,h,Bool.or_assoc];rfl
end Pl
theorem Oeq{x:ByteArray}(h:0<x.size):¬x.toList=[]/\x.toList.isEmpty=false/\(bs x).isEmpty=false:=by
 rcases O25 x with⟨h1,h2,h3⟩|h
 have:=O0 x;rw[U3m.1 h3]at this;simp at this;omega
 exact h
abbrev V4m(d t p z:ByteArray)(n:Int):Obj := .cells #[.string d,.string t,.string p,.string z,n] 177 (0,0)
abbrev V8x(d t p z:ByteArray)(n:Int):Value := .agg #[.string d,.string t,.string p,.string z,n]
theorem Oa{W:World}{h:Nat}{d t p z:ByteArray}{n:Int}(hb:W.heap[h]?=some (V4m d t p z n)):W.cell? h=some (.string d)/\W.cell? ⟨h,1,none⟩=some (.string t)/\W.cell? ⟨h,2,none⟩=some (.string p)/\W.cell? ⟨h,3,none⟩=some (.string z)/\W.cell? ⟨h,4,none⟩=some (.int .i64 n) /\(∀o,W.frozen? ⟨h,o,none⟩=false)/\h<W.heap.size :=
 ⟨by rw[cell_of_block hb];rfl,by rw[cell_of_block hb];rfl,by rw[cell_of_block hb];rfl,by rw[cell_of_block hb];rfl,by rw[cell_of_block hb];rfl,λ o=>unfrozen_of_block hb o,(U18.1 hb).1⟩
theorem O4c{W:World}{h:Nat}{d t p z:ByteArray}{n:Int}(hb:W.heap[h]?=some (V4m d t p z n))(v:ByteArray):(W.setCell h (.string v)).heap[h]?=some (V4m v t p z n):=by
 rw[block_setCell hb];rfl
theorem O4d{W:World}{h:Nat}{d t p z:ByteArray}{n:Int}(hb:W.heap[h]?=some (V4m d t p z n))(v:ByteArray):(W.setCell ⟨h,1,none⟩ (.string v)).heap[h]?=some (V4m d v p z n):=by
 rw[block_setCell hb];rfl
theorem O4e{W:World}{h:Nat}{d t p z:ByteArray}{n:Int}(hb:W.heap[h]?=some (V4m d t p z n))(v:ByteArray):(W.setCell ⟨h,2,none⟩ (.string v)).heap[h]?=some (V4m d t v z n):=by
 rw[block_setCell hb];rfl
theorem O7t{W:World}{h:Nat}{d t p z:ByteArray}{n:Int}(hb:W.heap[h]?=some (V4m d t p z n))(v:ByteArray):(W.setCell ⟨h,3,none⟩ (.string v)).heap[h]?=some (V4m d t p v n):=by
 rw[block_setCell hb];rfl
theorem O3n{W:World}{h:Nat}{d t p z:ByteArray}{n:Int}(hb:W.heap[h]?=some (V4m d t p z n))(v:Int):(W.setCell ⟨h,4,none⟩ v).heap[h]?=some (V4m d t p z v):=by
 rw[block_setCell hb];rfl
def Vbj(h:Nat)(d t p z:ByteArray)(n:Int)(W:World):Prop:=W.cell? h=some (.string d)/\W.cell? ⟨h,1,none⟩=some (.string t)/\W.cell? ⟨h,2,none⟩=some (.string p)/\W.cell? ⟨h,3,none⟩=some (.string z)/\W.cell? ⟨h,4,none⟩=some (.int .i64 n) /\
    (∀o,W.frozen? ⟨h,o,none⟩=false)/\h<W.heap.size
def O8q(m:Nat)(c:V8c)(e:Ending):Prop:=∃d t p z:ByteArray,e=.returned (V8x d t p z c.long)/\bs d=c.date/\bs t=c.time/\bs p=c.part/\bs z=c.zone/\d.size<=m/\t.size<=m/\p.size<=m/\z.size<=m
theorem O70{Q:Ending->World->Prop}{a:Act}{W:World}{h:Nat}{d t p z:ByteArray}{n:Int}(hs:a.tmps[2]?.getD undef=.pointer (some ⟨h,0,none⟩))(Qp:a.defers=[])(hb:W.heap[h]?=some (V4m d t p z n))(hQ:Q (.returned (V8x d t p z n)) W):bodyPost prog f97 Q Exit.ret a W:=by
 obtain⟨p0,p1,p2,p3,p4,pf,hz⟩:=Oa hb;exact U11 (v:=V8x d t p z n) (by simp[results,results97,go_sem,hs,p0,p1,p2,p3,p4,pf,hz]) Qp hQ
theorem Od1(s:ByteArray)(hs:s.size<=20000000)(hd:Vw (bs s) V47=false)(w:World):Calls prog 97 #[.string s] w λ e w'=>O8q s.size (Vh (bs s)) e/\Gr w w':=by
 have hX:Vh (bs s)=⟨[],(Vl (bs s)).1,(Vl (bs s)).2,[],V2e (Vl (bs s)).1 (Vl (bs s)).2⟩:=by unfold Vh;rw[hd];rfl
 have dc:=V68 (bs s);rw[O0]at dc;have HX:=U10 hX;have HD:=U10 hd;have HS:=U10 dc;clear hd hX dc;go_enter func97,ntmps97;go_wp2_with fail;refine (O7p s ⟨#[57,57,57,57,45,57,57,45,57,57]⟩ (O2f _ Yd) Ya HD.o _).mono ?_;rintro e w1 ⟨rfl,g1⟩;have bJ:w1.heap[w.heap.size]?=some (V4m ⟨#[]⟩ ⟨#[]⟩ ⟨#[]⟩ ⟨#[]⟩ 0):=(g1.block Yb).trans (U1w w _);obtain⟨p0,p1,p2,p3,p4,pf,az⟩:=Oa bJ;go_wp2_with fail;refine (Ob2 s hs _).mono ?_;rintro e w2 ⟨⟨t,p,rfl,hc⟩,g2⟩;rw[hc]at HX HS;obtain⟨st,sp⟩:=HS.o;simp only[O0]at st sp;clear hc HS;have aA:w2.heap[w.heap.size]?=some (V4m ⟨#[]⟩ ⟨#[]⟩ ⟨#[]⟩ ⟨#[]⟩ 0):=(g2.block (by simpa using az)).trans (O4c bJ _);clear p0 p1 p2 p3 p4 pf;obtain⟨p0,p1,p2,p3,p4,pf,aM⟩:=Oa aA;go_wp2_with fail;refine (Ob3 t p Ya Ya _).mono ?_;refine Z48 ?_;have aV:=O4e (O4d aA t) p;obtain⟨W3,bH⟩:=ExZ ((w2.setCell ⟨w,1,none⟩ (.string t)).setCell ⟨w,2,none⟩ (.string p))
 have g3:Gr w W3:=by rw[<-bH];exact ((((((Gr.refl w).alloc _).trans g1).setCell Yb _).trans g2).setCell Yb _).setCell Yb _
 rw[bH]at aV⊢;clear bH p0 p1 p2 p3 p4 pf;obtain⟨p0,p1,p2,p3,p4,pf,iW⟩:=Oa aV;go_wp2_with fail;exact U11 (v:=V8x ⟨#[]⟩ t p ⟨#[]⟩ (V2e (bs t) (bs p):Nat)) (by simp[results,results97,go_sem,p0,p1,p2,p3,p4,pf,iW]) rfl ⟨⟨⟨#[]⟩,t,p,⟨#[]⟩,by (rw[HX.o];try rfl),by (rw[HX.o];try rfl),by (rw[HX.o];try rfl),by (rw[HX.o];try rfl),by (rw[HX.o];try rfl),U2u _,st,sp,U2u _⟩,by (repeat refine Gr.setCell ?_ (U12 _) _);exact g3⟩
theorem Ob4(s:ByteArray)(hs:s.size<=20000000)(hd:Vw (bs s) V47=true)(w:World):Calls prog 97 #[.string s] w λ e w'=>O8q s.size (Vh (bs s)) e/\Gr w w':=by
 have ap:=V36 _ _ hd;rw[O0,show V47.length=10 from rfl]at ap;obtain⟨D,hD⟩:=ExZ (s.extract 0 10)
 have qv:D.size=10:=by rw[<-hD];simp;omega
 have AK:bs D=(bs s).take 10:=by rw[<-hD,O1w]
 obtain⟨n1,n2,n3⟩:=Oeq (x:=D) Ya;have HF:Hid (∀W,Calls prog 125 #[.string s,.string ⟨#[57,57,57,57,45,57,57,45,57,57]⟩] W λ e w'=>e=.returned (.string D)/\Gr W w'):=U10 (λ W=>by
  refine (O65 s ⟨#[57,57,57,57,45,57,57,45,57,57]⟩ (O2f _ Yd) Ya W).mono ?_;rintro e w' ⟨rfl,g⟩;refine⟨?_,g⟩;rw[show Vw (bs s) (bs ⟨#[57,57,57,57,45,57,57,45,57,57]⟩)=true from hd,U1a rfl,<-hD];rfl)
 obtain⟨r,hr⟩:=ExZ (s.extract 10 s.size)
 have ib:bs r=(bs s).drop 10:=by rw[<-hr,O4]
 have pm:r.size=s.size-10:=by rw[<-hr];simp
 have hX:Vh (bs s)=if Vg V48 (bs r) then
     (if (Vl ((bs s).drop 11)).1=[] then ⟨bs D,[],[],[],10⟩ else
      ⟨bs D,(Vl ((bs s).drop 11)).1,(Vl ((bs s).drop 11)).2,V23 ((bs s).drop (10+(1+V2e (Vl ((bs s).drop 11)).1 (Vl ((bs s).drop 11)).2))),10+(1+V2e (Vl ((bs s).drop 11)).1 (Vl ((bs s).drop 11)).2)+(V23 ((bs s).drop (10+(1+V2e (Vl ((bs s).drop 11)).1 (Vl ((bs s).drop 11)).2)))).length⟩)
     else ⟨bs D,[],[],[],10⟩:=by
  unfold Vh;rw[U1a hd,ib,AK]
 have Us:(D.size:Int)=10:=Ya;have k1:(10:Int)<=(s.size:Int):=Ya;have HX:=U10 hX;have HR:=U10 hr;have Fi:=U10 ib;have GX:=U10 (show D.size<=s.size by omega);clear hX hr ib hD AK hd n3 qv;go_enter func97,ntmps97;go_wp2_with fail;refine (HF.o _).mono ?_;rintro e w1 ⟨rfl,g1⟩;have bJ:w1.heap[w.heap.size]?=some (V4m ⟨#[]⟩ ⟨#[]⟩ ⟨#[]⟩ ⟨#[]⟩ 0):=(g1.block Yb).trans (U1w w _);obtain⟨p0,p1,p2,p3,p4,pf,az⟩:=Oa bJ;have cB:Gr w w1:=((Gr.refl w).alloc _).trans g1;clear g1;have gy:(r.toList=[]/\r.toList.isEmpty=true/\Vg V48 (bs r)=false)\/(∃e0:0<r.size,(¬r.toList=[]/\r.toList.isEmpty=false/\(0:Int)<(r.size:Int))/\V48 (r[0]'e0)=Vg V48 (bs r)):=by
  rcases O25 r with⟨h1,h2,h3⟩|⟨h1,h2,h3⟩
  left;exact⟨h1,h2,by rw[U3m.1 h3];rfl⟩
  right;have e0:0<r.size:=by
   rcases Nat.eq_zero_or_pos r.size with h|h
   exfalso;apply h1;rw[U21];exact U31 (by have:=O0 r;unfold bs at this;omega)
   exact h
  refine⟨e0,⟨h1,h2,Ya⟩,?_⟩;have hh:=O8 r 0 e0;simp only[U2b]at hh;rw[hh];rfl
 rcases gy with⟨q1,q2,q3⟩|⟨e0,⟨q1,q2,q4⟩,q3⟩
 ·have HY:Hid (Vh (bs s)=⟨bs D,[],[],[],10⟩):=U10 (by rw[HX.o,q3];rfl);clear q3;have Qq:=HR.o;go_wp2_with fail;exact J21
 have Qq:=HR.o;cases nZ:V48 (r[0]'e0) with
 |false =>
  have HY:Hid (Vh (bs s)=⟨bs D,[],[],[],10⟩):=U10 (by rw[HX.o,<-q3,nZ];rfl);have HC:Hid ((bs ⟨#[84,116,32]⟩).contains (r[0]'e0)=false):=U10 (by rw[V75];exact nZ);clear q3 nZ;go_wp2_with (go_at_call 85;refine (O_s ⟨#[84,116,32]⟩ _ false HC.o _).mono ?_;rintro e w3 ⟨⟨i,rfl,hi⟩,rfl⟩;have fh:decide (i<0)=true:=(by simp at hi⊢;omega);clear hi);exact J21
 |true =>
  have HC:Hid ((bs ⟨#[84,116,32]⟩).contains (r[0]'e0)=true):=U10 (by rw[V75];exact nZ);rw[<-q3,nZ,U1a rfl]at HX;obtain⟨r1,aZ⟩:=ExZ (r.extract 1 r.size)
  have qB:bs r1=(bs s).drop 11:=by rw[<-aZ,O4,Fi.o,U2j]
  have yE:r1.size=s.size-11:=by rw[<-aZ];simp;omega
  rw[<-qB]at HX;have dc:=V68 (bs r1);have eY:=V4j (bs r1);have Cl:=V7q (bs r1);rw[O0]at dc eY;have Qr:=U10 pm;have Cm:=U10 yE;have HS:=U10 dc;have fN:=U10 eY;have ui:=U10 Cl;have k2:(1:Int)<=(r.size:Int):=Ya
  have aA:=O3n (O4c bJ D) 10;clear q3 nZ qB dc eY Cl pm yE;go_wp2_with (go_at_call 85;refine (O_s ⟨#[84,116,32]⟩ _ true HC.o _).mono ?_;rintro e w3 ⟨⟨i,rfl,hi⟩,rfl⟩;have fh:decide (i<0)=false:=(by simp at hi⊢;omega);clear hi)
  try rw[aZ]
  obtain⟨W2,dy⟩:=ExZ ((w1.setCell w (.string D)).setCell ⟨w,4,none⟩ (10:Int))
  have bM:Gr w W2:=by rw[<-dy];exact (cB.setCell (U12 _) _).setCell (U12 _) _
  have aM:w.heap.size<W2.heap.size:=by rw[<-dy];simpa using az
  rw[dy]at aA⊢;clear dy bJ cB p0 p1 p2 p3 p4 pf az;refine (Ob2 r1 (by have:=Cm.o;omega) _).mono ?_;rintro e w3 ⟨⟨t,p,rfl,hc⟩,g3⟩;rw[hc]at HX HS fN ui;simp only at HX HS fN ui;have aV:=(g3.block aM).trans aA;have dj:=bM.trans g3;obtain⟨st,sp⟩:=HS.o;simp only[O0]at st sp;have yE:=Cm.o;clear g3 bM aA hc HS aM;obtain⟨p0,p1,p2,p3,p4,pf,iW⟩:=Oa aV;have dE:=O4e (O4d aV t) p;have dw:Gr w ((w3.setCell ⟨w,1,none⟩ (.string t)).setCell ⟨w,2,none⟩ (.string p)):=(dj.setCell (U12 _) _).setCell (U12 _) _;rcases O25 t with⟨t1,t2,t3⟩|⟨t1,t2,t3⟩
  ·have AL:bs t=[]:=U3m.1 t3;have Ar:p=⟨#[]⟩:=Ogd (ui.o AL);have In:t=⟨#[]⟩:=Ogd AL;rw[U1a AL]at HX;subst Ar In;clear t1 t2 t3 AL ui;go_wp2_with fail;exact O70 (d:=D) (t:=⟨#[]⟩) (p:=⟨#[]⟩) (z:=⟨#[]⟩) (n:=10) rfl rfl (O3n (O7t (O4e (O4d (O4c (O4e (O4d aV _) _) _) _) _) _) _) ⟨⟨D,⟨#[]⟩,⟨#[]⟩,⟨#[]⟩,by (rw[HX.o];try rfl),by (rw[HX.o];try rfl),by (rw[HX.o];try rfl),by (rw[HX.o];try rfl),by (rw[HX.o];try rfl),GX.o,U2u _,U2u _,U2u _⟩,by (repeat refine Gr.setCell ?_ (U12 _) _);exact dj⟩
  rw[U1c (λ e=>by rw[e]at t3;cases t3)]at HX;obtain⟨af,Io⟩:=ExZ (V2e (bs t) (bs p))
  rw[Io]at HX fN;have eY:=fN.o;have Ms:=U10 (Ob3 t p Ya Ya);rw[Io]at Ms;have e1:IntKind.i64.wrap (1+(af:Int))=1+(af:Int):=U1k _ ⟨Ya,Ya⟩;have e2:IntKind.i64.wrap (10+(1+(af:Int)))=10+(1+(af:Int)):=U1k _ ⟨Ya,Ya⟩;clear t3 Io;go_wp2_with fail;obtain⟨W4,j9⟩:=ExZ (((w3.setCell ⟨w,1,none⟩ (.string t)).setCell ⟨w,2,none⟩ (.string p)))
  have dw:Gr w W4:=by rw[<-j9];exact dw
  have dE:W4.heap[w.heap.size]?=some (V4m D t p ⟨#[]⟩ 10):=by rw[<-j9];exact dE
  have hS:Vbj w.heap.size D t p ⟨#[]⟩ 10 W4.drew:=Oa (show W4.drew.heap[w.heap.size]?=_ from dE);rw[j9];clear j9 p0 p1 p2 p3 p4 pf iW aV dj;refine Reg.begin' (W:=λ i=>i != 10) (S:=Vbj w.heap.size D t p ⟨#[]⟩ 10) Yc ?_;refine Reg.ty 0 ?_;refine Reg.ty 2 ?_;refine Reg.ty 4 ?_;refine Reg.tl 1 hS ?_ (hy:=by intro w ab;obtain⟨p0,p1,p2,p3,p4,pf,hz⟩:=ab;go_simp;try with_reducible rfl);refine Reg.tl 3 hS ?_ (hy:=by intro w ab;obtain⟨p0,p1,p2,p3,p4,pf,hz⟩:=ab;go_simp;try with_reducible rfl);refine Reg.tl 5 hS ?_ (hy:=by intro w ab;obtain⟨p0,p1,p2,p3,p4,pf,hz⟩:=ab;go_simp;try with_reducible rfl);refine Reg.on 6 ?_;go_simp;refine (Ms.o _).mono ?_;refine Z27 ?_;refine Z59 ?_;obtain⟨p0,p1,p2,p3,p4,pf,hz⟩:=hS;refine Reg.on 10 ?_;go_simp;refine Z12 ?_;have iq:((W4.setCell ⟨w,4,none⟩ (.int .i64 (10+(1+(af:Int))))).drew).heap[w.heap.size]?=some (V4m D t p ⟨#[]⟩ (10+(1+(af:Int)))):=O3n dE (10+(1+(af:Int)));obtain⟨W5,fw⟩:=ExZ ((W4.setCell ⟨w,4,none⟩ (.int .i64 (10+(1+(af:Int))))).drew)
  have dN:Gr w W5:=by rw[<-fw];exact (dw.setCell (U12 _) _).drew
  rw[fw]at iq⊢;clear fw dw dE p0 p1 p2 p3 p4 pf hz e1 e2;obtain⟨p0,p1,p2,p3,p4,pf,vJ⟩:=Oa iq;have k3:(0:Int)<=10+(1+(af:Int)):=Ya
  have k4:10+(1+(af:Int))<=(s.size:Int):=by have:=Qr.o;omega
  have k5:(10+(1+(af:Int))).toNat=10+(1+af):=Ya;obtain⟨x,hx⟩:=ExZ (s.extract (10+(1+af)) s.size)
  have Mt:bs x=(bs s).drop (10+(1+af)):=by rw[<-hx,O4]
  have AI:x.size=s.size-(10+(1+af)):=by rw[<-hx];simp
  have bY:=U10 hx;have Qs:=U10 Mt;have Mu:=U10 AI;clear hx Mt AI;go_wp2_with fail;rw[bY.o];refine (Olx x (by have:=Mu.o;omega) _).mono ?_;rintro e w6 ⟨⟨z,rfl,hz,Cn⟩,g6⟩;rw[<-Qs.o,<-hz,O0]at HX;have iR:z.size<=s.size-(10+(1+af)):=by have:=Mu.o;omega
  have jm:=(g6.block vJ).trans iq;have eR:=dN.trans g6;clear g6 dN iq hz Cn p0 p1 p2 p3 p4 pf vJ;obtain⟨p0,p1,p2,p3,p4,pf,tA⟩:=Oa jm;have e3:IntKind.i64.wrap (10+(1+(af:Int))+(z.size:Int))=10+(1+(af:Int))+(z.size:Int):=U1k _ ⟨Ya,Ya⟩;go_wp2_with fail;exact O70 (d:=D) (t:=t) (p:=p) (z:=z) (n:=10+(1+(af:Int))+(z.size:Int)) rfl rfl (O3n (O7t (O4e (O4d (O4c (O3n (O7t jm _) _) _) _) _) _) _) ⟨⟨D,t,p,z,by (rw[HX.o];try rfl),by (rw[HX.o];try rfl),by (rw[HX.o];try rfl),by (rw[HX.o];try rfl),by (rw[HX.o];try rfl),GX.o,Ya,Ya,Ya⟩,by (repeat refine Gr.setCell ?_ (U12 _) _);exact eR⟩
theorem Ob5(s:ByteArray)(hs:s.size<=20000000)(w:World):Calls prog 97 #[.string s] w λ e w'=>O8q s.size (Vh (bs s)) e/\Gr w w':=by
 cases hd:Vw (bs s) V47 with
 |false=>exact Od1 s hs hd w
 |true=>exact Ob4 s hs hd w
namespace Pl
theorem V8n(c:UInt8)(l:Bs)(h:∀d∈c::l,O2 d=true):Lib.atoi (c::l)=some (V1j (c::l):Int):=by
 have hc:=h c Yb;simp only[O2,U1h,U1x]at hc;have Fj:(c==45)=false:=by
  cases hx:c==45 with
  |false=>rfl
  |true=>rw[U2z]at hx;subst hx;simp at hc
 have nV:(c==43)=false:=by
  cases hx:c==43 with
  |false=>rfl
  |true=>rw[U2z]at hx;subst hx;simp at hc
 simp only[Lib.atoi,Fj,nV,U23,U2f];unfold Lib.decNat;rw[U1c Yb,O6o _ 0 h];rfl
end Pl
theorem O7e(U:ByteArray)(h0:0<U.size)(hz:U.size<=18)(hd:∀c∈bs U,O2 c=true)(m:Nat)(hm:V1j (bs U)=m)(W:World):Calls prog 161 #[.string U] W λ e w'=>e=.returned (.tuple #[.int .i64 (m:Int),.nilIface])/\Gr W w':=by
 have cX:Lib.atoi U.data.toList=some (m:Int):=by
  show Lib.atoi (bs U)=_;cases hb:bs U with
  |nil=>have:=O0 U;rw[hb]at this;simp at this;omega
  |cons c l=>rw[hb]at hd hm;rw[V8n c l hd,hm]
 refine (strconv_Atoi U (m:Int) hz cX W).mono ?_;rintro e w' ⟨rfl,t,rfl⟩;exact⟨rfl,O11 W 5 t⟩
theorem O1u(s:ByteArray)(h2:2<=s.size)(hd:∀c∈(bs s).take 2,O2 c=true)(a b:Nat)(w:World):Calls prog 162 #[.string s,.int .i64 (a:Int),.int .i64 (b:Int)] w λ e w'=>e=.returned (.bool (Vu (bs s) a b))/\Gr w w':=by
 obtain⟨U,hU⟩:=ExZ (s.extract 0 2)
 have qy:bs U=(bs s).take 2:=by rw[<-hU,O1w]
 have Cj:U.size=2:=by rw[<-hU];simp;omega
 obtain⟨m,hm⟩:=ExZ (V1j (bs U))
 rw[<-qy]at hd;have HA:=U10 (O7e U Ya Ya hd m hm);have hX:Vu (bs s) a b=(decide (a<=m)&&decide (m<=b)):=by unfold Vu;rw[<-qy,hm]
 have HX:=U10 hX;have k1:(2:Int)<=(s.size:Int):=Ya;clear hd qy hX hm;by_cases h1:a<=m
 have d1:decide (a<=m)=true:=Ye
 by_cases h3:m<=b
 have d2:decide (m<=b)=true:=Ye;have HY:Hid (Vu (bs s) a b=true):=U10 (by rw[HX.o];simp[h1,h3]);clear h1 h3;exact J138
 have d2:decide (m<=b)=false:=Ye;have HY:Hid (Vu (bs s) a b=false):=U10 (by rw[HX.o];simp[h3]);clear h1 h3;exact J138
 have d1:decide (a<=m)=false:=Ye;have HY:Hid (Vu (bs s) a b=false):=U10 (by rw[HX.o];simp[h1]);clear h1;exact J138
theorem Onc(y m:Nat)(hy:y<=9999)(hm:m<=99)(w:World):Calls prog 163 #[.int .i64 (y:Int),.int .i64 (m:Int)] w λ e w'=>e=.returned (.int .i64 (V2g y m))/\w=w':=by
 have t4:(y:Int).tmod 4=((y % 4:Nat):Int):=by rw[Int.tmod_eq_emod_of_nonneg Ya];omega
 have t100:(y:Int).tmod 100=((y % 100:Nat):Int):=by rw[Int.tmod_eq_emod_of_nonneg Ya];omega
 have Ip:(y:Int).tmod 400=((y % 400:Nat):Int):=by rw[Int.tmod_eq_emod_of_nonneg Ya];omega
 obtain⟨a4,Iq⟩:=ExZ (y % 4)
 obtain⟨uj,qC⟩:=ExZ (y % 100)
 obtain⟨uk,qD⟩:=ExZ (y % 400)
 have HX:Hid (V2g y m=if m=2 then (if a4≠0\/(uj=0/\uk≠0) then 28 else 29) else if m=4\/m=6\/m=9\/m=11 then 30 else 31):=U10 (by unfold V2g;rw[Iq,qC,qD]);rw[Iq]at t4;rw[qC]at t100;rw[qD]at Ip;clear Iq qC qD hy hm;by_cases h2:m=2
 subst h2;by_cases h4:a4=0
 subst h4;by_cases Co:uj=0
 subst Co;by_cases Cp:uk=0;subst Cp;have HY:Hid (V2g y 2=29):=U10 (by rw[HX.o];rfl);exact J78
 have q1:((uk:Int) != 0)=true:=Ye;have q2:((uk:Int)==0)=false:=Ye;have HY:Hid (V2g y 2=28):=U10 (by rw[HX.o,U1a rfl,U1a (.inr ⟨rfl,Cp⟩)]);exact J78
 have q1:((uj:Int) != 0)=true:=Ye;have q2:((uj:Int)==0)=false:=Ye;have HY:Hid (V2g y 2=29):=U10 (by rw[HX.o,U1a rfl,U1c (by rintro (h|h);exact h rfl;exact Co h.1)]);exact J78
 have q1:((a4:Int) != 0)=true:=Ye;have q2:((a4:Int)==0)=false:=Ye;have HY:Hid (V2g y 2=28):=U10 (by rw[HX.o,U1a rfl,U1a (.inl h4)]);exact J78
 have q2:((m:Int)==2)=false:=Ye;rw[U1c h2]at HX;by_cases h4:m=4;subst h4;have HY:Hid (V2g y 4=30):=U10 (by rw[HX.o];rfl);exact J78
 have q4:((m:Int)==4)=false:=Ye
 by_cases h6:m=6;subst h6;have HY:Hid (V2g y 6=30):=U10 (by rw[HX.o];rfl);exact J78
 have q6:((m:Int)==6)=false:=Ye
 by_cases h9:m=9;subst h9;have HY:Hid (V2g y 9=30):=U10 (by rw[HX.o];rfl);exact J78
 have q9:((m:Int)==9)=false:=Ye
 by_cases Fk:m=11;subst Fk;have HY:Hid (V2g y 11=30):=U10 (by rw[HX.o];rfl);exact J78
 have Ut:((m:Int)==11)=false:=Ye;have HY:Hid (V2g y m=31):=U10 (by rw[HX.o,U1c Ya]);exact J78
namespace Pl
theorem Oi7:∀(l m:Bs),Vw l m=true->∀(i:Nat) w,m[i]?=some w->∃c,l[i]?=some c/\V60 w c=true:=by
 intro l
 induction l with
 |nil =>
  intro m h i w hw;cases m with
  |nil=>simp at hw
  |cons a m=>simp[Vw]at h
 |cons c l ih =>
  intro m h i w hw;cases m with
  |nil=>simp at hw
  |cons a m =>
   simp only[Vw,U1h]at h;cases i with
   |zero=>simp only[U2a,U1f]at hw⊢;subst hw;exact⟨c,rfl,h.1⟩
   |succ i=>simp only[List.getElem?_cons_succ]at hw⊢;exact ih m h.2 i w hw
theorem V39(l m:Bs)(h:Vw l m=true)(a k:Nat)(hm:∀i,i<k->m[a+i]?=some 57):∀c∈(l.drop a).take k,O2 c=true:=by
 intro c hc;obtain⟨i,hi⟩:=List.mem_iff_getElem?.1 hc;rw[List.getElem?_take]at hi
 split at hi
 rename_i Qt
 rw[U2y]at hi;obtain⟨c',h1,h2⟩:=Oi7 l m h (a+i) 57 (hm i Qt);rw[hi]at h1;cases h1;exact h2
 cases hi
structure V9j(d t z:Bs):Prop where
 d:d=[]\/(d.length=10/\Vw d V47=true)
 t:t=[]\/(t.length=8/\Vw t V4c=true)
 z:z.length<2\/(z.length=6/\Vw (z.drop 1) V43=true)
theorem O58:∀(l m:Bs),Vw l m=true->Vw (l.take m.length) m=true:=by
 intro l
 induction l with
 |nil=>intro m h;simpa using h
 |cons c l ih =>
  intro m h;cases m with
  |nil=>rfl
  |cons a m =>
   simp only[Vw,U1h]at h;simp only[U1d,U35,Vw,U1h];exact⟨h.1,ih m h.2⟩
theorem Oa1(l:Bs):(Vl l).1=[]\/((Vl l).1.length=8/\Vw (Vl l).1 V4c=true):=by
 unfold Vl
 split
 rename_i h
 right;have:=V36 l V4c h;have h8:V4c.length=8:=rfl;refine⟨by rw[U26];omega,?_⟩;have h2:=O58 l V4c h;rw[h8]at h2;exact h2
 exact .inl rfl
theorem Oku(l:Bs):(V23 l).length<2\/((V23 l).length=6/\Vw ((V23 l).drop 1) V43=true):=by
 unfold V23;cases l with
 |nil=>left;simp
 |cons c r =>
  simp only
  split;left;simp
  split
  rename_i h
  right;simp only[U1h]at h;have:=V36 r V43 h.2;have h5:V43.length=5:=rfl;refine⟨Ye,?_⟩;have h2:=O58 r V43 h.2;rw[h5]at h2
  simpa using h2
  left;simp
theorem V86(l:Bs):V9j (Vh l).date (Vh l).time (Vh l).zone:=by
 have hd:Vw l V47=true->(l.take 10).length=10/\Vw (l.take 10) V47=true:=λ h=>by
  have:=V36 l V47 h;have da:V47.length=10:=rfl;have h2:=O58 l V47 h;rw[da]at h2;exact⟨by rw[U26];omega,h2⟩
 unfold Vh
 split
 rename_i h
 split
 have ht:=Oa1 (l.drop 11);generalize Vl (l.drop 11)=x at ht⊢;obtain⟨t,p⟩:=x;simp only at ht⊢
 split;exact⟨.inr (hd h),.inl rfl,.inl Yb⟩
 exact⟨.inr (hd h),ht,Oku _⟩
 exact⟨.inr (hd h),.inl rfl,.inl Yb⟩
 exact⟨.inl rfl,Oa1 l,.inl Yb⟩
theorem V5y(l:Bs)(k:Nat)(h:∀c∈l.take k,O2 c=true):V1j (l.take k)<10 ^ k:=by
 have h1:=V6i (l.take k) 0 h;unfold V1j;refine U13 h1 ?_;rw[U1v,Nat.one_mul];exact U4j Ya (by rw[U26];omega)
end Pl
def V9k(w:World)(b:Nat)(d t p z:ByteArray)(n:Int)(W:World):Prop:=Vbj b d t p z n W/\W.heap[b]?=some (V4m d t p z n)/\Gr w W
theorem V9k.gr{w W W':World}{b:Nat}{d t p z:ByteArray}{n:Int}(h:V9k w b d t p z n W)(g:Gr W W'):V9k w b d t p z n W' :=
 have hb:=(g.block h.1.2.2.2.2.2.2).trans h.2.1
 ⟨Oa hb,hb,h.2.2.trans g⟩
theorem Ooi(d t p z:ByteArray)(n:Int)(c:V8c)(hd:bs d=c.date)(ht:bs t=c.time)(hz:bs z=c.zone)(hk:V9j (bs d) (bs t) (bs z))(w:World):Calls prog 129 #[V8x d t p z n] w λ e w'=>e=.returned (.bool (V44 c))/\Gr w w':=by
 obtain⟨A,hA⟩:=ExZ ((c.date.isEmpty || (Vu (c.date.drop 5) 1 12&&Vu (c.date.drop 8) 1 (V2g (V1j (c.date.take 4)) (V1j ((c.date.drop 5).take 2))))))
 obtain⟨B,hB⟩:=ExZ ((c.time.isEmpty || (Vu c.time 0 23&&Vu (c.time.drop 3) 0 59&&Vu (c.time.drop 6) 0 (if (c.time.drop 3).take 2=[53,57] then 60 else 59))))
 obtain⟨C,hC⟩:=ExZ ((decide (c.zone.length<2) || (Vu (c.zone.drop 1) 0 23&&Vu (c.zone.drop 4) 0 59)))
 have hX:V44 c=(A&&B&&C):=by unfold V44;rw[hA,hB,hC]
 have HX:=U10 hX;rw[<-hd]at hA;rw[<-ht]at hB;rw[<-hz]at hC;clear hX hd ht hz;have HA:Hid ((d.toList.isEmpty=true/\d.toList=[]/\A=true)\/(¬d.toList=[]/\d.toList.isEmpty=false/\(10:Int)<=(d.size:Int) /\
     ∃(y m:Nat)(x1 x2:Bool),A=(x1&&x2) /\
     (∀W,Calls prog 161 #[.string (d.extract 0 4)] W λ e w'=>e=.returned (.tuple #[.int .i64 (y:Int),.nilIface])/\Gr W w') /\
     (∀W,Calls prog 161 #[.string (d.extract 5 7)] W λ e w'=>e=.returned (.tuple #[.int .i64 (m:Int),.nilIface])/\Gr W w') /\
     (∀W,Calls prog 162 #[.string (d.extract 5 d.size),(1:Int),(12:Int)] W λ e w'=>e=.returned (.bool x1)/\Gr W w') /\
     (∀W,Calls prog 163 #[.int .i64 (y:Int),.int .i64 (m:Int)] W λ e w'=>e=.returned (.int .i64 (V2g y m))/\W=w') /\
     (∀W,Calls prog 162 #[.string (d.extract 8 d.size),(1:Int),.int .i64 (V2g y m)] W λ e w'=>e=.returned (.bool x2)/\Gr W w'))):=U10 (by
  rcases hk.d with h|⟨da,hf⟩
  left;have h1:d.toList=[]:=by rw[U21];exact h
  exact⟨by rw[h1];rfl,h1,by rw[<-hA,h];rfl⟩
  right;rw[O0]at da;obtain⟨n1,n2,n3⟩:=Oeq (x:=d) Ya;have e4:bs (d.extract 0 4)=(bs d).take 4:=O1w d 4;have Mv:bs (d.extract 5 7)=((bs d).drop 5).take 2:=Ogc _ _ _;have e5:bs (d.extract 5 d.size)=(bs d).drop 5:=O4 d 5;have e8:bs (d.extract 8 d.size)=(bs d).drop 8:=O4 d 8;have f4:=V39 _ _ hf 0 4 (λ i hi=>by match i,hi with|0,_=>rfl|1,_=>rfl|2,_=>rfl|3,_=>rfl);have f5:=V39 _ _ hf 5 2 (λ i hi=>by match i,hi with|0,_=>rfl|1,_=>rfl);have f8:=V39 _ _ hf 8 2 (λ i hi=>by match i,hi with|0,_=>rfl|1,_=>rfl);rw[U2b]at f4;refine⟨n1,n2,Ya,V1j ((bs d).take 4),V1j (((bs d).drop 5).take 2),Vu ((bs d).drop 5) 1 12,Vu ((bs d).drop 8) 1 (V2g (V1j ((bs d).take 4)) (V1j (((bs d).drop 5).take 2))),?_,?_,?_,?_,?_,?_⟩;rw[<-hA,n3,U4p];exact λ W=>O7e _ Ye Ye (by rw[e4];exact f4) _ (by rw[e4]) W
  exact λ W=>O7e _ Ye Ye (by rw[Mv];exact f5) _ (by rw[Mv]) W
  intro W;have:=O1u (d.extract 5 d.size) Ye (by rw[e5];exact f5) 1 12 W;rw[e5]at this;exact this;exact λ W=>Onc _ _ (by have:=V5y (bs d) 4 f4;omega) (by have:=V5y ((bs d).drop 5) 2 f5;omega) W
  intro W;have:=O1u (d.extract 8 d.size) Ye (by rw[e8];exact f8) 1 (V2g (V1j ((bs d).take 4)) (V1j (((bs d).drop 5).take 2))) W;rw[e8]at this;exact this)
 have HB:Hid ((t.toList.isEmpty=true/\t.toList=[]/\B=true)\/(¬t.toList=[]/\t.toList.isEmpty=false/\(8:Int)<=(t.size:Int) /\
     ∃(x1 x2 x3:Bool)(qE:Nat),B=(x1&&x2&&x3)/\(((t.extract 3 5).toList==[53,57])=true/\qE=60\/((t.extract 3 5).toList==[53,57])=false/\qE=59) /\
     (∀W,Calls prog 162 #[.string t,(0:Int),(23:Int)] W λ e w'=>e=.returned (.bool x1)/\Gr W w') /\
     (∀W,Calls prog 162 #[.string (t.extract 3 t.size),(0:Int),(59:Int)] W λ e w'=>e=.returned (.bool x2)/\Gr W w') /\
     (∀W,Calls prog 162 #[.string (t.extract 6 t.size),(0:Int),.int .i64 (qE:Int)] W λ e w'=>e=.returned (.bool x3)/\Gr W w'))):=U10 (by
  rcases hk.t with h|⟨h8,hf⟩
  left;have h1:t.toList=[]:=by rw[U21];exact h
  exact⟨by rw[h1];rfl,h1,by rw[<-hB,h];rfl⟩
  right;rw[O0]at h8;obtain⟨n1,n2,n3⟩:=Oeq (x:=t) Ya;have Mw:bs (t.extract 3 5)=((bs t).drop 3).take 2:=Ogc _ _ _;have e3:bs (t.extract 3 t.size)=(bs t).drop 3:=O4 t 3;have e6:bs (t.extract 6 t.size)=(bs t).drop 6:=O4 t 6;have f0:=V39 _ _ hf 0 2 (λ i hi=>by match i,hi with|0,_=>rfl|1,_=>rfl);have f3:=V39 _ _ hf 3 2 (λ i hi=>by match i,hi with|0,_=>rfl|1,_=>rfl);have f6:=V39 _ _ hf 6 2 (λ i hi=>by match i,hi with|0,_=>rfl|1,_=>rfl);rw[U2b]at f0;refine⟨n1,n2,Ya,Vu (bs t) 0 23,Vu ((bs t).drop 3) 0 59,Vu ((bs t).drop 6) 0 (if ((bs t).drop 3).take 2=[53,57] then 60 else 59),(if ((bs t).drop 3).take 2=[53,57] then 60 else 59),?_,?_,?_,?_,?_⟩;rw[<-hB,n3,U4p]
  rw[U21];by_cases h5:((bs t).drop 3).take 2=[53,57];left;rw[U1a h5];exact⟨U2z.2 (by show bs (t.extract 3 5)=_;rw[Mw,h5]),rfl⟩
  right;rw[U1c h5];exact⟨U3u.2 (by show bs (t.extract 3 5)≠_;rw[Mw];exact h5),rfl⟩;exact λ W=>O1u t Ya f0 0 23 W
  intro W;have:=O1u (t.extract 3 t.size) Ye (by rw[e3];exact f3) 0 59 W;rw[e3]at this;exact this
  intro W;have:=O1u (t.extract 6 t.size) Ye (by rw[e6];exact f6) 0 (if ((bs t).drop 3).take 2=[53,57] then 60 else 59) W;rw[e6]at this;exact this)
 have HC:Hid ((decide ((z.size:Int)<2)=true/\C=true)\/(decide ((z.size:Int)<2)=false/\(6:Int)<=(z.size:Int) /\
     ∃x1 x2:Bool,C=(x1&&x2) /\
     (∀W,Calls prog 162 #[.string (z.extract 1 z.size),(0:Int),(23:Int)] W λ e w'=>e=.returned (.bool x1)/\Gr W w') /\
     (∀W,Calls prog 162 #[.string (z.extract 4 z.size),(0:Int),(59:Int)] W λ e w'=>e=.returned (.bool x2)/\Gr W w'))):=U10 (by
  rcases hk.z with h|⟨h6,hf⟩
  left;rw[O0]at h;exact⟨Ye,by rw[<-hC,O0,decide_eq_true h];rfl⟩
  right;rw[O0]at h6;have e1:bs (z.extract 1 z.size)=(bs z).drop 1:=O4 z 1;have e4:bs (z.extract 4 z.size)=(bs z).drop 4:=O4 z 4;have f0:=V39 _ _ hf 0 2 (λ i hi=>by match i,hi with|0,_=>rfl|1,_=>rfl);have f3:=V39 _ _ hf 3 2 (λ i hi=>by match i,hi with|0,_=>rfl|1,_=>rfl);rw[U2b]at f0;rw[U2j]at f3;refine⟨Ye,Ya,Vu ((bs z).drop 1) 0 23,Vu ((bs z).drop 4) 0 59,?_,?_,?_⟩;rw[<-hC,O0,U48 Ya,U4p];intro W;have:=O1u (z.extract 1 z.size) Ye (by rw[e1];exact f0) 0 23 W;rw[e1]at this;exact this
  intro W;have:=O1u (z.extract 4 z.size) Ye (by rw[e4];exact f3) 0 59 W;rw[e4]at this;exact this)
 clear hA hB hC hk;go_enter func129,ntmps129;have kj:(w.alloc (V4m d t p z n)).heap[w.heap.size]?=some (V4m d t p z n):=U1w w _;have eV:Gr w (w.alloc (V4m d t p z n)):=(Gr.refl w).alloc _;obtain⟨p0,p1,p2,p3,p4,pf,hz⟩:=Oa kj;rcases HA.o with⟨d1,d2,Br⟩|⟨d1,d2,d3,y,m,a1,a2,dA,hY,hM,sK,Mx,My⟩
 ·skip;rcases HB.o with⟨t1,t2,Bz⟩|⟨t1,t2,t3,b1,b2,b3,qE,tB,tl,fM,tF,cL⟩
  ·skip;rcases HC.o with⟨z1,zC⟩|⟨z1,z2,v1,v2,zC,Ah,Ai⟩
   ·refine Z178 ?_;intro HY;go_wp2_with fail
    go_ret
    exact⟨by (rw[HY.o];try rfl),eV⟩
   refine Z89 ?_;intro k1 k4 xL Bq;clear Ah Ai;go_wp2_with fail;refine (xL.o _).mono ?_;refine Z293 ?_;intro w7 g7 jO oT;clear g7 kj eV p0 p1 p2 p3 p4 pf hz;exact J79
  refine Z276 ?_;intro k3 k5 k6 iV oQ ir;clear fM tF cL;rcases tl with⟨Ir,rfl⟩|⟨Ir,rfl⟩
  skip;exact J214
  skip;exact J214
 have Uu:(4:Int)<=(d.size:Int):=Ya;have Uv:(5:Int)<=(d.size:Int):=Ya;have Uw:(7:Int)<=(d.size:Int):=Ya;have Ux:(8:Int)<=(d.size:Int):=Ya;have Qu:=U10 hY;have Qv:=U10 hM;have PH:=U10 sK;have ud:=U10 My;have Qw:=U10 Mx;clear hY hM sK My Mx;go_wp2_with fail;refine (Qu.o _).mono ?_;refine Z293 ?_;intro w1 g1 bJ cB;clear g1 kj eV p0 p1 p2 p3 p4 pf hz;obtain⟨p0,p1,p2,p3,p4,pf,hz⟩:=Oa bJ;go_wp2_with fail;refine (Qv.o _).mono ?_;rintro e w2 ⟨rfl,g2⟩;have aA:=(g2.block hz).trans bJ;have bM:=cB.trans g2;clear g2 bJ cB p0 p1 p2 p3 p4 pf hz;obtain⟨p0,p1,p2,p3,p4,pf,hz⟩:=Oa aA;go_wp2_with fail;have hS:V9k w w.heap.size d t p z n w2.drew:=⟨Oa (show w2.drew.heap[w.heap.size]?=_ from aA),aA,bM.drew⟩
 cases a1 with
 |false =>
  refine Z136 ?_;intro w3 g3 aD;refine Z16 ?_;refine Reg.ty 4 ?_;refine Reg.ty 5 ?_;refine Reg.sk 6 ?_;refine Reg.sk 7 ?_;refine Z302 ?_;refine Reg.ty 14 ?_;refine Z12 ?_;have HY:Hid (V44 c=false):=U10 (by rw[HX.o,dA];rfl);go_wp2_with fail
  go_ret
  exact⟨by (rw[HY.o];try rfl),aD.2.2⟩
 |true =>
  refine Z136 ?_;intro w3 g3 aD;refine Z16 ?_;refine Z83 ?_;refine Reg.tl 7 aD ?_ (hy:=by intro w ab;obtain⟨⟨p0,p1,p2,p3,p4,pf,hz⟩,_,_⟩:=ab;go_simp;try with_reducible rfl);refine Z42 ?_;refine Reg.on 11 ?_;go_simp;refine (Qw.o _).mono ?_;refine Z48 ?_;refine Z16 ?_;refine Reg.on 12 ?_;go_simp;refine (ud.o _).mono ?_;rintro e w4 ⟨rfl,g4⟩;have cm:=aD.gr g4;refine Z34 ?_;refine Reg.ty 13 ?_;refine Reg.ty 14 ?_;refine Z12 ?_;have aV:=cm.2.1;have dj:=cm.2.2;clear hS aD cm g3 g4 aA bM p0 p1 p2 p3 p4 pf hz;obtain⟨p0,p1,p2,p3,p4,pf,hz⟩:=Oa aV;cases a2 with
  |false =>
   have HY:Hid (V44 c=false):=U10 (by rw[HX.o,dA];rfl);go_wp2_with fail
   go_ret
   exact⟨by (rw[HY.o];try rfl),dj⟩
  |true =>
   have Br:A=true:=dA;rcases HB.o with⟨t1,t2,Bz⟩|⟨t1,t2,t3,b1,b2,b3,qE,tB,tl,fM,tF,cL⟩
   ·skip;rcases HC.o with⟨z1,zC⟩|⟨z1,z2,v1,v2,zC,Ah,Ai⟩
    ·refine Z178 ?_;intro HY;go_wp2_with fail
     go_ret
     exact⟨by (rw[HY.o];try rfl),dj⟩
    refine Z89 ?_;intro k1 k4 xL Bq;clear Ah Ai;go_wp2_with fail;refine (xL.o _).mono ?_;rintro e w7 ⟨rfl,g7⟩;have jO:=(g7.block hz).trans aV;have oT:=dj.trans g7;clear g7 aV dj p0 p1 p2 p3 p4 pf hz;exact J79
   refine Z276 ?_;intro k3 k5 k6 iV oQ ir;clear fM tF cL;rcases tl with⟨Ir,rfl⟩|⟨Ir,rfl⟩
   skip;exact J209
   skip;exact J209
namespace Pl
theorem Oi8:∀(l m:Bs),Vw l m=true->(∀w∈m,w.toNat<128)->∀c∈l.take m.length,c.toNat<128:=by
 intro l
 induction l with
 |nil=>intro m _ _ c hc;simp at hc
 |cons a l ih =>
  intro m h hm c hc;cases m with
  |nil=>simp at hc
  |cons w m =>
   simp only[Vw,U1h]at h;simp only[U1d,U35,U2s]at hc;rcases hc with rfl|hc
   have h1:=h.1;unfold V60 at h1
   split at h1;simp at h1;omega
   have:=hm w Yb;simp at h1;omega
   exact ih m h.2 (λ x hx=>hm x (by simp[hx])) c hc
theorem Oi9(l:Bs):∀c∈V23 l,c.toNat<128:=by
 unfold V23;cases l with
 |nil=>simp
 |cons a r =>
  simp only
  split
  rename_i h
  intro c hc;rw[U20]at hc;subst hc;omega
  split
  rename_i h
  simp only[U1h]at h;intro c hc;rw[show (a::r).take 6=a::r.take 5 from rfl,U2s]at hc;rcases hc with rfl|hc
  have h1:=h.1;unfold Vq at h1;simp at h1;omega
  exact Oi8 r V43 h.2 Yd c hc
  simp
theorem V61(l:Bs):∀c∈(Vh l).zone,c.toNat<128:=by
 unfold Vh
 split
 split
 generalize Vl (l.drop 11)=x;obtain⟨t,p⟩:=x;simp only
 split;simp
 exact Oi9 _
 simp
 simp
theorem V8o(l:Bs):Lib.toUpperA l=V5x l:=by
 unfold Lib.toUpperA V5x;congr 1
 funext c
 unfold Lib.upperB Lib.isLowerB;have e:((97:UInt8)<=c&&c<=122)=true ↔ (97<=c.toNat/\c.toNat<=122):=by simp[UInt8.le_iff_toNat_le]
 by_cases h:97<=c.toNat/\c.toNat<=122;rw[U1a h,U1a (e.2 h)]
 rw[U1c h,U1c (λ x=>h (e.1 x))]
end Pl
theorem Ond(d t p z:ByteArray)(n:Int)(c:V8c)(hd:bs d=c.date)(ht:bs t=c.time)(hp:bs p=c.part)(hz:bs z=c.zone)(sd:d.size<=20000000)(st:t.size<=20000000)(sp:p.size<=20000000)(sz:z.size<=20000000)(hl:∀x∈bs z,x.toNat<128)(w:World):Calls prog 130 #[V8x d t p z n] w λ e w'=>(∃x:ByteArray,e=.returned (.string x)/\bs x=V54 c)/\Gr w w':=by
 obtain⟨P,hP⟩:∃P:ByteArray,⟨(Vm (bs p)).toArray⟩=P:=⟨_,rfl⟩
 obtain⟨U,hU⟩:∃U:ByteArray,⟨(Lib.toUpperA (bs z)).toArray⟩=U:=⟨_,rfl⟩
 have yF:bs P=Vm c.part:=by rw[<-hP,O1o,hp]
 have qy:bs U=V5x c.zone:=by rw[<-hU,O1o,V8o,hz]
 have Qm:P.size<=20000000:=by
  have h1:=V3z (bs p);rw[hp,<-yF,O0,<-hp,O0]at h1;omega
 have Cj:U.size<=20000000:=by
  have h1:(bs U).length=(bs z).length:=by rw[qy,<-hz];unfold V5x;rw[U1j]
  rw[O0,O0]at h1;omega
 have Is:=U10 (Ob0 p P sp hP);have Iu:Hid (∀W,Calls prog 165 #[.string z] W λ e w'=>e=.returned (.string U)/\Gr W w'):=U10 (λ W=>by
  refine (strings_ToUpper_ascii z W Ya (Ob1 hl)).mono ?_;rintro e w' ⟨rfl,g⟩;exact⟨by rw[<-hU],g⟩)
 have hX:V54 c=bs d++(if bs d≠[]/\bs t≠[] then [84] else [])++bs t++(if bs P≠[] then 46::bs P else [])++bs U:=by
  unfold V54;rw[yF,qy,hd,ht]
 have HX:=U10 hX;have e0:∀x:ByteArray,bs x=x.toList:=λ x=>(U21 x).symm
 have HE:=U10 e0;clear hX hd ht hp hz hP hU yF qy hl e0;rcases O25 d with⟨d1,d2,d3⟩|⟨d1,d2,d3⟩
 all_goals rcases O25 t with⟨t1,t2,t3⟩|⟨t1,t2,t3⟩
 all_goals rcases O25 P with⟨p1,p2,p3⟩|⟨p1,p2,p3⟩
 all_goals clear d3 t3 p3
 all_goals
  have b1:¬ 9223372036854775807<d.size+1:=Ya;have b2:¬ 9223372036854775807<d.size+1+t.size:=Ya;have b3:¬ 9223372036854775807<d.size+t.size:=Ya;have b4:¬ 9223372036854775807<1+P.size:=Ya;have b5:¬ 9223372036854775807<d.size+1+t.size+(1+P.size):=Ya;have b6:¬ 9223372036854775807<d.size+t.size+(1+P.size):=Ya;have b7:¬ 9223372036854775807<d.size+1+t.size+(1+P.size)+U.size:=Ya;have b8:¬ 9223372036854775807<d.size+t.size+(1+P.size)+U.size:=Ya;have b9:¬ 9223372036854775807<d.size+1+t.size+U.size:=Ya;have ba:¬ 9223372036854775807<d.size+t.size+U.size:=Ya
  go_enter func130,ntmps130;go_wp2_with fail;refine (Is.o _).mono ?_;refine Z48 ?_;go_wp2_with fail;refine (Iu.o _).mono ?_;rintro e w2 ⟨rfl,g2⟩;go_wp2_with fail
  go_ret
  refine⟨⟨_,rfl,?_⟩,Gr.auto⟩;rw[HX.o];simp only[HE.o]at *
  simp_all [bs,U2n,U21]
theorem One(s:ByteArray)(hs:s.size<=20000000)(w:World):Calls prog 98 #[.string s] w λ e w'=>Oq (V1w (bs s)) e/\Gr w w':=by
 have hX:V1w (bs s)=if (Vh (bs s)).long=0\/(Vh (bs s)).long<s.size then .bad 3 0 else if V44 (Vh (bs s)) then .ok (V54 (Vh (bs s))) else .bad 9 0:=by unfold V1w;simp only[O0]
 have HX:=U10 hX;clear hX;go_enter func98,ntmps98;go_wp2_with fail;refine (Ob5 s hs _).mono ?_;rintro e w1 ⟨⟨d,t,p,z,rfl,hd,ht,hp,hz,sd,st,sp,sz⟩,g1⟩;have hk:=V86 (bs s);have hl:=V61 (bs s);have qF:=V4z (bs s);rw[O0]at qF;rw[<-hd,<-ht,<-hz]at hk;rw[<-hz]at hl;obtain⟨c,hc⟩:=ExZ (Vh (bs s))
 rw[hc]at HX hd ht hp hz qF⊢;have HM:=U10 (λ W=>Ooi d t p z c.long c hd ht hz hk W);have HT:=U10 (λ W=>Ond d t p z c.long c hd ht hp hz Ya Ya Ya Ya hl W);clear hk hl hc hd ht hp hz;obtain⟨n,hn⟩:=ExZ (c.long)
 rw[hn]at HX HM HT qF⊢;by_cases h0:n=0;subst h0;have HY:Hid (V1w (bs s)=.bad 3 0):=U10 (by rw[HX.o,U1a (.inl rfl)]);exact J168
 have c0:((n:Int)==0)=false:=Ye
 by_cases h1:n<s.size
 have c1:decide ((n:Int)<(s.size:Int))=true:=Ye;have HY:Hid (V1w (bs s)=.bad 3 0):=U10 (by rw[HX.o,U1a (.inr h1)]);exact J168
 have c1:decide ((n:Int)<(s.size:Int))=false:=Ye;have aM:w1.heap.size<(w1.alloc (V4m d t p z n)).heap.size:=Yb;have Qx:(w1.alloc (V4m d t p z n)).heap[w1.heap.size]?=some (V4m d t p z n):=U1w w1 _;go_wp2_with fail;refine (HM.o _).mono ?_;rintro e w2 ⟨rfl,g2⟩;cases hm:V44 c with
 |false =>
  have HY:Hid (V1w (bs s)=.bad 9 0):=U10 (by rw[HX.o,U1c Ya,U1c (by rw[hm];simp)]);clear hm;go_wp2_with fail;exact U11 (v:=.tuple #[.string ⟨#[]⟩,(9:Int)]) (by simp[results,results98,go_sem]) rfl ⟨O1l HY.o,Gr.auto⟩
 |true =>
  have HY:Hid (V1w (bs s)=.ok (V54 c)):=U10 (by rw[HX.o,U1c Ya,U1a hm]);obtain⟨p0,p1,p2,p3,p4,pf,iW⟩:=Oa ((g2.block Yb).trans Qx);clear hm;go_wp2_with fail;refine (HT.o _).mono ?_;rintro e w3 ⟨⟨x,rfl,hx⟩,g3⟩;have HZ:Hid (V1w (bs s)=.ok (bs x)):=U10 (by rw[HY.o,hx]);clear hx;go_wp2_with fail;exact U11 (v:=.tuple #[.string x,(0:Int)]) (by simp[results,results98,go_sem]) rfl ⟨O57 HZ.o,Gr.auto⟩
theorem Onf(s:ByteArray)(hs:s.size<=20000000)(w:World):Calls prog 70 #[.string s] w λ e w'=>e=.returned (.int .i64 ((Vh (bs s)).long:Int))/\Gr w w':=by
 have HS:=U10 (Ob5 s hs);have yG:∀(d t p z:ByteArray)(n:Int) W,(Instr.field 177 (.agg #[.string d,.string t,.string p,.string z,n]) 4).run prog W=.ok n W:=λ _ _ _ _ _ _=>by kernel_rfl
 go_enter func70,ntmps70;go_wp2_with fail;refine (HS.o _).mono ?_;rintro e w1 ⟨⟨d,t,p,z,rfl,_⟩,g1⟩;exact J4
