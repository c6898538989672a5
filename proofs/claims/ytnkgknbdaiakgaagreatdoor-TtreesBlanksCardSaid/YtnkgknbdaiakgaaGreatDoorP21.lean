/- The proof's part 21. -/
import Derived.Test.YtnkgknbdaiakgaaGreatDoorP20
set_option maxHeartbeats 16000000
set_option linter.all false
set_option maxRecDepth 100000
namespace Go.Proofs.YtnkgknbdaiakgaaGreatDoor
open Pl Go.Proofs.Tryz Go.RowKit Go.Shelf Go.Joins
attribute [local go_sem] Uy
theorem O1y(s:ByteArray)(n:Nat):bs (s.extract 0 n)=(bs s).take n:=by
 rw[Vft]
theorem Oh5(s:ByteArray)(a b:Nat):bs (s.extract a b)=((bs s).drop a).take (b-a):=by
 simp only[bs,U27]
theorem Oh6{a b:ByteArray}(h:bs a=bs b):a=b:=U1y (U21.1 h)
theorem Obw{l:List UInt8}(h:∀c∈l,c.toNat<128):∀(j:Nat) b,l[j]?=some b->b.toNat<128:=λ j b hj=>h b (U1r hj)
namespace Pl
theorem V75(c:UInt8):(bs V31).contains c=O2 c:=by
 have h:∀n:Fin 256,(bs V31).contains (UInt8.ofNat n.1)=O2 (UInt8.ofNat n.1):=by decide
 have:=h ⟨c.toNat,UInt8.toNat_lt c⟩;exact J15
theorem V6h(p:UInt8->Bool)(l:Bs):l.take (l.length-(l.dropWhile p).length)=l.takeWhile p:=by
 have h:=U32 (p:=p) (l:=l);have h2:=U1q List.length h;rw[Ug]at h2;have h3:l.length-(l.dropWhile p).length=(l.takeWhile p).length:=by omega
 rw[h3];exact (U2o.1 (U2y p)).symm
end Pl
theorem Oh7(s:ByteArray)(hs:s.size<=20000000)(w:World) :
    Calls prog 160 #[.string s] w λ e w'=>(∃t:ByteArray,e = .returned (.string t)/\bs t=(bs s).takeWhile O2/\t.size<=s.size)/\Gr w w':=by
 obtain⟨T,hT⟩:∃T:ByteArray,⟨(Lib.trimLeftS (bs s) (bs V31)).toArray⟩=T:=⟨_,rfl⟩
 have j9:bs T=(bs s).dropWhile O2:=by
  rw[<-hT,O1o];unfold Lib.trimLeftS;congr 1
  funext c
  exact V75 c
 have d5:T.size<=s.size:=by rw[<-O0,j9,<-O0];exact (U29 _).length_le
 have hx:bs (s.extract 0 (s.size-T.size))=(bs s).takeWhile O2:=by
  rw[O1y,<-V6h,<-j9,O0,O0]
 have HX:=U0 hx;have HT:=U0 hT;have fZ:IntKind.i64.wrap ((s.size:Int)-(T.size:Int))=((s.size-T.size:Nat):Int):=by rw[Uk _ ⟨by omega,by omega⟩];omega
 have e1:(0:Int)<=((s.size-T.size:Nat):Int):=by omega
 have e2:((s.size-T.size:Nat):Int)<=(s.size:Int):=by omega
 clear hT j9 hx;go_enter func160,ntmps160;go_wp2_with (go_at_call 41;refine (Any.strings_TrimLeft_laid lays161 O4a s V31 _ (by decide) (ascii_of_all (by decide))).mono ?_;rw[show (⟨(Lib.trimLeftS s.data.toList V31.data.toList).toArray⟩:ByteArray)=T from HT.o];rintro e w1 ⟨rfl,g1⟩)
 go_ret
 exact⟨⟨_,rfl,HX.o,by simp⟩,g1⟩
theorem Obx(s:ByteArray)(hs:s.size<=20000000)(w:World) :
    Calls prog 126 #[.string s] w λ e w'=>(∃t p:ByteArray,e = .returned (.tuple #[.string t,.string p])/\Vi (bs s)=(bs t,bs p))/\Gr w w':=by
 cases hf:Vv (bs s) V4f with
 |false =>
  refine (Ogp s (by omega) hf w).mono ?_;rintro e w' ⟨rfl,g⟩;refine⟨⟨_,_,rfl,?_⟩,g⟩;unfold Vi;rw[hf];rfl
 |true =>
  have ao:8<=s.size:=by
   rcases Nat.lt_or_ge s.size 8 with h|h
   rw[V4g _ _ (by rw[O0];exact h)]at hf;cases hf
   exact h
  have HC:∀W,Calls prog 125 #[.string s,.string ⟨#[57,57,58,57,57,58,57,57]⟩] W λ e w'=>e = .returned (.string (s.extract 0 8))/\Gr W w':=λ W=>by
   refine (O6i s ⟨#[57,57,58,57,57,58,57,57]⟩ (O2h _ (by decide)) (by omega) W).mono ?_;rintro e w' ⟨rfl,g⟩;refine⟨?_,g⟩;rw[show Vv (bs s) (bs ⟨#[57,57,58,57,57,58,57,57]⟩)=true from hf,Ua rfl];rfl
  obtain⟨T,hT⟩:=ExZ (s.extract 0 8)
  have rg:T.size=8:=by rw[<-hT];simp;omega
  have od:bs T=(bs s).take 8:=by rw[<-hT,O1y]
  refine Z229 ?_;intro lR Fk;obtain⟨r,hr⟩:=ExZ (s.extract 8 s.size)
  have gQ:bs r=(bs s).drop 8:=by rw[<-hr,O3]
  have oe:r.size=s.size-8:=by rw[<-hr];simp
  rw[hT]at HC;have HF:=U0 HC;have GB:(T.size:Int)=8:=by omega
  have k1:(0:Int)<=8:=by omega
  have k2:(8:Int)<=(s.size:Int):=by omega
  cases hp:Pl.pre (bs r) [46] with
  |false =>
   have HP:=U0 hp;have hX:Hid (Vi (bs s)=(bs T,bs ⟨#[]⟩)):=U0 (by
    unfold Vi;rw[hf,Ua rfl,od,<-gQ];cases hz:bs r with
    |nil=>rfl
    |cons c l =>
     rw[hz]at hp;have:Ve V2p (c::l)=false:=by
      simp only[Pl.pre]at hp;simp only[Ve,V2p];simp at hp⊢
      first|exact hp|(intro e;exact hp (U1b.1 e))|omega
     rw[this];rfl)
   have HR:=U0 hr;clear HC hT od hr gQ hp hf;go_enter func126,ntmps126;go_wp2_with (go_at_call 125;refine (HF.o _).mono ?_;rintro e w1 ⟨rfl,g1⟩);rw[HR.o];refine (Ok r ⟨#[46]⟩ false HP.o _).mono ?_;refine Z48 ?_;go_wp2_with fail
   go_ret2
   exact⟨⟨_,_,rfl,hX.o⟩,g1⟩
  |true =>
   have HP:=U0 hp;have aU:1<=r.size:=by
    rcases Nat.eq_zero_or_pos r.size with h|h
    have:bs r=[]:=U1z (by rw[O0];exact h);rw[this]at hp;cases hp
    exact h
   obtain⟨r1,sS⟩:=ExZ (r.extract 1 r.size)
   have pE:bs r1=(bs s).drop 9:=by rw[<-sS,O3,gQ,U16]
   have hX:Hid (Vi (bs s)=(bs T,(bs r1).takeWhile O2)):=U0 (by
    unfold Vi;rw[hf,Ua rfl,od,pE,<-gQ];cases hz:bs r with
    |nil=>rw[hz]at hp;cases hp
    |cons c l =>
     rw[hz]at hp;have:Ve V2p (c::l)=true:=by
      simp only[Pl.pre]at hp;simp only[Ve,V2p];simp at hp⊢
      first|exact hp|(rw[hp];rfl)|(rw[<-hp];rfl)|omega
     rw[this];rfl)
   have HD:=U0 (Oh7 r1 (by rw[<-sS];simp;omega));have k3:(1:Int)<=(r.size:Int):=by omega
   have HR:=U0 hr;have aL:=U0 sS;clear HC hT od hr gQ hp hf pE oe rg sS;go_enter func126,ntmps126;go_wp2_with (go_at_call 125;refine (HF.o _).mono ?_;rintro e w1 ⟨rfl,g1⟩);rw[HR.o];refine (Ok r ⟨#[46]⟩ true HP.o _).mono ?_;refine Z48 ?_;go_wp2_with fail;rw[aL.o];refine (HD.o _).mono ?_;rintro e w3 ⟨⟨p,rfl,hp,SK⟩,g3⟩;have jt:Vi (bs s)=(bs T,bs p):=by rw[hX.o,hp]
   clear hp;go_wp2_with fail
   go_ret2
   exact⟨⟨_,_,rfl,jt⟩,g1.trans g3⟩
theorem Oby(t p:ByteArray)(ht:t.size<=20000000)(hp:p.size<=20000000)(w:World) :
    Calls prog 127 #[.string t,.string p] w λ e w'=>e = .returned (.int .i64 (V29 (bs t) (bs p):Nat))/\w=w':=by
 rcases O26 p with⟨h1,h2,h3⟩|⟨h1,h2,h3⟩
 have HX:Hid (V29 (bs t) (bs p)=t.size):=U0 (by unfold V29;rw[Ua (U2l.1 h3),O0]);exact J49
 have HX:Hid (V29 (bs t) (bs p)=t.size+1+p.size):=U0 (by unfold V29;rw[Ud (λ e=>by rw[e]at h3;cases h3),O0,O0]);have w1:IntKind.i64.wrap ((t.size:Int)+1)=(t.size:Int)+1:=Uk _ ⟨by omega,by omega⟩;have w2:IntKind.i64.wrap ((t.size:Int)+1+(p.size:Int))=(t.size:Int)+1+(p.size:Int):=Uk _ ⟨by omega,by omega⟩;exact J49
theorem Om9(s:ByteArray)(hs:s.size<=20000000)(w:World) :
    Calls prog 128 #[.string s] w λ e w'=>(∃z:ByteArray,e = .returned (.string z)/\bs z=V22 (bs s)/\z.size<=s.size)/\Gr w w':=by
 rcases O26 s with⟨h1,h2,h3⟩|⟨h1,h2,h3⟩
 have HX:Hid (V22 (bs s)=[]):=U0 (by rw[U2l.1 h3];rfl);exact J177
 refine Z217 ?_;intro e0 e1;have k1:(1:Int)<=(s.size:Int):=by omega
 have hh:=O8 s 0 e0;simp only[U1l,Uu]at hh;have hZ:V22 (bs s)=if (s[0]'e0).toNat=90\/(s[0]'e0).toNat=122 then [s[0]'e0] else if Vq (s[0]'e0)&&Vv ((bs s).drop 1) V44 then (bs s).take 6 else []:=by
  conv=>lhs;rw[hh]
  unfold V22;simp only;rw[<-hh]
 have zY:bs (s.extract 0 1)=[s[0]'e0]:=by rw[O1y,hh];rfl
 have HZ:=U0 hZ;have sN:=U0 zY;cases hz:((s[0]'e0).toNat==90) with
 |true =>
  have z1:(((s[0]'e0).toNat:Int)==90)=true:=(V1o _ 90 _ hz).1;have HX:Hid (V22 (bs s)=bs (s.extract 0 1)):=U0 (by rw[HZ.o,sN.o,Ua (.inl (by simpa using hz))]);clear hz hh hZ zY h3;exact J174
 |false =>
  have z1:(((s[0]'e0).toNat:Int)==90)=false:=(V1o _ 90 _ hz).1;cases hy:((s[0]'e0).toNat==122) with
  |true =>
   have z2:(((s[0]'e0).toNat:Int)==122)=true:=(V1o _ 122 _ hy).1;have HX:Hid (V22 (bs s)=bs (s.extract 0 1)):=U0 (by rw[HZ.o,sN.o,Ua (.inr (by simpa using hy))]);clear hz hy hh hZ zY h3;exact J174
  |false =>
   have z2:(((s[0]'e0).toNat:Int)==122)=false:=(V1o _ 122 _ hy).1;have Le:V22 (bs s)=if Vq (s[0]'e0)&&Vv ((bs s).drop 1) V44 then (bs s).take 6 else []:=by
    rw[HZ.o,Ud (by
     rintro (h|h);rw[h]at hz;cases hz
     rw[h]at hy;cases hy)]
   have sC:=U0 Le;obtain⟨r,hr⟩:=ExZ (s.extract 1 s.size)
   have gQ:bs r=(bs s).drop 1:=by rw[<-hr,O3]
   have oe:r.size=s.size-1:=by rw[<-hr];simp
   have HR:=U0 hr;have E8:=U0 gQ;have gt:((((s[0]'e0).toNat:Int)==43)=true/\Vq (s[0]'e0)=true)\/((((s[0]'e0).toNat:Int)==43)=false/\(((s[0]'e0).toNat:Int)==45)=true/\Vq (s[0]'e0)=true)\/((((s[0]'e0).toNat:Int)==43)=false/\(((s[0]'e0).toNat:Int)==45)=false/\Vq (s[0]'e0)=false):=by
    unfold Vq;cases n7:((s[0]'e0).toNat==43) with
    |true=>exact .inl ⟨(V1o _ 43 _ n7).1,rfl⟩
    |false =>
     cases E9:((s[0]'e0).toNat==45) with
     |true=>exact .inr (.inl ⟨(V1o _ 43 _ n7).1,(V1o _ 45 _ E9).1,rfl⟩)
     |false=>exact .inr (.inr ⟨(V1o _ 43 _ n7).1,(V1o _ 45 _ E9).1,rfl⟩)
   clear hz hy hh hZ Le zY h3 hr gQ HZ sN;rcases gt with⟨q1,q3⟩|⟨q1,q2,q3⟩|⟨q1,q2,q3⟩
   case inr.inr =>
    have HX:Hid (V22 (bs s)=[]):=U0 (by rw[sC.o,q3];rfl);clear q3;exact J177
   all_goals
    have HF:Hid (∀W,Calls prog 125 #[.string r,.string ⟨#[57,57,58,57,57]⟩] W λ e w'=>e = .returned (.string (if Vv (bs r) V44=true then r.extract 0 5 else ⟨#[]⟩))/\Gr W w') :=
     U0 (λ W=>O6i r ⟨#[57,57,58,57,57]⟩ (O2h _ (by decide)) (by omega) W)
    cases hf:Vv (bs r) V44 with
    |true =>
     have ao:=V4g (bs r) V44;have h5:5<=r.size:=by
      rcases Nat.lt_or_ge r.size 5 with h|h
      rw[ao (by rw[O0];exact h)]at hf;cases hf
      exact h
     have k6:(6:Int)<=(s.size:Int):=by omega
     have HX:Hid (V22 (bs s)=bs (s.extract 0 6)):=U0 (by rw[sC.o,q3,<-E8.o,hf,O1y];rfl);rw[hf,Ua rfl]at HF;obtain⟨T,hT⟩:=ExZ (r.extract 0 5)
     have rg:T.size=5:=by rw[<-hT];simp;omega
     refine Z229 ?_;intro lR Fk;rw[hT]at HF;clear ao hf hT rg q3;go_enter func128,ntmps128;go_wp2_with fail;rw[HR.o];refine (HF.o _).mono ?_;rintro e w1 ⟨rfl,g1⟩;go_wp2_with fail
     go_ret
     exact⟨⟨_,rfl,by (rw[HX.o];try rfl),by (simp;try omega)⟩,g1⟩
    |false =>
     have HX:Hid (V22 (bs s)=[]):=U0 (by rw[sC.o,<-E8.o,hf,Bool.and_false];rfl);rw[hf,Ud (by simp)]at HF;clear hf q3;go_enter func128,ntmps128;go_wp2_with fail;rw[HR.o];refine (HF.o _).mono ?_;rintro e w1 ⟨rfl,g1⟩;go_wp2_with fail
     go_ret
     exact⟨⟨_,rfl,by (rw[HX.o];try rfl),U1p _⟩,g1⟩
namespace Pl
theorem V36(l m:Bs)(h:Vv l m=true):m.length<=l.length:=by
 by_cases hl:l.length<m.length;rw[V4g l m hl]at h;cases h
 omega
theorem V4q(l:Bs):V29 (Vi l).1 (Vi l).2<=l.length:=by
 unfold Vi;by_cases h:Vv l V4f=true
 rw[Ua h];have hl:=V36 _ _ h;have h8:V4f.length=8:=rfl;have ht:(l.take 8).length=8:=by rw[U17];omega
 unfold V29;simp only;cases hd:Ve V2p (l.drop 8) with
 |false=>simp only[U11,U1d,U1j];omega
 |true =>
  simp only[U1j];have:=(List.takeWhile_sublist (l:=l.drop 9) O2).length_le;rw[U3]at this;cases hu:l.drop 8 with
  |nil=>rw[hu]at hd;cases hd
  |cons c v =>
   have h9:=U1q List.length hu;rw[U3]at h9;simp only[Ub]at h9;by_cases hp:List.takeWhile O2 (l.drop 9)=[];rw[Ua hp];omega
   rw[Ud hp];omega
 rw[Ud h];simp[V29]
theorem Ohb(l:Bs):(V22 l).length<=l.length:=by
 exact J52
theorem V55(l:Bs):(Vf l).long<=l.length:=by
 unfold Vf
 split
 rename_i h
 have hl:=V36 _ _ h;have bD:V49.length=10:=rfl
 split
 rename_i ht
 have Ea:11<=l.length:=by
  cases hu:l.drop 10 with
  |nil=>rw[hu]at ht;cases ht
  |cons c v =>
   exact J53
 have hc:=V4q (l.drop 11);rw[U3]at hc;obtain⟨t,p,Bo⟩:∃t p,Vi (l.drop 11)=(t,p):=⟨_,_,rfl⟩
 rw[Bo]at hc⊢;simp only at hc⊢
 split;simp only;omega
 have hz:=Ohb (l.drop (10+(1+V29 t p)));rw[U3]at hz;simp only;omega
 simp only;omega
 exact V4q l
theorem V6b(l:Bs):(Vi l).1.length<=l.length/\(Vi l).2.length<=l.length:=by
 have h:=V4q l;unfold V29 at h
 split at h;rename_i hp;rw[hp];exact⟨h,U1p _⟩
 omega
theorem V7p(l:Bs)(h:(Vi l).1=[]):(Vi l).2=[]:=by
 unfold Vi at h⊢
 split
 rename_i hf
 rw[Ua hf]at h;have h1:=V36 _ _ hf;have h8:V4f.length=8:=rfl;have h2:=U1q List.length h;simp only[U17,Ur]at h2;omega
 rfl
theorem V76:∀c:UInt8,(bs ⟨#[84,116,32]⟩).contains c=V4a c:=λ c=>by
 unfold V4a;simp only[bs,List.contains_cons,List.contains_nil,Bool.or_false];have h:∀k:UInt8,(c==k)=(c.toNat==k.toNat):=λ k=>U2f.2 (by simp[U1b])
 rw[h,h,h,Bool.or_assoc];rfl
end Pl
theorem Ofg{x:ByteArray}(h:0<x.size):¬x.toList=[]/\x.toList.isEmpty=false/\(bs x).isEmpty=false:=by
 rcases O26 x with⟨h1,h2,h3⟩|h
 have:=O0 x;rw[U2l.1 h3]at this;simp at this;omega
 exact h
abbrev V4s(d t p z:ByteArray)(n:Int):Obj := .cells #[.string d,.string t,.string p,.string z,n] 177 (0,0)
abbrev V8x(d t p z:ByteArray)(n:Int):Value := .agg #[.string d,.string t,.string p,.string z,n]
theorem Oa{W:World}{h:Nat}{d t p z:ByteArray}{n:Int}(hb:W.heap[h]?=some (V4s d t p z n)) :
    W.cell? ⟨h,0,none⟩=some (.string d)/\W.cell? ⟨h,1,none⟩=some (.string t)/\W.cell? ⟨h,2,none⟩=some (.string p)/\W.cell? ⟨h,3,none⟩=some (.string z)/\W.cell? ⟨h,4,none⟩=some (.int .i64 n) /\
    (∀o,W.frozen? ⟨h,o,none⟩=false)/\h<W.heap.size :=
 ⟨by rw[cell_of_block hb];rfl,by rw[cell_of_block hb];rfl,by rw[cell_of_block hb];rfl,by rw[cell_of_block hb];rfl,by rw[cell_of_block hb];rfl,λ o=>unfrozen_of_block hb o,(U8.1 hb).1⟩
theorem O4f{W:World}{h:Nat}{d t p z:ByteArray}{n:Int}(hb:W.heap[h]?=some (V4s d t p z n))(v:ByteArray):(W.setCell ⟨h,0,none⟩ (.string v)).heap[h]?=some (V4s v t p z n):=by
 rw[block_setCell hb];rfl
theorem O4g{W:World}{h:Nat}{d t p z:ByteArray}{n:Int}(hb:W.heap[h]?=some (V4s d t p z n))(v:ByteArray):(W.setCell ⟨h,1,none⟩ (.string v)).heap[h]?=some (V4s d v p z n):=by
 rw[block_setCell hb];rfl
theorem O4h{W:World}{h:Nat}{d t p z:ByteArray}{n:Int}(hb:W.heap[h]?=some (V4s d t p z n))(v:ByteArray):(W.setCell ⟨h,2,none⟩ (.string v)).heap[h]?=some (V4s d t v z n):=by
 rw[block_setCell hb];rfl
theorem O88{W:World}{h:Nat}{d t p z:ByteArray}{n:Int}(hb:W.heap[h]?=some (V4s d t p z n))(v:ByteArray):(W.setCell ⟨h,3,none⟩ (.string v)).heap[h]?=some (V4s d t p v n):=by
 rw[block_setCell hb];rfl
theorem O3k{W:World}{h:Nat}{d t p z:ByteArray}{n:Int}(hb:W.heap[h]?=some (V4s d t p z n))(v:Int):(W.setCell ⟨h,4,none⟩ v).heap[h]?=some (V4s d t p z v):=by
 rw[block_setCell hb];rfl
def Vbg(h:Nat)(d t p z:ByteArray)(n:Int)(W:World):Prop:=W.cell? ⟨h,0,none⟩=some (.string d)/\W.cell? ⟨h,1,none⟩=some (.string t)/\W.cell? ⟨h,2,none⟩=some (.string p)/\W.cell? ⟨h,3,none⟩=some (.string z)/\W.cell? ⟨h,4,none⟩=some (.int .i64 n) /\
    (∀o,W.frozen? ⟨h,o,none⟩=false)/\h<W.heap.size
def O99(m:Nat)(c:V8a)(e:Ending):Prop:=∃d t p z:ByteArray,e = .returned (V8x d t p z c.long)/\bs d=c.date/\bs t=c.time/\bs p=c.part/\bs z=c.zone/\d.size<=m/\t.size<=m/\p.size<=m/\z.size<=m
theorem O7g{Q:Ending->World->Prop}{a:Act}{W:World}{h:Nat}{d t p z:ByteArray}{n:Int}(hs:a.tmps[2]?.getD undef = .pointer (some ⟨h,0,none⟩))(OT:a.defers=[])(hb:W.heap[h]?=some (V4s d t p z n))(hQ:Q (.returned (V8x d t p z n)) W) :
    bodyPost prog f97 Q Exit.ret a W:=by
 obtain⟨p0,p1,p2,p3,p4,pf,hz⟩:=Oa hb;exact U1 (v:=V8x d t p z n) (by simp[results,results97,go_sem,hs,p0,p1,p2,p3,p4,pf,hz]) OT hQ
theorem Odj(s:ByteArray)(hs:s.size<=20000000)(hd:Vv (bs s) V49=false)(w:World) :
    Calls prog 97 #[.string s] w λ e w'=>O99 s.size (Vf (bs s)) e/\Gr w w':=by
 have hX:Vf (bs s)=⟨[],(Vi (bs s)).1,(Vi (bs s)).2,[],V29 (Vi (bs s)).1 (Vi (bs s)).2⟩:=by unfold Vf;rw[hd];rfl
 have d5:=V6b (bs s);rw[O0]at d5;have HX:=U0 hX;have HD:=U0 hd;have HS:=U0 d5;clear hd hX d5;go_enter func97,ntmps97;go_wp2_with fail;refine (O7z s ⟨#[57,57,57,57,45,57,57,45,57,57]⟩ (O2h _ (by decide)) (by omega) HD.o _).mono ?_;rintro e w1 ⟨rfl,g1⟩;have bA:w1.heap[w.heap.size]?=some (V4s ⟨#[]⟩ ⟨#[]⟩ ⟨#[]⟩ ⟨#[]⟩ 0):=(g1.block (by simp)).trans (U10 w _);obtain⟨p0,p1,p2,p3,p4,pf,ay⟩:=Oa bA;go_wp2_with fail;refine (Obx s hs _).mono ?_;rintro e w2 ⟨⟨t,p,rfl,hc⟩,g2⟩;rw[hc]at HX HS;obtain⟨st,sp⟩:=HS.o;simp only[O0]at st sp;clear hc HS;have aA:w2.heap[w.heap.size]?=some (V4s ⟨#[]⟩ ⟨#[]⟩ ⟨#[]⟩ ⟨#[]⟩ 0):=(g2.block (by simpa using ay)).trans (O4f bA _);clear p0 p1 p2 p3 p4 pf;obtain⟨p0,p1,p2,p3,p4,pf,aJ⟩:=Oa aA;go_wp2_with fail;refine (Oby t p (by omega) (by omega) _).mono ?_;refine Z48 ?_;have aO:=O4h (O4g aA t) p;obtain⟨W3,bQ⟩:=ExZ ((w2.setCell ⟨w.heap.size,1,none⟩ (.string t)).setCell ⟨w.heap.size,2,none⟩ (.string p))
 have g3:Gr w W3:=by rw[<-bQ];exact ((((((Gr.refl w).alloc _).trans g1).setCell (by simp) _).trans g2).setCell (by simp) _).setCell (by simp) _
 rw[bQ]at aO⊢;clear bQ p0 p1 p2 p3 p4 pf;obtain⟨p0,p1,p2,p3,p4,pf,iX⟩:=Oa aO;go_wp2_with fail;exact U1 (v:=V8x ⟨#[]⟩ t p ⟨#[]⟩ (V29 (bs t) (bs p):Nat)) (by simp[results,results97,go_sem,p0,p1,p2,p3,p4,pf,iX]) rfl ⟨⟨⟨#[]⟩,t,p,⟨#[]⟩,by (rw[HX.o];try rfl),by (rw[HX.o];try rfl),by (rw[HX.o];try rfl),by (rw[HX.o];try rfl),by (rw[HX.o];try rfl),U1p _,st,sp,U1p _⟩,by (repeat refine Gr.setCell ?_ (U2 _) _);exact g3⟩
theorem Obz(s:ByteArray)(hs:s.size<=20000000)(hd:Vv (bs s) V49=true)(w:World) :
    Calls prog 97 #[.string s] w λ e w'=>O99 s.size (Vf (bs s)) e/\Gr w w':=by
 have ao:=V36 _ _ hd;rw[O0,show V49.length=10 from rfl]at ao;obtain⟨D,hD⟩:=ExZ (s.extract 0 10)
 have pB:D.size=10:=by rw[<-hD];simp;omega
 have zV:bs D=(bs s).take 10:=by rw[<-hD,O1y]
 obtain⟨n1,n2,n3⟩:=Ofg (x:=D) (by omega);have HF:Hid (∀W,Calls prog 125 #[.string s,.string ⟨#[57,57,57,57,45,57,57,45,57,57]⟩] W λ e w'=>e = .returned (.string D)/\Gr W w'):=U0 (λ W=>by
  refine (O6i s ⟨#[57,57,57,57,45,57,57,45,57,57]⟩ (O2h _ (by decide)) (by omega) W).mono ?_;rintro e w' ⟨rfl,g⟩;refine⟨?_,g⟩;rw[show Vv (bs s) (bs ⟨#[57,57,57,57,45,57,57,45,57,57]⟩)=true from hd,Ua rfl,<-hD];rfl)
 obtain⟨r,hr⟩:=ExZ (s.extract 10 s.size)
 have gQ:bs r=(bs s).drop 10:=by rw[<-hr,O3]
 have oe:r.size=s.size-10:=by rw[<-hr];simp
 have hX:Vf (bs s)=if Ve V4a (bs r) then
     (if (Vi ((bs s).drop 11)).1=[] then ⟨bs D,[],[],[],10⟩ else
      ⟨bs D,(Vi ((bs s).drop 11)).1,(Vi ((bs s).drop 11)).2,V22 ((bs s).drop (10+(1+V29 (Vi ((bs s).drop 11)).1 (Vi ((bs s).drop 11)).2))),10+(1+V29 (Vi ((bs s).drop 11)).1 (Vi ((bs s).drop 11)).2)+(V22 ((bs s).drop (10+(1+V29 (Vi ((bs s).drop 11)).1 (Vi ((bs s).drop 11)).2)))).length⟩)
     else ⟨bs D,[],[],[],10⟩:=by
  unfold Vf;rw[Ua hd,gQ,zV]
 have SM:(D.size:Int)=10:=by omega
 have k1:(10:Int)<=(s.size:Int):=by omega
 have HX:=U0 hX;have HR:=U0 hr;have E8:=U0 gQ;have Fo:=U0 (show D.size<=s.size by omega);clear hX hr gQ hD zV hd n3 pB;go_enter func97,ntmps97;go_wp2_with fail;refine (HF.o _).mono ?_;rintro e w1 ⟨rfl,g1⟩;have bA:w1.heap[w.heap.size]?=some (V4s ⟨#[]⟩ ⟨#[]⟩ ⟨#[]⟩ ⟨#[]⟩ 0):=(g1.block (by simp)).trans (U10 w _);obtain⟨p0,p1,p2,p3,p4,pf,ay⟩:=Oa bA;have cy:Gr w w1:=((Gr.refl w).alloc _).trans g1;clear g1;have gt:(r.toList=[]/\r.toList.isEmpty=true/\Ve V4a (bs r)=false)\/(∃e0:0<r.size,(¬r.toList=[]/\r.toList.isEmpty=false/\(0:Int)<(r.size:Int))/\V4a (r[0]'e0)=Ve V4a (bs r)):=by
  rcases O26 r with⟨h1,h2,h3⟩|⟨h1,h2,h3⟩
  left;exact⟨h1,h2,by rw[U2l.1 h3];rfl⟩
  right;have e0:0<r.size:=by
   rcases Nat.eq_zero_or_pos r.size with h|h
   exfalso;apply h1;rw[Uz];exact U1z (by have:=O0 r;unfold bs at this;omega)
   exact h
  refine⟨e0,⟨h1,h2,by omega⟩,?_⟩;have hh:=O8 r 0 e0;simp only[U1l]at hh;rw[hh];rfl
 rcases gt with⟨q1,q2,q3⟩|⟨e0,⟨q1,q2,q4⟩,q3⟩
 ·have HY:Hid (Vf (bs s)=⟨bs D,[],[],[],10⟩):=U0 (by rw[HX.o,q3];rfl);clear q3;have OU:=HR.o;go_wp2_with fail;exact J54
 have OU:=HR.o;cases n8:V4a (r[0]'e0) with
 |false =>
  have HY:Hid (Vf (bs s)=⟨bs D,[],[],[],10⟩):=U0 (by rw[HX.o,<-q3,n8];rfl);have HC:Hid ((bs ⟨#[84,116,32]⟩).contains (r[0]'e0)=false):=U0 (by rw[V76];exact n8);clear q3 n8;go_wp2_with (go_at_call 85;refine (Oo ⟨#[84,116,32]⟩ _ false HC.o _).mono ?_;rintro e w3 ⟨⟨i,rfl,hi⟩,rfl⟩;have ei:decide (i<0)=true:=(by simp at hi⊢;omega);clear hi);exact J54
 |true =>
  have HC:Hid ((bs ⟨#[84,116,32]⟩).contains (r[0]'e0)=true):=U0 (by rw[V76];exact n8);rw[<-q3,n8,Ua rfl]at HX;obtain⟨r1,aU⟩:=ExZ (r.extract 1 r.size)
  have pE:bs r1=(bs s).drop 11:=by rw[<-aU,O3,E8.o,U16]
  have xv:r1.size=s.size-11:=by rw[<-aU];simp;omega
  rw[<-pE]at HX;have d5:=V6b (bs r1);have eU:=V4q (bs r1);have Bq:=V7p (bs r1);rw[O0]at d5 eU;have OV:=U0 oe;have Br:=U0 xv;have HS:=U0 d5;have fI:=U0 eU;have sT:=U0 Bq;have k2:(1:Int)<=(r.size:Int):=by omega
  have aA:=O3k (O4f bA D) 10;clear q3 n8 pE d5 eU Bq oe xv;go_wp2_with (go_at_call 85;refine (Oo ⟨#[84,116,32]⟩ _ true HC.o _).mono ?_;rintro e w3 ⟨⟨i,rfl,hi⟩,rfl⟩;have ei:decide (i<0)=false:=(by simp at hi⊢;omega);clear hi)
  try rw[aU]
  obtain⟨W2,dU⟩:=ExZ ((w1.setCell ⟨w.heap.size,0,none⟩ (.string D)).setCell ⟨w.heap.size,4,none⟩ (10:Int))
  have bC:Gr w W2:=by rw[<-dU];exact (cy.setCell (U2 _) _).setCell (U2 _) _
  have aJ:w.heap.size<W2.heap.size:=by rw[<-dU];simpa using ay
  rw[dU]at aA⊢;clear dU bA cy p0 p1 p2 p3 p4 pf ay;refine (Obx r1 (by have:=Br.o;omega) _).mono ?_;rintro e w3 ⟨⟨t,p,rfl,hc⟩,g3⟩;rw[hc]at HX HS fI sT;simp only at HX HS fI sT;have aO:=(g3.block aJ).trans aA;have dh:=bC.trans g3;obtain⟨st,sp⟩:=HS.o;simp only[O0]at st sp;have xv:=Br.o;clear g3 bC aA hc HS aJ;obtain⟨p0,p1,p2,p3,p4,pf,iX⟩:=Oa aO;have dk:=O4h (O4g aO t) p;have du:Gr w ((w3.setCell ⟨w.heap.size,1,none⟩ (.string t)).setCell ⟨w.heap.size,2,none⟩ (.string p)):=(dh.setCell (U2 _) _).setCell (U2 _) _;rcases O26 t with⟨t1,t2,t3⟩|⟨t1,t2,t3⟩
  ·have Eb:bs t=[]:=U2l.1 t3;have zo:p=⟨#[]⟩:=Oh6 (sT.o Eb);have GC:t=⟨#[]⟩:=Oh6 Eb;rw[Ua Eb]at HX;subst zo GC;clear t1 t2 t3 Eb sT;go_wp2_with fail;exact O7g (d:=D) (t:=⟨#[]⟩) (p:=⟨#[]⟩) (z:=⟨#[]⟩) (n:=10) rfl rfl (O3k (O88 (O4h (O4g (O4f (O4h (O4g aO _) _) _) _) _) _) _) ⟨⟨D,⟨#[]⟩,⟨#[]⟩,⟨#[]⟩,by (rw[HX.o];try rfl),by (rw[HX.o];try rfl),by (rw[HX.o];try rfl),by (rw[HX.o];try rfl),by (rw[HX.o];try rfl),Fo.o,U1p _,U1p _,U1p _⟩,by (repeat refine Gr.setCell ?_ (U2 _) _);exact dh⟩
  rw[Ud (λ e=>by rw[e]at t3;cases t3)]at HX;obtain⟨af,GD⟩:=ExZ (V29 (bs t) (bs p))
  rw[GD]at HX fI;have eU:=fI.o;have Lf:=U0 (Oby t p (by omega) (by omega));rw[GD]at Lf;have e1:IntKind.i64.wrap (1+(af:Int))=1+(af:Int):=Uk _ ⟨by omega,by omega⟩;have e2:IntKind.i64.wrap (10+(1+(af:Int)))=10+(1+(af:Int)):=Uk _ ⟨by omega,by omega⟩;clear t3 GD;go_wp2_with fail;obtain⟨W4,fm⟩:=ExZ (((w3.setCell ⟨w.heap.size,1,none⟩ (.string t)).setCell ⟨w.heap.size,2,none⟩ (.string p)))
  have du:Gr w W4:=by rw[<-fm];exact du
  have dk:W4.heap[w.heap.size]?=some (V4s D t p ⟨#[]⟩ 10):=by rw[<-fm];exact dk
  have hS:Vbg w.heap.size D t p ⟨#[]⟩ 10 W4.drew:=Oa (show W4.drew.heap[w.heap.size]?=_ from dk);rw[fm];clear fm p0 p1 p2 p3 p4 pf iX aO dh;refine Reg.begin' (W:=λ i=>i != 10) (S:=Vbg w.heap.size D t p ⟨#[]⟩ 10) (by kernel_rfl) ?_;refine Reg.ty 0 ?_;refine Reg.ty 2 ?_;refine Reg.ty 4 ?_;refine Reg.tl 1 hS ?_ (hy:=by intro w ab;obtain⟨p0,p1,p2,p3,p4,pf,hz⟩:=ab;go_simp;try with_reducible rfl);refine Reg.tl 3 hS ?_ (hy:=by intro w ab;obtain⟨p0,p1,p2,p3,p4,pf,hz⟩:=ab;go_simp;try with_reducible rfl);refine Reg.tl 5 hS ?_ (hy:=by intro w ab;obtain⟨p0,p1,p2,p3,p4,pf,hz⟩:=ab;go_simp;try with_reducible rfl);refine Reg.on 6 ?_;go_simp;refine (Lf.o _).mono ?_;refine Z27 ?_;refine Z59 ?_;obtain⟨p0,p1,p2,p3,p4,pf,hz⟩:=hS;refine Reg.on 10 ?_;go_simp;refine Z12 ?_;have ie:((W4.setCell ⟨w.heap.size,4,none⟩ (.int .i64 (10+(1+(af:Int))))).drew).heap[w.heap.size]?=some (V4s D t p ⟨#[]⟩ (10+(1+(af:Int)))):=O3k dk (10+(1+(af:Int)));obtain⟨W5,jx⟩:=ExZ ((W4.setCell ⟨w.heap.size,4,none⟩ (.int .i64 (10+(1+(af:Int))))).drew)
  have dJ:Gr w W5:=by rw[<-jx];exact (du.setCell (U2 _) _).drew
  rw[jx]at ie⊢;clear jx du dk p0 p1 p2 p3 p4 pf hz e1 e2;obtain⟨p0,p1,p2,p3,p4,pf,uE⟩:=Oa ie;have k3:(0:Int)<=10+(1+(af:Int)):=by omega
  have k4:10+(1+(af:Int))<=(s.size:Int):=by have:=OV.o;omega
  have k5:(10+(1+(af:Int))).toNat=10+(1+af):=by omega
  obtain⟨x,hx⟩:=ExZ (s.extract (10+(1+af)) s.size)
  have Lg:bs x=(bs s).drop (10+(1+af)):=by rw[<-hx,O3]
  have zT:x.size=s.size-(10+(1+af)):=by rw[<-hx];simp
  have bV:=U0 hx;have OW:=U0 Lg;have Lh:=U0 zT;clear hx Lg zT;go_wp2_with fail;rw[bV.o];refine (Om9 x (by have:=Lh.o;omega) _).mono ?_;rintro e w6 ⟨⟨z,rfl,hz,zZ⟩,g6⟩;rw[<-OW.o,<-hz,O0]at HX;have iB:z.size<=s.size-(10+(1+af)):=by have:=Lh.o;omega
  have kR:=(g6.block uE).trans ie;have eN:=dJ.trans g6;clear g6 dJ ie hz zZ p0 p1 p2 p3 p4 pf uE;obtain⟨p0,p1,p2,p3,p4,pf,se⟩:=Oa kR;have e3:IntKind.i64.wrap (10+(1+(af:Int))+(z.size:Int))=10+(1+(af:Int))+(z.size:Int):=Uk _ ⟨by omega,by omega⟩;go_wp2_with fail;exact O7g (d:=D) (t:=t) (p:=p) (z:=z) (n:=10+(1+(af:Int))+(z.size:Int)) rfl rfl (O3k (O88 (O4h (O4g (O4f (O3k (O88 kR _) _) _) _) _) _) _) ⟨⟨D,t,p,z,by (rw[HX.o];try rfl),by (rw[HX.o];try rfl),by (rw[HX.o];try rfl),by (rw[HX.o];try rfl),by (rw[HX.o];try rfl),Fo.o,by omega,by omega,by omega⟩,by (repeat refine Gr.setCell ?_ (U2 _) _);exact eN⟩
theorem Oc0(s:ByteArray)(hs:s.size<=20000000)(w:World) :
    Calls prog 97 #[.string s] w λ e w'=>O99 s.size (Vf (bs s)) e/\Gr w w':=by
 cases hd:Vv (bs s) V49 with
 |false=>exact Odj s hs hd w
 |true=>exact Obz s hs hd w
namespace Pl
theorem V8l(c:UInt8)(l:Bs)(h:∀d∈c::l,O2 d=true):Lib.atoi (c::l)=some (V1g (c::l):Int):=by
 have hc:=h c (by simp);simp only[O2,Uf,Ux]at hc;have E9:(c==45)=false:=by
  cases hx:c==45 with
  |false=>rfl
  |true=>rw[U1v]at hx;subst hx;simp at hc
 have n7:(c==43)=false:=by
  cases hx:c==43 with
  |false=>rfl
  |true=>rw[U1v]at hx;subst hx;simp at hc
 simp only[Lib.atoi,E9,n7,U11,U1d];unfold Lib.decNat;rw[Ud (by simp),O71 _ 0 h];rfl
end Pl
theorem O7h(U:ByteArray)(h0:0<U.size)(hz:U.size<=18)(hd:∀c∈bs U,O2 c=true)(m:Nat)(hm:V1g (bs U)=m)(W:World) :
    Calls prog 161 #[.string U] W λ e w'=>e = .returned (.tuple #[.int .i64 (m:Int),.nilIface])/\Gr W w':=by
 have cY:Lib.atoi U.data.toList=some (m:Int):=by
  show Lib.atoi (bs U)=_;cases hb:bs U with
  |nil=>have:=O0 U;rw[hb]at this;simp at this;omega
  |cons c l=>rw[hb]at hd hm;rw[V8l c l hd,hm]
 refine (strconv_Atoi U (m:Int) hz cY W).mono ?_;rintro e w' ⟨rfl,t,rfl⟩;exact⟨rfl,O11 W 5 t⟩
theorem O1u(s:ByteArray)(h2:2<=s.size)(hd:∀c∈(bs s).take 2,O2 c=true)(a b:Nat)(w:World) :
    Calls prog 162 #[.string s,.int .i64 (a:Int),.int .i64 (b:Int)] w λ e w'=>e = .returned (.bool (Vu (bs s) a b))/\Gr w w':=by
 obtain⟨U,hU⟩:=ExZ (s.extract 0 2)
 have pC:bs U=(bs s).take 2:=by rw[<-hU,O1y]
 have Bp:U.size=2:=by rw[<-hU];simp;omega
 obtain⟨m,hm⟩:=ExZ (V1g (bs U))
 rw[<-pC]at hd;have HA:=U0 (O7h U (by omega) (by omega) hd m hm);have hX:Vu (bs s) a b=(decide (a<=m)&&decide (m<=b)):=by unfold Vu;rw[<-pC,hm]
 have HX:=U0 hX;have k1:(2:Int)<=(s.size:Int):=by omega
 clear hd pC hX hm;by_cases h1:a<=m
 have d1:decide (a<=m)=true:=by simp;omega
 by_cases h3:m<=b
 have d2:decide (m<=b)=true:=by simp;omega
 have HY:Hid (Vu (bs s) a b=true):=U0 (by rw[HX.o];simp[h1,h3]);clear h1 h3;exact J137
 have d2:decide (m<=b)=false:=by simp;omega
 have HY:Hid (Vu (bs s) a b=false):=U0 (by rw[HX.o];simp[h3]);clear h1 h3;exact J137
 have d1:decide (a<=m)=false:=by simp;omega
 have HY:Hid (Vu (bs s) a b=false):=U0 (by rw[HX.o];simp[h1]);clear h1;exact J137
theorem Omf(y m:Nat)(hy:y<=9999)(hm:m<=99)(w:World) :
    Calls prog 163 #[.int .i64 (y:Int),.int .i64 (m:Int)] w λ e w'=>e = .returned (.int .i64 (V2c y m))/\w=w':=by
 have t4:(y:Int).tmod 4=((y % 4:Nat):Int):=by rw[U2t (by omega)];omega
 have t100:(y:Int).tmod 100=((y % 100:Nat):Int):=by rw[U2t (by omega)];omega
 have GE:(y:Int).tmod 400=((y % 400:Nat):Int):=by rw[U2t (by omega)];omega
 obtain⟨a4,GF⟩:=ExZ (y % 4)
 obtain⟨sU,pF⟩:=ExZ (y % 100)
 obtain⟨sV,pG⟩:=ExZ (y % 400)
 have HX:Hid (V2c y m=if m=2 then (if a4≠0\/(sU=0/\sV≠0) then 28 else 29) else if m=4\/m=6\/m=9\/m=11 then 30 else 31):=U0 (by unfold V2c;rw[GF,pF,pG]);rw[GF]at t4;rw[pF]at t100;rw[pG]at GE;clear GF pF pG hy hm;by_cases h2:m=2
 subst h2;by_cases h4:a4=0
 subst h4;by_cases Bt:sU=0
 subst Bt;by_cases Bu:sV=0;subst Bu;have HY:Hid (V2c y 2=29):=U0 (by rw[HX.o];rfl);exact J55
 have q1:((sV:Int) != 0)=true:=by simp;omega
 have q2:((sV:Int)==0)=false:=by simp;omega
 have HY:Hid (V2c y 2=28):=U0 (by rw[HX.o,Ua rfl,Ua (.inr ⟨rfl,Bu⟩)]);exact J55
 have q1:((sU:Int) != 0)=true:=by simp;omega
 have q2:((sU:Int)==0)=false:=by simp;omega
 have HY:Hid (V2c y 2=29):=U0 (by rw[HX.o,Ua rfl,Ud (by rintro (h|h);exact h rfl;exact Bt h.1)]);exact J55
 have q1:((a4:Int) != 0)=true:=by simp;omega
 have q2:((a4:Int)==0)=false:=by simp;omega
 have HY:Hid (V2c y 2=28):=U0 (by rw[HX.o,Ua rfl,Ua (.inl h4)]);exact J55
 have q2:((m:Int)==2)=false:=by simp;omega
 rw[Ud h2]at HX;by_cases h4:m=4;subst h4;have HY:Hid (V2c y 4=30):=U0 (by rw[HX.o];rfl);exact J55
 have q4:((m:Int)==4)=false:=by simp;omega
 by_cases h6:m=6;subst h6;have HY:Hid (V2c y 6=30):=U0 (by rw[HX.o];rfl);exact J55
 have q6:((m:Int)==6)=false:=by simp;omega
 by_cases h9:m=9;subst h9;have HY:Hid (V2c y 9=30):=U0 (by rw[HX.o];rfl);exact J55
 have q9:((m:Int)==9)=false:=by simp;omega
 by_cases Ea:m=11;subst Ea;have HY:Hid (V2c y 11=30):=U0 (by rw[HX.o];rfl);exact J55
 have SO:((m:Int)==11)=false:=by simp;omega
 have HY:Hid (V2c y m=31):=U0 (by rw[HX.o,Ud (by omega)]);exact J55
namespace Pl
theorem Ohc:∀(l m:Bs),Vv l m=true->∀(i:Nat) w,m[i]?=some w->∃c,l[i]?=some c/\V63 w c=true:=by
 intro l
 induction l with
 |nil =>
  intro m h i w hw;cases m with
  |nil=>simp at hw
  |cons a m=>simp[Vv]at h
 |cons c l ih =>
  intro m h i w hw;cases m with
  |nil=>simp at hw
  |cons a m =>
   simp only[Vv,Uf]at h;cases i with
   |zero=>simp only[U1h,Uc]at hw⊢;subst hw;exact⟨c,rfl,h.1⟩
   |succ i=>simp only[List.getElem?_cons_succ]at hw⊢;exact ih m h.2 i w hw
theorem V38(l m:Bs)(h:Vv l m=true)(a k:Nat)(hm:∀i,i<k->m[a+i]?=some 57):∀c∈(l.drop a).take k,O2 c=true:=by
 intro c hc;obtain⟨i,hi⟩:=List.mem_iff_getElem?.1 hc;rw[List.getElem?_take]at hi
 split at hi
 rename_i OX
 rw[U1f]at hi;obtain⟨c',h1,h2⟩:=Ohc l m h (a+i) 57 (hm i OX);rw[hi]at h1;cases h1;exact h2
 cases hi
structure V9j(d t z:Bs):Prop where
 d:d=[]\/(d.length=10/\Vv d V49=true)
 t:t=[]\/(t.length=8/\Vv t V4f=true)
 z:z.length<2\/(z.length=6/\Vv (z.drop 1) V44=true)
theorem O52:∀(l m:Bs),Vv l m=true->Vv (l.take m.length) m=true:=by
 intro l
 induction l with
 |nil=>intro m h;simpa using h
 |cons c l ih =>
  intro m h;cases m with
  |nil=>rfl
  |cons a m =>
   simp only[Vv,Uf]at h;simp only[Ub,U2q,Vv,Uf];exact⟨h.1,ih m h.2⟩
theorem O9x(l:Bs):(Vi l).1=[]\/((Vi l).1.length=8/\Vv (Vi l).1 V4f=true):=by
 unfold Vi
 split
 rename_i h
 right;have:=V36 l V4f h;have h8:V4f.length=8:=rfl;refine⟨by rw[U17];omega,?_⟩;have h2:=O52 l V4f h;rw[h8]at h2;exact h2
 exact .inl rfl
theorem Ojp(l:Bs):(V22 l).length<2\/((V22 l).length=6/\Vv ((V22 l).drop 1) V44=true):=by
 unfold V22;cases l with
 |nil=>left;simp
 |cons c r =>
  simp only
  split;left;simp
  split
  rename_i h
  right;simp only[Uf]at h;have:=V36 r V44 h.2;have h5:V44.length=5:=rfl;refine⟨by simp;omega,?_⟩;have h2:=O52 r V44 h.2;rw[h5]at h2
  simpa using h2
  left;simp
theorem V84(l:Bs):V9j (Vf l).date (Vf l).time (Vf l).zone:=by
 have hd:Vv l V49=true->(l.take 10).length=10/\Vv (l.take 10) V49=true:=λ h=>by
  have:=V36 l V49 h;have bD:V49.length=10:=rfl;have h2:=O52 l V49 h;rw[bD]at h2;exact⟨by rw[U17];omega,h2⟩
 unfold Vf
 split
 rename_i h
 split
 have ht:=O9x (l.drop 11);generalize Vi (l.drop 11)=x at ht⊢;obtain⟨t,p⟩:=x;simp only at ht⊢
 split;exact⟨.inr (hd h),.inl rfl,.inl (by simp)⟩
 exact⟨.inr (hd h),ht,Ojp _⟩
 exact⟨.inr (hd h),.inl rfl,.inl (by simp)⟩
 exact⟨.inl rfl,O9x l,.inl (by simp)⟩
theorem V61(l:Bs)(k:Nat)(h:∀c∈l.take k,O2 c=true):V1g (l.take k)<10 ^ k:=by
 have h1:=V6l (l.take k) 0 h;unfold V1g;refine U4 h1 ?_;rw[Uu,Nat.one_mul];exact U3k (by omega) (by rw[U17];omega)
end Pl
def V9k(w:World)(b:Nat)(d t p z:ByteArray)(n:Int)(W:World):Prop:=Vbg b d t p z n W/\W.heap[b]?=some (V4s d t p z n)/\Gr w W
theorem V9k.gr{w W W':World}{b:Nat}{d t p z:ByteArray}{n:Int}(h:V9k w b d t p z n W)(g:Gr W W'):V9k w b d t p z n W' :=
 have hb:=(g.block h.1.2.2.2.2.2.2).trans h.2.1
 ⟨Oa hb,hb,h.2.2.trans g⟩
theorem Oo1(d t p z:ByteArray)(n:Int)(c:V8a)(hd:bs d=c.date)(ht:bs t=c.time)(hz:bs z=c.zone)(hk:V9j (bs d) (bs t) (bs z))(w:World) :
    Calls prog 129 #[V8x d t p z n] w λ e w'=>e = .returned (.bool (V45 c))/\Gr w w':=by
 obtain⟨A,hA⟩:=ExZ ((c.date.isEmpty || (Vu (c.date.drop 5) 1 12&&Vu (c.date.drop 8) 1 (V2c (V1g (c.date.take 4)) (V1g ((c.date.drop 5).take 2))))))
 obtain⟨B,hB⟩:=ExZ ((c.time.isEmpty || (Vu c.time 0 23&&Vu (c.time.drop 3) 0 59&&Vu (c.time.drop 6) 0 (if (c.time.drop 3).take 2=[53,57] then 60 else 59))))
 obtain⟨C,hC⟩:=ExZ ((decide (c.zone.length<2) || (Vu (c.zone.drop 1) 0 23&&Vu (c.zone.drop 4) 0 59)))
 have hX:V45 c=(A&&B&&C):=by unfold V45;rw[hA,hB,hC]
 have HX:=U0 hX;rw[<-hd]at hA;rw[<-ht]at hB;rw[<-hz]at hC;clear hX hd ht hz;have HA:Hid ((d.toList.isEmpty=true/\d.toList=[]/\A=true)\/(¬d.toList=[]/\d.toList.isEmpty=false/\(10:Int)<=(d.size:Int) /\
     ∃(y m:Nat)(x1 x2:Bool),A=(x1&&x2) /\
     (∀W,Calls prog 161 #[.string (d.extract 0 4)] W λ e w'=>e = .returned (.tuple #[.int .i64 (y:Int),.nilIface])/\Gr W w') /\
     (∀W,Calls prog 161 #[.string (d.extract 5 7)] W λ e w'=>e = .returned (.tuple #[.int .i64 (m:Int),.nilIface])/\Gr W w') /\
     (∀W,Calls prog 162 #[.string (d.extract 5 d.size),(1:Int),(12:Int)] W λ e w'=>e = .returned (.bool x1)/\Gr W w') /\
     (∀W,Calls prog 163 #[.int .i64 (y:Int),.int .i64 (m:Int)] W λ e w'=>e = .returned (.int .i64 (V2c y m))/\W=w') /\
     (∀W,Calls prog 162 #[.string (d.extract 8 d.size),(1:Int),.int .i64 (V2c y m)] W λ e w'=>e = .returned (.bool x2)/\Gr W w'))):=U0 (by
  rcases hk.d with h|⟨bD,hf⟩
  left;have h1:d.toList=[]:=by rw[Uz];exact h
  exact⟨by rw[h1];rfl,h1,by rw[<-hA,h];rfl⟩
  right;rw[O0]at bD;obtain⟨n1,n2,n3⟩:=Ofg (x:=d) (by omega);have e4:bs (d.extract 0 4)=(bs d).take 4:=O1y d 4;have Li:bs (d.extract 5 7)=((bs d).drop 5).take 2:=Oh5 _ _ _;have e5:bs (d.extract 5 d.size)=(bs d).drop 5:=O3 d 5;have e8:bs (d.extract 8 d.size)=(bs d).drop 8:=O3 d 8;have f4:=V38 _ _ hf 0 4 (λ i hi=>by match i,hi with|0,_=>rfl|1,_=>rfl|2,_=>rfl|3,_=>rfl);have f5:=V38 _ _ hf 5 2 (λ i hi=>by match i,hi with|0,_=>rfl|1,_=>rfl);have f8:=V38 _ _ hf 8 2 (λ i hi=>by match i,hi with|0,_=>rfl|1,_=>rfl);rw[U1l]at f4;refine⟨n1,n2,by omega,V1g ((bs d).take 4),V1g (((bs d).drop 5).take 2),Vu ((bs d).drop 5) 1 12,Vu ((bs d).drop 8) 1 (V2c (V1g ((bs d).take 4)) (V1g (((bs d).drop 5).take 2))),?_,?_,?_,?_,?_,?_⟩;rw[<-hA,n3,U3r];exact λ W=>O7h _ (by simp;omega) (by simp;omega) (by rw[e4];exact f4) _ (by rw[e4]) W
  exact λ W=>O7h _ (by simp;omega) (by simp;omega) (by rw[Li];exact f5) _ (by rw[Li]) W
  intro W;have:=O1u (d.extract 5 d.size) (by simp;omega) (by rw[e5];exact f5) 1 12 W;rw[e5]at this;exact this;exact λ W=>Omf _ _ (by have:=V61 (bs d) 4 f4;omega) (by have:=V61 ((bs d).drop 5) 2 f5;omega) W
  intro W;have:=O1u (d.extract 8 d.size) (by simp;omega) (by rw[e8];exact f8) 1 (V2c (V1g ((bs d).take 4)) (V1g (((bs d).drop 5).take 2))) W;rw[e8]at this;exact this)
 have HB:Hid ((t.toList.isEmpty=true/\t.toList=[]/\B=true)\/(¬t.toList=[]/\t.toList.isEmpty=false/\(8:Int)<=(t.size:Int) /\
     ∃(x1 x2 x3:Bool)(pH:Nat),B=(x1&&x2&&x3)/\(((t.extract 3 5).toList==[53,57])=true/\pH=60\/((t.extract 3 5).toList==[53,57])=false/\pH=59) /\
     (∀W,Calls prog 162 #[.string t,(0:Int),(23:Int)] W λ e w'=>e = .returned (.bool x1)/\Gr W w') /\
     (∀W,Calls prog 162 #[.string (t.extract 3 t.size),(0:Int),(59:Int)] W λ e w'=>e = .returned (.bool x2)/\Gr W w') /\
     (∀W,Calls prog 162 #[.string (t.extract 6 t.size),(0:Int),.int .i64 (pH:Int)] W λ e w'=>e = .returned (.bool x3)/\Gr W w'))):=U0 (by
  rcases hk.t with h|⟨h8,hf⟩
  left;have h1:t.toList=[]:=by rw[Uz];exact h
  exact⟨by rw[h1];rfl,h1,by rw[<-hB,h];rfl⟩
  right;rw[O0]at h8;obtain⟨n1,n2,n3⟩:=Ofg (x:=t) (by omega);have Lj:bs (t.extract 3 5)=((bs t).drop 3).take 2:=Oh5 _ _ _;have e3:bs (t.extract 3 t.size)=(bs t).drop 3:=O3 t 3;have e6:bs (t.extract 6 t.size)=(bs t).drop 6:=O3 t 6;have f0:=V38 _ _ hf 0 2 (λ i hi=>by match i,hi with|0,_=>rfl|1,_=>rfl);have f3:=V38 _ _ hf 3 2 (λ i hi=>by match i,hi with|0,_=>rfl|1,_=>rfl);have f6:=V38 _ _ hf 6 2 (λ i hi=>by match i,hi with|0,_=>rfl|1,_=>rfl);rw[U1l]at f0;refine⟨n1,n2,by omega,Vu (bs t) 0 23,Vu ((bs t).drop 3) 0 59,Vu ((bs t).drop 6) 0 (if ((bs t).drop 3).take 2=[53,57] then 60 else 59),(if ((bs t).drop 3).take 2=[53,57] then 60 else 59),?_,?_,?_,?_,?_⟩;rw[<-hB,n3,U3r]
  rw[Uz];by_cases h5:((bs t).drop 3).take 2=[53,57];left;rw[Ua h5];exact⟨U1v.2 (by show bs (t.extract 3 5)=_;rw[Lj,h5]),rfl⟩
  right;rw[Ud h5];exact⟨U2r.2 (by show bs (t.extract 3 5)≠_;rw[Lj];exact h5),rfl⟩;exact λ W=>O1u t (by omega) f0 0 23 W
  intro W;have:=O1u (t.extract 3 t.size) (by simp;omega) (by rw[e3];exact f3) 0 59 W;rw[e3]at this;exact this
  intro W;have:=O1u (t.extract 6 t.size) (by simp;omega) (by rw[e6];exact f6) 0 (if ((bs t).drop 3).take 2=[53,57] then 60 else 59) W;rw[e6]at this;exact this)
 have HC:Hid ((decide ((z.size:Int)<2)=true/\C=true)\/(decide ((z.size:Int)<2)=false/\(6:Int)<=(z.size:Int) /\
     ∃x1 x2:Bool,C=(x1&&x2) /\
     (∀W,Calls prog 162 #[.string (z.extract 1 z.size),(0:Int),(23:Int)] W λ e w'=>e = .returned (.bool x1)/\Gr W w') /\
     (∀W,Calls prog 162 #[.string (z.extract 4 z.size),(0:Int),(59:Int)] W λ e w'=>e = .returned (.bool x2)/\Gr W w'))):=U0 (by
  rcases hk.z with h|⟨h6,hf⟩
  left;rw[O0]at h;exact⟨by simp;omega,by rw[<-hC,O0,decide_eq_true h];rfl⟩
  right;rw[O0]at h6;have e1:bs (z.extract 1 z.size)=(bs z).drop 1:=O3 z 1;have e4:bs (z.extract 4 z.size)=(bs z).drop 4:=O3 z 4;have f0:=V38 _ _ hf 0 2 (λ i hi=>by match i,hi with|0,_=>rfl|1,_=>rfl);have f3:=V38 _ _ hf 3 2 (λ i hi=>by match i,hi with|0,_=>rfl|1,_=>rfl);rw[U1l]at f0;rw[U16]at f3;refine⟨by simp;omega,by omega,Vu ((bs z).drop 1) 0 23,Vu ((bs z).drop 4) 0 59,?_,?_,?_⟩;rw[<-hC,O0,U3a (by omega),U3r];intro W;have:=O1u (z.extract 1 z.size) (by simp;omega) (by rw[e1];exact f0) 0 23 W;rw[e1]at this;exact this
  intro W;have:=O1u (z.extract 4 z.size) (by simp;omega) (by rw[e4];exact f3) 0 59 W;rw[e4]at this;exact this)
 clear hA hB hC hk;go_enter func129,ntmps129;have jo:(w.alloc (V4s d t p z n)).heap[w.heap.size]?=some (V4s d t p z n):=U10 w _;have eR:Gr w (w.alloc (V4s d t p z n)):=(Gr.refl w).alloc _;obtain⟨p0,p1,p2,p3,p4,pf,hz⟩:=Oa jo;rcases HA.o with⟨d1,d2,Ax⟩|⟨d1,d2,d3,y,m,a1,a2,dA,hY,hM,rA,Lk,Ll⟩
 ·skip;rcases HB.o with⟨t1,t2,AF⟩|⟨t1,t2,t3,b1,b2,b3,pH,tB,tl,fH,sq,cK⟩
  ·skip;rcases HC.o with⟨z1,zC⟩|⟨z1,z2,v1,v2,zC,zf,zg⟩
   ·refine Z176 ?_;intro HY;go_wp2_with fail
    go_ret
    exact⟨by (rw[HY.o];try rfl),eR⟩
   refine Z88 ?_;intro k1 k4 wC Aw;clear zf zg;go_wp2_with fail;refine (wC.o _).mono ?_;refine Z288 ?_;intro w7 g7 wM nM;clear g7 jo eR p0 p1 p2 p3 p4 pf hz;exact J56
  refine Z271 ?_;intro k3 k5 k6 iD nL ig;clear fH sq cK;rcases tl with⟨GG,rfl⟩|⟨GG,rfl⟩
  skip;exact J209
  skip;exact J209
 have SP:(4:Int)<=(d.size:Int):=by omega
 have SQ:(5:Int)<=(d.size:Int):=by omega
 have ST:(7:Int)<=(d.size:Int):=by omega
 have SU:(8:Int)<=(d.size:Int):=by omega
 have OY:=U0 hY;have OZ:=U0 hM;have NB:=U0 rA;have Gp:=U0 Ll;have O':=U0 Lk;clear hY hM rA Ll Lk;go_wp2_with fail;refine (OY.o _).mono ?_;refine Z288 ?_;intro w1 g1 bA cy;clear g1 jo eR p0 p1 p2 p3 p4 pf hz;obtain⟨p0,p1,p2,p3,p4,pf,hz⟩:=Oa bA;go_wp2_with fail;refine (OZ.o _).mono ?_;rintro e w2 ⟨rfl,g2⟩;have aA:=(g2.block hz).trans bA;have bC:=cy.trans g2;clear g2 bA cy p0 p1 p2 p3 p4 pf hz;obtain⟨p0,p1,p2,p3,p4,pf,hz⟩:=Oa aA;go_wp2_with fail;have hS:V9k w w.heap.size d t p z n w2.drew:=⟨Oa (show w2.drew.heap[w.heap.size]?=_ from aA),aA,bC.drew⟩
 cases a1 with
 |false =>
  refine Z136 ?_;intro w3 g3 aD;refine Z16 ?_;refine Z89 ?_;refine Reg.sk 6 ?_;refine Reg.sk 7 ?_;refine Z299 ?_;refine Reg.ty 14 ?_;refine Z12 ?_;have HY:Hid (V45 c=false):=U0 (by rw[HX.o,dA];rfl);go_wp2_with fail
  go_ret
  exact⟨by (rw[HY.o];try rfl),aD.2.2⟩
 |true =>
  refine Z136 ?_;intro w3 g3 aD;refine Z16 ?_;refine Z309 ?_;refine Reg.tl 7 aD ?_ (hy:=by intro w ab;obtain⟨⟨p0,p1,p2,p3,p4,pf,hz⟩,_,_⟩:=ab;go_simp;try with_reducible rfl);refine Z46 ?_;refine Reg.on 11 ?_;go_simp;refine (O'.o _).mono ?_;refine Z48 ?_;refine Z16 ?_;refine Reg.on 12 ?_;go_simp;refine (Gp.o _).mono ?_;rintro e w4 ⟨rfl,g4⟩;have ce:=aD.gr g4;refine Z34 ?_;refine Reg.ty 13 ?_;refine Reg.ty 14 ?_;refine Z12 ?_;have aO:=ce.2.1;have dh:=ce.2.2;clear hS aD ce g3 g4 aA bC p0 p1 p2 p3 p4 pf hz;obtain⟨p0,p1,p2,p3,p4,pf,hz⟩:=Oa aO;cases a2 with
  |false =>
   have HY:Hid (V45 c=false):=U0 (by rw[HX.o,dA];rfl);go_wp2_with fail
   go_ret
   exact⟨by (rw[HY.o];try rfl),dh⟩
  |true =>
   have Ax:A=true:=dA;rcases HB.o with⟨t1,t2,AF⟩|⟨t1,t2,t3,b1,b2,b3,pH,tB,tl,fH,sq,cK⟩
   ·skip;rcases HC.o with⟨z1,zC⟩|⟨z1,z2,v1,v2,zC,zf,zg⟩
    ·refine Z176 ?_;intro HY;go_wp2_with fail
     go_ret
     exact⟨by (rw[HY.o];try rfl),dh⟩
    refine Z88 ?_;intro k1 k4 wC Aw;clear zf zg;go_wp2_with fail;refine (wC.o _).mono ?_;rintro e w7 ⟨rfl,g7⟩;have wM:=(g7.block hz).trans aO;have nM:=dh.trans g7;clear g7 aO dh p0 p1 p2 p3 p4 pf hz;exact J56
   refine Z271 ?_;intro k3 k5 k6 iD nL ig;clear fH sq cK;rcases tl with⟨GG,rfl⟩|⟨GG,rfl⟩
   skip;exact J204
   skip;exact J204
namespace Pl
theorem Ohd:∀(l m:Bs),Vv l m=true->(∀w∈m,w.toNat<128)->∀c∈l.take m.length,c.toNat<128:=by
 intro l
 induction l with
 |nil=>intro m _ _ c hc;simp at hc
 |cons a l ih =>
  intro m h hm c hc;cases m with
  |nil=>simp at hc
  |cons w m =>
   simp only[Vv,Uf]at h;simp only[Ub,U2q,U1k]at hc;rcases hc with rfl|hc
   have h1:=h.1;unfold V63 at h1
   split at h1;simp at h1;omega
   have:=hm w (by simp);simp at h1;omega
   exact ih m h.2 (λ x hx=>hm x (by simp[hx])) c hc
theorem Ohe(l:Bs):∀c∈V22 l,c.toNat<128:=by
 unfold V22;cases l with
 |nil=>simp
 |cons a r =>
  simp only
  split
  rename_i h
  intro c hc;rw[U13]at hc;subst hc;omega
  split
  rename_i h
  simp only[Uf]at h;intro c hc;rw[show (a::r).take 6=a::r.take 5 from rfl,U1k]at hc;rcases hc with rfl|hc
  have h1:=h.1;unfold Vq at h1;simp at h1;omega
  exact Ohd r V44 h.2 (by decide) c hc
  simp
theorem V64(l:Bs):∀c∈(Vf l).zone,c.toNat<128:=by
 unfold Vf
 split
 split
 generalize Vi (l.drop 11)=x;obtain⟨t,p⟩:=x;simp only
 split;simp
 exact Ohe _
 simp
 simp
theorem V8m(l:Bs):Lib.toUpperA l=V60 l:=by
 unfold Lib.toUpperA V60;congr 1
 funext c
 unfold Lib.upperB Lib.isLowerB;have e:((97:UInt8)<=c&&c<=122)=true ↔ (97<=c.toNat/\c.toNat<=122):=by simp[UInt8.le_iff_toNat_le]
 by_cases h:97<=c.toNat/\c.toNat<=122;rw[Ua h,Ua (e.2 h)]
 rw[Ud h,Ud (λ x=>h (e.1 x))]
end Pl
theorem Omg(d t p z:ByteArray)(n:Int)(c:V8a)(hd:bs d=c.date)(ht:bs t=c.time)(hp:bs p=c.part)(hz:bs z=c.zone)(sd:d.size<=20000000)(st:t.size<=20000000)(sp:p.size<=20000000)(sz:z.size<=20000000)
    (hl:∀x∈bs z,x.toNat<128)(w:World) :
    Calls prog 130 #[V8x d t p z n] w λ e w'=>(∃x:ByteArray,e = .returned (.string x)/\bs x=V5e c)/\Gr w w':=by
 obtain⟨P,hP⟩:∃P:ByteArray,⟨(Vk (bs p)).toArray⟩=P:=⟨_,rfl⟩
 obtain⟨U,hU⟩:∃U:ByteArray,⟨(Lib.toUpperA (bs z)).toArray⟩=U:=⟨_,rfl⟩
 have xw:bs P=Vk c.part:=by rw[<-hP,O1o,hp]
 have pC:bs U=V60 c.zone:=by rw[<-hU,O1o,V8m,hz]
 have OQ:P.size<=20000000:=by
  have h1:=V40 (bs p);rw[hp,<-xw,O0,<-hp,O0]at h1;omega
 have Bp:U.size<=20000000:=by
  have h1:(bs U).length=(bs z).length:=by rw[pC,<-hz];unfold V60;rw[Ul]
  rw[O0,O0]at h1;omega
 have GH:=U0 (Obu p P sp hP);have P0:Hid (∀W,Calls prog 165 #[.string z] W λ e w'=>e = .returned (.string U)/\Gr W w'):=U0 (λ W=>by
  refine (strings_ToUpper_ascii z W (by omega) (Obw hl)).mono ?_;rintro e w' ⟨rfl,g⟩;exact⟨by rw[<-hU],g⟩)
 have hX:V5e c=bs d++(if bs d≠[]/\bs t≠[] then [84] else [])++bs t++(if bs P≠[] then 46::bs P else [])++bs U:=by
  unfold V5e;rw[xw,pC,hd,ht]
 have HX:=U0 hX;have e0:∀x:ByteArray,bs x=x.toList:=λ x=>(Uz x).symm
 have HE:=U0 e0;clear hX hd ht hp hz hP hU xw pC hl e0;rcases O26 d with⟨d1,d2,d3⟩|⟨d1,d2,d3⟩
 all_goals rcases O26 t with⟨t1,t2,t3⟩|⟨t1,t2,t3⟩
 all_goals rcases O26 P with⟨p1,p2,p3⟩|⟨p1,p2,p3⟩
 all_goals clear d3 t3 p3
 all_goals
  have b1:¬ 9223372036854775807<d.size+1:=by omega
  have b2:¬ 9223372036854775807<d.size+1+t.size:=by omega
  have b3:¬ 9223372036854775807<d.size+t.size:=by omega
  have b4:¬ 9223372036854775807<1+P.size:=by omega
  have b5:¬ 9223372036854775807<d.size+1+t.size+(1+P.size):=by omega
  have b6:¬ 9223372036854775807<d.size+t.size+(1+P.size):=by omega
  have b7:¬ 9223372036854775807<d.size+1+t.size+(1+P.size)+U.size:=by omega
  have b8:¬ 9223372036854775807<d.size+t.size+(1+P.size)+U.size:=by omega
  have b9:¬ 9223372036854775807<d.size+1+t.size+U.size:=by omega
  have ba:¬ 9223372036854775807<d.size+t.size+U.size:=by omega
  go_enter func130,ntmps130;go_wp2_with fail;refine (GH.o _).mono ?_;refine Z48 ?_;go_wp2_with fail;refine (P0.o _).mono ?_;rintro e w2 ⟨rfl,g2⟩;go_wp2_with fail
  go_ret
  refine⟨⟨_,rfl,?_⟩,Gr.auto⟩;rw[HX.o];simp only[HE.o]at *
  simp_all [bs,U1n,Uz]
theorem Omh(s:ByteArray)(hs:s.size<=20000000)(w:World):Calls prog 98 #[.string s] w λ e w'=>Ol (V1q (bs s)) e/\Gr w w':=by
 have hX:V1q (bs s)=if (Vf (bs s)).long=0\/(Vf (bs s)).long<s.size then .bad 3 0 else if V45 (Vf (bs s)) then .ok (V5e (Vf (bs s))) else .bad 9 0:=by unfold V1q;simp only[O0]
 have HX:=U0 hX;clear hX;go_enter func98,ntmps98;go_wp2_with fail;refine (Oc0 s hs _).mono ?_;rintro e w1 ⟨⟨d,t,p,z,rfl,hd,ht,hp,hz,sd,st,sp,sz⟩,g1⟩;have hk:=V84 (bs s);have hl:=V64 (bs s);have pI:=V55 (bs s);rw[O0]at pI;rw[<-hd,<-ht,<-hz]at hk;rw[<-hz]at hl;obtain⟨c,hc⟩:=ExZ (Vf (bs s))
 rw[hc]at HX hd ht hp hz pI⊢;have HM:=U0 (λ W=>Oo1 d t p z c.long c hd ht hz hk W);have HT:=U0 (λ W=>Omg d t p z c.long c hd ht hp hz (by omega) (by omega) (by omega) (by omega) hl W);clear hk hl hc hd ht hp hz;obtain⟨n,hn⟩:=ExZ (c.long)
 rw[hn]at HX HM HT pI⊢;by_cases h0:n=0;subst h0;have HY:Hid (V1q (bs s) = .bad 3 0):=U0 (by rw[HX.o,Ua (.inl rfl)]);exact J167
 have c0:((n:Int)==0)=false:=by simp;omega
 by_cases h1:n<s.size
 have c1:decide ((n:Int)<(s.size:Int))=true:=by simp;omega
 have HY:Hid (V1q (bs s) = .bad 3 0):=U0 (by rw[HX.o,Ua (.inr h1)]);exact J167
 have c1:decide ((n:Int)<(s.size:Int))=false:=by simp;omega
 have aJ:w1.heap.size<(w1.alloc (V4s d t p z n)).heap.size:=by simp
 have P1:(w1.alloc (V4s d t p z n)).heap[w1.heap.size]?=some (V4s d t p z n):=U10 w1 _;go_wp2_with fail;refine (HM.o _).mono ?_;rintro e w2 ⟨rfl,g2⟩;cases hm:V45 c with
 |false =>
  have HY:Hid (V1q (bs s) = .bad 9 0):=U0 (by rw[HX.o,Ud (by omega),Ud (by rw[hm];simp)]);clear hm;go_wp2_with fail;exact U1 (v := .tuple #[.string ⟨#[]⟩,(9:Int)]) (by simp[results,results98,go_sem]) rfl ⟨O1l HY.o,Gr.auto⟩
 |true =>
  have HY:Hid (V1q (bs s) = .ok (V5e c)):=U0 (by rw[HX.o,Ud (by omega),Ua hm]);obtain⟨p0,p1,p2,p3,p4,pf,iX⟩:=Oa ((g2.block (by simp)).trans P1);clear hm;go_wp2_with fail;refine (HT.o _).mono ?_;rintro e w3 ⟨⟨x,rfl,hx⟩,g3⟩;have HZ:Hid (V1q (bs s) = .ok (bs x)):=U0 (by rw[HY.o,hx]);clear hx;go_wp2_with fail;exact U1 (v := .tuple #[.string x,(0:Int)]) (by simp[results,results98,go_sem]) rfl ⟨O51 HZ.o,Gr.auto⟩
theorem Omi(s:ByteArray)(hs:s.size<=20000000)(w:World):Calls prog 70 #[.string s] w λ e w'=>e = .returned (.int .i64 ((Vf (bs s)).long:Int))/\Gr w w':=by
 have HS:=U0 (Oc0 s hs);have xx:∀(d t p z:ByteArray)(n:Int) W,(Instr.field 177 (.agg #[.string d,.string t,.string p,.string z,n]) 4).run prog W = .ok n W:=λ _ _ _ _ _ _=>by kernel_rfl
 go_enter func70,ntmps70;go_wp2_with fail;refine (HS.o _).mono ?_;rintro e w1 ⟨⟨d,t,p,z,rfl,_⟩,g1⟩;exact J17
