/- The proof's part 22. -/
import Derived.Test.YtnkgknbdaiakgaaGreatDoorY21
set_option maxHeartbeats 16000000
set_option linter.all false
set_option maxRecDepth 100000
namespace Go.Proofs.YtnkgknbdaiakgaaGreatDoor
open Pl Go.Proofs.Tryz Go.RowKit Go.Shelf Go.Joins
attribute [local go_sem] U28
theorem O23(s:ByteArray)(n:Nat):bs (s.extract 0 n)=(bs s).take n:=by
 rw[Obm]
theorem Ohb(s:ByteArray)(a b:Nat):bs (s.extract a b)=((bs s).drop a).take (b-a):=by
 simp only[bs,U3b]
theorem Ohc{a b:ByteArray}(h:bs a=bs b):a=b:=U31 (U32.1 h)
theorem Obq{l:List UInt8}(h:∀c∈l,c.toNat<128):∀(j:Nat) b,l[j]?=some b->b.toNat<128:=λ j b hj=>h b (U2g hj)
namespace Pl
theorem V7t(c:UInt8):(bs V36).contains c=O2 c:=by
 have h:∀n:Fin 256,(bs V36).contains (UInt8.ofNat n.1)=O2 (UInt8.ofNat n.1):=Yd;have:=h ⟨c.toNat,U4v c⟩;exact J4
theorem V74(p:UInt8->Bool)(l:Bs):l.take (l.length-(l.dropWhile p).length)=l.takeWhile p:=by
 have h:=U45 (p:=p) (l:=l);have h2:=U2b List.length h;rw[U1c]at h2;have h3:l.length-(l.dropWhile p).length=(l.takeWhile p).length:=Ya;rw[h3];exact (U3t.1 (U41 p)).symm
end Pl
theorem Ohd(s:ByteArray)(hs:s.size<=20000000)(w:World):Calls prog 160 #[.string s] w λ e w'=>(∃t:ByteArray,e=.returned (.string t)/\bs t=(bs s).takeWhile O2/\t.size<=s.size)/\Gr w w':=by
 obtain⟨T,hT⟩:∃T:ByteArray,⟨(Lib.trimLeftS (bs s) (bs V36)).toArray⟩=T:=⟨_,rfl⟩
 have je:bs T=(bs s).dropWhile O2:=by
  rw[<-hT,O1w];unfold Lib.trimLeftS;congr 1
  funext c
  exact V7t c
 have bY:T.size<=s.size:=by rw[<-O0,je,<-O0];exact (U39 _).length_le
 have hx:bs (s.extract 0 (s.size-T.size))=(bs s).takeWhile O2:=by
  rw[O23,<-V74,<-je,O0,O0]
 have HX:=U10 hx;have HT:=U10 hT;have fX:IntKind.i64.wrap ((s.size:Int)-(T.size:Int))=((s.size-T.size:Nat):Int):=by rw[U1i _ ⟨Ya,Ya⟩];omega
 have e1:(0:Int)<=((s.size-T.size:Nat):Int):=Ya;have e2:((s.size-T.size:Nat):Int)<=(s.size:Int):=Ya;clear hT je hx;go_enter func160,ntmps160;go_wp2_with (go_at_call 41;refine (Any.strings_TrimLeft_laid lays161 O4j s V36 _ Yd (ascii_of_all Yd)).mono ?_;rw[show (⟨(Lib.trimLeftS s.data.toList V36.data.toList).toArray⟩:ByteArray)=T from HT.o];rintro e w1 ⟨rfl,g1⟩)
 go_ret
 exact⟨⟨_,rfl,HX.o,Yb⟩,g1⟩
theorem Obr(s:ByteArray)(hs:s.size<=20000000)(w:World):Calls prog 126 #[.string s] w λ e w'=>(∃t p:ByteArray,e=.returned (.tuple #[.string t,.string p])/\Vi (bs s)=(bs t,bs p))/\Gr w w':=by
 cases hf:Vw (bs s) V4a with
 |false =>
  refine (Oh3 s Ya hf w).mono ?_;rintro e w' ⟨rfl,g⟩;refine⟨⟨_,_,rfl,?_⟩,g⟩;unfold Vi;rw[hf];rfl
 |true =>
  have ad:8<=s.size:=by
   rcases U50 s.size 8 with h|h
   rw[V4s _ _ (by rw[O0];exact h)]at hf;cases hf
   exact h
  have HC:∀W,Calls prog 125 #[.string s,.string ⟨#[57,57,58,57,57,58,57,57]⟩] W λ e w'=>e=.returned (.string (s.extract 0 8))/\Gr W w':=λ W=>by
   refine (O6n s ⟨#[57,57,58,57,57,58,57,57]⟩ (O2n _ Yd) Ya W).mono ?_;rintro e w' ⟨rfl,g⟩;refine⟨?_,g⟩;rw[show Vw (bs s) (bs ⟨#[57,57,58,57,57,58,57,57]⟩)=true from hf,U18 rfl];rfl
  obtain⟨T,hT⟩:=ExZ (s.extract 0 8)
  have rH:T.size=8:=by rw[<-hT];simp;omega
  have oh:bs T=(bs s).take 8:=by rw[<-hT,O23]
  refine Z230 ?_;intro lX Gj;obtain⟨r,hr⟩:=ExZ (s.extract 8 s.size)
  have gR:bs r=(bs s).drop 8:=by rw[<-hr,O3]
  have om:r.size=s.size-8:=by rw[<-hr];simp
  rw[hT]at HC;have HF:=U10 HC;have Hu:(T.size:Int)=8:=Ya
  have k1:(0:Int)<=8:=Ya;have k2:(8:Int)<=(s.size:Int):=Ya
  cases hp:Pl.pre (bs r) [46] with
  |false =>
   have HP:=U10 hp;have hX:Hid (Vi (bs s)=(bs T,bs ⟨#[]⟩)):=U10 (by
    unfold Vi;rw[hf,U18 rfl,oh,<-gR];cases hz:bs r with
    |nil=>rfl
    |cons c l =>
     rw[hz]at hp;have:Vg V2u (c::l)=false:=by
      simp only[Pl.pre]at hp;simp only[Vg,V2u];simp at hp⊢
      first|exact hp|(intro e;exact hp (U20.1 e))|omega
     rw[this];rfl)
   have HR:=U10 hr;clear HC hT oh hr gR hp hf;go_enter func126,ntmps126;go_wp2_with (go_at_call 125;refine (HF.o _).mono ?_;rintro e w1 ⟨rfl,g1⟩);rw[HR.o];refine (On r ⟨#[46]⟩ false HP.o _).mono ?_;refine Z44 ?_;go_wp2_with fail
   go_ret2
   exact⟨⟨_,_,rfl,hX.o⟩,g1⟩
  |true =>
   have HP:=U10 hp;have aS:1<=r.size:=by
    rcases Nat.eq_zero_or_pos r.size with h|h
    have:bs r=[]:=U2p (by rw[O0];exact h);rw[this]at hp;cases hp
    exact h
   obtain⟨r1,tH⟩:=ExZ (r.extract 1 r.size)
   have pN:bs r1=(bs s).drop 9:=by rw[<-tH,O3,gR,U27]
   have hX:Hid (Vi (bs s)=(bs T,(bs r1).takeWhile O2)):=U10 (by
    unfold Vi;rw[hf,U18 rfl,oh,pN,<-gR];cases hz:bs r with
    |nil=>rw[hz]at hp;cases hp
    |cons c l =>
     rw[hz]at hp;have:Vg V2u (c::l)=true:=by
      simp only[Pl.pre]at hp;simp only[Vg,V2u];simp at hp⊢
      first|exact hp|(rw[hp];rfl)|(rw[<-hp];rfl)|omega
     rw[this];rfl)
   have HD:=U10 (Ohd r1 (by rw[<-tH];simp;omega));have k3:(1:Int)<=(r.size:Int):=Ya;have HR:=U10 hr;have aN:=U10 tH;clear HC hT oh hr gR hp hf pN om rH tH;go_enter func126,ntmps126;go_wp2_with (go_at_call 125;refine (HF.o _).mono ?_;rintro e w1 ⟨rfl,g1⟩);rw[HR.o];refine (On r ⟨#[46]⟩ true HP.o _).mono ?_;refine Z44 ?_;go_wp2_with fail;rw[aN.o];refine (HD.o _).mono ?_;rintro e w3 ⟨⟨p,rfl,hp,Ui⟩,g3⟩;have mc:Vi (bs s)=(bs T,bs p):=by rw[hX.o,hp]
   clear hp;go_wp2_with fail
   go_ret2
   exact⟨⟨_,_,rfl,mc⟩,g1.trans g3⟩
theorem Obs(t p:ByteArray)(ht:t.size<=20000000)(hp:p.size<=20000000)(w:World):Calls prog 127 #[.string t,.string p] w λ e w'=>e=.returned (.int .i64 (V2h (bs t) (bs p):Nat))/\w=w':=by
 rcases O2c p with⟨h1,h2,h3⟩|⟨h1,h2,h3⟩
 have HX:Hid (V2h (bs t) (bs p)=t.size):=U10 (by unfold V2h;rw[U18 (U3q.1 h3),O0]);exact J15
 have HX:Hid (V2h (bs t) (bs p)=t.size+1+p.size):=U10 (by unfold V2h;rw[U1b (λ e=>by rw[e]at h3;cases h3),O0,O0]);have w1:IntKind.i64.wrap ((t.size:Int)+1)=(t.size:Int)+1:=U1i _ ⟨Ya,Ya⟩;have w2:IntKind.i64.wrap ((t.size:Int)+1+(p.size:Int))=(t.size:Int)+1+(p.size:Int):=U1i _ ⟨Ya,Ya⟩;exact J15
theorem Omr(s:ByteArray)(hs:s.size<=20000000)(w:World):Calls prog 128 #[.string s] w λ e w'=>(∃z:ByteArray,e=.returned (.string z)/\bs z=V28 (bs s)/\z.size<=s.size)/\Gr w w':=by
 rcases O2c s with⟨h1,h2,h3⟩|⟨h1,h2,h3⟩
 have HX:Hid (V28 (bs s)=[]):=U10 (by rw[U3q.1 h3];rfl);exact J175
 refine Z218 ?_;intro e0 e1;have k1:(1:Int)<=(s.size:Int):=Ya;have hh:=O9 s 0 e0;simp only[U2j,U1q]at hh;have hZ:V28 (bs s)=if (s[0]'e0).toNat=90\/(s[0]'e0).toNat=122 then [s[0]'e0] else if Vx (s[0]'e0)&&Vw ((bs s).drop 1) V4i then (bs s).take 6 else []:=by
  conv=>lhs;rw[hh]
  unfold V28;simp only;rw[<-hh]
 have Ah:bs (s.extract 0 1)=[s[0]'e0]:=by rw[O23,hh];rfl
 have HZ:=U10 hZ;have rU:=U10 Ah;cases hz:((s[0]'e0).toNat==90) with
 |true =>
  have z1:(((s[0]'e0).toNat:Int)==90)=true:=(V1q _ 90 _ hz).1;have HX:Hid (V28 (bs s)=bs (s.extract 0 1)):=U10 (by rw[HZ.o,rU.o,U18 (.inl (by simpa using hz))]);clear hz hh hZ Ah h3;exact J172
 |false =>
  have z1:(((s[0]'e0).toNat:Int)==90)=false:=(V1q _ 90 _ hz).1;cases hy:((s[0]'e0).toNat==122) with
  |true =>
   have z2:(((s[0]'e0).toNat:Int)==122)=true:=(V1q _ 122 _ hy).1;have HX:Hid (V28 (bs s)=bs (s.extract 0 1)):=U10 (by rw[HZ.o,rU.o,U18 (.inr (by simpa using hy))]);clear hz hy hh hZ Ah h3;exact J172
  |false =>
   have z2:(((s[0]'e0).toNat:Int)==122)=false:=(V1q _ 122 _ hy).1;have M1:V28 (bs s)=if Vx (s[0]'e0)&&Vw ((bs s).drop 1) V4i then (bs s).take 6 else []:=by
    rw[HZ.o,U1b (by
     rintro (h|h);rw[h]at hz;cases hz
     rw[h]at hy;cases hy)]
   have tj:=U10 M1;obtain⟨r,hr⟩:=ExZ (s.extract 1 s.size)
   have gR:bs r=(bs s).drop 1:=by rw[<-hr,O3]
   have om:r.size=s.size-1:=by rw[<-hr];simp
   have HR:=U10 hr;have EO:=U10 gR;have gv:((((s[0]'e0).toNat:Int)==43)=true/\Vx (s[0]'e0)=true)\/((((s[0]'e0).toNat:Int)==43)=false/\(((s[0]'e0).toNat:Int)==45)=true/\Vx (s[0]'e0)=true)\/((((s[0]'e0).toNat:Int)==43)=false/\(((s[0]'e0).toNat:Int)==45)=false/\Vx (s[0]'e0)=false):=by
    unfold Vx;cases n7:((s[0]'e0).toNat==43) with
    |true=>exact .inl ⟨(V1q _ 43 _ n7).1,rfl⟩
    |false =>
     cases EP:((s[0]'e0).toNat==45) with
     |true=>exact .inr (.inl ⟨(V1q _ 43 _ n7).1,(V1q _ 45 _ EP).1,rfl⟩)
     |false=>exact .inr (.inr ⟨(V1q _ 43 _ n7).1,(V1q _ 45 _ EP).1,rfl⟩)
   clear hz hy hh hZ M1 Ah h3 hr gR HZ rU;rcases gv with⟨q1,q3⟩|⟨q1,q2,q3⟩|⟨q1,q2,q3⟩
   case inr.inr =>
    have HX:Hid (V28 (bs s)=[]):=U10 (by rw[tj.o,q3];rfl);clear q3;exact J175
   all_goals
    have HF:Hid (∀W,Calls prog 125 #[.string r,.string ⟨#[57,57,58,57,57]⟩] W λ e w'=>e=.returned (.string (if Vw (bs r) V4i=true then r.extract 0 5 else ⟨#[]⟩))/\Gr W w') :=
     U10 (λ W=>O6n r ⟨#[57,57,58,57,57]⟩ (O2n _ Yd) Ya W)
    cases hf:Vw (bs r) V4i with
    |true =>
     have ad:=V4s (bs r) V4i;have h5:5<=r.size:=by
      rcases U50 r.size 5 with h|h
      rw[ad (by rw[O0];exact h)]at hf;cases hf
      exact h
     have k6:(6:Int)<=(s.size:Int):=Ya;have HX:Hid (V28 (bs s)=bs (s.extract 0 6)):=U10 (by rw[tj.o,q3,<-EO.o,hf,O23];rfl);rw[hf,U18 rfl]at HF;obtain⟨T,hT⟩:=ExZ (r.extract 0 5)
     have rH:T.size=5:=by rw[<-hT];simp;omega
     refine Z230 ?_;intro lX Gj;rw[hT]at HF;clear ad hf hT rH q3;go_enter func128,ntmps128;go_wp2_with fail;rw[HR.o];refine (HF.o _).mono ?_;rintro e w1 ⟨rfl,g1⟩;go_wp2_with fail
     go_ret
     exact⟨⟨_,rfl,by (rw[HX.o];try rfl),by (simp;try omega)⟩,g1⟩
    |false =>
     have HX:Hid (V28 (bs s)=[]):=U10 (by rw[tj.o,<-EO.o,hf,Bool.and_false];rfl);rw[hf,U1b Yb]at HF;clear hf q3;go_enter func128,ntmps128;go_wp2_with fail;rw[HR.o];refine (HF.o _).mono ?_;rintro e w1 ⟨rfl,g1⟩;go_wp2_with fail
     go_ret
     exact⟨⟨_,rfl,by (rw[HX.o];try rfl),U2y _⟩,g1⟩
namespace Pl
theorem V3b(l m:Bs)(h:Vw l m=true):m.length<=l.length:=by
 by_cases hl:l.length<m.length;rw[V4s l m hl]at h;cases h
 omega
theorem V4y(l:Bs):V2h (Vi l).1 (Vi l).2<=l.length:=by
 unfold Vi;by_cases h:Vw l V4a=true
 rw[U18 h];have hl:=V3b _ _ h;have h8:V4a.length=8:=rfl;have ht:(l.take 8).length=8:=by rw[U2d];omega
 unfold V2h;simp only;cases hd:Vg V2u (l.drop 8) with
 |false=>simp only[U1v,U2c,U2i];omega
 |true =>
  simp only[U2i];have:=(List.takeWhile_sublist (l:=l.drop 9) O2).length_le;rw[U15]at this;cases hu:l.drop 8 with
  |nil=>rw[hu]at hd;cases hd
  |cons c v =>
   have h9:=U2b List.length hu;rw[U15]at h9;simp only[U17]at h9;by_cases hp:List.takeWhile O2 (l.drop 9)=[];rw[U18 hp];omega
   rw[U1b hp];omega
 rw[U1b h];simp[V2h]
theorem Ohe(l:Bs):(V28 l).length<=l.length:=by
 exact J16
theorem V5d(l:Bs):(Vh l).long<=l.length:=by
 unfold Vh
 split
 rename_i h
 have hl:=V3b _ _ h;have de:V40.length=10:=rfl
 split
 rename_i ht
 have EQ:11<=l.length:=by
  cases hu:l.drop 10 with
  |nil=>rw[hu]at ht;cases ht
  |cons c v =>
   exact J17
 have hc:=V4y (l.drop 11);rw[U15]at hc;obtain⟨t,p,BP⟩:∃t p,Vi (l.drop 11)=(t,p):=⟨_,_,rfl⟩
 rw[BP]at hc⊢;simp only at hc⊢
 split;simp only;omega
 have hz:=Ohe (l.drop (10+(1+V2h t p)));rw[U15]at hz;simp only;omega
 simp only;omega
 exact V4y l
theorem V6w(l:Bs):(Vi l).1.length<=l.length/\(Vi l).2.length<=l.length:=by
 have h:=V4y l;unfold V2h at h
 split at h;rename_i hp;rw[hp];exact⟨h,U2y _⟩
 omega
theorem V8g(l:Bs)(h:(Vi l).1=[]):(Vi l).2=[]:=by
 unfold Vi at h⊢
 split
 rename_i hf
 rw[U18 hf]at h;have h1:=V3b _ _ hf;have h8:V4a.length=8:=rfl;have h2:=U2b List.length h;simp only[U2d,U1t]at h2;omega
 rfl
theorem V7u:∀c:UInt8,(bs ⟨#[84,116,32]⟩).contains c=V4o c:=λ c=>by
 unfold V4o;simp only[bs,List.contains_cons,List.contains_nil,Bool.or_false];have h:∀k:UInt8,(c==k)=(c.toNat==k.toNat):=λ k=>U3j.2 (by simp[U20])
 rw[h,h,h,Bool.or_assoc];rfl
end Pl
theorem Oft{x:ByteArray}(h:0<x.size):¬x.toList=[]/\x.toList.isEmpty=false/\(bs x).isEmpty=false:=by
 rcases O2c x with⟨h1,h2,h3⟩|h
 have:=O0 x;rw[U3q.1 h3]at this;simp at this;omega
 exact h
abbrev V51(d t p z:ByteArray)(n:Int):Obj := .cells #[.string d,.string t,.string p,.string z,n] 177 (0,0)
abbrev V9m(d t p z:ByteArray)(n:Int):Value := .agg #[.string d,.string t,.string p,.string z,n]
theorem Ob{W:World}{h:Nat}{d t p z:ByteArray}{n:Int}(hb:W.heap[h]?=some (V51 d t p z n)):W.cell? h=some (.string d)/\W.cell? ⟨h,1,none⟩=some (.string t)/\W.cell? ⟨h,2,none⟩=some (.string p)/\W.cell? ⟨h,3,none⟩=some (.string z)/\W.cell? ⟨h,4,none⟩=some (.int .i64 n) /\(∀o,W.frozen? ⟨h,o,none⟩=false)/\h<W.heap.size :=
 ⟨by rw[cell_of_block hb];rfl,by rw[cell_of_block hb];rfl,by rw[cell_of_block hb];rfl,by rw[cell_of_block hb];rfl,by rw[cell_of_block hb];rfl,λ o=>unfrozen_of_block hb o,(U1a.1 hb).1⟩
theorem O4n{W:World}{h:Nat}{d t p z:ByteArray}{n:Int}(hb:W.heap[h]?=some (V51 d t p z n))(v:ByteArray):(W.setCell h (.string v)).heap[h]?=some (V51 v t p z n):=by
 rw[block_setCell hb];rfl
theorem O4o{W:World}{h:Nat}{d t p z:ByteArray}{n:Int}(hb:W.heap[h]?=some (V51 d t p z n))(v:ByteArray):(W.setCell ⟨h,1,none⟩ (.string v)).heap[h]?=some (V51 d v p z n):=by
 rw[block_setCell hb];rfl
theorem O4p{W:World}{h:Nat}{d t p z:ByteArray}{n:Int}(hb:W.heap[h]?=some (V51 d t p z n))(v:ByteArray):(W.setCell ⟨h,2,none⟩ (.string v)).heap[h]?=some (V51 d t v z n):=by
 rw[block_setCell hb];rfl
theorem O88{W:World}{h:Nat}{d t p z:ByteArray}{n:Int}(hb:W.heap[h]?=some (V51 d t p z n))(v:ByteArray):(W.setCell ⟨h,3,none⟩ (.string v)).heap[h]?=some (V51 d t p v n):=by
 rw[block_setCell hb];rfl
theorem O3t{W:World}{h:Nat}{d t p z:ByteArray}{n:Int}(hb:W.heap[h]?=some (V51 d t p z n))(v:Int):(W.setCell ⟨h,4,none⟩ v).heap[h]?=some (V51 d t p z v):=by
 rw[block_setCell hb];rfl
def Vcd(h:Nat)(d t p z:ByteArray)(n:Int)(W:World):Prop:=W.cell? h=some (.string d)/\W.cell? ⟨h,1,none⟩=some (.string t)/\W.cell? ⟨h,2,none⟩=some (.string p)/\W.cell? ⟨h,3,none⟩=some (.string z)/\W.cell? ⟨h,4,none⟩=some (.int .i64 n) /\
    (∀o,W.frozen? ⟨h,o,none⟩=false)/\h<W.heap.size
def O9b(m:Nat)(c:V94)(e:Ending):Prop:=∃d t p z:ByteArray,e=.returned (V9m d t p z c.long)/\bs d=c.date/\bs t=c.time/\bs p=c.part/\bs z=c.zone/\d.size<=m/\t.size<=m/\p.size<=m/\z.size<=m
theorem O7l{Q:Ending->World->Prop}{a:Act}{W:World}{h:Nat}{d t p z:ByteArray}{n:Int}(hs:a.tmps[2]?.getD undef=.pointer (some ⟨h,0,none⟩))(Q2:a.defers=[])(hb:W.heap[h]?=some (V51 d t p z n))(hQ:Q (.returned (V9m d t p z n)) W):bodyPost prog f97 Q Exit.ret a W:=by
 obtain⟨p0,p1,p2,p3,p4,pf,hz⟩:=Ob hb;exact U11 (v:=V9m d t p z n) (by simp[results,results97,go_sem,hs,p0,p1,p2,p3,p4,pf,hz]) Q2 hQ
theorem Ody(s:ByteArray)(hs:s.size<=20000000)(hd:Vw (bs s) V40=false)(w:World):Calls prog 97 #[.string s] w λ e w'=>O9b s.size (Vh (bs s)) e/\Gr w w':=by
 have hX:Vh (bs s)=⟨[],(Vi (bs s)).1,(Vi (bs s)).2,[],V2h (Vi (bs s)).1 (Vi (bs s)).2⟩:=by unfold Vh;rw[hd];rfl
 have bY:=V6w (bs s);rw[O0]at bY;have HX:=U10 hX;have HD:=U10 hd;have HS:=U10 bY;clear hd hX bY;go_enter func97,ntmps97;go_wp2_with fail;refine (O84 s ⟨#[57,57,57,57,45,57,57,45,57,57]⟩ (O2n _ Yd) Ya HD.o _).mono ?_;rintro e w1 ⟨rfl,g1⟩;have bz:w1.heap[w.heap.size]?=some (V51 ⟨#[]⟩ ⟨#[]⟩ ⟨#[]⟩ ⟨#[]⟩ 0):=(g1.block Yb).trans (U1z w _);obtain⟨p0,p1,p2,p3,p4,pf,ax⟩:=Ob bz;go_wp2_with fail;refine (Obr s hs _).mono ?_;rintro e w2 ⟨⟨t,p,rfl,hc⟩,g2⟩;rw[hc]at HX HS;obtain⟨st,sp⟩:=HS.o;simp only[O0]at st sp;clear hc HS;have ay:w2.heap[w.heap.size]?=some (V51 ⟨#[]⟩ ⟨#[]⟩ ⟨#[]⟩ ⟨#[]⟩ 0):=(g2.block (by simpa using ax)).trans (O4n bz _);clear p0 p1 p2 p3 p4 pf;obtain⟨p0,p1,p2,p3,p4,pf,aL⟩:=Ob ay;go_wp2_with fail;refine (Obs t p Ya Ya _).mono ?_;refine Z44 ?_;have aR:=O4p (O4o ay t) p;obtain⟨W3,bM⟩:=ExZ ((w2.setCell ⟨w,1,none⟩ (.string t)).setCell ⟨w,2,none⟩ (.string p))
 have g3:Gr w W3:=by rw[<-bM];exact ((((((Gr.refl w).alloc _).trans g1).setCell Yb _).trans g2).setCell Yb _).setCell Yb _
 rw[bM]at aR⊢;clear bM p0 p1 p2 p3 p4 pf;obtain⟨p0,p1,p2,p3,p4,pf,j9⟩:=Ob aR;go_wp2_with fail;exact U11 (v:=V9m ⟨#[]⟩ t p ⟨#[]⟩ (V2h (bs t) (bs p):Nat)) (by simp[results,results97,go_sem,p0,p1,p2,p3,p4,pf,j9]) rfl ⟨⟨⟨#[]⟩,t,p,⟨#[]⟩,by (rw[HX.o];try rfl),by (rw[HX.o];try rfl),by (rw[HX.o];try rfl),by (rw[HX.o];try rfl),by (rw[HX.o];try rfl),U2y _,st,sp,U2y _⟩,by (repeat refine Gr.setCell ?_ (U12 _) _);exact g3⟩
theorem Obt(s:ByteArray)(hs:s.size<=20000000)(hd:Vw (bs s) V40=true)(w:World):Calls prog 97 #[.string s] w λ e w'=>O9b s.size (Vh (bs s)) e/\Gr w w':=by
 have ad:=V3b _ _ hd;rw[O0,show V40.length=10 from rfl]at ad;obtain⟨D,hD⟩:=ExZ (s.extract 0 10)
 have pJ:D.size=10:=by rw[<-hD];simp;omega
 have Af:bs D=(bs s).take 10:=by rw[<-hD,O23]
 obtain⟨n1,n2,n3⟩:=Oft (x:=D) Ya;have HF:Hid (∀W,Calls prog 125 #[.string s,.string ⟨#[57,57,57,57,45,57,57,45,57,57]⟩] W λ e w'=>e=.returned (.string D)/\Gr W w'):=U10 (λ W=>by
  refine (O6n s ⟨#[57,57,57,57,45,57,57,45,57,57]⟩ (O2n _ Yd) Ya W).mono ?_;rintro e w' ⟨rfl,g⟩;refine⟨?_,g⟩;rw[show Vw (bs s) (bs ⟨#[57,57,57,57,45,57,57,45,57,57]⟩)=true from hd,U18 rfl,<-hD];rfl)
 obtain⟨r,hr⟩:=ExZ (s.extract 10 s.size)
 have gR:bs r=(bs s).drop 10:=by rw[<-hr,O3]
 have om:r.size=s.size-10:=by rw[<-hr];simp
 have hX:Vh (bs s)=if Vg V4o (bs r) then
     (if (Vi ((bs s).drop 11)).1=[] then ⟨bs D,[],[],[],10⟩ else
      ⟨bs D,(Vi ((bs s).drop 11)).1,(Vi ((bs s).drop 11)).2,V28 ((bs s).drop (10+(1+V2h (Vi ((bs s).drop 11)).1 (Vi ((bs s).drop 11)).2))),10+(1+V2h (Vi ((bs s).drop 11)).1 (Vi ((bs s).drop 11)).2)+(V28 ((bs s).drop (10+(1+V2h (Vi ((bs s).drop 11)).1 (Vi ((bs s).drop 11)).2)))).length⟩)
     else ⟨bs D,[],[],[],10⟩:=by
  unfold Vh;rw[U18 hd,gR,Af]
 have Uj:(D.size:Int)=10:=Ya;have k1:(10:Int)<=(s.size:Int):=Ya;have HX:=U10 hX;have HR:=U10 hr;have EO:=U10 gR;have Gm:=U10 (show D.size<=s.size by omega);clear hX hr gR hD Af hd n3 pJ;go_enter func97,ntmps97;go_wp2_with fail;refine (HF.o _).mono ?_;rintro e w1 ⟨rfl,g1⟩;have bz:w1.heap[w.heap.size]?=some (V51 ⟨#[]⟩ ⟨#[]⟩ ⟨#[]⟩ ⟨#[]⟩ 0):=(g1.block Yb).trans (U1z w _);obtain⟨p0,p1,p2,p3,p4,pf,ax⟩:=Ob bz;have cx:Gr w w1:=((Gr.refl w).alloc _).trans g1;clear g1;have gv:(r.toList=[]/\r.toList.isEmpty=true/\Vg V4o (bs r)=false)\/(∃e0:0<r.size,(¬r.toList=[]/\r.toList.isEmpty=false/\(0:Int)<(r.size:Int))/\V4o (r[0]'e0)=Vg V4o (bs r)):=by
  rcases O2c r with⟨h1,h2,h3⟩|⟨h1,h2,h3⟩
  left;exact⟨h1,h2,by rw[U3q.1 h3];rfl⟩
  right;have e0:0<r.size:=by
   rcases Nat.eq_zero_or_pos r.size with h|h
   exfalso;apply h1;rw[U1y];exact U2p (by have:=O0 r;unfold bs at this;omega)
   exact h
  refine⟨e0,⟨h1,h2,Ya⟩,?_⟩;have hh:=O9 r 0 e0;simp only[U2j]at hh;rw[hh];rfl
 rcases gv with⟨q1,q2,q3⟩|⟨e0,⟨q1,q2,q4⟩,q3⟩
 ·have HY:Hid (Vh (bs s)=⟨bs D,[],[],[],10⟩):=U10 (by rw[HX.o,q3];rfl);clear q3;have Q3:=HR.o;go_wp2_with fail;exact J18
 have Q3:=HR.o;cases n9:V4o (r[0]'e0) with
 |false =>
  have HY:Hid (Vh (bs s)=⟨bs D,[],[],[],10⟩):=U10 (by rw[HX.o,<-q3,n9];rfl);have HC:Hid ((bs ⟨#[84,116,32]⟩).contains (r[0]'e0)=false):=U10 (by rw[V7u];exact n9);clear q3 n9;go_wp2_with (go_at_call 85;refine (Oq ⟨#[84,116,32]⟩ _ false HC.o _).mono ?_;rintro e w3 ⟨⟨i,rfl,hi⟩,rfl⟩;have eY:decide (i<0)=true:=(by simp at hi⊢;omega);clear hi);exact J18
 |true =>
  have HC:Hid ((bs ⟨#[84,116,32]⟩).contains (r[0]'e0)=true):=U10 (by rw[V7u];exact n9);rw[<-q3,n9,U18 rfl]at HX;obtain⟨r1,aS⟩:=ExZ (r.extract 1 r.size)
  have pN:bs r1=(bs s).drop 11:=by rw[<-aS,O3,EO.o,U27]
  have xX:r1.size=s.size-11:=by rw[<-aS];simp;omega
  rw[<-pN]at HX;have bY:=V6w (bs r1);have eu:=V4y (bs r1);have BS:=V8g (bs r1);rw[O0]at bY eu;have Q4:=U10 om;have BT:=U10 xX;have HS:=U10 bY;have eC:=U10 eu;have tI:=U10 BS;have k2:(1:Int)<=(r.size:Int):=Ya
  have ay:=O3t (O4n bz D) 10;clear q3 n9 pN bY eu BS om xX;go_wp2_with (go_at_call 85;refine (Oq ⟨#[84,116,32]⟩ _ true HC.o _).mono ?_;rintro e w3 ⟨⟨i,rfl,hi⟩,rfl⟩;have eY:decide (i<0)=false:=(by simp at hi⊢;omega);clear hi)
  try rw[aS]
  obtain⟨W2,dQ⟩:=ExZ ((w1.setCell w (.string D)).setCell ⟨w,4,none⟩ (10:Int))
  have bC:Gr w W2:=by rw[<-dQ];exact (cx.setCell (U12 _) _).setCell (U12 _) _
  have aL:w.heap.size<W2.heap.size:=by rw[<-dQ];simpa using ax
  rw[dQ]at ay⊢;clear dQ bz cx p0 p1 p2 p3 p4 pf ax;refine (Obr r1 (by have:=BT.o;omega) _).mono ?_;rintro e w3 ⟨⟨t,p,rfl,hc⟩,g3⟩;rw[hc]at HX HS eC tI;simp only at HX HS eC tI;have aR:=(g3.block aL).trans ay;have d7:=bC.trans g3;obtain⟨st,sp⟩:=HS.o;simp only[O0]at st sp;have xX:=BT.o;clear g3 bC ay hc HS aL;obtain⟨p0,p1,p2,p3,p4,pf,j9⟩:=Ob aR;have dH:=O4p (O4o aR t) p;have dk:Gr w ((w3.setCell ⟨w,1,none⟩ (.string t)).setCell ⟨w,2,none⟩ (.string p)):=(d7.setCell (U12 _) _).setCell (U12 _) _;rcases O2c t with⟨t1,t2,t3⟩|⟨t1,t2,t3⟩
  ·have ER:bs t=[]:=U3q.1 t3;have zX:p=⟨#[]⟩:=Ohc (tI.o ER);have Hv:t=⟨#[]⟩:=Ohc ER;rw[U18 ER]at HX;subst zX Hv;clear t1 t2 t3 ER tI;go_wp2_with fail;exact O7l (d:=D) (t:=⟨#[]⟩) (p:=⟨#[]⟩) (z:=⟨#[]⟩) (n:=10) rfl rfl (O3t (O88 (O4p (O4o (O4n (O4p (O4o aR _) _) _) _) _) _) _) ⟨⟨D,⟨#[]⟩,⟨#[]⟩,⟨#[]⟩,by (rw[HX.o];try rfl),by (rw[HX.o];try rfl),by (rw[HX.o];try rfl),by (rw[HX.o];try rfl),by (rw[HX.o];try rfl),Gm.o,U2y _,U2y _,U2y _⟩,by (repeat refine Gr.setCell ?_ (U12 _) _);exact d7⟩
  rw[U1b (λ e=>by rw[e]at t3;cases t3)]at HX;obtain⟨af,Hw⟩:=ExZ (V2h (bs t) (bs p))
  rw[Hw]at HX eC;have eu:=eC.o;have M2:=U10 (Obs t p Ya Ya);rw[Hw]at M2;have e1:IntKind.i64.wrap (1+(af:Int))=1+(af:Int):=U1i _ ⟨Ya,Ya⟩;have e2:IntKind.i64.wrap (10+(1+(af:Int)))=10+(1+(af:Int)):=U1i _ ⟨Ya,Ya⟩;clear t3 Hw;go_wp2_with fail;obtain⟨W4,iQ⟩:=ExZ (((w3.setCell ⟨w,1,none⟩ (.string t)).setCell ⟨w,2,none⟩ (.string p)))
  have dk:Gr w W4:=by rw[<-iQ];exact dk
  have dH:W4.heap[w.heap.size]?=some (V51 D t p ⟨#[]⟩ 10):=by rw[<-iQ];exact dH
  have hS:Vcd w.heap.size D t p ⟨#[]⟩ 10 W4.drew:=Ob (show W4.drew.heap[w.heap.size]?=_ from dH);rw[iQ];clear iQ p0 p1 p2 p3 p4 pf j9 aR d7;refine Reg.begin' (W:=λ i=>i != 10) (S:=Vcd w.heap.size D t p ⟨#[]⟩ 10) Yc ?_;refine Reg.ty 0 ?_;refine Reg.ty 2 ?_;refine Reg.ty 4 ?_;refine Reg.tl 1 hS ?_ (hy:=by intro w ab;obtain⟨p0,p1,p2,p3,p4,pf,hz⟩:=ab;go_simp;try with_reducible rfl);refine Reg.tl 3 hS ?_ (hy:=by intro w ab;obtain⟨p0,p1,p2,p3,p4,pf,hz⟩:=ab;go_simp;try with_reducible rfl);refine Reg.tl 5 hS ?_ (hy:=by intro w ab;obtain⟨p0,p1,p2,p3,p4,pf,hz⟩:=ab;go_simp;try with_reducible rfl);refine Reg.on 6 ?_;go_simp;refine (M2.o _).mono ?_;refine Z44 ?_;refine Z57 ?_;refine Z59 ?_;obtain⟨p0,p1,p2,p3,p4,pf,hz⟩:=hS;refine Reg.on 10 ?_;go_simp;refine Z12 ?_;have ig:((W4.setCell ⟨w,4,none⟩ (.int .i64 (10+(1+(af:Int))))).drew).heap[w.heap.size]?=some (V51 D t p ⟨#[]⟩ (10+(1+(af:Int)))):=O3t dH (10+(1+(af:Int)));obtain⟨W5,jz⟩:=ExZ ((W4.setCell ⟨w,4,none⟩ (.int .i64 (10+(1+(af:Int))))).drew)
  have dc:Gr w W5:=by rw[<-jz];exact (dk.setCell (U12 _) _).drew
  rw[jz]at ig⊢;clear jz dk dH p0 p1 p2 p3 p4 pf hz e1 e2;obtain⟨p0,p1,p2,p3,p4,pf,vd⟩:=Ob ig;have k3:(0:Int)<=10+(1+(af:Int)):=Ya
  have k4:10+(1+(af:Int))<=(s.size:Int):=by have:=Q4.o;omega
  have k5:(10+(1+(af:Int))).toNat=10+(1+af):=Ya;obtain⟨x,hx⟩:=ExZ (s.extract (10+(1+af)) s.size)
  have M3:bs x=(bs s).drop (10+(1+af)):=by rw[<-hx,O3]
  have Ac:x.size=s.size-(10+(1+af)):=by rw[<-hx];simp
  have bV:=U10 hx;have Q5:=U10 M3;have M4:=U10 Ac;clear hx M3 Ac;go_wp2_with fail;rw[bV.o];refine (Omr x (by have:=M4.o;omega) _).mono ?_;rintro e w6 ⟨⟨z,rfl,hz,vy⟩,g6⟩;rw[<-Q5.o,<-hz,O0]at HX;have iD:z.size<=s.size-(10+(1+af)):=by have:=M4.o;omega
  have kU:=(g6.block vd).trans ig;have eI:=dc.trans g6;clear g6 dc ig hz vy p0 p1 p2 p3 p4 pf vd;obtain⟨p0,p1,p2,p3,p4,pf,sQ⟩:=Ob kU;have e3:IntKind.i64.wrap (10+(1+(af:Int))+(z.size:Int))=10+(1+(af:Int))+(z.size:Int):=U1i _ ⟨Ya,Ya⟩;go_wp2_with fail;exact O7l (d:=D) (t:=t) (p:=p) (z:=z) (n:=10+(1+(af:Int))+(z.size:Int)) rfl rfl (O3t (O88 (O4p (O4o (O4n (O3t (O88 kU _) _) _) _) _) _) _) ⟨⟨D,t,p,z,by (rw[HX.o];try rfl),by (rw[HX.o];try rfl),by (rw[HX.o];try rfl),by (rw[HX.o];try rfl),by (rw[HX.o];try rfl),Gm.o,Ya,Ya,Ya⟩,by (repeat refine Gr.setCell ?_ (U12 _) _);exact eI⟩
theorem Obu(s:ByteArray)(hs:s.size<=20000000)(w:World):Calls prog 97 #[.string s] w λ e w'=>O9b s.size (Vh (bs s)) e/\Gr w w':=by
 cases hd:Vw (bs s) V40 with
 |false=>exact Ody s hs hd w
 |true=>exact Obt s hs hd w
namespace Pl
theorem V9d(c:UInt8)(l:Bs)(h:∀d∈c::l,O2 d=true):Lib.atoi (c::l)=some (V1l (c::l):Int):=by
 have hc:=h c Yb;simp only[O2,U1g,U1x]at hc;have EP:(c==45)=false:=by
  cases hx:c==45 with
  |false=>rfl
  |true=>rw[U2w]at hx;subst hx;simp at hc
 have n7:(c==43)=false:=by
  cases hx:c==43 with
  |false=>rfl
  |true=>rw[U2w]at hx;subst hx;simp at hc
 simp only[Lib.atoi,EP,n7,U1v,U2c];unfold Lib.decNat;rw[U1b Yb,O78 _ 0 h];rfl
end Pl
theorem O7v(U:ByteArray)(h0:0<U.size)(hz:U.size<=18)(hd:∀c∈bs U,O2 c=true)(m:Nat)(hm:V1l (bs U)=m)(W:World):Calls prog 161 #[.string U] W λ e w'=>e=.returned (.tuple #[.int .i64 (m:Int),.nilIface])/\Gr W w':=by
 have cR:Lib.atoi U.data.toList=some (m:Int):=by
  show Lib.atoi (bs U)=_;cases hb:bs U with
  |nil=>have:=O0 U;rw[hb]at this;simp at this;omega
  |cons c l=>rw[hb]at hd hm;rw[V9d c l hd,hm]
 refine (strconv_Atoi U (m:Int) hz cR W).mono ?_;rintro e w' ⟨rfl,t,rfl⟩;exact⟨rfl,Oi W 5 t⟩
theorem O21(s:ByteArray)(h2:2<=s.size)(hd:∀c∈(bs s).take 2,O2 c=true)(a b:Nat)(w:World):Calls prog 162 #[.string s,.int .i64 (a:Int),.int .i64 (b:Int)] w λ e w'=>e=.returned (.bool (V10 (bs s) a b))/\Gr w w':=by
 obtain⟨U,hU⟩:=ExZ (s.extract 0 2)
 have pL:bs U=(bs s).take 2:=by rw[<-hU,O23]
 have BQ:U.size=2:=by rw[<-hU];simp;omega
 obtain⟨m,hm⟩:=ExZ (V1l (bs U))
 rw[<-pL]at hd;have HA:=U10 (O7v U Ya Ya hd m hm);have hX:V10 (bs s) a b=(decide (a<=m)&&decide (m<=b)):=by unfold V10;rw[<-pL,hm]
 have HX:=U10 hX;have k1:(2:Int)<=(s.size:Int):=Ya;clear hd pL hX hm;by_cases h1:a<=m
 have d1:decide (a<=m)=true:=Ye
 by_cases h3:m<=b
 have d2:decide (m<=b)=true:=Ye;have HY:Hid (V10 (bs s) a b=true):=U10 (by rw[HX.o];simp[h1,h3]);clear h1 h3;exact J136
 have d2:decide (m<=b)=false:=Ye;have HY:Hid (V10 (bs s) a b=false):=U10 (by rw[HX.o];simp[h3]);clear h1 h3;exact J136
 have d1:decide (a<=m)=false:=Ye;have HY:Hid (V10 (bs s) a b=false):=U10 (by rw[HX.o];simp[h1]);clear h1;exact J136
theorem Oo4(y m:Nat)(hy:y<=9999)(hm:m<=99)(w:World):Calls prog 163 #[.int .i64 (y:Int),.int .i64 (m:Int)] w λ e w'=>e=.returned (.int .i64 (V2i y m))/\w=w':=by
 have t4:(y:Int).tmod 4=((y % 4:Nat):Int):=by rw[Int.tmod_eq_emod_of_nonneg Ya];omega
 have t100:(y:Int).tmod 100=((y % 100:Nat):Int):=by rw[Int.tmod_eq_emod_of_nonneg Ya];omega
 have Hx:(y:Int).tmod 400=((y % 400:Nat):Int):=by rw[Int.tmod_eq_emod_of_nonneg Ya];omega
 obtain⟨a4,Hy⟩:=ExZ (y % 4)
 obtain⟨tJ,pO⟩:=ExZ (y % 100)
 obtain⟨tK,pP⟩:=ExZ (y % 400)
 have HX:Hid (V2i y m=if m=2 then (if a4≠0\/(tJ=0/\tK≠0) then 28 else 29) else if m=4\/m=6\/m=9\/m=11 then 30 else 31):=U10 (by unfold V2i;rw[Hy,pO,pP]);rw[Hy]at t4;rw[pO]at t100;rw[pP]at Hx;clear Hy pO pP hy hm;by_cases h2:m=2
 subst h2;by_cases h4:a4=0
 subst h4;by_cases BU:tJ=0
 subst BU;by_cases BV:tK=0;subst BV;have HY:Hid (V2i y 2=29):=U10 (by rw[HX.o];rfl);exact J73
 have q1:((tK:Int) != 0)=true:=Ye;have q2:((tK:Int)==0)=false:=Ye;have HY:Hid (V2i y 2=28):=U10 (by rw[HX.o,U18 rfl,U18 (.inr ⟨rfl,BV⟩)]);exact J73
 have q1:((tJ:Int) != 0)=true:=Ye;have q2:((tJ:Int)==0)=false:=Ye;have HY:Hid (V2i y 2=29):=U10 (by rw[HX.o,U18 rfl,U1b (by rintro (h|h);exact h rfl;exact BU h.1)]);exact J73
 have q1:((a4:Int) != 0)=true:=Ye;have q2:((a4:Int)==0)=false:=Ye;have HY:Hid (V2i y 2=28):=U10 (by rw[HX.o,U18 rfl,U18 (.inl h4)]);exact J73
 have q2:((m:Int)==2)=false:=Ye;rw[U1b h2]at HX;by_cases h4:m=4;subst h4;have HY:Hid (V2i y 4=30):=U10 (by rw[HX.o];rfl);exact J73
 have q4:((m:Int)==4)=false:=Ye
 by_cases h6:m=6;subst h6;have HY:Hid (V2i y 6=30):=U10 (by rw[HX.o];rfl);exact J73
 have q6:((m:Int)==6)=false:=Ye
 by_cases h9:m=9;subst h9;have HY:Hid (V2i y 9=30):=U10 (by rw[HX.o];rfl);exact J73
 have q9:((m:Int)==9)=false:=Ye
 by_cases EQ:m=11;subst EQ;have HY:Hid (V2i y 11=30):=U10 (by rw[HX.o];rfl);exact J73
 have Uk:((m:Int)==11)=false:=Ye;have HY:Hid (V2i y m=31):=U10 (by rw[HX.o,U1b Ya]);exact J73
namespace Pl
theorem Oj2:∀(l m:Bs),Vw l m=true->∀(i:Nat) w,m[i]?=some w->∃c,l[i]?=some c/\V65 w c=true:=by
 intro l
 induction l with
 |nil =>
  intro m h i w hw;cases m with
  |nil=>simp at hw
  |cons a m=>simp[Vw]at h
 |cons c l ih =>
  intro m h i w hw;cases m with
  |nil=>simp at hw
  |cons a m =>
   simp only[Vw,U1g]at h;cases i with
   |zero=>simp only[U2e,U1f]at hw⊢;subst hw;exact⟨c,rfl,h.1⟩
   |succ i=>simp only[List.getElem?_cons_succ]at hw⊢;exact ih m h.2 i w hw
theorem V3f(l m:Bs)(h:Vw l m=true)(a k:Nat)(hm:∀i,i<k->m[a+i]?=some 57):∀c∈(l.drop a).take k,O2 c=true:=by
 intro c hc;obtain⟨i,hi⟩:=List.mem_iff_getElem?.1 hc;rw[U3o]at hi
 split at hi
 rename_i Q6
 rw[U2l]at hi;obtain⟨c',h1,h2⟩:=Oj2 l m h (a+i) 57 (hm i Q6);rw[hi]at h1;cases h1;exact h2
 cases hi
structure Va9(d t z:Bs):Prop where
 d:d=[]\/(d.length=10/\Vw d V40=true)
 t:t=[]\/(t.length=8/\Vw t V4a=true)
 z:z.length<2\/(z.length=6/\Vw (z.drop 1) V4i=true)
theorem O5o:∀(l m:Bs),Vw l m=true->Vw (l.take m.length) m=true:=by
 intro l
 induction l with
 |nil=>intro m h;simpa using h
 |cons c l ih =>
  intro m h;cases m with
  |nil=>rfl
  |cons a m =>
   simp only[Vw,U1g]at h;simp only[U17,U49,Vw,U1g];exact⟨h.1,ih m h.2⟩
theorem Oao(l:Bs):(Vi l).1=[]\/((Vi l).1.length=8/\Vw (Vi l).1 V4a=true):=by
 unfold Vi
 split
 rename_i h
 right;have:=V3b l V4a h;have h8:V4a.length=8:=rfl;refine⟨by rw[U2d];omega,?_⟩;have h2:=O5o l V4a h;rw[h8]at h2;exact h2
 exact .inl rfl
theorem Olm(l:Bs):(V28 l).length<2\/((V28 l).length=6/\Vw ((V28 l).drop 1) V4i=true):=by
 unfold V28;cases l with
 |nil=>left;simp
 |cons c r =>
  simp only
  split;left;simp
  split
  rename_i h
  right;simp only[U1g]at h;have:=V3b r V4i h.2;have h5:V4i.length=5:=rfl;refine⟨Ye,?_⟩;have h2:=O5o r V4i h.2;rw[h5]at h2
  simpa using h2
  left;simp
theorem V8w(l:Bs):Va9 (Vh l).date (Vh l).time (Vh l).zone:=by
 have hd:Vw l V40=true->(l.take 10).length=10/\Vw (l.take 10) V40=true:=λ h=>by
  have:=V3b l V40 h;have de:V40.length=10:=rfl;have h2:=O5o l V40 h;rw[de]at h2;exact⟨by rw[U2d];omega,h2⟩
 unfold Vh
 split
 rename_i h
 split
 have ht:=Oao (l.drop 11);generalize Vi (l.drop 11)=x at ht⊢;obtain⟨t,p⟩:=x;simp only at ht⊢
 split;exact⟨.inr (hd h),.inl rfl,.inl Yb⟩
 exact⟨.inr (hd h),ht,Olm _⟩
 exact⟨.inr (hd h),.inl rfl,.inl Yb⟩
 exact⟨.inl rfl,Oao l,.inl Yb⟩
theorem V6l(l:Bs)(k:Nat)(h:∀c∈l.take k,O2 c=true):V1l (l.take k)<10 ^ k:=by
 have h1:=V79 (l.take k) 0 h;unfold V1l;refine U13 h1 ?_;rw[U1q,Nat.one_mul];exact U4q Ya (by rw[U2d];omega)
end Pl
def Vaa(w:World)(b:Nat)(d t p z:ByteArray)(n:Int)(W:World):Prop:=Vcd b d t p z n W/\W.heap[b]?=some (V51 d t p z n)/\Gr w W
theorem Vaa.gr{w W W':World}{b:Nat}{d t p z:ByteArray}{n:Int}(h:Vaa w b d t p z n W)(g:Gr W W'):Vaa w b d t p z n W' :=
 have hb:=(g.block h.1.2.2.2.2.2.2).trans h.2.1
 ⟨Ob hb,hb,h.2.2.trans g⟩
theorem Oph(d t p z:ByteArray)(n:Int)(c:V94)(hd:bs d=c.date)(ht:bs t=c.time)(hz:bs z=c.zone)(hk:Va9 (bs d) (bs t) (bs z))(w:World):Calls prog 129 #[V9m d t p z n] w λ e w'=>e=.returned (.bool (V4j c))/\Gr w w':=by
 obtain⟨A,hA⟩:=ExZ ((c.date.isEmpty || (V10 (c.date.drop 5) 1 12&&V10 (c.date.drop 8) 1 (V2i (V1l (c.date.take 4)) (V1l ((c.date.drop 5).take 2))))))
 obtain⟨B,hB⟩:=ExZ ((c.time.isEmpty || (V10 c.time 0 23&&V10 (c.time.drop 3) 0 59&&V10 (c.time.drop 6) 0 (if (c.time.drop 3).take 2=[53,57] then 60 else 59))))
 obtain⟨C,hC⟩:=ExZ ((decide (c.zone.length<2) || (V10 (c.zone.drop 1) 0 23&&V10 (c.zone.drop 4) 0 59)))
 have hX:V4j c=(A&&B&&C):=by unfold V4j;rw[hA,hB,hC]
 have HX:=U10 hX;rw[<-hd]at hA;rw[<-ht]at hB;rw[<-hz]at hC;clear hX hd ht hz;have HA:Hid ((d.toList.isEmpty=true/\d.toList=[]/\A=true)\/(¬d.toList=[]/\d.toList.isEmpty=false/\(10:Int)<=(d.size:Int) /\
     ∃(y m:Nat)(x1 x2:Bool),A=(x1&&x2) /\
     (∀W,Calls prog 161 #[.string (d.extract 0 4)] W λ e w'=>e=.returned (.tuple #[.int .i64 (y:Int),.nilIface])/\Gr W w') /\
     (∀W,Calls prog 161 #[.string (d.extract 5 7)] W λ e w'=>e=.returned (.tuple #[.int .i64 (m:Int),.nilIface])/\Gr W w') /\
     (∀W,Calls prog 162 #[.string (d.extract 5 d.size),(1:Int),(12:Int)] W λ e w'=>e=.returned (.bool x1)/\Gr W w') /\
     (∀W,Calls prog 163 #[.int .i64 (y:Int),.int .i64 (m:Int)] W λ e w'=>e=.returned (.int .i64 (V2i y m))/\W=w') /\
     (∀W,Calls prog 162 #[.string (d.extract 8 d.size),(1:Int),.int .i64 (V2i y m)] W λ e w'=>e=.returned (.bool x2)/\Gr W w'))):=U10 (by
  rcases hk.d with h|⟨de,hf⟩
  left;have h1:d.toList=[]:=by rw[U1y];exact h
  exact⟨by rw[h1];rfl,h1,by rw[<-hA,h];rfl⟩
  right;rw[O0]at de;obtain⟨n1,n2,n3⟩:=Oft (x:=d) Ya;have e4:bs (d.extract 0 4)=(bs d).take 4:=O23 d 4;have M5:bs (d.extract 5 7)=((bs d).drop 5).take 2:=Ohb _ _ _;have e5:bs (d.extract 5 d.size)=(bs d).drop 5:=O3 d 5;have e8:bs (d.extract 8 d.size)=(bs d).drop 8:=O3 d 8;have f4:=V3f _ _ hf 0 4 (λ i hi=>by match i,hi with|0,_=>rfl|1,_=>rfl|2,_=>rfl|3,_=>rfl);have f5:=V3f _ _ hf 5 2 (λ i hi=>by match i,hi with|0,_=>rfl|1,_=>rfl);have f8:=V3f _ _ hf 8 2 (λ i hi=>by match i,hi with|0,_=>rfl|1,_=>rfl);rw[U2j]at f4;refine⟨n1,n2,Ya,V1l ((bs d).take 4),V1l (((bs d).drop 5).take 2),V10 ((bs d).drop 5) 1 12,V10 ((bs d).drop 8) 1 (V2i (V1l ((bs d).take 4)) (V1l (((bs d).drop 5).take 2))),?_,?_,?_,?_,?_,?_⟩;rw[<-hA,n3,U51];exact λ W=>O7v _ Ye Ye (by rw[e4];exact f4) _ (by rw[e4]) W
  exact λ W=>O7v _ Ye Ye (by rw[M5];exact f5) _ (by rw[M5]) W
  intro W;have:=O21 (d.extract 5 d.size) Ye (by rw[e5];exact f5) 1 12 W;rw[e5]at this;exact this;exact λ W=>Oo4 _ _ (by have:=V6l (bs d) 4 f4;omega) (by have:=V6l ((bs d).drop 5) 2 f5;omega) W
  intro W;have:=O21 (d.extract 8 d.size) Ye (by rw[e8];exact f8) 1 (V2i (V1l ((bs d).take 4)) (V1l (((bs d).drop 5).take 2))) W;rw[e8]at this;exact this)
 have HB:Hid ((t.toList.isEmpty=true/\t.toList=[]/\B=true)\/(¬t.toList=[]/\t.toList.isEmpty=false/\(8:Int)<=(t.size:Int) /\
     ∃(x1 x2 x3:Bool)(last:Nat),B=(x1&&x2&&x3)/\(((t.extract 3 5).toList==[53,57])=true/\last=60\/((t.extract 3 5).toList==[53,57])=false/\last=59) /\
     (∀W,Calls prog 162 #[.string t,(0:Int),(23:Int)] W λ e w'=>e=.returned (.bool x1)/\Gr W w') /\
     (∀W,Calls prog 162 #[.string (t.extract 3 t.size),(0:Int),(59:Int)] W λ e w'=>e=.returned (.bool x2)/\Gr W w') /\
     (∀W,Calls prog 162 #[.string (t.extract 6 t.size),(0:Int),.int .i64 (last:Int)] W λ e w'=>e=.returned (.bool x3)/\Gr W w'))):=U10 (by
  rcases hk.t with h|⟨h8,hf⟩
  left;have h1:t.toList=[]:=by rw[U1y];exact h
  exact⟨by rw[h1];rfl,h1,by rw[<-hB,h];rfl⟩
  right;rw[O0]at h8;obtain⟨n1,n2,n3⟩:=Oft (x:=t) Ya;have M6:bs (t.extract 3 5)=((bs t).drop 3).take 2:=Ohb _ _ _;have e3:bs (t.extract 3 t.size)=(bs t).drop 3:=O3 t 3;have e6:bs (t.extract 6 t.size)=(bs t).drop 6:=O3 t 6;have f0:=V3f _ _ hf 0 2 (λ i hi=>by match i,hi with|0,_=>rfl|1,_=>rfl);have f3:=V3f _ _ hf 3 2 (λ i hi=>by match i,hi with|0,_=>rfl|1,_=>rfl);have f6:=V3f _ _ hf 6 2 (λ i hi=>by match i,hi with|0,_=>rfl|1,_=>rfl);rw[U2j]at f0;refine⟨n1,n2,Ya,V10 (bs t) 0 23,V10 ((bs t).drop 3) 0 59,V10 ((bs t).drop 6) 0 (if ((bs t).drop 3).take 2=[53,57] then 60 else 59),(if ((bs t).drop 3).take 2=[53,57] then 60 else 59),?_,?_,?_,?_,?_⟩;rw[<-hB,n3,U51]
  rw[U1y];by_cases h5:((bs t).drop 3).take 2=[53,57];left;rw[U18 h5];exact⟨U2w.2 (by show bs (t.extract 3 5)=_;rw[M6,h5]),rfl⟩
  right;rw[U1b h5];exact⟨U3l.2 (by show bs (t.extract 3 5)≠_;rw[M6];exact h5),rfl⟩;exact λ W=>O21 t Ya f0 0 23 W
  intro W;have:=O21 (t.extract 3 t.size) Ye (by rw[e3];exact f3) 0 59 W;rw[e3]at this;exact this
  intro W;have:=O21 (t.extract 6 t.size) Ye (by rw[e6];exact f6) 0 (if ((bs t).drop 3).take 2=[53,57] then 60 else 59) W;rw[e6]at this;exact this)
 have HC:Hid ((decide ((z.size:Int)<2)=true/\C=true)\/(decide ((z.size:Int)<2)=false/\(6:Int)<=(z.size:Int) /\
     ∃x1 x2:Bool,C=(x1&&x2) /\
     (∀W,Calls prog 162 #[.string (z.extract 1 z.size),(0:Int),(23:Int)] W λ e w'=>e=.returned (.bool x1)/\Gr W w') /\
     (∀W,Calls prog 162 #[.string (z.extract 4 z.size),(0:Int),(59:Int)] W λ e w'=>e=.returned (.bool x2)/\Gr W w'))):=U10 (by
  rcases hk.z with h|⟨h6,hf⟩
  left;rw[O0]at h;exact⟨Ye,by rw[<-hC,O0,decide_eq_true h];rfl⟩
  right;rw[O0]at h6;have e1:bs (z.extract 1 z.size)=(bs z).drop 1:=O3 z 1;have e4:bs (z.extract 4 z.size)=(bs z).drop 4:=O3 z 4;have f0:=V3f _ _ hf 0 2 (λ i hi=>by match i,hi with|0,_=>rfl|1,_=>rfl);have f3:=V3f _ _ hf 3 2 (λ i hi=>by match i,hi with|0,_=>rfl|1,_=>rfl);rw[U2j]at f0;rw[U27]at f3;refine⟨Ye,Ya,V10 ((bs z).drop 1) 0 23,V10 ((bs z).drop 4) 0 59,?_,?_,?_⟩;rw[<-hC,O0,U4f Ya,U51];intro W;have:=O21 (z.extract 1 z.size) Ye (by rw[e1];exact f0) 0 23 W;rw[e1]at this;exact this
  intro W;have:=O21 (z.extract 4 z.size) Ye (by rw[e4];exact f3) 0 59 W;rw[e4]at this;exact this)
 clear hA hB hC hk;go_enter func129,ntmps129;have iG:(w.alloc (V51 d t p z n)).heap[w.heap.size]?=some (V51 d t p z n):=U1z w _;have eP:Gr w (w.alloc (V51 d t p z n)):=(Gr.refl w).alloc _;obtain⟨p0,p1,p2,p3,p4,pf,hz⟩:=Ob iG;rcases HA.o with⟨d1,d2,AW⟩|⟨d1,d2,d3,y,m,a1,a2,dA,hY,hM,rW,M7,M8⟩
 ·skip;rcases HB.o with⟨t1,t2,B5⟩|⟨t1,t2,t3,b1,b2,b3,last,tB,tl,fI,sU,cE⟩
  ·skip;rcases HC.o with⟨z1,zC⟩|⟨z1,z2,v1,v2,zC,zL,zM⟩
   ·refine Z176 ?_;intro HY;go_wp2_with fail
    go_ret
    exact⟨by (rw[HY.o];try rfl),eP⟩
   refine Z88 ?_;intro k1 k4 x9 AV;clear zL zM;go_wp2_with fail;refine (x9.o _).mono ?_;refine Z295 ?_;intro w7 g7 xj nT;clear g7 iG eP p0 p1 p2 p3 p4 pf hz;exact J74
  refine Z277 ?_;intro k3 k5 k6 iF kV ii;clear fI sU cE;rcases tl with⟨Hz,rfl⟩|⟨Hz,rfl⟩
  skip;exact J209
  skip;exact J209
 have Ul:(4:Int)<=(d.size:Int):=Ya;have M9:(5:Int)<=(d.size:Int):=Ya;have Um:(7:Int)<=(d.size:Int):=Ya;have Un:(8:Int)<=(d.size:Int):=Ya;have Q7:=U10 hY;have Q8:=U10 hM;have Ph:=U10 rW;have BR:=U10 M8;have Q9:=U10 M7;clear hY hM rW M8 M7;go_wp2_with fail;refine (Q7.o _).mono ?_;refine Z295 ?_;intro w1 g1 bz cx;clear g1 iG eP p0 p1 p2 p3 p4 pf hz;obtain⟨p0,p1,p2,p3,p4,pf,hz⟩:=Ob bz;go_wp2_with fail;refine (Q8.o _).mono ?_;rintro e w2 ⟨rfl,g2⟩;have ay:=(g2.block hz).trans bz;have bC:=cx.trans g2;clear g2 bz cx p0 p1 p2 p3 p4 pf hz;obtain⟨p0,p1,p2,p3,p4,pf,hz⟩:=Ob ay;go_wp2_with fail;have hS:Vaa w w.heap.size d t p z n w2.drew:=⟨Ob (show w2.drew.heap[w.heap.size]?=_ from ay),ay,bC.drew⟩
 cases a1 with
 |false =>
  refine Z135 ?_;intro w3 g3 aC;refine Z16 ?_;refine Reg.ty 4 ?_;refine Reg.ty 5 ?_;refine Reg.sk 6 ?_;refine Reg.sk 7 ?_;refine Z305 ?_;refine Reg.ty 14 ?_;refine Z12 ?_;have HY:Hid (V4j c=false):=U10 (by rw[HX.o,dA];rfl);go_wp2_with fail
  go_ret
  exact⟨by (rw[HY.o];try rfl),aC.2.2⟩
 |true =>
  refine Z135 ?_;intro w3 g3 aC;refine Z16 ?_;refine Z82 ?_;refine Reg.tl 7 aC ?_ (hy:=by intro w ab;obtain⟨⟨p0,p1,p2,p3,p4,pf,hz⟩,_,_⟩:=ab;go_simp;try with_reducible rfl);refine Z46 ?_;refine Reg.on 11 ?_;go_simp;refine (Q9.o _).mono ?_;refine Z44 ?_;refine Z16 ?_;refine Reg.on 12 ?_;go_simp;refine (BR.o _).mono ?_;rintro e w4 ⟨rfl,g4⟩;have ci:=aC.gr g4;refine Z33 ?_;refine Reg.ty 13 ?_;refine Reg.ty 14 ?_;refine Z12 ?_;have aR:=ci.2.1;have d7:=ci.2.2;clear hS aC ci g3 g4 ay bC p0 p1 p2 p3 p4 pf hz;obtain⟨p0,p1,p2,p3,p4,pf,hz⟩:=Ob aR;cases a2 with
  |false =>
   have HY:Hid (V4j c=false):=U10 (by rw[HX.o,dA];rfl);go_wp2_with fail
   go_ret
   exact⟨by (rw[HY.o];try rfl),d7⟩
  |true =>
   have AW:A=true:=dA;rcases HB.o with⟨t1,t2,B5⟩|⟨t1,t2,t3,b1,b2,b3,last,tB,tl,fI,sU,cE⟩
   ·skip;rcases HC.o with⟨z1,zC⟩|⟨z1,z2,v1,v2,zC,zL,zM⟩
    ·refine Z176 ?_;intro HY;go_wp2_with fail
     go_ret
     exact⟨by (rw[HY.o];try rfl),d7⟩
    refine Z88 ?_;intro k1 k4 x9 AV;clear zL zM;go_wp2_with fail;refine (x9.o _).mono ?_;rintro e w7 ⟨rfl,g7⟩;have xj:=(g7.block hz).trans aR;have nT:=d7.trans g7;clear g7 aR d7 p0 p1 p2 p3 p4 pf hz;exact J74
   refine Z277 ?_;intro k3 k5 k6 iF kV ii;clear fI sU cE;rcases tl with⟨Hz,rfl⟩|⟨Hz,rfl⟩
   skip;exact J204
   skip;exact J204
namespace Pl
theorem Oj3:∀(l m:Bs),Vw l m=true->(∀w∈m,w.toNat<128)->∀c∈l.take m.length,c.toNat<128:=by
 intro l
 induction l with
 |nil=>intro m _ _ c hc;simp at hc
 |cons a l ih =>
  intro m h hm c hc;cases m with
  |nil=>simp at hc
  |cons w m =>
   simp only[Vw,U1g]at h;simp only[U17,U49,U36]at hc;rcases hc with rfl|hc
   have h1:=h.1;unfold V65 at h1
   split at h1;simp at h1;omega
   have:=hm w Yb;simp at h1;omega
   exact ih m h.2 (λ x hx=>hm x (by simp[hx])) c hc
theorem Oj4(l:Bs):∀c∈V28 l,c.toNat<128:=by
 unfold V28;cases l with
 |nil=>simp
 |cons a r =>
  simp only
  split
  rename_i h
  intro c hc;rw[U22]at hc;subst hc;omega
  split
  rename_i h
  simp only[U1g]at h;intro c hc;rw[show (a::r).take 6=a::r.take 5 from rfl,U36]at hc;rcases hc with rfl|hc
  have h1:=h.1;unfold Vx at h1;simp at h1;omega
  exact Oj3 r V4i h.2 Yd c hc
  simp
theorem V6n(l:Bs):∀c∈(Vh l).zone,c.toNat<128:=by
 unfold Vh
 split
 split
 generalize Vi (l.drop 11)=x;obtain⟨t,p⟩:=x;simp only
 split;simp
 exact Oj4 _
 simp
 simp
theorem V9e(l:Bs):Lib.toUpperA l=V6k l:=by
 unfold Lib.toUpperA V6k;congr 1
 funext c
 unfold Lib.upperB Lib.isLowerB;have e:((97:UInt8)<=c&&c<=122)=true ↔ (97<=c.toNat/\c.toNat<=122):=by simp[UInt8.le_iff_toNat_le]
 by_cases h:97<=c.toNat/\c.toNat<=122;rw[U18 h,U18 (e.2 h)]
 rw[U1b h,U1b (λ x=>h (e.1 x))]
end Pl
theorem Oo5(d t p z:ByteArray)(n:Int)(c:V94)(hd:bs d=c.date)(ht:bs t=c.time)(hp:bs p=c.part)(hz:bs z=c.zone)(sd:d.size<=20000000)(st:t.size<=20000000)(sp:p.size<=20000000)(sz:z.size<=20000000)(hl:∀x∈bs z,x.toNat<128)(w:World):Calls prog 130 #[V9m d t p z n] w λ e w'=>(∃x:ByteArray,e=.returned (.string x)/\bs x=V5o c)/\Gr w w':=by
 obtain⟨P,hP⟩:∃P:ByteArray,⟨(Vm (bs p)).toArray⟩=P:=⟨_,rfl⟩
 obtain⟨U,hU⟩:∃U:ByteArray,⟨(Lib.toUpperA (bs z)).toArray⟩=U:=⟨_,rfl⟩
 have xY:bs P=Vm c.part:=by rw[<-hP,O1w,hp]
 have pL:bs U=V6k c.zone:=by rw[<-hU,O1w,V9e,hz]
 have Q0:P.size<=20000000:=by
  have h1:=V4e (bs p);rw[hp,<-xY,O0,<-hp,O0]at h1;omega
 have BQ:U.size<=20000000:=by
  have h1:(bs U).length=(bs z).length:=by rw[pL,<-hz];unfold V6k;rw[U1n]
  rw[O0,O0]at h1;omega
 have H':=U10 (Obp p P sp hP);have Qa:Hid (∀W,Calls prog 165 #[.string z] W λ e w'=>e=.returned (.string U)/\Gr W w'):=U10 (λ W=>by
  refine (strings_ToUpper_ascii z W Ya (Obq hl)).mono ?_;rintro e w' ⟨rfl,g⟩;exact⟨by rw[<-hU],g⟩)
 have hX:V5o c=bs d++(if bs d≠[]/\bs t≠[] then [84] else [])++bs t++(if bs P≠[] then 46::bs P else [])++bs U:=by
  unfold V5o;rw[xY,pL,hd,ht]
 have HX:=U10 hX;have e0:∀x:ByteArray,bs x=x.toList:=λ x=>(U1y x).symm
 have HE:=U10 e0;clear hX hd ht hp hz hP hU xY pL hl e0;rcases O2c d with⟨d1,d2,d3⟩|⟨d1,d2,d3⟩
 all_goals rcases O2c t with⟨t1,t2,t3⟩|⟨t1,t2,t3⟩
 all_goals rcases O2c P with⟨p1,p2,p3⟩|⟨p1,p2,p3⟩
 all_goals clear d3 t3 p3
 all_goals
  have b1:¬ 9223372036854775807<d.size+1:=Ya;have b2:¬ 9223372036854775807<d.size+1+t.size:=Ya;have b3:¬ 9223372036854775807<d.size+t.size:=Ya;have b4:¬ 9223372036854775807<1+P.size:=Ya;have b5:¬ 9223372036854775807<d.size+1+t.size+(1+P.size):=Ya;have b6:¬ 9223372036854775807<d.size+t.size+(1+P.size):=Ya;have b7:¬ 9223372036854775807<d.size+1+t.size+(1+P.size)+U.size:=Ya;have b8:¬ 9223372036854775807<d.size+t.size+(1+P.size)+U.size:=Ya;have b9:¬ 9223372036854775807<d.size+1+t.size+U.size:=Ya;have ba:¬ 9223372036854775807<d.size+t.size+U.size:=Ya
  go_enter func130,ntmps130;go_wp2_with fail;refine (H'.o _).mono ?_;refine Z44 ?_;go_wp2_with fail;refine (Qa.o _).mono ?_;rintro e w2 ⟨rfl,g2⟩;go_wp2_with fail
  go_ret
  refine⟨⟨_,rfl,?_⟩,Gr.auto⟩;rw[HX.o];simp only[HE.o]at *
  simp_all [bs,U2m,U1y]
theorem Oo6(s:ByteArray)(hs:s.size<=20000000)(w:World):Calls prog 98 #[.string s] w λ e w'=>Op (V1x (bs s)) e/\Gr w w':=by
 have hX:V1x (bs s)=if (Vh (bs s)).long=0\/(Vh (bs s)).long<s.size then .bad 3 0 else if V4j (Vh (bs s)) then .ok (V5o (Vh (bs s))) else .bad 9 0:=by unfold V1x;simp only[O0]
 have HX:=U10 hX;clear hX;go_enter func98,ntmps98;go_wp2_with fail;refine (Obu s hs _).mono ?_;rintro e w1 ⟨⟨d,t,p,z,rfl,hd,ht,hp,hz,sd,st,sp,sz⟩,g1⟩;have hk:=V8w (bs s);have hl:=V6n (bs s);have pQ:=V5d (bs s);rw[O0]at pQ;rw[<-hd,<-ht,<-hz]at hk;rw[<-hz]at hl;obtain⟨c,hc⟩:=ExZ (Vh (bs s))
 rw[hc]at HX hd ht hp hz pQ⊢;have HM:=U10 (λ W=>Oph d t p z c.long c hd ht hz hk W);have HT:=U10 (λ W=>Oo5 d t p z c.long c hd ht hp hz Ya Ya Ya Ya hl W);clear hk hl hc hd ht hp hz;obtain⟨n,hn⟩:=ExZ (c.long)
 rw[hn]at HX HM HT pQ⊢;by_cases h0:n=0;subst h0;have HY:Hid (V1x (bs s)=.bad 3 0):=U10 (by rw[HX.o,U18 (.inl rfl)]);exact J165
 have c0:((n:Int)==0)=false:=Ye
 by_cases h1:n<s.size
 have c1:decide ((n:Int)<(s.size:Int))=true:=Ye;have HY:Hid (V1x (bs s)=.bad 3 0):=U10 (by rw[HX.o,U18 (.inr h1)]);exact J165
 have c1:decide ((n:Int)<(s.size:Int))=false:=Ye;have aL:w1.heap.size<(w1.alloc (V51 d t p z n)).heap.size:=Yb;have Qb:(w1.alloc (V51 d t p z n)).heap[w1.heap.size]?=some (V51 d t p z n):=U1z w1 _;go_wp2_with fail;refine (HM.o _).mono ?_;rintro e w2 ⟨rfl,g2⟩;cases hm:V4j c with
 |false =>
  have HY:Hid (V1x (bs s)=.bad 9 0):=U10 (by rw[HX.o,U1b Ya,U1b (by rw[hm];simp)]);clear hm;go_wp2_with fail;exact U11 (v:=.tuple #[.string ⟨#[]⟩,(9:Int)]) (by simp[results,results98,go_sem]) rfl ⟨O1t HY.o,Gr.auto⟩
 |true =>
  have HY:Hid (V1x (bs s)=.ok (V5o c)):=U10 (by rw[HX.o,U1b Ya,U18 hm]);obtain⟨p0,p1,p2,p3,p4,pf,j9⟩:=Ob ((g2.block Yb).trans Qb);clear hm;go_wp2_with fail;refine (HT.o _).mono ?_;rintro e w3 ⟨⟨x,rfl,hx⟩,g3⟩;have HZ:Hid (V1x (bs s)=.ok (bs x)):=U10 (by rw[HY.o,hx]);clear hx;go_wp2_with fail;exact U11 (v:=.tuple #[.string x,(0:Int)]) (by simp[results,results98,go_sem]) rfl ⟨O5n HZ.o,Gr.auto⟩
theorem Oo7(s:ByteArray)(hs:s.size<=20000000)(w:World):Calls prog 70 #[.string s] w λ e w'=>e=.returned (.int .i64 ((Vh (bs s)).long:Int))/\Gr w w':=by
 have HS:=U10 (Obu s hs);have xZ:∀(d t p z:ByteArray)(n:Int) W,(Instr.field 177 (.agg #[.string d,.string t,.string p,.string z,n]) 4).run prog W=.ok n W:=λ _ _ _ _ _ _=>by kernel_rfl
 go_enter func70,ntmps70;go_wp2_with fail;refine (HS.o _).mono ?_;rintro e w1 ⟨⟨d,t,p,z,rfl,_⟩,g1⟩;exact J3
