/- The proof's part 08. -/
import Derived.Test.YtnkgknbdaiakgaaGreatDoorY02
import Derived.Test.YtnkgknbdaiakgaaGreatDoorY03
set_option maxHeartbeats 16000000
set_option linter.all false
namespace Go.Proofs.YtnkgknbdaiakgaaGreatDoor
open Pl Go.Proofs.Tryz Go.RowKit
theorem O3s(i:Int)(n:Nat)(hi:i=n)(w:World):Calls prog 23 #[i] w λ e w'=>e=.returned (fv 3 n)/\Gr w w':=by
 subst hi;go_enter func23,ntmps23
 go_wp2
 exact U11 (v:=fv 3 n) (by simp[results,results23,go_sem]) rfl ⟨rfl,(Gr.refl _).alloc _⟩
theorem Obl(i:Int)(n:Nat)(hi:i=n)(w:World):Calls prog 90 #[i] w λ e w'=>e=.returned (fv 3 n)/\Gr w w':=by
 subst hi;go_enter func90,ntmps90
 go_wp2
 exact U11 (v:=fv 3 n) (by simp[results,results90,go_sem]) rfl ⟨rfl,(Gr.refl _).alloc _⟩
theorem O1i(i:Int)(n:Nat)(hi:i=n)(w:World):Calls prog 63 #[i] w λ e w'=>e=.returned (fv 3 n)/\Gr w w':=by
 subst hi;go_enter func63,ntmps63
 go_wp2
 exact U11 (v:=fv 3 n) (by simp[results,results63,go_sem]) rfl ⟨rfl,(Gr.refl _).alloc _⟩
theorem Odw(w:World):Calls prog 25 #[f0] w λ e w'=>e=.returned (.bool true)/\Gr w w':=by
 go_enter func25,ntmps25;exact J152
theorem O1s(c p:Nat)(hc:¬(c:Int)=0)(w:World):Calls prog 25 #[fv c p] w λ e w'=>e=.returned (.bool false)/\Gr w w':=by
 go_enter func25,ntmps25;exact J152
theorem O29(w:World):Calls prog 92 #[f0] w λ e w'=>e=.returned (.bool true)/\Gr w w':=by
 go_enter func92,ntmps92;exact J152
theorem O81(c p:Nat)(hc:¬(c:Int)=0)(w:World):Calls prog 92 #[fv c p] w λ e w'=>e=.returned (.bool false)/\Gr w w':=by
 go_enter func92,ntmps92;exact J152
theorem O54(c:UInt8)(w:World):Calls prog 51 #[.int .u8 c.toNat] w λ e w'=>e=.returned (.bool (V2r c))/\w=w':=by
 go_enter func51,ntmps51;exact J2
theorem Ofp(x:Nat)(hx:x<=1114111)(w:World):Calls prog 145 #[.int .i32 x] w λ e w'=>e=.returned (.bool (V63 x))/\w=w':=by
 go_enter func145,ntmps145;exact J2
theorem O5s(l p:List UInt8):Lib.hasPrefix l p=Pl.pre l p:=by
 unfold Lib.hasPrefix
 induction p generalizing l with
 |nil=>cases l <;> simp[Pl.pre]
 |cons b p ih =>
  cases l with
  |nil=>simp[Pl.pre]
  |cons a l =>
   show (b==a&&p.isPrefixOf l)=(a==b&&Pl.pre l p)
   rw[ih,Bool.beq_comm]
theorem O6(s p:ByteArray)(m:Nat)(b:Bool)(h:Pl.pre ((bs s).drop m) (bs p)=b)(w:World):Calls prog 56 #[.string (s.extract m s.size),.string p] w λ e w'=>e=.returned (.bool b)/\w=w':=by
 refine (strings_HasPrefix _ _ w).mono ?_;refine Z44 ?_;exact⟨by rw[show (s.extract m s.size).data.toList=(bs s).drop m from O3 s m,O5s];exact O3r h,rfl⟩
theorem O4j:(prog.info? 142).map (λ i=>(i.zero,i.size))=some (some (.agg (Array.replicate 256 (.bool false))),256):=Yc
theorem O82(s:ByteArray)(w:World):Calls prog 41 #[.string s,.string ⟨#[32,9]⟩] w λ e w'=>e=.returned (.string ⟨((bs s).dropWhile V2x).toArray⟩)/\Gr w w':=by
 refine (Any.strings_TrimLeft_laid lays161 O4j s ⟨#[32,9]⟩ w Yd ?_).mono ?_
 intro j b h
 match j,h with
 |0,h=>simp at h;subst h;decide
 |1,h=>simp at h;subst h;decide
 rintro e w' ⟨rfl,hb⟩;refine⟨?_,hb⟩;have:(λ c:UInt8=>([32,9]:List UInt8).contains c)=V2x:=by
  funext c
  rw[U3j];simp[V2x,<-U20]
 unfold Lib.trimLeftS;rw[show (⟨#[32,9]⟩:ByteArray).data.toList=[32,9] from rfl,this]
theorem Oa(s:ByteArray)(i:Int)(n:Nat)(hi:i=n)(hn:n<=s.size)(hs:s.size<=2147483647)(w:World):Calls prog 20 #[.string s,i] w λ e w'=>e=.returned (.int .i64 (V7 (bs s) n))/\Gr w w':=by
 subst hi;go_enter func20,ntmps20;go_wp2_with (go_at_call 41;refine (O82 _ _).mono ?_;rintro e w' ⟨rfl,hb⟩)
 go_ret
 refine⟨O2j ?_,hb⟩;have h1:=V4r V2x ((bs s).drop n);have h2:=O0 s;rw[U15]at h1;rw[O3,IntWalk.wrap64_in _ ⟨Ya,Ya⟩];unfold V7 Pl.blanks;omega
theorem O83(s:ByteArray)(ai:Nat)(h:ai<s.size)(ha:128<=(s[ai]'h).toNat):ai+(Utf8.decode s ai).2<=s.size/\∀j,j<(Utf8.decode s ai).2->∀hj:ai+j<s.size,128<=(s[ai+j]'hj).toNat:=by
 have hg:∀k (hk:ai+k<s.size),(s[ai+k]'hk).toNat=(s.get! (ai+k)).toNat:=by
  intro k hk;show _=(s.data[ai+k]!).toNat;rw[getElem!_pos s.data (ai+k) hk];rfl
 have h0:128<=(s.get! (ai+0)).toNat:=by rw[<-hg 0 h];exact ha
 have hn:¬(s.get! (ai+0)).toNat<128:=Ya
 simp only[Utf8.decode,hn,U2c]
 repeat' split
 all_goals (
  simp only[U1g,U1x,U2w]at *;refine⟨Ya,λ j hj H6=>?_⟩;rw[hg j H6])
 all_goals (
  match j,hj with
  |0,_=>exact h0
  |1,hj=>omega
  |2,hj=>omega
  |3,hj=>omega
  |j+4,hj=>omega)
theorem O6m(p:UInt8->Bool)(l:List UInt8)(n:Nat)(h:n<l.length)(hp:p (l[n]'h)=true):n+((l.drop n).takeWhile p).length=n+1+((l.drop (n+1)).takeWhile p).length:=by
 rw[U1u h,U1o,U18 hp];simp;omega
theorem Omg(p:UInt8->Bool)(l:List UInt8):∀k n,n+k<=l.length->(∀j,j<k->∀h:n+j<l.length,p (l[n+j]'h)=true) ->n+((l.drop n).takeWhile p).length=n+k+((l.drop (n+k)).takeWhile p).length:=by
 intro k
 induction k with
 |zero=>intro n _ _;simp
 |succ k ih =>
  intro n h1 h2;rw[O6m p l n Ya (by simpa using h2 0 Ya Ya),ih (n+1) Ya (λ j hj h=>by
   have:=h2 (j+1) Ya Ya
   simpa [U2a,Nat.add_comm 1 j]using this),show n+1+k=n+(k+1) from by omega]
theorem O55(s:ByteArray)(ai:Nat)(h:ai<s.size)(ha:(s[ai]'h).toNat<128):Utf8.decode s ai=((s[ai]'h).toNat,1):=by
 have hg:(s.get! (ai+0)).toNat=(s[ai]'h).toNat:=by
  show (s.data[ai]!).toNat=_;rw[getElem!_pos s.data ai h];rfl
 unfold Utf8.decode;simp only[hg];rw[U18 ha]
theorem Omh(s:ByteArray):∀f ai,ai<=s.size->s.size-ai<=f ->Lib.idxFuncFrom V63 true s f ai=if ai+(((bs s).drop ai).takeWhile λ c => !V2t c).length<s.size then ((ai+(((bs s).drop ai).takeWhile λ c => !V2t c).length:Nat):Int) else -1:=by
 intro f
 induction f with
 |zero =>
  exact J162
 |succ f ih =>
  intro ai h1 h2;rw[Lib.idxFuncFrom];by_cases hp:ai<s.size
  rw[U18 hp];have hl:ai<(bs s).length:=by rw[O0];exact hp
  have bJ:(bs s)[ai]'hl=s[ai]'hp:=rfl;by_cases az:(s[ai]'hp).toNat<128
  rw[O55 s ai hp az];by_cases hc:V63 (s[ai]'hp).toNat=true
  rw[U18 hc];have:(((bs s).drop ai).takeWhile λ c => !V2t c)=[]:=by
   rw[U1u hl,U1o,U1b];rw[bJ];simp[V2t,hc]
  rw[this,U18 (by simpa using hp)];simp
  rw[U1b hc,ih (ai+1) Ya Ya,O6m (λ c => !V2t c) (bs s) ai hl (by rw[bJ];simp[V2t,hc])]
  have hd:=decode_high s ai hp Ya;have ha:=O83 s ai hp Ya;rw[U1b (by simp[V63];omega),ih _ ha.1 Ya,Omg (λ c => !V2t c) (bs s) _ ai (by rw[O0];exact ha.1) (λ j hj h=>by
   have:=ha.2 j hj (by rw[<-O0];exact h);have e:(bs s)[ai+j]'h=s[ai+j]'(by rw[<-O0];exact h):=rfl;rw[e];simp[V2t,V63];omega)]
  rw[U1b hp,U1b Ya]
theorem Od5(w:World):PredAtRunes prog 145 #[] V63 w:=by
 intro W x hx _;unfold FnGives;refine (Ofp x hx W).mono ?_;refine Z44 ?_;exact⟨rfl,0,rfl⟩
theorem O7h(s:ByteArray)(w:World):Calls prog 49 #[.string s,.func (.func 145) #[] #[]] w λ e w'=>e=.returned (.int .i64 (if ((bs s).takeWhile λ c => !V2t c).length<s.size then (((bs s).takeWhile λ c => !V2t c).length:Int) else -1))/\Gr w w':=by
 refine (strings_IndexFunc_runes 145 #[] (enters_of func145 Yc rfl) V63 s w (Od5 w)).mono ?_;rintro e w' ⟨rfl,hb⟩;refine⟨O2j ?_,hb⟩;unfold Lib.idxFunc;rw[Omh s s.size 0 Ya Ya];simp
theorem O9p(s:ByteArray)(n:Nat)(h:¬n+(((bs s).drop n).takeWhile λ c => !V2t c).length<s.size)(w:World):Calls prog 49 #[.string (s.extract n s.size),.func (.func 145) #[] #[]] w λ e w'=>e=.returned (.int .i64 (-1))/\Gr w w':=by
 refine (O7h (s.extract n s.size) w).mono ?_;rintro e w' ⟨rfl,hb⟩;refine⟨O2j ?_,hb⟩;rw[O3,U1b (by rw[Oa2];omega)]
theorem O8w(s:ByteArray)(n k:Nat)(hk:(((bs s).drop n).takeWhile λ c => !V2t c).length=k)(h:n+k<s.size)(w:World):Calls prog 49 #[.string (s.extract n s.size),.func (.func 145) #[] #[]] w λ e w'=>e=.returned k/\Gr w w':=by
 refine (O7h (s.extract n s.size) w).mono ?_;rintro e w' ⟨rfl,hb⟩;refine⟨O2j ?_,hb⟩;rw[O3,U18 (by rw[Oa2];omega),hk]
theorem O9q(s:ByteArray)(i:Int)(hi:i<0\/s.size<=i)(hs:s.size<=2147483647)(w:World):Calls prog 101 #[.string s,i] w λ e w'=>e=.returned (.tuple #[i,f0])/\Gr w w':=by
 go_enter func101,ntmps101;rcases hi with hi|hi
 exact J161
 have:¬i<0:=Ya
 exact J161
theorem O7i(l:List UInt8)(n:Nat)(h:∀hn:n<l.length,(l[n]'hn).toNat≠35):Vs l n=n:=by
 unfold Vs Pl.comment
 split
 rename_i r h1
 exfalso;have hn:n<l.length:=by
  have:=U2b List.length h1;simp at this;omega
 rw[U1u hn]at h1;simp only[U24]at h1;exact h hn (by rw[h1.1];rfl)
 rfl
theorem Oel(l:List UInt8)(n:Nat)(hn:n<l.length)(h:(l[n]'hn).toNat=35):Vs l n=n+((l.drop n).takeWhile λ c => !V2t c).length:=by
 unfold Vs;rw[U1u hn];have e:l[n]'hn=35:=by rw[<-U20,h];rfl
 rw[e,U1o,U18 Yd];simp[Pl.comment];omega
theorem O26(s:ByteArray)(i:Int)(n:Nat)(hi:i=n)(hn:n<=s.size)(hs:s.size<=2147483647)(w:World):Calls prog 101 #[.string s,i] w λ e w'=>e=.returned (.tuple #[.int .i64 (Vs (bs s) n),f0])/\Gr w w':=by
 subst hi;by_cases aa:n<s.size
 ·by_cases hc:(s[n]'aa).toNat=35
  ·have eF:=Oel (bs s) n (by rw[O0];exact aa) hc;obtain⟨k,hk⟩:=ExZ ((((bs s).drop n).takeWhile λ c => !V2t c).length)
   rw[hk]at eF;have aQ:=Vn (λ c => !V2t c) ((bs s).drop n);rw[hk,U15,O0]at aQ;have H:=U10 eF;clear eF;have HK:=U10 hk;clear hk;by_cases bD:n+k<s.size
   ·go_enter func101,ntmps101;go_wp2_with (go_at_call 49;refine (O8w s n k HK.o bD _).mono ?_;rintro e w1 ⟨rfl,g1⟩;obtain⟨ah,ap,ax⟩:=g1.use;simp only[U1s]at ax)
    go_region
    all_goals go_wp2_with fail
    exact U11 (v:=.tuple #[.int .i64 (n+k:Int),f0]) (by simp[results,results101,go_sem,ah]) rfl ⟨by rw[H.o];simp,Gr.auto⟩
   have bY:n+k=s.size:=Ya;have HS:=U10 bY;clear bY aQ;go_enter func101,ntmps101;go_wp2_with (go_at_call 49;refine (O9p s n (by rw[HK.o];exact bD) _).mono ?_;rintro e w1 ⟨rfl,g1⟩;obtain⟨ah,ap,ax⟩:=g1.use;simp only[U1s]at ax)
   go_region
   all_goals go_wp2_with fail
   exact U11 (v:=.tuple #[s.size,f0]) (by simp[results,results101,go_sem,ah]) rfl ⟨by rw[H.o,HS.o],Gr.auto⟩
  have eF:Vs (bs s) n=n:=O7i (bs s) n (λ _=>hc);have H:=U10 eF;clear eF;have kR:(((s[n]'aa).toNat:Int) != 35)=true:=Ye;clear hc;go_enter func101,ntmps101;go_wp2_with fail
  go_region
  all_goals go_wp2_with fail
  exact U11 (v:=.tuple #[n,f0]) (by simp[results,results101,go_sem]) rfl ⟨by rw[H.o],Gr.auto⟩
 have e:Vs (bs s) n=n:=O7i _ _ (λ h=>absurd h (by rw[O0];exact aa));rw[e];exact O9q s n (.inr Ya) hs w
theorem O7t(s:ByteArray)(m k:Nat)(p:List UInt8)(h:Pl.pre ((bs s).drop m) p=true)(hk:p.length=k)(hm:m<=s.size):m+k<=s.size:=by
 have:=V1w _ _ h;rw[U15,O0]at this;omega
theorem Opa(s:ByteArray)(i:Int)(n0:Nat)(hi:i=n0)(iJ:n0<=s.size)(hs:s.size<=2147483647)(w:World) :
    Calls prog 75 #[.string s,i] w λ e w'=>(match Vy (bs s) n0 with
     |.ok m=>e=.returned (.tuple #[m,f0])/\m<=s.size
     |.bad c p=>e=.returned (.tuple #[(0:Int),fv c p]))/\Gr w w':=by
 subst hi;obtain⟨R,hR⟩:∃R:Ending->World->Prop,R=λ e w'=>(match Vy (bs s) n0 with
     |.ok m=>e=.returned (.tuple #[m,f0])/\m<=s.size
     |.bad c p=>e=.returned (.tuple #[(0:Int),fv c p]))/\Gr w w':=⟨_,rfl⟩
 rw[<-hR];have HR:=U10 hR;clear hR;have kB:decide ((n0:Int)<0)=false:=Yb
 have dZ:decide (s.size<n0)=false:=Ye
 go_enter func75,ntmps75;go_wp2_with fail
 go_loopw [1,4] (λ a e wr=>∃n:Nat,a=.int .i64 n/\n<=s.size/\Vy (bs s) n=Vy (bs s) n0/\Gr (w.alloc (.cells #[(0:Int),(0:Int)] 29)) wr) (λ a _ _=>s.size-(intOf a).toNat)
 case atStart=>exact⟨n0,rfl,iJ,rfl,Gr.refl _⟩
 case round =>
  obtain⟨n,rfl,hn,he,g⟩:=hrel;have aO:=V8 (bs s) n (by rw[O0];exact hn);rw[O0]at aO;have bN:=V3y (bs s) (V7 (bs s) n) (by rw[O0];exact aO.2);rw[O0]at bN;obtain⟨G1,G2,G3,G4,G5⟩:=V8p (bs s) n (by rw[O0];exact hn);have HE:=U10 he;clear he;obtain⟨hc,hf,hz⟩:=g.use;simp only[U1s]at hz;obtain⟨m,hm⟩:=ExZ (Vs (bs s) (V7 (bs s) n))
  rw[hm]at bN G1 G2 G3 G4 G5;have HM:=U10 hm;clear hm;cases h1:Pl.pre ((bs s).drop m) [13,10]
  ·have H1:=U10 h1;cases h2:Pl.pre ((bs s).drop m) [10]
   ·have H2:=U10 h2;cases h3:Pl.pre ((bs s).drop m) [13]
    ·have H3:=U10 h3;by_cases vr:m=n
     ·have HG:=U10 (G4 h1 h2 h3 vr);clear G1 G2 G3 G4 G5 h1 h2 h3;have H7:((m:Int)==n)=true:=by simp[vr]
      have HN:=U10 vr;clear vr;go_wp2_with (first|(go_at_call 20;refine (Oa s _ n rfl hn hs _).mono ?_;rintro e w1 ⟨rfl,g1⟩;have im:=g.trans g1;obtain⟨ah,ap,ax⟩:=im.use;simp only[U1s]at ax)|(go_at_call 101;refine (O26 s _ _ rfl aO.2 hs _).mono ?_;rw[HM.o];rintro e w2 ⟨rfl,g2⟩;have pC:=im.trans g2;obtain⟨aE,dj,aL⟩:=pC.use;simp only[U1s]at aL)|(go_at_call 56;first|(with_reducible refine (O6 s ⟨#[13,10]⟩ m false H1.o _).mono ?_;rintro e w3 ⟨rfl,rfl⟩)|(with_reducible refine (O6 s ⟨#[10]⟩ m false H2.o _).mono ?_;rintro e w3 ⟨rfl,rfl⟩)|(with_reducible refine (O6 s ⟨#[13]⟩ m false H3.o _).mono ?_;rintro e w3 ⟨rfl,rfl⟩)))
      go_region
      all_goals go_wp2_with fail
      exact U11 (v:=.tuple #[m,f0]) (by simp[results,results75,go_sem,aE]) rfl (by
       rw[HR.o];refine⟨?_,Gr.auto⟩;rw[<-HE.o,HG.o];exact⟨by rw[HN.o],hn⟩)
     have HG:=U10 (G5 h1 h2 h3 vr);clear G1 G2 G3 G4 G5 h1 h2 h3;have H7:((m:Int)==n)=false:=Ye
     go_wp2_with (first|(go_at_call 20;refine (Oa s _ n rfl hn hs _).mono ?_;rintro e w1 ⟨rfl,g1⟩;have im:=g.trans g1;obtain⟨ah,ap,ax⟩:=im.use;simp only[U1s]at ax)|(go_at_call 101;refine (O26 s _ _ rfl aO.2 hs _).mono ?_;rw[HM.o];rintro e w2 ⟨rfl,g2⟩;have pC:=im.trans g2;obtain⟨aE,dj,aL⟩:=pC.use;simp only[U1s]at aL)|(go_at_call 56;first|(with_reducible refine (O6 s ⟨#[13,10]⟩ m false H1.o _).mono ?_;rintro e w3 ⟨rfl,rfl⟩)|(with_reducible refine (O6 s ⟨#[10]⟩ m false H2.o _).mono ?_;rintro e w3 ⟨rfl,rfl⟩)|(with_reducible refine (O6 s ⟨#[13]⟩ m false H3.o _).mono ?_;rintro e w3 ⟨rfl,rfl⟩)))
     go_roundw
     case rel=>exact⟨m,rfl,Ya,by rw[<-HG.o,HE.o],Gr.auto⟩
     case measure=>simp[intOf];omega
    have H3:=U10 h3;have bY:=O7t s m 1 _ h3 rfl Ya;have HG:=U10 (G3 h1 h2 h3);clear G1 G2 G3 G4 G5 h1 h2 h3;go_wp2_with (first|(go_at_call 20;refine (Oa s _ n rfl hn hs _).mono ?_;rintro e w1 ⟨rfl,g1⟩;have im:=g.trans g1;obtain⟨ah,ap,ax⟩:=im.use;simp only[U1s]at ax)|(go_at_call 101;refine (O26 s _ _ rfl aO.2 hs _).mono ?_;rw[HM.o];rintro e w2 ⟨rfl,g2⟩;have pC:=im.trans g2;obtain⟨aE,dj,aL⟩:=pC.use;simp only[U1s]at aL)|(go_at_call 56;first|(with_reducible refine (O6 s ⟨#[13,10]⟩ m false H1.o _).mono ?_;rintro e w3 ⟨rfl,rfl⟩)|(with_reducible refine (O6 s ⟨#[10]⟩ m false H2.o _).mono ?_;rintro e w3 ⟨rfl,rfl⟩)|(with_reducible refine (O6 s ⟨#[13]⟩ m true H3.o _).mono ?_;rintro e w3 ⟨rfl,rfl⟩))|(go_at_call 23;refine (O3s _ (m+1) Ya _).mono ?_;rintro e w4 ⟨rfl,g4⟩;have BF:=pC.trans g4;obtain⟨mY,o9,mZ⟩:=BF.use;simp only[U1s]at mZ));exact U11 (v:=.tuple #[(0:Int),fv 3 (m+1)]) (by simp[results,results75,go_sem,mY]) rfl (by
     rw[HR.o];refine⟨?_,Gr.auto⟩;rw[<-HE.o,HG.o])
   have H2:=U10 h2;have bY:=O7t s m 1 _ h2 rfl Ya;have HG:=U10 (G2 h1 h2);clear G1 G2 G3 G4 G5 h1 h2;go_wp2_with (first|(go_at_call 20;refine (Oa s _ n rfl hn hs _).mono ?_;rintro e w1 ⟨rfl,g1⟩;have im:=g.trans g1;obtain⟨ah,ap,ax⟩:=im.use;simp only[U1s]at ax)|(go_at_call 101;refine (O26 s _ _ rfl aO.2 hs _).mono ?_;rw[HM.o];rintro e w2 ⟨rfl,g2⟩;have pC:=im.trans g2;obtain⟨aE,dj,aL⟩:=pC.use;simp only[U1s]at aL)|(go_at_call 56;first|(with_reducible refine (O6 s ⟨#[13,10]⟩ m false H1.o _).mono ?_;rintro e w3 ⟨rfl,rfl⟩)|(with_reducible refine (O6 s ⟨#[10]⟩ m true H2.o _).mono ?_;rintro e w3 ⟨rfl,rfl⟩))|(go_at_call 23;refine (O3s _ (m+1) Ya _).mono ?_;rintro e w4 ⟨rfl,g4⟩;have BF:=pC.trans g4;obtain⟨mY,o9,mZ⟩:=BF.use;simp only[U1s]at mZ))
   go_roundw
   case rel=>exact⟨m+1,by go_num,Ya,by rw[<-HG.o,HE.o],Gr.auto⟩
   case measure=>simp[intOf];omega
  have H1:=U10 h1;have bY:=O7t s m 2 _ h1 rfl Ya;have HG:=U10 (G1 h1);clear G1 G2 G3 G4 G5 h1;go_wp2_with (first|(go_at_call 20;refine (Oa s _ n rfl hn hs _).mono ?_;rintro e w1 ⟨rfl,g1⟩;have im:=g.trans g1;obtain⟨ah,ap,ax⟩:=im.use;simp only[U1s]at ax)|(go_at_call 101;refine (O26 s _ _ rfl aO.2 hs _).mono ?_;rw[HM.o];rintro e w2 ⟨rfl,g2⟩;have pC:=im.trans g2;obtain⟨aE,dj,aL⟩:=pC.use;simp only[U1s]at aL)|(go_at_call 56;first|(with_reducible refine (O6 s ⟨#[13,10]⟩ m true H1.o _).mono ?_;rintro e w3 ⟨rfl,rfl⟩)))
  go_roundw
  case rel=>exact⟨m+2,by go_num,Ya,by rw[<-HG.o,HE.o],Gr.auto⟩
  case measure=>simp[intOf];omega
