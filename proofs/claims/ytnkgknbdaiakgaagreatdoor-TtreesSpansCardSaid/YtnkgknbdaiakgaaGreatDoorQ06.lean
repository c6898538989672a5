/- The proof's part 06. -/
import Derived.Test.YtnkgknbdaiakgaaGreatDoorQ02
import Derived.Test.YtnkgknbdaiakgaaGreatDoorQ03
set_option maxHeartbeats 16000000
set_option linter.all false
namespace Go.Proofs.YtnkgknbdaiakgaaGreatDoor
open Pl Go.Proofs.Tryz Go.RowKit
theorem O3m(i:Int)(n:Nat)(hi:i=n)(w:World):Calls prog 23 #[i] w λ e w'=>e=.returned (fv 3 n)/\Gr w w':=by
 subst hi;go_enter func23,ntmps23
 go_wp2
 exact U11 (v:=fv 3 n) (by simp[results,results23,go_sem]) rfl ⟨rfl,(Gr.refl _).alloc _⟩
theorem Oav(i:Int)(n:Nat)(hi:i=n)(w:World):Calls prog 90 #[i] w λ e w'=>e=.returned (fv 3 n)/\Gr w w':=by
 subst hi;go_enter func90,ntmps90
 go_wp2
 exact U11 (v:=fv 3 n) (by simp[results,results90,go_sem]) rfl ⟨rfl,(Gr.refl _).alloc _⟩
theorem O1d(i:Int)(n:Nat)(hi:i=n)(w:World):Calls prog 63 #[i] w λ e w'=>e=.returned (fv 3 n)/\Gr w w':=by
 subst hi;go_enter func63,ntmps63
 go_wp2
 exact U11 (v:=fv 3 n) (by simp[results,results63,go_sem]) rfl ⟨rfl,(Gr.refl _).alloc _⟩
theorem Ocz(w:World):Calls prog 25 #[f0] w λ e w'=>e=.returned (.bool true)/\Gr w w':=by
 go_enter func25,ntmps25;exact J158
theorem O1k(c p:Nat)(hc:¬(c:Int)=0)(w:World):Calls prog 25 #[fv c p] w λ e w'=>e=.returned (.bool false)/\Gr w w':=by
 go_enter func25,ntmps25;exact J158
theorem O22(w:World):Calls prog 92 #[f0] w λ e w'=>e=.returned (.bool true)/\Gr w w':=by
 go_enter func92,ntmps92;exact J158
theorem O7l(c p:Nat)(hc:¬(c:Int)=0)(w:World):Calls prog 92 #[fv c p] w λ e w'=>e=.returned (.bool false)/\Gr w w':=by
 go_enter func92,ntmps92;exact J158
theorem Oaw(c:UInt8)(w:World):Calls prog 51 #[.int .u8 c.toNat] w λ e w'=>e=.returned (.bool (V3u c))/\w=w':=by
 go_enter func51,ntmps51;exact J2
theorem Oem(x:Nat)(hx:x<=1114111)(w:World):Calls prog 145 #[.int .i32 x] w λ e w'=>e=.returned (.bool (V5h x))/\w=w':=by
 go_enter func145,ntmps145;exact J2
theorem O5c(l p:List UInt8):Lib.hasPrefix l p=Pl.pre l p:=by
 unfold Lib.hasPrefix
 induction p generalizing l with
 |nil=>cases l <;> simp[Pl.pre]
 |cons b p ih =>
  cases l with
  |nil=>simp[Pl.pre]
  |cons a l =>
   show (b==a&&p.isPrefixOf l)=(a==b&&Pl.pre l p)
   rw[ih,Bool.beq_comm]
theorem O7(s p:ByteArray)(m:Nat)(b:Bool)(h:Pl.pre ((bs s).drop m) (bs p)=b)(w:World):Calls prog 56 #[.string (s.extract m s.size),.string p] w λ e w'=>e=.returned (.bool b)/\w=w':=by
 refine (strings_HasPrefix _ _ w).mono ?_;refine Z48 ?_;exact⟨by rw[show (s.extract m s.size).data.toList=(bs s).drop m from O4 s m,O5c];exact O3l h,rfl⟩
theorem O48:(prog.info? 142).map (λ i=>(i.zero,i.size))=some (some (.agg (Array.replicate 256 (.bool false))),256):=Yc
theorem O7m(s:ByteArray)(w:World):Calls prog 41 #[.string s,.string ⟨#[32,9]⟩] w λ e w'=>e=.returned (.string ⟨((bs s).dropWhile V2r).toArray⟩)/\Gr w w':=by
 refine (Any.strings_TrimLeft_laid lays161 O48 s ⟨#[32,9]⟩ w Yd ?_).mono ?_
 intro j b h
 match j,h with
 |0,h=>simp at h;subst h;decide
 |1,h=>simp at h;subst h;decide
 rintro e w' ⟨rfl,hb⟩;refine⟨?_,hb⟩;have:(λ c:UInt8=>([32,9]:List UInt8).contains c)=V2r:=by
  funext c
  rw[U3d];simp[V2r,<-U2d]
 unfold Lib.trimLeftS;rw[show (⟨#[32,9]⟩:ByteArray).data.toList=[32,9] from rfl,this]
theorem O9(s:ByteArray)(i:Int)(n:Nat)(hi:i=n)(hn:n<=s.size)(hs:s.size<=2147483647)(w:World):Calls prog 20 #[.string s,i] w λ e w'=>e=.returned (.int .i64 (V7 (bs s) n))/\Gr w w':=by
 subst hi;go_enter func20,ntmps20;go_wp2_with (go_at_call 41;refine (O7m _ _).mono ?_;rintro e w' ⟨rfl,hb⟩)
 go_ret
 refine⟨O2q ?_,hb⟩;have h1:=V4b V2r ((bs s).drop n);have h2:=O0 s;rw[U16]at h1;rw[O4,IntWalk.wrap64_in _ ⟨Ya,Ya⟩];unfold V7 Pl.blanks;omega
theorem O7n(s:ByteArray)(ar:Nat)(h:ar<s.size)(ha:128<=(s[ar]'h).toNat):ar+(Utf8.decode s ar).2<=s.size/\∀j,j<(Utf8.decode s ar).2->∀hj:ar+j<s.size,128<=(s[ar+j]'hj).toNat:=by
 have hg:∀k (hk:ar+k<s.size),(s[ar+k]'hk).toNat=(s.get! (ar+k)).toNat:=by
  intro k hk;show _=(s.data[ar+k]!).toNat;rw[getElem!_pos s.data (ar+k) hk];rfl
 have h0:128<=(s.get! (ar+0)).toNat:=by rw[<-hg 0 h];exact ha
 have hn:¬(s.get! (ar+0)).toNat<128:=Ya
 simp only[Utf8.decode,hn,U2f]
 repeat' split
 all_goals (
  simp only[U1h,U1x,U2z]at *;refine⟨Ya,λ j hj yq=>?_⟩;rw[hg j yq])
 all_goals (
  match j,hj with
  |0,_=>exact h0
  |1,hj=>omega
  |2,hj=>omega
  |3,hj=>omega
  |j+4,hj=>omega)
theorem O8n(p:UInt8->Bool)(l:List UInt8)(n:Nat)(h:n<l.length)(hp:p (l[n]'h)=true):n+((l.drop n).takeWhile p).length=n+1+((l.drop (n+1)).takeWhile p).length:=by
 rw[U1u h,U1p,U1a hp];simp;omega
theorem Olm(p:UInt8->Bool)(l:List UInt8):∀k n,n+k<=l.length->(∀j,j<k->∀h:n+j<l.length,p (l[n+j]'h)=true) ->n+((l.drop n).takeWhile p).length=n+k+((l.drop (n+k)).takeWhile p).length:=by
 intro k
 induction k with
 |zero=>intro n _ _;simp
 |succ k ih =>
  intro n h1 h2;rw[O8n p l n Ya (by simpa using h2 0 Ya Ya),ih (n+1) Ya (λ j hj h=>by
   have:=h2 (j+1) Ya Ya
   simpa [U28,Nat.add_comm 1 j]using this),show n+1+k=n+(k+1) from by omega]
theorem O7o(s:ByteArray)(ar:Nat)(h:ar<s.size)(ha:(s[ar]'h).toNat<128):Utf8.decode s ar=((s[ar]'h).toNat,1):=by
 have hg:(s.get! (ar+0)).toNat=(s[ar]'h).toNat:=by
  show (s.data[ar]!).toNat=_;rw[getElem!_pos s.data ar h];rfl
 unfold Utf8.decode;simp only[hg];rw[U1a ha]
theorem Oln(s:ByteArray):∀f ar,ar<=s.size->s.size-ar<=f ->Lib.idxFuncFrom V5h true s f ar=if ar+(((bs s).drop ar).takeWhile λ c => !V2l c).length<s.size then ((ar+(((bs s).drop ar).takeWhile λ c => !V2l c).length:Nat):Int) else -1:=by
 intro f
 induction f with
 |zero =>
  exact J3
 |succ f ih =>
  intro ar h1 h2;rw[Lib.idxFuncFrom];by_cases hp:ar<s.size
  rw[U1a hp];have hl:ar<(bs s).length:=by rw[O0];exact hp
  have cJ:(bs s)[ar]'hl=s[ar]'hp:=rfl;by_cases aB:(s[ar]'hp).toNat<128
  rw[O7o s ar hp aB];by_cases hc:V5h (s[ar]'hp).toNat=true
  rw[U1a hc];have:(((bs s).drop ar).takeWhile λ c => !V2l c)=[]:=by
   rw[U1u hl,U1p,U1c];rw[cJ];simp[V2l,hc]
  rw[this,U1a (by simpa using hp)];simp
  rw[U1c hc,ih (ar+1) Ya Ya,O8n (λ c => !V2l c) (bs s) ar hl (by rw[cJ];simp[V2l,hc])]
  have hd:=decode_high s ar hp Ya;have ha:=O7n s ar hp Ya;rw[U1c (by simp[V5h];omega),ih _ ha.1 Ya,Olm (λ c => !V2l c) (bs s) _ ar (by rw[O0];exact ha.1) (λ j hj h=>by
   have:=ha.2 j hj (by rw[<-O0];exact h);have e:(bs s)[ar+j]'h=s[ar+j]'(by rw[<-O0];exact h):=rfl;rw[e];simp[V2l,V5h];omega)]
  rw[U1c hp,U1c Ya]
theorem Ocb(w:World):PredAtRunes prog 145 #[] V5h w:=by
 intro W x hx _;unfold FnGives;refine (Oem x hx W).mono ?_;refine Z48 ?_;exact⟨rfl,0,rfl⟩
theorem O6w(s:ByteArray)(w:World):Calls prog 49 #[.string s,.func (.func 145) #[] #[]] w λ e w'=>e=.returned (.int .i64 (if ((bs s).takeWhile λ c => !V2l c).length<s.size then (((bs s).takeWhile λ c => !V2l c).length:Int) else -1))/\Gr w w':=by
 refine (strings_IndexFunc_runes 145 #[] (enters_of func145 Yc rfl) V5h s w (Ocb w)).mono ?_;rintro e w' ⟨rfl,hb⟩;refine⟨O2q ?_,hb⟩;unfold Lib.idxFunc;rw[Oln s s.size 0 Ya Ya];simp
theorem O91(s:ByteArray)(n:Nat)(h:¬n+(((bs s).drop n).takeWhile λ c => !V2l c).length<s.size)(w:World):Calls prog 49 #[.string (s.extract n s.size),.func (.func 145) #[] #[]] w λ e w'=>e=.returned (.int .i64 (-1))/\Gr w w':=by
 refine (O6w (s.extract n s.size) w).mono ?_;rintro e w' ⟨rfl,hb⟩;refine⟨O2q ?_,hb⟩;rw[O4,U1c (by rw[O9e];omega)]
theorem O89(s:ByteArray)(n k:Nat)(hk:(((bs s).drop n).takeWhile λ c => !V2l c).length=k)(h:n+k<s.size)(w:World):Calls prog 49 #[.string (s.extract n s.size),.func (.func 145) #[] #[]] w λ e w'=>e=.returned k/\Gr w w':=by
 refine (O6w (s.extract n s.size) w).mono ?_;rintro e w' ⟨rfl,hb⟩;refine⟨O2q ?_,hb⟩;rw[O4,U1a (by rw[O9e];omega),hk]
theorem O92(s:ByteArray)(i:Int)(hi:i<0\/s.size<=i)(hs:s.size<=2147483647)(w:World):Calls prog 101 #[.string s,i] w λ e w'=>e=.returned (.tuple #[i,f0])/\Gr w w':=by
 go_enter func101,ntmps101;rcases hi with hi|hi
 exact J165
 have:¬i<0:=Ya
 exact J165
theorem O6x(l:List UInt8)(n:Nat)(h:∀hn:n<l.length,(l[n]'hn).toNat≠35):Vx l n=n:=by
 unfold Vx Pl.comment
 split
 rename_i r h1
 exfalso;have hn:n<l.length:=by
  have:=U2w List.length h1;simp at this;omega
 rw[U1u hn]at h1;simp only[U27]at h1;exact h hn (by rw[h1.1];rfl)
 rfl
theorem Odk(l:List UInt8)(n:Nat)(hn:n<l.length)(h:(l[n]'hn).toNat=35):Vx l n=n+((l.drop n).takeWhile λ c => !V2l c).length:=by
 unfold Vx;rw[U1u hn];have e:l[n]'hn=35:=by rw[<-U2d,h];rfl
 rw[e,U1p,U1a Yd];simp[Pl.comment];omega
theorem O1z(s:ByteArray)(i:Int)(n:Nat)(hi:i=n)(hn:n<=s.size)(hs:s.size<=2147483647)(w:World):Calls prog 101 #[.string s,i] w λ e w'=>e=.returned (.tuple #[.int .i64 (Vx (bs s) n),f0])/\Gr w w':=by
 subst hi;by_cases a9:n<s.size
 ·by_cases hc:(s[n]'a9).toNat=35
  ·have eP:=Odk (bs s) n (by rw[O0];exact a9) hc;obtain⟨k,hk⟩:=ExZ ((((bs s).drop n).takeWhile λ c => !V2l c).length)
   rw[hk]at eP;have aP:=Vj (λ c => !V2l c) ((bs s).drop n);rw[hk,U16,O0]at aP;have H:=U10 eP;clear eP;have HK:=U10 hk;clear hk;by_cases de:n+k<s.size
   ·go_enter func101,ntmps101;go_wp2_with (go_at_call 49;refine (O89 s n k HK.o de _).mono ?_;rintro e w1 ⟨rfl,g1⟩;obtain⟨ag,au,az⟩:=g1.use;simp only[U1s]at az)
    go_region
    all_goals go_wp2_with fail
    exact U11 (v:=.tuple #[.int .i64 (n+k:Int),f0]) (by simp[results,results101,go_sem,ag]) rfl ⟨by rw[H.o];simp,Gr.auto⟩
   have dc:n+k=s.size:=Ya;have HS:=U10 dc;clear dc aP;go_enter func101,ntmps101;go_wp2_with (go_at_call 49;refine (O91 s n (by rw[HK.o];exact de) _).mono ?_;rintro e w1 ⟨rfl,g1⟩;obtain⟨ag,au,az⟩:=g1.use;simp only[U1s]at az)
   go_region
   all_goals go_wp2_with fail
   exact U11 (v:=.tuple #[s.size,f0]) (by simp[results,results101,go_sem,ag]) rfl ⟨by rw[H.o,HS.o],Gr.auto⟩
  have eP:Vx (bs s) n=n:=O6x (bs s) n (λ _=>hc);have H:=U10 eP;clear eP;have lp:(((s[n]'a9).toNat:Int) != 35)=true:=Ye;clear hc;go_enter func101,ntmps101;go_wp2_with fail
  go_region
  all_goals go_wp2_with fail
  exact U11 (v:=.tuple #[n,f0]) (by simp[results,results101,go_sem]) rfl ⟨by rw[H.o],Gr.auto⟩
 have e:Vx (bs s) n=n:=O6x _ _ (λ h=>absurd h (by rw[O0];exact a9));rw[e];exact O92 s n (.inr Ya) hs w
theorem O7c(s:ByteArray)(m k:Nat)(p:List UInt8)(h:Pl.pre ((bs s).drop m) p=true)(hk:p.length=k)(hm:m<=s.size):m+k<=s.size:=by
 have:=V1i _ _ h;rw[U16,O0]at this;omega
theorem Oob(s:ByteArray)(i:Int)(n0:Nat)(hi:i=n0)(iY:n0<=s.size)(hs:s.size<=2147483647)(w:World) :
    Calls prog 75 #[.string s,i] w λ e w'=>(match Vt (bs s) n0 with
     |.ok m=>e=.returned (.tuple #[m,f0])/\m<=s.size
     |.bad c p=>e=.returned (.tuple #[(0:Int),fv c p]))/\Gr w w':=by
 subst hi;obtain⟨R,hR⟩:∃R:Ending->World->Prop,R=λ e w'=>(match Vt (bs s) n0 with
     |.ok m=>e=.returned (.tuple #[m,f0])/\m<=s.size
     |.bad c p=>e=.returned (.tuple #[(0:Int),fv c p]))/\Gr w w':=⟨_,rfl⟩
 rw[<-hR];have HR:=U10 hR;clear hR;have C7:decide ((n0:Int)<0)=false:=Yb
 have mu:decide (s.size<n0)=false:=Ye
 go_enter func75,ntmps75;go_wp2_with fail
 go_loopw [1,4] (λ a e wr=>∃n:Nat,a=.int .i64 n/\n<=s.size/\Vt (bs s) n=Vt (bs s) n0/\Gr (w.alloc (.cells #[(0:Int),(0:Int)] 29)) wr) (λ a _ _=>s.size-(intOf a).toNat)
 case atStart=>exact⟨n0,rfl,iY,rfl,Gr.refl _⟩
 case round =>
  obtain⟨n,rfl,hn,he,g⟩:=hrel;have bv:=V8 (bs s) n (by rw[O0];exact hn);rw[O0]at bv;have cA:=V3i (bs s) (V7 (bs s) n) (by rw[O0];exact bv.2);rw[O0]at cA;obtain⟨G1,G2,G3,G4,G5⟩:=V7z (bs s) n (by rw[O0];exact hn);have HE:=U10 he;clear he;obtain⟨hc,hf,hz⟩:=g.use;simp only[U1s]at hz;obtain⟨m,hm⟩:=ExZ (Vx (bs s) (V7 (bs s) n))
  rw[hm]at cA G1 G2 G3 G4 G5;have HM:=U10 hm;clear hm;cases h1:Pl.pre ((bs s).drop m) [13,10]
  ·have H1:=U10 h1;cases h2:Pl.pre ((bs s).drop m) [10]
   ·have H2:=U10 h2;cases h3:Pl.pre ((bs s).drop m) [13]
    ·have H3:=U10 h3;by_cases vS:m=n
     ·have HG:=U10 (G4 h1 h2 h3 vS);clear G1 G2 G3 G4 G5 h1 h2 h3;have I2:((m:Int)==n)=true:=by simp[vS]
      have HN:=U10 vS;clear vS;go_wp2_with (first|(go_at_call 20;refine (O9 s _ n rfl hn hs _).mono ?_;rintro e w1 ⟨rfl,g1⟩;have iy:=g.trans g1;obtain⟨ag,au,az⟩:=iy.use;simp only[U1s]at az)|(go_at_call 101;refine (O1z s _ _ rfl bv.2 hs _).mono ?_;rw[HM.o];rintro e w2 ⟨rfl,g2⟩;have qn:=iy.trans g2;obtain⟨aF,d5,aM⟩:=qn.use;simp only[U1s]at aM)|(go_at_call 56;first|(with_reducible refine (O7 s ⟨#[13,10]⟩ m false H1.o _).mono ?_;rintro e w3 ⟨rfl,rfl⟩)|(with_reducible refine (O7 s ⟨#[10]⟩ m false H2.o _).mono ?_;rintro e w3 ⟨rfl,rfl⟩)|(with_reducible refine (O7 s ⟨#[13]⟩ m false H3.o _).mono ?_;rintro e w3 ⟨rfl,rfl⟩)))
      go_region
      all_goals go_wp2_with fail
      exact U11 (v:=.tuple #[m,f0]) (by simp[results,results75,go_sem,aF]) rfl (by
       rw[HR.o];refine⟨?_,Gr.auto⟩;rw[<-HE.o,HG.o];exact⟨by rw[HN.o],hn⟩)
     have HG:=U10 (G5 h1 h2 h3 vS);clear G1 G2 G3 G4 G5 h1 h2 h3;have I2:((m:Int)==n)=false:=Ye
     go_wp2_with (first|(go_at_call 20;refine (O9 s _ n rfl hn hs _).mono ?_;rintro e w1 ⟨rfl,g1⟩;have iy:=g.trans g1;obtain⟨ag,au,az⟩:=iy.use;simp only[U1s]at az)|(go_at_call 101;refine (O1z s _ _ rfl bv.2 hs _).mono ?_;rw[HM.o];rintro e w2 ⟨rfl,g2⟩;have qn:=iy.trans g2;obtain⟨aF,d5,aM⟩:=qn.use;simp only[U1s]at aM)|(go_at_call 56;first|(with_reducible refine (O7 s ⟨#[13,10]⟩ m false H1.o _).mono ?_;rintro e w3 ⟨rfl,rfl⟩)|(with_reducible refine (O7 s ⟨#[10]⟩ m false H2.o _).mono ?_;rintro e w3 ⟨rfl,rfl⟩)|(with_reducible refine (O7 s ⟨#[13]⟩ m false H3.o _).mono ?_;rintro e w3 ⟨rfl,rfl⟩)))
     go_roundw
     case rel=>exact⟨m,rfl,Ya,by rw[<-HG.o,HE.o],Gr.auto⟩
     case measure=>simp[intOf];omega
    have H3:=U10 h3;have dc:=O7c s m 1 _ h3 rfl Ya;have HG:=U10 (G3 h1 h2 h3);clear G1 G2 G3 G4 G5 h1 h2 h3;go_wp2_with (first|(go_at_call 20;refine (O9 s _ n rfl hn hs _).mono ?_;rintro e w1 ⟨rfl,g1⟩;have iy:=g.trans g1;obtain⟨ag,au,az⟩:=iy.use;simp only[U1s]at az)|(go_at_call 101;refine (O1z s _ _ rfl bv.2 hs _).mono ?_;rw[HM.o];rintro e w2 ⟨rfl,g2⟩;have qn:=iy.trans g2;obtain⟨aF,d5,aM⟩:=qn.use;simp only[U1s]at aM)|(go_at_call 56;first|(with_reducible refine (O7 s ⟨#[13,10]⟩ m false H1.o _).mono ?_;rintro e w3 ⟨rfl,rfl⟩)|(with_reducible refine (O7 s ⟨#[10]⟩ m false H2.o _).mono ?_;rintro e w3 ⟨rfl,rfl⟩)|(with_reducible refine (O7 s ⟨#[13]⟩ m true H3.o _).mono ?_;rintro e w3 ⟨rfl,rfl⟩))|(go_at_call 23;refine (O3m _ (m+1) Ya _).mono ?_;rintro e w4 ⟨rfl,g4⟩;have C8:=qn.trans g4;obtain⟨nQ,lH,nR⟩:=C8.use;simp only[U1s]at nR));exact U11 (v:=.tuple #[(0:Int),fv 3 (m+1)]) (by simp[results,results75,go_sem,nQ]) rfl (by
     rw[HR.o];refine⟨?_,Gr.auto⟩;rw[<-HE.o,HG.o])
   have H2:=U10 h2;have dc:=O7c s m 1 _ h2 rfl Ya;have HG:=U10 (G2 h1 h2);clear G1 G2 G3 G4 G5 h1 h2;go_wp2_with (first|(go_at_call 20;refine (O9 s _ n rfl hn hs _).mono ?_;rintro e w1 ⟨rfl,g1⟩;have iy:=g.trans g1;obtain⟨ag,au,az⟩:=iy.use;simp only[U1s]at az)|(go_at_call 101;refine (O1z s _ _ rfl bv.2 hs _).mono ?_;rw[HM.o];rintro e w2 ⟨rfl,g2⟩;have qn:=iy.trans g2;obtain⟨aF,d5,aM⟩:=qn.use;simp only[U1s]at aM)|(go_at_call 56;first|(with_reducible refine (O7 s ⟨#[13,10]⟩ m false H1.o _).mono ?_;rintro e w3 ⟨rfl,rfl⟩)|(with_reducible refine (O7 s ⟨#[10]⟩ m true H2.o _).mono ?_;rintro e w3 ⟨rfl,rfl⟩))|(go_at_call 23;refine (O3m _ (m+1) Ya _).mono ?_;rintro e w4 ⟨rfl,g4⟩;have C8:=qn.trans g4;obtain⟨nQ,lH,nR⟩:=C8.use;simp only[U1s]at nR))
   go_roundw
   case rel=>exact⟨m+1,by go_num,Ya,by rw[<-HG.o,HE.o],Gr.auto⟩
   case measure=>simp[intOf];omega
  have H1:=U10 h1;have dc:=O7c s m 2 _ h1 rfl Ya;have HG:=U10 (G1 h1);clear G1 G2 G3 G4 G5 h1;go_wp2_with (first|(go_at_call 20;refine (O9 s _ n rfl hn hs _).mono ?_;rintro e w1 ⟨rfl,g1⟩;have iy:=g.trans g1;obtain⟨ag,au,az⟩:=iy.use;simp only[U1s]at az)|(go_at_call 101;refine (O1z s _ _ rfl bv.2 hs _).mono ?_;rw[HM.o];rintro e w2 ⟨rfl,g2⟩;have qn:=iy.trans g2;obtain⟨aF,d5,aM⟩:=qn.use;simp only[U1s]at aM)|(go_at_call 56;first|(with_reducible refine (O7 s ⟨#[13,10]⟩ m true H1.o _).mono ?_;rintro e w3 ⟨rfl,rfl⟩)))
  go_roundw
  case rel=>exact⟨m+2,by go_num,Ya,by rw[<-HG.o,HE.o],Gr.auto⟩
  case measure=>simp[intOf];omega
