/- The proof's part 07. -/
import Derived.Test.YtnkgknbdaiakgaaGreatDoorP02
import Derived.Test.YtnkgknbdaiakgaaGreatDoorP03
set_option maxHeartbeats 16000000
set_option linter.all false
namespace Go.Proofs.YtnkgknbdaiakgaaGreatDoor
open Pl Go.Proofs.Tryz Go.RowKit
theorem O3h(i:Int)(n:Nat)(hi:i=n)(w:World) :
    Calls prog 23 #[i] w λ e w'=>e = .returned (fv 3 n)/\Gr w w':=by
 subst hi;go_enter func23,ntmps23
 go_wp2
 exact U1 (v:=fv 3 n) (by simp[results,results23,go_sem]) rfl ⟨rfl,(Gr.refl _).alloc _⟩
theorem Ob7(i:Int)(n:Nat)(hi:i=n)(w:World) :
    Calls prog 90 #[i] w λ e w'=>e = .returned (fv 3 n)/\Gr w w':=by
 subst hi;go_enter func90,ntmps90
 go_wp2
 exact U1 (v:=fv 3 n) (by simp[results,results90,go_sem]) rfl ⟨rfl,(Gr.refl _).alloc _⟩
theorem O1d(i:Int)(n:Nat)(hi:i=n)(w:World) :
    Calls prog 63 #[i] w λ e w'=>e = .returned (fv 3 n)/\Gr w w':=by
 subst hi;go_enter func63,ntmps63
 go_wp2
 exact U1 (v:=fv 3 n) (by simp[results,results63,go_sem]) rfl ⟨rfl,(Gr.refl _).alloc _⟩
theorem Od9(w:World) :
    Calls prog 25 #[f0] w λ e w'=>e = .returned (.bool true)/\Gr w w':=by
 go_enter func25,ntmps25;exact J154
theorem O1k(c p:Nat)(hc:¬(c:Int)=0)(w:World) :
    Calls prog 25 #[fv c p] w λ e w'=>e = .returned (.bool false)/\Gr w w':=by
 go_enter func25,ntmps25;exact J154
theorem O23(w:World) :
    Calls prog 92 #[f0] w λ e w'=>e = .returned (.bool true)/\Gr w w':=by
 go_enter func92,ntmps92;exact J154
theorem O7p(c p:Nat)(hc:¬(c:Int)=0)(w:World) :
    Calls prog 92 #[fv c p] w λ e w'=>e = .returned (.bool false)/\Gr w w':=by
 go_enter func92,ntmps92;exact J154
theorem Ob8(c:UInt8)(w:World) :
    Calls prog 51 #[.int .u8 c.toNat] w λ e w'=>e = .returned (.bool (V3v c))/\w=w':=by
 go_enter func51,ntmps51;exact J14
theorem Oez(x:Nat)(hx:x<=1114111)(w:World) :
    Calls prog 145 #[.int .i32 x] w λ e w'=>e = .returned (.bool (V5n x))/\w=w':=by
 go_enter func145,ntmps145;exact J14
theorem O5i(l p:List UInt8):Lib.hasPrefix l p=Pl.pre l p:=by
 unfold Lib.hasPrefix
 induction p generalizing l with
 |nil=>cases l <;> simp[Pl.pre]
 |cons b p ih =>
  cases l with
  |nil=>simp[Pl.pre]
  |cons a l =>
   show (b==a&&p.isPrefixOf l)=(a==b&&Pl.pre l p)
   rw[ih,Bool.beq_comm]
theorem O6(s p:ByteArray)(m:Nat)(b:Bool)(h:Pl.pre ((bs s).drop m) (bs p)=b)(w:World) :
    Calls prog 56 #[.string (s.extract m s.size),.string p] w λ e w'=>e = .returned (.bool b)/\w=w':=by
 refine (strings_HasPrefix _ _ w).mono ?_;refine Z48 ?_;exact⟨by rw[show (s.extract m s.size).data.toList=(bs s).drop m from O3 s m,O5i];exact O3g h,rfl⟩
theorem O4a:(prog.info? 142).map (λ i=>(i.zero,i.size))=some (some (.agg (Array.replicate 256 (.bool false))),256):=by kernel_rfl
theorem O7u(s:ByteArray)(w:World) :
    Calls prog 41 #[.string s,.string ⟨#[32,9]⟩] w λ e w'=>e = .returned (.string ⟨((bs s).dropWhile V2o).toArray⟩)/\Gr w w':=by
 refine (Any.strings_TrimLeft_laid lays161 O4a s ⟨#[32,9]⟩ w (by decide) ?_).mono ?_
 intro j b h
 match j,h with
 |0,h=>simp at h;subst h;decide
 |1,h=>simp at h;subst h;decide
 rintro e w' ⟨rfl,hb⟩;refine⟨?_,hb⟩;have:(λ c:UInt8=>([32,9]:List UInt8).contains c)=V2o:=by
  funext c
  rw[U2f];simp[V2o,<-U1b]
 unfold Lib.trimLeftS;rw[show (⟨#[32,9]⟩:ByteArray).data.toList=[32,9] from rfl,this]
theorem O9(s:ByteArray)(i:Int)(n:Nat)(hi:i=n)(hn:n<=s.size)(hs:s.size<=2147483647)(w:World) :
    Calls prog 20 #[.string s,i] w λ e w'=>e = .returned (.int .i64 (V7 (bs s) n))/\Gr w w':=by
 subst hi;go_enter func20,ntmps20;go_wp2_with (go_at_call 41;refine (O7u _ _).mono ?_;rintro e w' ⟨rfl,hb⟩)
 go_ret
 refine⟨O2n ?_,hb⟩;have h1:=V4e V2o ((bs s).drop n);have h2:=O0 s;rw[U3]at h1;rw[O3,IntWalk.wrap64_in _ ⟨by omega,by omega⟩];unfold V7 Pl.blanks;omega
theorem O7v(s:ByteArray)(aq:Nat)(h:aq<s.size)(ha:128<=(s[aq]'h).toNat) :
    aq+(Utf8.decode s aq).2<=s.size/\∀j,j<(Utf8.decode s aq).2->∀hj:aq+j<s.size,128<=(s[aq+j]'hj).toNat:=by
 have hg:∀k (hk:aq+k<s.size),(s[aq+k]'hk).toNat=(s.get! (aq+k)).toNat:=by
  intro k hk;show _=(s.data[aq+k]!).toNat;rw[getElem!_pos s.data (aq+k) hk];rfl
 have h0:128<=(s.get! (aq+0)).toNat:=by rw[<-hg 0 h];exact ha
 have hn:¬(s.get! (aq+0)).toNat<128:=by omega
 simp only[Utf8.decode,hn,U1d]
 repeat' split
 all_goals (
  simp only[Uf,Ux,U1v]at *;refine⟨by omega,λ j hj G0=>?_⟩;rw[hg j G0])
 all_goals (
  match j,hj with
  |0,_=>exact h0
  |1,hj=>omega
  |2,hj=>omega
  |3,hj=>omega
  |j+4,hj=>omega)
theorem O90(p:UInt8->Bool)(l:List UInt8)(n:Nat)(h:n<l.length)(hp:p (l[n]'h)=true) :
    n+((l.drop n).takeWhile p).length=n+1+((l.drop (n+1)).takeWhile p).length:=by
 rw[Uw h,Uo,Ua hp];simp;omega
theorem Ols(p:UInt8->Bool)(l:List UInt8):∀k n,n+k<=l.length->(∀j,j<k->∀h:n+j<l.length,p (l[n+j]'h)=true) ->
    n+((l.drop n).takeWhile p).length=n+k+((l.drop (n+k)).takeWhile p).length:=by
 intro k
 induction k with
 |zero=>intro n _ _;simp
 |succ k ih =>
  intro n h1 h2;rw[O90 p l n (by omega) (by simpa using h2 0 (by omega) (by omega)),ih (n+1) (by omega) (λ j hj h=>by
   have:=h2 (j+1) (by omega) (by omega)
   simpa [U12,Nat.add_comm 1 j]using this),show n+1+k=n+(k+1) from by omega]
theorem O7w(s:ByteArray)(aq:Nat)(h:aq<s.size)(ha:(s[aq]'h).toNat<128):Utf8.decode s aq=((s[aq]'h).toNat,1):=by
 have hg:(s.get! (aq+0)).toNat=(s[aq]'h).toNat:=by
  show (s.data[aq]!).toNat=_;rw[getElem!_pos s.data aq h];rfl
 unfold Utf8.decode;simp only[hg];rw[Ua ha]
theorem Olt(s:ByteArray):∀f aq,aq<=s.size->s.size-aq<=f ->
    Lib.idxFuncFrom V5n true s f aq=if aq+(((bs s).drop aq).takeWhile λ c => !V2f c).length<s.size then ((aq+(((bs s).drop aq).takeWhile λ c => !V2f c).length:Nat):Int) else -1:=by
 intro f
 induction f with
 |zero =>
  exact J28
 |succ f ih =>
  intro aq h1 h2;rw[Lib.idxFuncFrom];by_cases hp:aq<s.size
  rw[Ua hp];have hl:aq<(bs s).length:=by rw[O0];exact hp
  have cI:(bs s)[aq]'hl=s[aq]'hp:=rfl;by_cases aB:(s[aq]'hp).toNat<128
  rw[O7w s aq hp aB];by_cases hc:V5n (s[aq]'hp).toNat=true
  rw[Ua hc];have:(((bs s).drop aq).takeWhile λ c => !V2f c)=[]:=by
   rw[Uw hl,Uo,Ud];rw[cI];simp[V2f,hc]
  rw[this,Ua (by simpa using hp)];simp
  rw[Ud hc,ih (aq+1) (by omega) (by omega),O90 (λ c => !V2f c) (bs s) aq hl (by rw[cI];simp[V2f,hc])]
  have hd:=decode_high s aq hp (by omega);have ha:=O7v s aq hp (by omega);rw[Ud (by simp[V5n];omega),ih _ ha.1 (by omega),Ols (λ c => !V2f c) (bs s) _ aq (by rw[O0];exact ha.1) (λ j hj h=>by
   have:=ha.2 j hj (by rw[<-O0];exact h);have e:(bs s)[aq+j]'h=s[aq+j]'(by rw[<-O0];exact h):=rfl;rw[e];simp[V2f,V5n];omega)]
  rw[Ud hp,Ud (by omega)]
theorem Obo(w:World):PredAtRunes prog 145 #[] V5n w:=by
 intro W x hx _;unfold FnGives;refine (Oez x hx W).mono ?_;refine Z48 ?_;exact⟨rfl,0,rfl⟩
theorem O6z(s:ByteArray)(w:World) :
    Calls prog 49 #[.string s,.func (.func 145) #[] #[]] w λ e w'=>e = .returned (.int .i64 (if ((bs s).takeWhile λ c => !V2f c).length<s.size then (((bs s).takeWhile λ c => !V2f c).length:Int) else -1))/\Gr w w':=by
 refine (strings_IndexFunc_runes 145 #[] (enters_of func145 (by kernel_rfl) rfl) V5n s w (Obo w)).mono ?_;rintro e w' ⟨rfl,hb⟩;refine⟨O2n ?_,hb⟩;unfold Lib.idxFunc;rw[Olt s s.size 0 (by omega) (by omega)];simp
theorem O94(s:ByteArray)(n:Nat)(h:¬n+(((bs s).drop n).takeWhile λ c => !V2f c).length<s.size)(w:World) :
    Calls prog 49 #[.string (s.extract n s.size),.func (.func 145) #[] #[]] w λ e w'=>e = .returned (.int .i64 (-1))/\Gr w w':=by
 refine (O6z (s.extract n s.size) w).mono ?_;rintro e w' ⟨rfl,hb⟩;refine⟨O2n ?_,hb⟩;rw[O3,Ud (by rw[O9l];omega)]
theorem O83(s:ByteArray)(n k:Nat)(hk:(((bs s).drop n).takeWhile λ c => !V2f c).length=k)(h:n+k<s.size)(w:World) :
    Calls prog 49 #[.string (s.extract n s.size),.func (.func 145) #[] #[]] w λ e w'=>e = .returned k/\Gr w w':=by
 refine (O6z (s.extract n s.size) w).mono ?_;rintro e w' ⟨rfl,hb⟩;refine⟨O2n ?_,hb⟩;rw[O3,Ua (by rw[O9l];omega),hk]
theorem O95(s:ByteArray)(i:Int)(hi:i<0\/s.size<=i)(hs:s.size<=2147483647)(w:World) :
    Calls prog 101 #[.string s,i] w λ e w'=>e = .returned (.tuple #[i,f0])/\Gr w w':=by
 go_enter func101,ntmps101;rcases hi with hi|hi
 exact J164
 have:¬i<0:=by omega
 exact J164
theorem O70(l:List UInt8)(n:Nat)(h:∀hn:n<l.length,(l[n]'hn).toNat≠35):Vr l n=n:=by
 unfold Vr Pl.comment
 split
 rename_i r h1
 exfalso;have hn:n<l.length:=by
  have:=U1q List.length h1;simp at this;omega
 rw[Uw hn]at h1;simp only[U1a]at h1;exact h hn (by rw[h1.1];rfl)
 rfl
theorem Odg(l:List UInt8)(n:Nat)(hn:n<l.length)(h:(l[n]'hn).toNat=35):Vr l n=n+((l.drop n).takeWhile λ c => !V2f c).length:=by
 unfold Vr;rw[Uw hn];have e:l[n]'hn=35:=by rw[<-U1b,h];rfl
 rw[e,Uo,Ua (by decide)];simp[Pl.comment];omega
theorem O1x(s:ByteArray)(i:Int)(n:Nat)(hi:i=n)(hn:n<=s.size)(hs:s.size<=2147483647)(w:World) :
    Calls prog 101 #[.string s,i] w λ e w'=>e = .returned (.tuple #[.int .i64 (Vr (bs s) n),f0])/\Gr w w':=by
 subst hi;by_cases aa:n<s.size
 ·by_cases hc:(s[n]'aa).toNat=35
  ·have eL:=Odg (bs s) n (by rw[O0];exact aa) hc;obtain⟨k,hk⟩:=ExZ ((((bs s).drop n).takeWhile λ c => !V2f c).length)
   rw[hk]at eL;have aK:=Vg (λ c => !V2f c) ((bs s).drop n);rw[hk,U3,O0]at aK;have H:=U0 eL;clear eL;have HK:=U0 hk;clear hk;by_cases bY:n+k<s.size
   ·go_enter func101,ntmps101;go_wp2_with (go_at_call 49;refine (O83 s n k HK.o bY _).mono ?_;rintro e w1 ⟨rfl,g1⟩;obtain⟨ah,ar,ay⟩:=g1.use;simp only[Uv]at ay)
    go_region
    all_goals go_wp2_with fail
    exact U1 (v := .tuple #[.int .i64 (n+k:Int),f0]) (by simp[results,results101,go_sem,ah]) rfl ⟨by rw[H.o];simp,Gr.auto⟩
   have d5:n+k=s.size:=by omega
   have HS:=U0 d5;clear d5 aK;go_enter func101,ntmps101;go_wp2_with (go_at_call 49;refine (O94 s n (by rw[HK.o];exact bY) _).mono ?_;rintro e w1 ⟨rfl,g1⟩;obtain⟨ah,ar,ay⟩:=g1.use;simp only[Uv]at ay)
   go_region
   all_goals go_wp2_with fail
   exact U1 (v := .tuple #[s.size,f0]) (by simp[results,results101,go_sem,ah]) rfl ⟨by rw[H.o,HS.o],Gr.auto⟩
  have eL:Vr (bs s) n=n:=O70 (bs s) n (λ _=>hc);have H:=U0 eL;clear eL;have kL:(((s[n]'aa).toNat:Int) != 35)=true:=by simp;omega
  clear hc;go_enter func101,ntmps101;go_wp2_with fail
  go_region
  all_goals go_wp2_with fail
  exact U1 (v := .tuple #[n,f0]) (by simp[results,results101,go_sem]) rfl ⟨by rw[H.o],Gr.auto⟩
 have e:Vr (bs s) n=n:=O70 _ _ (λ h=>absurd h (by rw[O0];exact aa));rw[e];exact O95 s n (.inr (by omega)) hs w
theorem O7d(s:ByteArray)(m k:Nat)(p:List UInt8)(h:Pl.pre ((bs s).drop m) p=true)(hk:p.length=k)(hm:m<=s.size):m+k<=s.size:=by
 have:=V18 _ _ h;rw[U3,O0]at this;omega
theorem Onu(s:ByteArray)(i:Int)(n0:Nat)(hi:i=n0)(iF:n0<=s.size)(hs:s.size<=2147483647)(w:World) :
    Calls prog 75 #[.string s,i] w λ e w'=>(match Vt (bs s) n0 with
     |.ok m=>e = .returned (.tuple #[m,f0])/\m<=s.size
     |.bad c p=>e = .returned (.tuple #[(0:Int),fv c p]))/\Gr w w':=by
 subst hi;obtain⟨R,hR⟩:∃R:Ending->World->Prop,R=λ e w'=>(match Vt (bs s) n0 with
     |.ok m=>e = .returned (.tuple #[m,f0])/\m<=s.size
     |.bad c p=>e = .returned (.tuple #[(0:Int),fv c p]))/\Gr w w':=⟨_,rfl⟩
 rw[<-hR];have HR:=U0 hR;clear hR;have Be:decide ((n0:Int)<0)=false:=by simp
 have ky:decide (s.size<n0)=false:=by simp;omega
 go_enter func75,ntmps75;go_wp2_with fail
 go_loopw [1,4] (λ a e wr=>∃n:Nat,a = .int .i64 n/\n<=s.size/\Vt (bs s) n=Vt (bs s) n0/\Gr (w.alloc (.cells #[(0:Int),(0:Int)] 29)) wr) (λ a _ _=>s.size-(intOf a).toNat)
 case atStart=>exact⟨n0,rfl,iF,rfl,Gr.refl _⟩
 case round =>
  obtain⟨n,rfl,hn,he,g⟩:=hrel;have aN:=V8 (bs s) n (by rw[O0];exact hn);rw[O0]at aN;have cX:=V3n (bs s) (V7 (bs s) n) (by rw[O0];exact aN.2);rw[O0]at cX;obtain⟨G1,G2,G3,G4,G5⟩:=V7x (bs s) n (by rw[O0];exact hn);have HE:=U0 he;clear he;obtain⟨hc,hf,hz⟩:=g.use;simp only[Uv]at hz;obtain⟨m,hm⟩:=ExZ (Vr (bs s) (V7 (bs s) n))
  rw[hm]at cX G1 G2 G3 G4 G5;have HM:=U0 hm;clear hm;cases h1:Pl.pre ((bs s).drop m) [13,10]
  ·have H1:=U0 h1;cases h2:Pl.pre ((bs s).drop m) [10]
   ·have H2:=U0 h2;cases h3:Pl.pre ((bs s).drop m) [13]
    ·have H3:=U0 h3;by_cases uK:m=n
     ·have HG:=U0 (G4 h1 h2 h3 uK);clear G1 G2 G3 G4 G5 h1 h2 h3;have G6:((m:Int)==n)=true:=by simp[uK]
      have HN:=U0 uK;clear uK;go_wp2_with (first|(go_at_call 20;refine (O9 s _ n rfl hn hs _).mono ?_;rintro e w1 ⟨rfl,g1⟩;have bT:=g.trans g1;obtain⟨ah,ar,ay⟩:=bT.use;simp only[Uv]at ay)|(go_at_call 101;refine (O1x s _ _ rfl aN.2 hs _).mono ?_;rw[HM.o];rintro e w2 ⟨rfl,g2⟩;have cp:=bT.trans g2;obtain⟨aE,dt,aJ⟩:=cp.use;simp only[Uv]at aJ)|(go_at_call 56;first|(with_reducible refine (O6 s ⟨#[13,10]⟩ m false H1.o _).mono ?_;rintro e w3 ⟨rfl,rfl⟩)|(with_reducible refine (O6 s ⟨#[10]⟩ m false H2.o _).mono ?_;rintro e w3 ⟨rfl,rfl⟩)|(with_reducible refine (O6 s ⟨#[13]⟩ m false H3.o _).mono ?_;rintro e w3 ⟨rfl,rfl⟩)))
      go_region
      all_goals go_wp2_with fail
      exact U1 (v := .tuple #[m,f0]) (by simp[results,results75,go_sem,aE]) rfl (by
       rw[HR.o];refine⟨?_,Gr.auto⟩;rw[<-HE.o,HG.o];exact⟨by rw[HN.o],hn⟩)
     have HG:=U0 (G5 h1 h2 h3 uK);clear G1 G2 G3 G4 G5 h1 h2 h3;have G6:((m:Int)==n)=false:=by simp;omega
     go_wp2_with (first|(go_at_call 20;refine (O9 s _ n rfl hn hs _).mono ?_;rintro e w1 ⟨rfl,g1⟩;have bT:=g.trans g1;obtain⟨ah,ar,ay⟩:=bT.use;simp only[Uv]at ay)|(go_at_call 101;refine (O1x s _ _ rfl aN.2 hs _).mono ?_;rw[HM.o];rintro e w2 ⟨rfl,g2⟩;have cp:=bT.trans g2;obtain⟨aE,dt,aJ⟩:=cp.use;simp only[Uv]at aJ)|(go_at_call 56;first|(with_reducible refine (O6 s ⟨#[13,10]⟩ m false H1.o _).mono ?_;rintro e w3 ⟨rfl,rfl⟩)|(with_reducible refine (O6 s ⟨#[10]⟩ m false H2.o _).mono ?_;rintro e w3 ⟨rfl,rfl⟩)|(with_reducible refine (O6 s ⟨#[13]⟩ m false H3.o _).mono ?_;rintro e w3 ⟨rfl,rfl⟩)))
     go_roundw
     case rel=>exact⟨m,rfl,by omega,by rw[<-HG.o,HE.o],Gr.auto⟩
     case measure=>simp[intOf];omega
    have H3:=U0 h3;have d5:=O7d s m 1 _ h3 rfl (by omega);have HG:=U0 (G3 h1 h2 h3);clear G1 G2 G3 G4 G5 h1 h2 h3;go_wp2_with (first|(go_at_call 20;refine (O9 s _ n rfl hn hs _).mono ?_;rintro e w1 ⟨rfl,g1⟩;have bT:=g.trans g1;obtain⟨ah,ar,ay⟩:=bT.use;simp only[Uv]at ay)|(go_at_call 101;refine (O1x s _ _ rfl aN.2 hs _).mono ?_;rw[HM.o];rintro e w2 ⟨rfl,g2⟩;have cp:=bT.trans g2;obtain⟨aE,dt,aJ⟩:=cp.use;simp only[Uv]at aJ)|(go_at_call 56;first|(with_reducible refine (O6 s ⟨#[13,10]⟩ m false H1.o _).mono ?_;rintro e w3 ⟨rfl,rfl⟩)|(with_reducible refine (O6 s ⟨#[10]⟩ m false H2.o _).mono ?_;rintro e w3 ⟨rfl,rfl⟩)|(with_reducible refine (O6 s ⟨#[13]⟩ m true H3.o _).mono ?_;rintro e w3 ⟨rfl,rfl⟩))|(go_at_call 23;refine (O3h _ (m+1) (by omega) _).mono ?_;rintro e w4 ⟨rfl,g4⟩;have sH:=cp.trans g4;obtain⟨mW,nV,mX⟩:=sH.use;simp only[Uv]at mX));exact U1 (v := .tuple #[(0:Int),fv 3 (m+1)]) (by simp[results,results75,go_sem,mW]) rfl (by
     rw[HR.o];refine⟨?_,Gr.auto⟩;rw[<-HE.o,HG.o])
   have H2:=U0 h2;have d5:=O7d s m 1 _ h2 rfl (by omega);have HG:=U0 (G2 h1 h2);clear G1 G2 G3 G4 G5 h1 h2;go_wp2_with (first|(go_at_call 20;refine (O9 s _ n rfl hn hs _).mono ?_;rintro e w1 ⟨rfl,g1⟩;have bT:=g.trans g1;obtain⟨ah,ar,ay⟩:=bT.use;simp only[Uv]at ay)|(go_at_call 101;refine (O1x s _ _ rfl aN.2 hs _).mono ?_;rw[HM.o];rintro e w2 ⟨rfl,g2⟩;have cp:=bT.trans g2;obtain⟨aE,dt,aJ⟩:=cp.use;simp only[Uv]at aJ)|(go_at_call 56;first|(with_reducible refine (O6 s ⟨#[13,10]⟩ m false H1.o _).mono ?_;rintro e w3 ⟨rfl,rfl⟩)|(with_reducible refine (O6 s ⟨#[10]⟩ m true H2.o _).mono ?_;rintro e w3 ⟨rfl,rfl⟩))|(go_at_call 23;refine (O3h _ (m+1) (by omega) _).mono ?_;rintro e w4 ⟨rfl,g4⟩;have sH:=cp.trans g4;obtain⟨mW,nV,mX⟩:=sH.use;simp only[Uv]at mX))
   go_roundw
   case rel=>exact⟨m+1,by go_num,by omega,by rw[<-HG.o,HE.o],Gr.auto⟩
   case measure=>simp[intOf];omega
  have H1:=U0 h1;have d5:=O7d s m 2 _ h1 rfl (by omega);have HG:=U0 (G1 h1);clear G1 G2 G3 G4 G5 h1;go_wp2_with (first|(go_at_call 20;refine (O9 s _ n rfl hn hs _).mono ?_;rintro e w1 ⟨rfl,g1⟩;have bT:=g.trans g1;obtain⟨ah,ar,ay⟩:=bT.use;simp only[Uv]at ay)|(go_at_call 101;refine (O1x s _ _ rfl aN.2 hs _).mono ?_;rw[HM.o];rintro e w2 ⟨rfl,g2⟩;have cp:=bT.trans g2;obtain⟨aE,dt,aJ⟩:=cp.use;simp only[Uv]at aJ)|(go_at_call 56;first|(with_reducible refine (O6 s ⟨#[13,10]⟩ m true H1.o _).mono ?_;rintro e w3 ⟨rfl,rfl⟩)))
  go_roundw
  case rel=>exact⟨m+2,by go_num,by omega,by rw[<-HG.o,HE.o],Gr.auto⟩
  case measure=>simp[intOf];omega
