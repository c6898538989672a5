/- The proof's part 12. -/
import Derived.Test.YtnkgknbdaiakgaaGreatDoorY04
import Derived.Test.YtnkgknbdaiakgaaGreatDoorY08
import Derived.Lib.SmallJoins
set_option maxHeartbeats 16000000
set_option linter.all false
namespace Go.Proofs.YtnkgknbdaiakgaaGreatDoor
open Pl Go.Proofs.Tryz Go.RowKit Go.Joins
theorem Om3(c:UInt8)(w:World):Calls prog 39 #[.int .u8 c.toNat] w λ e w'=>e=.returned (.bool (Vq c))/\w=w':=by
 exact J170
theorem Om4(x:Nat)(hx:x<=1114111)(w:World):Calls prog 50 #[.int .i32 x] w λ e w'=>e=.returned (.bool (V4n x))/\w=w':=by
 by_cases h:128<=x
 ·have h1:decide ((128:Int)<=(x:Int))=true:=by simp;omega
  have h2:V4n x=true:=by unfold V4n;simp[h]
  rw[h2];go_enter func50,ntmps50;exact J182
 have h1:decide ((128:Int)<=(x:Int))=false:=Ye;obtain⟨c,rfl⟩:∃c:UInt8,c.toNat=x:=⟨UInt8.ofNat x,by simp[UInt8.toNat_ofNat'];omega⟩
 have hw:IntKind.u8.wrap (c.toNat:Int)=(c.toNat:Int):=by have:=c.toNat_lt;simp[IntKind.wrap,IntKind.bits,IntKind.signed];omega
 have H:=U10 (λ W=>Om3 c W);rw[V5x];generalize Vq c=b at H;go_enter func50,ntmps50;go_wp2_with fail;refine (H.o _).mono ?_;refine Z44 ?_;cases b
 exact J182
 go_wp2_with fail;exact U11 (v:=.bool false) (by simp[results,results50,go_sem]) rfl ⟨rfl,rfl⟩
theorem Ogw(w:World):PredAtRunes prog 50 #[] V4n w:=by
 intro W x hx _;unfold FnGives;refine (Om4 x hx W).mono ?_;refine Z44 ?_;exact⟨rfl,0,rfl⟩
theorem Om5(s:ByteArray):∀f ai,ai<=s.size->s.size-ai<=f ->Lib.idxFuncFrom V4n true s f ai=if ai+(((bs s).drop ai).takeWhile Vq).length<s.size then ((ai+(((bs s).drop ai).takeWhile Vq).length:Nat):Int) else -1:=by
 intro f
 induction f with
 |zero =>
  exact J162
 |succ f ih =>
  intro ai h1 h2;rw[Lib.idxFuncFrom];by_cases hp:ai<s.size
  ·rw[U18 hp];have hl:ai<(bs s).length:=by rw[O0];exact hp
   have bJ:(bs s)[ai]'hl=s[ai]'hp:=rfl;have mz:Vq (s[ai]'hp)=false->(((bs s).drop ai).takeWhile Vq)=[]:=λ hb=>by
    rw[U1u hl,U1o,U1b];rw[bJ,hb];simp
   by_cases az:(s[ai]'hp).toNat<128
   rw[O55 s ai hp az];have hq:=V5x (s[ai]'hp);cases hb:Vq (s[ai]'hp) with
   |false =>
    rw[hb]at hq;rw[U18 (by rw[hq];rfl),mz hb,U18 (by simpa using hp)];simp
   |true =>
    rw[hb]at hq;rw[U1b (by rw[hq];simp),ih (ai+1) Ya Ya,O6m Vq (bs s) ai hl (by rw[bJ];exact hb)]
   have hd:=decode_high s ai hp Ya;have hb:Vq (s[ai]'hp)=false:=by
    rw[show Vq (s[ai]'hp)=V6t (s[ai]'hp).toNat from rfl];unfold V6t;simp;omega
   rw[U18 (by unfold V4n;simp;omega),mz hb,U18 (by simpa using hp)];simp
  rw[U1b hp,U1b Ya]
theorem takeWhile_all(p:UInt8->Bool)(l:List UInt8):l.all p=decide (¬(l.takeWhile p).length<l.length):=by
 induction l with
 |nil=>rfl
 |cons a l ih =>
  rw[List.all_cons,U1o];cases p a <;> simp[ih]
theorem Obd(s:ByteArray):∃k:Int,Lib.idxFunc V4n true s=k/\decide (k<0)=(bs s).all Vq:=by
 refine⟨_,rfl,?_⟩;unfold Lib.idxFunc;rw[Om5 s s.size 0 Ya Ya,takeWhile_all,O0];simp only[U2j,U1q]
 split <;> simp_all <;> omega
theorem Oon(s:ByteArray)(w:World):Calls prog 32 #[.string s] w λ e w'=>e=.returned (.bool (V5f (bs s)))/\Gr w w':=by
 obtain⟨k,hk,hd⟩:=Obd s;have H:Hid (∀W,Calls prog 49 #[.string s,.func (.func 50) #[] #[]] W λ e w'=>e=.returned k/\Gr W w'):=U10 λ W=>by
  refine (strings_IndexFunc_runes 50 #[] (enters_of func50 Yc rfl) V4n s W (Ogw W)).mono ?_;rintro e w' ⟨rfl,hb⟩;exact⟨O2j hk,hb⟩
 have pD:(bs s).isEmpty=s.toList.isEmpty:=by
  have:s.toList=bs s:=U1y s;rw[this]
 unfold V5f;rw[pD];generalize (bs s).all Vq=v at hd⊢;clear pD hk;cases hz:s.toList.isEmpty with
 |true =>
  go_enter func32,ntmps32;go_wp2_with fail;exact U11 (v:=.bool false) (by simp[results,results32,go_sem]) rfl ⟨rfl,Gr.refl _⟩
 |false =>
  go_enter func32,ntmps32;go_wp2_with fail;refine (H.o _).mono ?_;rintro e w1 ⟨rfl,g1⟩;go_wp2_with fail;exact U11 (v:=.bool v) (by simp[results,results32,go_sem]) rfl ⟨rfl,g1⟩
