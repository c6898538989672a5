/- The proof's part 08. -/
import Derived.Test.YtnkgknbdaiakgaaGreatDoorQ02
import Derived.Test.YtnkgknbdaiakgaaGreatDoorQ03
set_option maxHeartbeats 16000000
set_option linter.all false
set_option maxRecDepth 100000
namespace Go.Proofs.YtnkgknbdaiakgaaGreatDoor
open Pl Go.Proofs.Tryz Go.RowKit
namespace Pl
def V2d(c:Nat):Nat:=if 48<=c/\c<=57 then c-48 else if 97<=c/\c<=122 then c-87 else if 65<=c/\c<=90 then c-55 else 255
def Vp(B M acc:Nat):List UInt8->Lib.NumEnd Nat
 |[] => .ok acc
 |c::r=>if V2d c.toNat<B then (if M<acc*B+V2d c.toNat then .range else Vp B M (acc*B+V2d c.toNat) r) else Lib.NumEnd.syntax
end Pl
theorem O8p:∀c:Fin 256,bits .or .u8 (c.val:Int) 32=(if 65<=c.val/\c.val<=90 then (c.val:Int)+32 else if 97<=c.val/\c.val<=122 then (c.val:Int) else bits .or .u8 (c.val:Int) 32)/\(¬(65<=c.val/\c.val<=90)->¬(97<=c.val/\c.val<=122)->¬(97<=bits .or .u8 (c.val:Int) 32/\bits .or .u8 (c.val:Int) 32<=122)):=by
 decide +kernel
theorem O23(c:UInt8)(h:65<=c.toNat/\c.toNat<=90):bits .or .u8 (c.toNat:Int) 32=(c.toNat:Int)+32:=by
 have:=(O8p ⟨c.toNat,c.toNat_lt⟩).1
 simpa [h]using this
theorem O24(c:UInt8)(h:97<=c.toNat/\c.toNat<=122):bits .or .u8 (c.toNat:Int) 32=(c.toNat:Int):=by
 have:=(O8p ⟨c.toNat,c.toNat_lt⟩).1;have h2:¬(65<=c.toNat/\c.toNat<=90):=Ya
 simp only[h2,h,and_self,U2o,U2f]at this;exact this
theorem Onx(c:UInt8)(h:¬(65<=c.toNat/\c.toNat<=90))(h2:¬(97<=c.toNat/\c.toNat<=122)):¬(97<=bits .or .u8 (c.toNat:Int) 32/\bits .or .u8 (c.toNat:Int) 32<=122) :=
 (O8p ⟨c.toNat,c.toNat_lt⟩).2 h h2
theorem O1p(c v:Int)(h:bits .or .u8 c 32=v)(w:World):Calls prog 207 #[.int .u8 c] w λ e w'=>e=.returned (.int .u8 v)/\w'=w:=by
 go_enter func207,ntmps207
 go_wp2
 go_ret
 exact⟨by rw[<-h];rfl,rfl⟩
theorem Olo(t:ByteArray)(a8:t.size≠0)(nN:t.size<=9223372036854775806)(w:World):Calls prog 192 #[.string t,(16:Int),(8:Int)] w λ e w'=>e=.returned (Lib.uintTupleM 257 255 (Vp 16 255 0 t.data.toList))/\w'=Lib.bytesWorld w 5 t:=by
 refine Z79 ?_;intro eS dO;have hB:∀j,j<t.size->(Lib.bytesWorld w 5 t).cell? ⟨w,j,none⟩=some (.int .u8 (t.data.toList.getD j 0).toNat):=λ j hj=>U3g w 5 t j hj
 refine Z168 ?_;intro W1 aR;rw[<-aR]at dO hB⊢;clear aR;refine Z129 ?_;intro l hL oL;rw[<-hL]at hB⊢;clear hL;have Av:IntKind.u64.wrap (IntKind.u64.wrap 256-1)=255:=by
  exact J11
 go_enter func192,ntmps192
 go_wp2
 go_loop [12,13,101] (λ vu vn vi=>∃(k acc:Nat)(a:Int),vu=.bool false/\vn=.int .u64 a/\vi=.int .i64 k/\k<=t.size/\RowKit.Hid (a=(acc:Int)/\acc<=255/\Vp 16 255 0 l=Vp 16 255 acc (l.drop k)))
  (λ _ _ vi=>t.size-(intOf vi).toNat)
 case atStart=>exact⟨0,0,0,rfl,rfl,rfl,Ya,U10 ⟨rfl,Ya,rfl⟩⟩
 case round =>
  obtain⟨k,acc,a,rfl,rfl,rfl,hk,hh⟩:=hrel;obtain⟨ha,dH,bC⟩:=hh.o;clear hh;have a0:0<=a:=Ya;have a1:a<=255:=Ya
  by_cases xU:k<t.size
  refine Z143 ?_;intro hc bZ;have cJ:l.getD k 0=l[k]' Ya:=by simp[List.getD,U1e (show k<l.length by omega)]
  rw[bZ]at bC;rw[cJ]at hc;generalize l[k]' Ya=c at hc bC;have mv:c.toNat<256:=c.toNat_lt;clear hB bZ cJ;refine Z270 ?_;intro d hd;have hF:Vp 16 255 acc (c::l.drop (k+1))=(if d<16 then (if 255<acc*16+d then .range else Vp 16 255 (acc*16+d) (l.drop (k+1))) else Lib.NumEnd.syntax):=by rw[hd];rfl
  rw[hF]at bC;clear hF;have NX:∀n:Nat,n=acc*16+d->d<16->¬ 255<n->RowKit.Hid (a*16+(d:Int)=(n:Int)/\n<=255/\Vp 16 255 0 l=Vp 16 255 n (l.drop (k+1))):=by
   exact J140
  have SY:¬d<16->RowKit.Hid (Vp 16 255 0 l=Lib.NumEnd.syntax):=by
   exact J166
  have RG:d<16->255<acc*16+d->RowKit.Hid (Vp 16 255 0 l=.range):=by
   exact J161
  clear bC;by_cases dU:d<16
  refine Z227 ?_;intro be;clear hd;unfold V2d at be;by_cases bV:255<acc*16+d
  have hR:=RG dU bV;clear RG NX;have dV:255<a*16+(d:Int):=Ya
  exact J198
  have hR:=NX _ rfl dU bV;clear RG NX;have dV:a*16+(d:Int)<=255:=Ya
  exact J109
  exact J104
  have cI:k=t.size:=Ya;subst cI;have hF:Vp 16 255 acc (l.drop t.size)=.ok acc:=by rw[U1t Ya];rfl
  exact J152
theorem Oiu(t:ByteArray)(a8:t.size≠0)(nN:t.size<=9223372036854775806)(w:World):Calls prog 192 #[.string t,(16:Int),(32:Int)] w λ e w'=>e=.returned (Lib.uintTupleM 257 4294967295 (Vp 16 4294967295 0 t.data.toList))/\w'=Lib.bytesWorld w 5 t:=by
 refine Z79 ?_;intro eS dO;have hB:∀j,j<t.size->(Lib.bytesWorld w 5 t).cell? ⟨w,j,none⟩=some (.int .u8 (t.data.toList.getD j 0).toNat):=λ j hj=>U3g w 5 t j hj
 refine Z168 ?_;intro W1 aR;rw[<-aR]at dO hB⊢;clear aR;refine Z129 ?_;intro l hL oL;rw[<-hL]at hB⊢;clear hL;have Av:IntKind.u64.wrap (IntKind.u64.wrap 4294967296-1)=4294967295:=by
  exact J11
 go_enter func192,ntmps192
 go_wp2
 go_loop [12,13,101] (λ vu vn vi=>∃(k acc:Nat)(a:Int),vu=.bool false/\vn=.int .u64 a/\vi=.int .i64 k/\k<=t.size/\RowKit.Hid (a=(acc:Int)/\acc<=4294967295/\Vp 16 4294967295 0 l=Vp 16 4294967295 acc (l.drop k)))
  (λ _ _ vi=>t.size-(intOf vi).toNat)
 case atStart=>exact⟨0,0,0,rfl,rfl,rfl,Ya,U10 ⟨rfl,Ya,rfl⟩⟩
 case round =>
  obtain⟨k,acc,a,rfl,rfl,rfl,hk,hh⟩:=hrel;obtain⟨ha,dH,bC⟩:=hh.o;clear hh;have a0:0<=a:=Ya;have a1:a<=4294967295:=Ya
  by_cases xU:k<t.size
  refine Z143 ?_;intro hc bZ;have cJ:l.getD k 0=l[k]' Ya:=by simp[List.getD,U1e (show k<l.length by omega)]
  rw[bZ]at bC;rw[cJ]at hc;generalize l[k]' Ya=c at hc bC;have mv:c.toNat<256:=c.toNat_lt;clear hB bZ cJ;refine Z270 ?_;intro d hd;have hF:Vp 16 4294967295 acc (c::l.drop (k+1))=(if d<16 then (if 4294967295<acc*16+d then .range else Vp 16 4294967295 (acc*16+d) (l.drop (k+1))) else Lib.NumEnd.syntax):=by rw[hd];rfl
  rw[hF]at bC;clear hF;have NX:∀n:Nat,n=acc*16+d->d<16->¬ 4294967295<n->RowKit.Hid (a*16+(d:Int)=(n:Int)/\n<=4294967295/\Vp 16 4294967295 0 l=Vp 16 4294967295 n (l.drop (k+1))):=by
   exact J140
  have SY:¬d<16->RowKit.Hid (Vp 16 4294967295 0 l=Lib.NumEnd.syntax):=by
   exact J166
  have RG:d<16->4294967295<acc*16+d->RowKit.Hid (Vp 16 4294967295 0 l=.range):=by
   exact J161
  clear bC;by_cases dU:d<16
  refine Z227 ?_;intro be;clear hd;unfold V2d at be;by_cases bV:4294967295<acc*16+d
  have hR:=RG dU bV;clear RG NX;have dV:4294967295<a*16+(d:Int):=Ya
  exact J198
  have hR:=NX _ rfl dU bV;clear RG NX;have dV:a*16+(d:Int)<=4294967295:=Ya
  exact J109
  exact J104
  have cI:k=t.size:=Ya;subst cI;have hF:Vp 16 4294967295 acc (l.drop t.size)=.ok acc:=by rw[U1t Ya];rfl
  exact J152
def EsV(w:World):Prop:=∃ev,w.cell? ⟨14,0,none⟩=some ev/\(ev=.nilIface\/∃te pe,ev=.iface te pe)
theorem EsV.gr{w w':World}(h:EsV w)(g:Gr w w'):EsV w':=by
 obtain⟨ev,h1,h2⟩:=h;exact⟨ev,(Below.cell g (p:=⟨14,0,none⟩) (Lib.lt_of_cell h1)).trans h1,h2⟩
theorem O11(w:World)(T:TypeId)(s:ByteArray):Gr w (Lib.bytesWorld w T s):=Lib.bytesWorld_below _ _ _
namespace Pl
def V3g(c:UInt8):Bool:=decide (V2d c.toNat<16)
def V40(l:List UInt8):Nat:=l.foldl (λ a c=>a*16+V2d c.toNat) 0
theorem V98(M:Nat)(l:List UInt8)(acc:Nat)(h:∀c∈l,V3g c=true)(hM:(acc+1)*16 ^ l.length<=M+1):Vp 16 M acc l=.ok (l.foldl (λ a c=>a*16+V2d c.toNat) acc):=by
 induction l generalizing acc with
 |nil=>rfl
 |cons c l ih =>
  have hc:V2d c.toNat<16:=by simpa [V3g]using h c Yb
  have hp:1<=16 ^ l.length:=Nat.pos_of_ne_zero Yb;have h2:(acc*16+V2d c.toNat+1)*16 ^ l.length<=M+1:=by
   refine U1l ?_ hM;exact J16
  have h3:¬M<acc*16+V2d c.toNat:=by
   have:=Nat.le_mul_of_pos_right (acc*16+V2d c.toNat+1) hp;omega
  simp only[Vp,hc,h3,U2o,U2f,List.foldl_cons];exact ih _ (λ d hd=>h d (U24 _ hd)) h2
theorem V99(c:UInt8):Vp 16 255 0 [c]=if V3g c then .ok (V2d c.toNat) else Lib.NumEnd.syntax:=by
 by_cases h:V2d c.toNat<16
 have h3:¬ 255<V2d c.toNat:=Ya
 simp[Vp,V3g,h,h3]
 simp[Vp,V3g,h]
theorem Olu{c:UInt8}(h:V3g c=true):V2d c.toNat<16:=by simpa [V3g]using h
theorem V7i(l:List UInt8)(acc:Nat)(h:∀c∈l,V3g c=true):l.foldl (λ a c=>a*16+V2d c.toNat) acc<(acc+1)*16 ^ l.length:=by
 induction l generalizing acc with
 |nil=>simp
 |cons c l ih =>
  have hc:=Olu (h c Yb);simp only[List.foldl_cons];refine U13 (ih _ (λ d hd=>h d (U24 _ hd))) ?_;exact J16
end Pl
theorem Olv(t:ByteArray)(c:UInt8)(ht:bs t=[c])(w:World)(hv:EsV w):Calls prog 245 #[.string t,(16:Int),(8:Int)] w λ e w'=>Gr w w'/\∃n v,e=.returned (.tuple #[.int .u64 n,v])/\((V3g c=true->v=.nilIface)/\(V3g c=false->∃T p,v=.iface T (.pointer (some p)))):=by
 have dc:t.size=1:=by rw[<-O0,ht];rfl
 have hI:=Olo t Ya Ya w;rw[show t.data.toList=[c] from ht,V99]at hI;have hg:=O11 w 5 t;have me:=hv.gr hg;refine Z168 ?_;intro W1 aR;rw[<-aR]at hI hg me;clear aR;by_cases hc:V3g c=true
 ·rw[U1a hc]at hI;have hI:Calls prog 192 #[.string t,(16:Int),(8:Int)] w λ e w'=>e=.returned (.tuple #[.int .u64 (V2d c.toNat),.nilIface])/\w'=W1:=hI
  go_enter func245,ntmps245;go_wp2_with (refine hI.mono ?_;rintro e W1 ⟨rfl,rfl⟩)
  go_wp2
  go_ret2
  exact⟨hg,_,_,rfl,λ _=>rfl,λ e=>absurd (hc.symm.trans e) Yb⟩
 rw[U1c hc]at hI;have hI:Calls prog 192 #[.string t,(16:Int),(8:Int)] w λ e w'=>e=.returned (.tuple #[.int .u64 0,.iface 257 (2:Int)])/\w'=W1:=hI
 obtain⟨ev,sj,q8⟩:=me;go_enter func245,ntmps245;go_wp2_with (refine hI.mono ?_);refine Z48 ?_;go_wp2_with (refine (strconv_toError_syntax ⟨#[80,97,114,115,101,85,105,110,116]⟩ t 16 8 ev _ Ya sj q8).mono ?_);rintro e W2 ⟨N,rfl,h1,h2,h3⟩
 go_wp2
 go_ret2
 exact⟨Gr.trans hg h3,_,_,rfl,λ e=>absurd e hc,λ _=>⟨_,_,rfl⟩⟩
theorem Olw(t:ByteArray)(h0:t.size≠0)(h8:t.size<=8)(hh:∀c∈bs t,V3g c=true)(w:World):Calls prog 245 #[.string t,(16:Int),(32:Int)] w λ e w'=>Gr w w'/\e=.returned (.tuple #[.int .u64 (V40 (bs t)),.nilIface]):=by
 have hI:=Oiu t h0 Ya w;rw[V98 _ _ _ hh (by
  have:16 ^ (bs t).length<=16 ^ 8:=U4j Ya (by rw[O0];exact h8);omega)]at hI
 have hg:=O11 w 5 t;refine Z168 ?_;intro W1 aR;rw[<-aR]at hI hg;clear aR;have hI:Calls prog 192 #[.string t,(16:Int),(32:Int)] w λ e w'=>e=.returned (.tuple #[.int .u64 (V40 (bs t)),.nilIface])/\w'=W1:=hI
 go_enter func245,ntmps245;go_wp2_with (refine hI.mono ?_;rintro e W1 ⟨rfl,rfl⟩)
 go_wp2
 go_ret2
 exact⟨hg,rfl⟩
theorem Oko(t:ByteArray)(a8:t.size≠0)(nN:t.size<=9223372036854775806)(w:World):Calls prog 192 #[.string t,(16:Int),(64:Int)] w λ e w'=>e=.returned (Lib.uintTupleM 257 18446744073709551615 (Vp 16 18446744073709551615 0 t.data.toList))/\w'=Lib.bytesWorld w 5 t:=by
 refine Z79 ?_;intro eS dO;have hB:∀j,j<t.size->(Lib.bytesWorld w 5 t).cell? ⟨w,j,none⟩=some (.int .u8 (t.data.toList.getD j 0).toNat):=λ j hj=>U3g w 5 t j hj
 refine Z168 ?_;intro W1 aR;rw[<-aR]at dO hB⊢;clear aR;refine Z129 ?_;intro l hL oL;rw[<-hL]at hB⊢;clear hL;refine Z251 ?_;intro Av;go_enter func192,ntmps192
 go_wp2
 go_loop [12,13,101] (λ vu vn vi=>∃(k acc:Nat)(a:Int),vu=.bool false/\vn=.int .u64 a/\vi=.int .i64 k/\k<=t.size/\RowKit.Hid (a=(acc:Int)/\acc<=18446744073709551615/\Vp 16 18446744073709551615 0 l=Vp 16 18446744073709551615 acc (l.drop k)))
  (λ _ _ vi=>t.size-(intOf vi).toNat)
 case atStart=>exact⟨0,0,0,rfl,rfl,rfl,Ya,U10 ⟨rfl,Ya,rfl⟩⟩
 case round =>
  obtain⟨k,acc,a,rfl,rfl,rfl,hk,hh⟩:=hrel;obtain⟨ha,dH,bC⟩:=hh.o;clear hh;refine Z277 ?_;intro a0 a1;by_cases xU:k<t.size
  ·refine Z143 ?_;intro hc bZ;have cJ:l.getD k 0=l[k]' Ya:=by simp[List.getD,U1e (show k<l.length by omega)]
   rw[bZ]at bC;rw[cJ]at hc;generalize l[k]' Ya=c at hc bC;have mv:c.toNat<256:=c.toNat_lt;clear hB bZ cJ;refine Z270 ?_;intro d hd;have hF:Vp 16 18446744073709551615 acc (c::l.drop (k+1))=(if d<16 then (if 18446744073709551615<acc*16+d then .range else Vp 16 18446744073709551615 (acc*16+d) (l.drop (k+1))) else Lib.NumEnd.syntax):=by rw[hd];rfl
   rw[hF]at bC;clear hF;have NX:∀n:Nat,n=acc*16+d->d<16->¬ 18446744073709551615<n->RowKit.Hid (a*16+(d:Int)=(n:Int)/\n<=18446744073709551615/\Vp 16 18446744073709551615 0 l=Vp 16 18446744073709551615 n (l.drop (k+1))):=by
    exact J140
   have SY:¬d<16->RowKit.Hid (Vp 16 18446744073709551615 0 l=Lib.NumEnd.syntax):=by
    exact J166
   have RG:d<16->18446744073709551615<acc*16+d->RowKit.Hid (Vp 16 18446744073709551615 0 l=.range):=by
    exact J161
   clear bC;by_cases dU:d<16
   ·refine Z227 ?_;intro be;clear hd;unfold V2d at be;by_cases bV:18446744073709551615<acc*16+d
    ·have hR:=RG dU bV;clear RG NX;have dV:1152921504606846976<=a:=by omega
     clear bV dH ha;by_cases bW:48<=c.toNat/\c.toNat<=57
     ·obtain⟨h1,h2⟩:=bW;rw[U1a ⟨h1,h2⟩]at be;refine Z179 ?_;intro e1
      try rw[e1]at dV
      try rw[e1]at hR
      exact J215
     rw[U1c bW]at be;by_cases bA:97<=c.toNat/\c.toNat<=122
     ·have aB:=O24 c bA;rw[U1a bA]at be;obtain⟨h1,h2⟩:=bA;clear bW;refine Z181 ?_;intro e1
      try rw[e1]at dV
      try rw[e1]at hR
      have gZ:(c.toNat:Int)-87<16:=Ya;clear be dU e1;exact J107
     rw[U1c bA]at be;by_cases cz:65<=c.toNat/\c.toNat<=90
     ·have aB:=O23 c cz;rw[U1a cz]at be;obtain⟨h1,h2⟩:=cz;clear bW bA;refine Z180 ?_;intro e1
      try rw[e1]at dV
      try rw[e1]at hR
      have gZ:(c.toNat:Int)-55<16:=Ya;clear be dU e1;exact J107
     exact J9
    have hR:=NX _ rfl dU bV;clear RG NX;have dV:a*16+(d:Int)<=18446744073709551615:=Ya;have C9:a<1152921504606846976:=Ya;clear bV dH ha;by_cases bW:48<=c.toNat/\c.toNat<=57
    ·obtain⟨h1,h2⟩:=bW;rw[U1a ⟨h1,h2⟩]at be;refine Z179 ?_;intro e1
     try rw[e1]at dV
     try rw[e1]at hR
     have gZ:(c.toNat:Int)-48<16:=Ya;clear be dU e1
     go_wp2
     exact J10
    rw[U1c bW]at be;by_cases bA:97<=c.toNat/\c.toNat<=122
    ·have aB:=O24 c bA;rw[U1a bA]at be;obtain⟨h1,h2⟩:=bA;clear bW;refine Z181 ?_;intro e1
     try rw[e1]at dV
     try rw[e1]at hR
     have gZ:(c.toNat:Int)-87<16:=Ya
     exact J127
    rw[U1c bA]at be;by_cases cz:65<=c.toNat/\c.toNat<=90
    ·have aB:=O23 c cz;rw[U1a cz]at be;obtain⟨h1,h2⟩:=cz;clear bW bA;refine Z180 ?_;intro e1
     try rw[e1]at dV
     try rw[e1]at hR
     have gZ:(c.toNat:Int)-55<16:=Ya
     exact J127
    exact J9
   exact J104
  have cI:k=t.size:=Ya;subst cI;have hF:Vp 16 18446744073709551615 acc (l.drop t.size)=.ok acc:=by rw[U1t Ya];rfl
  exact J152
theorem On4(t:ByteArray)(a8:t.size≠0)(nN:t.size<=9223372036854775806)(w:World):Calls prog 192 #[.string t,(8:Int),(64:Int)] w λ e w'=>e=.returned (Lib.uintTupleM 257 18446744073709551615 (Vp 8 18446744073709551615 0 t.data.toList))/\w'=Lib.bytesWorld w 5 t:=by
 refine Z79 ?_;intro eS dO;have hB:∀j,j<t.size->(Lib.bytesWorld w 5 t).cell? ⟨w,j,none⟩=some (.int .u8 (t.data.toList.getD j 0).toNat):=λ j hj=>U3g w 5 t j hj
 refine Z168 ?_;intro W1 aR;rw[<-aR]at dO hB⊢;clear aR;refine Z129 ?_;intro l hL oL;rw[<-hL]at hB⊢;clear hL;refine Z251 ?_;intro Av;go_enter func192,ntmps192
 go_wp2
 go_loop [12,13,101] (λ vu vn vi=>∃(k acc:Nat)(a:Int),vu=.bool false/\vn=.int .u64 a/\vi=.int .i64 k/\k<=t.size/\RowKit.Hid (a=(acc:Int)/\acc<=18446744073709551615/\Vp 8 18446744073709551615 0 l=Vp 8 18446744073709551615 acc (l.drop k)))
  (λ _ _ vi=>t.size-(intOf vi).toNat)
 case atStart=>exact⟨0,0,0,rfl,rfl,rfl,Ya,U10 ⟨rfl,Ya,rfl⟩⟩
 case round =>
  obtain⟨k,acc,a,rfl,rfl,rfl,hk,hh⟩:=hrel;obtain⟨ha,dH,bC⟩:=hh.o;clear hh;refine Z277 ?_;intro a0 a1;by_cases xU:k<t.size
  ·refine Z143 ?_;intro hc bZ;have cJ:l.getD k 0=l[k]' Ya:=by simp[List.getD,U1e (show k<l.length by omega)]
   rw[bZ]at bC;rw[cJ]at hc;generalize l[k]' Ya=c at hc bC;have mv:c.toNat<256:=c.toNat_lt;clear hB bZ cJ;refine Z270 ?_;intro d hd;have hF:Vp 8 18446744073709551615 acc (c::l.drop (k+1))=(if d<8 then (if 18446744073709551615<acc*8+d then .range else Vp 8 18446744073709551615 (acc*8+d) (l.drop (k+1))) else Lib.NumEnd.syntax):=by rw[hd];rfl
   rw[hF]at bC;clear hF;have NX:∀n:Nat,n=acc*8+d->d<8->¬ 18446744073709551615<n->RowKit.Hid (a*8+(d:Int)=(n:Int)/\n<=18446744073709551615/\Vp 8 18446744073709551615 0 l=Vp 8 18446744073709551615 n (l.drop (k+1))):=by
    exact J140
   have SY:¬d<8->RowKit.Hid (Vp 8 18446744073709551615 0 l=Lib.NumEnd.syntax):=by
    exact J166
   have RG:d<8->18446744073709551615<acc*8+d->RowKit.Hid (Vp 8 18446744073709551615 0 l=.range):=by
    exact J161
   clear bC;by_cases dU:d<8
   ·refine Z227 ?_;intro be;clear hd;unfold V2d at be;by_cases bV:18446744073709551615<acc*8+d
    ·have hR:=RG dU bV;clear RG NX;have dV:2305843009213693952<=a:=by omega
     clear bV dH ha;by_cases bW:48<=c.toNat/\c.toNat<=57
     ·obtain⟨h1,h2⟩:=bW;rw[U1a ⟨h1,h2⟩]at be;refine Z179 ?_;intro e1
      try rw[e1]at dV
      try rw[e1]at hR
      have gZ:(c.toNat:Int)-48<8:=Ya
      exact J73
     rw[U1c bW]at be;by_cases bA:97<=c.toNat/\c.toNat<=122
     ·have aB:=O24 c bA;rw[U1a bA]at be;obtain⟨h1,h2⟩:=bA;clear bW;refine Z181 ?_;intro e1
      try rw[e1]at dV
      try rw[e1]at hR
      have gZ:(c.toNat:Int)-87<8:=Ya;clear be dU e1;exact J72
     rw[U1c bA]at be;by_cases cz:65<=c.toNat/\c.toNat<=90
     ·have aB:=O23 c cz;rw[U1a cz]at be;obtain⟨h1,h2⟩:=cz;clear bW bA;refine Z180 ?_;intro e1
      try rw[e1]at dV
      try rw[e1]at hR
      have gZ:(c.toNat:Int)-55<8:=Ya;clear be dU e1;exact J72
     exact J9
    have hR:=NX _ rfl dU bV;clear RG NX;have dV:a*8+(d:Int)<=18446744073709551615:=Ya;have C9:a<2305843009213693952:=Ya;clear bV dH ha;by_cases bW:48<=c.toNat/\c.toNat<=57
    ·obtain⟨h1,h2⟩:=bW;rw[U1a ⟨h1,h2⟩]at be;refine Z179 ?_;intro e1
     try rw[e1]at dV
     try rw[e1]at hR
     have gZ:(c.toNat:Int)-48<8:=Ya
     exact J163
    rw[U1c bW]at be;by_cases bA:97<=c.toNat/\c.toNat<=122
    ·have aB:=O24 c bA;rw[U1a bA]at be;obtain⟨h1,h2⟩:=bA;clear bW;refine Z181 ?_;intro e1
     try rw[e1]at dV
     try rw[e1]at hR
     have gZ:(c.toNat:Int)-87<8:=Ya
     exact J115
    rw[U1c bA]at be;by_cases cz:65<=c.toNat/\c.toNat<=90
    ·have aB:=O23 c cz;rw[U1a cz]at be;obtain⟨h1,h2⟩:=cz;clear bW bA;refine Z180 ?_;intro e1
     try rw[e1]at dV
     try rw[e1]at hR
     have gZ:(c.toNat:Int)-55<8:=Ya
     exact J115
    exact J9
   exact J108
  have cI:k=t.size:=Ya;subst cI;have hF:Vp 8 18446744073709551615 acc (l.drop t.size)=.ok acc:=by rw[U1t Ya];rfl
  exact J177
theorem On5(t:ByteArray)(a8:t.size≠0)(nN:t.size<=9223372036854775806)(w:World):Calls prog 192 #[.string t,(2:Int),(64:Int)] w λ e w'=>e=.returned (Lib.uintTupleM 257 18446744073709551615 (Vp 2 18446744073709551615 0 t.data.toList))/\w'=Lib.bytesWorld w 5 t:=by
 refine Z79 ?_;intro eS dO;have hB:∀j,j<t.size->(Lib.bytesWorld w 5 t).cell? ⟨w,j,none⟩=some (.int .u8 (t.data.toList.getD j 0).toNat):=λ j hj=>U3g w 5 t j hj
 refine Z168 ?_;intro W1 aR;rw[<-aR]at dO hB⊢;clear aR;refine Z129 ?_;intro l hL oL;rw[<-hL]at hB⊢;clear hL;refine Z251 ?_;intro Av;go_enter func192,ntmps192
 go_wp2
 go_loop [12,13,101] (λ vu vn vi=>∃(k acc:Nat)(a:Int),vu=.bool false/\vn=.int .u64 a/\vi=.int .i64 k/\k<=t.size/\RowKit.Hid (a=(acc:Int)/\acc<=18446744073709551615/\Vp 2 18446744073709551615 0 l=Vp 2 18446744073709551615 acc (l.drop k)))
  (λ _ _ vi=>t.size-(intOf vi).toNat)
 case atStart=>exact⟨0,0,0,rfl,rfl,rfl,Ya,U10 ⟨rfl,Ya,rfl⟩⟩
 case round =>
  obtain⟨k,acc,a,rfl,rfl,rfl,hk,hh⟩:=hrel;obtain⟨ha,dH,bC⟩:=hh.o;clear hh;refine Z277 ?_;intro a0 a1;by_cases xU:k<t.size
  ·refine Z143 ?_;intro hc bZ;have cJ:l.getD k 0=l[k]' Ya:=by simp[List.getD,U1e (show k<l.length by omega)]
   rw[bZ]at bC;rw[cJ]at hc;generalize l[k]' Ya=c at hc bC;have mv:c.toNat<256:=c.toNat_lt;clear hB bZ cJ;refine Z270 ?_;intro d hd;have hF:Vp 2 18446744073709551615 acc (c::l.drop (k+1))=(if d<2 then (if 18446744073709551615<acc*2+d then .range else Vp 2 18446744073709551615 (acc*2+d) (l.drop (k+1))) else Lib.NumEnd.syntax):=by rw[hd];rfl
   rw[hF]at bC;clear hF;have NX:∀n:Nat,n=acc*2+d->d<2->¬ 18446744073709551615<n->RowKit.Hid (a*2+(d:Int)=(n:Int)/\n<=18446744073709551615/\Vp 2 18446744073709551615 0 l=Vp 2 18446744073709551615 n (l.drop (k+1))):=by
    exact J140
   have SY:¬d<2->RowKit.Hid (Vp 2 18446744073709551615 0 l=Lib.NumEnd.syntax):=by
    exact J166
   have RG:d<2->18446744073709551615<acc*2+d->RowKit.Hid (Vp 2 18446744073709551615 0 l=.range):=by
    exact J161
   clear bC;by_cases dU:d<2
   ·refine Z227 ?_;intro be;clear hd;unfold V2d at be;by_cases bV:18446744073709551615<acc*2+d
    ·have hR:=RG dU bV;clear RG NX;have dV:9223372036854775808<=a:=by omega
     clear bV dH ha;by_cases bW:48<=c.toNat/\c.toNat<=57
     ·obtain⟨h1,h2⟩:=bW;rw[U1a ⟨h1,h2⟩]at be;refine Z179 ?_;intro e1
      try rw[e1]at dV
      try rw[e1]at hR
      have gZ:(c.toNat:Int)-48<2:=Ya
      exact J73
     rw[U1c bW]at be;by_cases bA:97<=c.toNat/\c.toNat<=122
     ·have aB:=O24 c bA;rw[U1a bA]at be;obtain⟨h1,h2⟩:=bA;clear bW;refine Z181 ?_;intro e1
      try rw[e1]at dV
      try rw[e1]at hR
      have gZ:(c.toNat:Int)-87<2:=Ya;clear be dU e1;exact J72
     rw[U1c bA]at be;by_cases cz:65<=c.toNat/\c.toNat<=90
     ·have aB:=O23 c cz;rw[U1a cz]at be;obtain⟨h1,h2⟩:=cz;clear bW bA;refine Z180 ?_;intro e1
      try rw[e1]at dV
      try rw[e1]at hR
      have gZ:(c.toNat:Int)-55<2:=Ya;clear be dU e1;exact J72
     exact J9
    have hR:=NX _ rfl dU bV;clear RG NX;have dV:a*2+(d:Int)<=18446744073709551615:=Ya;have C9:a<9223372036854775808:=Ya;clear bV dH ha;by_cases bW:48<=c.toNat/\c.toNat<=57
    ·obtain⟨h1,h2⟩:=bW;rw[U1a ⟨h1,h2⟩]at be;refine Z179 ?_;intro e1
     try rw[e1]at dV
     try rw[e1]at hR
     have gZ:(c.toNat:Int)-48<2:=Ya
     exact J163
    rw[U1c bW]at be;by_cases bA:97<=c.toNat/\c.toNat<=122
    ·have aB:=O24 c bA;rw[U1a bA]at be;obtain⟨h1,h2⟩:=bA;clear bW;refine Z181 ?_;intro e1
     try rw[e1]at dV
     try rw[e1]at hR
     have gZ:(c.toNat:Int)-87<2:=Ya
     exact J115
    rw[U1c bA]at be;by_cases cz:65<=c.toNat/\c.toNat<=90
    ·have aB:=O23 c cz;rw[U1a cz]at be;obtain⟨h1,h2⟩:=cz;clear bW bA;refine Z180 ?_;intro e1
     try rw[e1]at dV
     try rw[e1]at hR
     have gZ:(c.toNat:Int)-55<2:=Ya
     exact J115
    exact J9
   exact J108
  have cI:k=t.size:=Ya;subst cI;have hF:Vp 2 18446744073709551615 acc (l.drop t.size)=.ok acc:=by rw[U1t Ya];rfl
  exact J177
