/- The proof's part 09. -/
import Derived.Test.YtnkgknbdaiakgaaGreatDoorY02
import Derived.Test.YtnkgknbdaiakgaaGreatDoorY03
set_option maxHeartbeats 16000000
set_option linter.all false
set_option maxRecDepth 100000
namespace Go.Proofs.YtnkgknbdaiakgaaGreatDoor
open Pl Go.Proofs.Tryz Go.RowKit
namespace Pl
def V2g(c:Nat):Nat:=if 48<=c/\c<=57 then c-48 else if 97<=c/\c<=122 then c-87 else if 65<=c/\c<=90 then c-55 else 255
def Vr(B M acc:Nat):List UInt8->Lib.NumEnd Nat
 |[] => .ok acc
 |c::r=>if V2g c.toNat<B then (if M<acc*B+V2g c.toNat then .range else Vr B M (acc*B+V2g c.toNat) r) else Lib.NumEnd.syntax
end Pl
theorem O9a:∀c:Fin 256,bits .or .u8 (c.val:Int) 32=(if 65<=c.val/\c.val<=90 then (c.val:Int)+32 else if 97<=c.val/\c.val<=122 then (c.val:Int) else bits .or .u8 (c.val:Int) 32)/\(¬(65<=c.val/\c.val<=90)->¬(97<=c.val/\c.val<=122)->¬(97<=bits .or .u8 (c.val:Int) 32/\bits .or .u8 (c.val:Int) 32<=122)):=by
 decide +kernel
theorem O2a(c:UInt8)(h:65<=c.toNat/\c.toNat<=90):bits .or .u8 (c.toNat:Int) 32=(c.toNat:Int)+32:=by
 have:=(O9a ⟨c.toNat,c.toNat_lt⟩).1
 simpa [h]using this
theorem O2b(c:UInt8)(h:97<=c.toNat/\c.toNat<=122):bits .or .u8 (c.toNat:Int) 32=(c.toNat:Int):=by
 have:=(O9a ⟨c.toNat,c.toNat_lt⟩).1;have h2:¬(65<=c.toNat/\c.toNat<=90):=Ya
 simp only[h2,h,and_self,U2i,U2c]at this;exact this
theorem Oow(c:UInt8)(h:¬(65<=c.toNat/\c.toNat<=90))(h2:¬(97<=c.toNat/\c.toNat<=122)):¬(97<=bits .or .u8 (c.toNat:Int) 32/\bits .or .u8 (c.toNat:Int) 32<=122) :=
 (O9a ⟨c.toNat,c.toNat_lt⟩).2 h h2
theorem O1x(c v:Int)(h:bits .or .u8 c 32=v)(w:World):Calls prog 207 #[.int .u8 c] w λ e w'=>e=.returned (.int .u8 v)/\w'=w:=by
 go_enter func207,ntmps207
 go_wp2
 go_ret
 exact⟨by rw[<-h];rfl,rfl⟩
theorem Omi(t:ByteArray)(a8:t.size≠0)(mT:t.size<=9223372036854775806)(w:World):Calls prog 192 #[.string t,(16:Int),(8:Int)] w λ e w'=>e=.returned (Lib.uintTupleM 257 255 (Vr 16 255 0 t.data.toList))/\w'=Lib.bytesWorld w 5 t:=by
 refine Z79 ?_;intro eJ dE;have hB:∀j,j<t.size->(Lib.bytesWorld w 5 t).cell? ⟨w,j,none⟩=some (.int .u8 (t.data.toList.getD j 0).toNat):=λ j hj=>U3e w 5 t j hj
 refine Z166 ?_;intro W1 aK;rw[<-aK]at dE hB⊢;clear aK;refine Z128 ?_;intro l hL zQ;rw[<-hL]at hB⊢;clear hL;have A0:IntKind.u64.wrap (IntKind.u64.wrap 256-1)=255:=by
  exact J8
 go_enter func192,ntmps192
 go_wp2
 go_loop [12,13,101] (λ vu vn vi=>∃(k acc:Nat)(a:Int),vu=.bool false/\vn=.int .u64 a/\vi=.int .i64 k/\k<=t.size/\RowKit.Hid (a=(acc:Int)/\acc<=255/\Vr 16 255 0 l=Vr 16 255 acc (l.drop k)))
  (λ _ _ vi=>t.size-(intOf vi).toNat)
 case atStart=>exact⟨0,0,0,rfl,rfl,rfl,Ya,U10 ⟨rfl,Ya,rfl⟩⟩
 case round =>
  obtain⟨k,acc,a,rfl,rfl,rfl,hk,hh⟩:=hrel;obtain⟨ha,dw,be⟩:=hh.o;clear hh;have a0:0<=a:=Ya;have a1:a<=255:=Ya
  by_cases rF:k<t.size
  refine Z141 ?_;intro hc bj;have bJ:l.getD k 0=l[k]' Ya:=by simp[List.getD,U1h (show k<l.length by omega)]
  rw[bj]at be;rw[bJ]at hc;generalize l[k]' Ya=c at hc be;have jT:c.toNat<256:=c.toNat_lt;clear hB bj bJ;refine Z273 ?_;intro d hd;have hF:Vr 16 255 acc (c::l.drop (k+1))=(if d<16 then (if 255<acc*16+d then .range else Vr 16 255 (acc*16+d) (l.drop (k+1))) else Lib.NumEnd.syntax):=by rw[hd];rfl
  rw[hF]at be;clear hF;have NX:∀n:Nat,n=acc*16+d->d<16->¬ 255<n->RowKit.Hid (a*16+(d:Int)=(n:Int)/\n<=255/\Vr 16 255 0 l=Vr 16 255 n (l.drop (k+1))):=by
   exact J137
  have SY:¬d<16->RowKit.Hid (Vr 16 255 0 l=Lib.NumEnd.syntax):=by
   exact J163
  have RG:d<16->255<acc*16+d->RowKit.Hid (Vr 16 255 0 l=.range):=by
   exact J155
  clear be;by_cases dJ:d<16
  refine Z228 ?_;intro aU;clear hd;unfold V2g at aU;by_cases bR:255<acc*16+d
  have hR:=RG dJ bR;clear RG NX;have dK:255<a*16+(d:Int):=Ya
  exact J193
  have hR:=NX _ rfl dJ bR;clear RG NX;have dK:a*16+(d:Int)<=255:=Ya
  exact J106
  exact J101
  have cT:k=t.size:=Ya;subst cT;have hF:Vr 16 255 acc (l.drop t.size)=.ok acc:=by rw[U1w Ya];rfl
  exact J146
theorem Ojm(t:ByteArray)(a8:t.size≠0)(mT:t.size<=9223372036854775806)(w:World):Calls prog 192 #[.string t,(16:Int),(32:Int)] w λ e w'=>e=.returned (Lib.uintTupleM 257 4294967295 (Vr 16 4294967295 0 t.data.toList))/\w'=Lib.bytesWorld w 5 t:=by
 refine Z79 ?_;intro eJ dE;have hB:∀j,j<t.size->(Lib.bytesWorld w 5 t).cell? ⟨w,j,none⟩=some (.int .u8 (t.data.toList.getD j 0).toNat):=λ j hj=>U3e w 5 t j hj
 refine Z166 ?_;intro W1 aK;rw[<-aK]at dE hB⊢;clear aK;refine Z128 ?_;intro l hL zQ;rw[<-hL]at hB⊢;clear hL;have A0:IntKind.u64.wrap (IntKind.u64.wrap 4294967296-1)=4294967295:=by
  exact J8
 go_enter func192,ntmps192
 go_wp2
 go_loop [12,13,101] (λ vu vn vi=>∃(k acc:Nat)(a:Int),vu=.bool false/\vn=.int .u64 a/\vi=.int .i64 k/\k<=t.size/\RowKit.Hid (a=(acc:Int)/\acc<=4294967295/\Vr 16 4294967295 0 l=Vr 16 4294967295 acc (l.drop k)))
  (λ _ _ vi=>t.size-(intOf vi).toNat)
 case atStart=>exact⟨0,0,0,rfl,rfl,rfl,Ya,U10 ⟨rfl,Ya,rfl⟩⟩
 case round =>
  obtain⟨k,acc,a,rfl,rfl,rfl,hk,hh⟩:=hrel;obtain⟨ha,dw,be⟩:=hh.o;clear hh;have a0:0<=a:=Ya;have a1:a<=4294967295:=Ya
  by_cases rF:k<t.size
  refine Z141 ?_;intro hc bj;have bJ:l.getD k 0=l[k]' Ya:=by simp[List.getD,U1h (show k<l.length by omega)]
  rw[bj]at be;rw[bJ]at hc;generalize l[k]' Ya=c at hc be;have jT:c.toNat<256:=c.toNat_lt;clear hB bj bJ;refine Z273 ?_;intro d hd;have hF:Vr 16 4294967295 acc (c::l.drop (k+1))=(if d<16 then (if 4294967295<acc*16+d then .range else Vr 16 4294967295 (acc*16+d) (l.drop (k+1))) else Lib.NumEnd.syntax):=by rw[hd];rfl
  rw[hF]at be;clear hF;have NX:∀n:Nat,n=acc*16+d->d<16->¬ 4294967295<n->RowKit.Hid (a*16+(d:Int)=(n:Int)/\n<=4294967295/\Vr 16 4294967295 0 l=Vr 16 4294967295 n (l.drop (k+1))):=by
   exact J137
  have SY:¬d<16->RowKit.Hid (Vr 16 4294967295 0 l=Lib.NumEnd.syntax):=by
   exact J163
  have RG:d<16->4294967295<acc*16+d->RowKit.Hid (Vr 16 4294967295 0 l=.range):=by
   exact J155
  clear be;by_cases dJ:d<16
  refine Z228 ?_;intro aU;clear hd;unfold V2g at aU;by_cases bR:4294967295<acc*16+d
  have hR:=RG dJ bR;clear RG NX;have dK:4294967295<a*16+(d:Int):=Ya
  exact J193
  have hR:=NX _ rfl dJ bR;clear RG NX;have dK:a*16+(d:Int)<=4294967295:=Ya
  exact J106
  exact J101
  have cT:k=t.size:=Ya;subst cT;have hF:Vr 16 4294967295 acc (l.drop t.size)=.ok acc:=by rw[U1w Ya];rfl
  exact J146
theorem Olg(t:ByteArray)(a8:t.size≠0)(mT:t.size<=9223372036854775806)(w:World):Calls prog 192 #[.string t,(16:Int),(64:Int)] w λ e w'=>e=.returned (Lib.uintTupleM 257 18446744073709551615 (Vr 16 18446744073709551615 0 t.data.toList))/\w'=Lib.bytesWorld w 5 t:=by
 refine Z79 ?_;intro eJ dE;have hB:∀j,j<t.size->(Lib.bytesWorld w 5 t).cell? ⟨w,j,none⟩=some (.int .u8 (t.data.toList.getD j 0).toNat):=λ j hj=>U3e w 5 t j hj
 refine Z166 ?_;intro W1 aK;rw[<-aK]at dE hB⊢;clear aK;refine Z128 ?_;intro l hL zQ;rw[<-hL]at hB⊢;clear hL;refine Z256 ?_;intro A0;go_enter func192,ntmps192
 go_wp2
 go_loop [12,13,101] (λ vu vn vi=>∃(k acc:Nat)(a:Int),vu=.bool false/\vn=.int .u64 a/\vi=.int .i64 k/\k<=t.size/\RowKit.Hid (a=(acc:Int)/\acc<=18446744073709551615/\Vr 16 18446744073709551615 0 l=Vr 16 18446744073709551615 acc (l.drop k)))
  (λ _ _ vi=>t.size-(intOf vi).toNat)
 case atStart=>exact⟨0,0,0,rfl,rfl,rfl,Ya,U10 ⟨rfl,Ya,rfl⟩⟩
 case round =>
  obtain⟨k,acc,a,rfl,rfl,rfl,hk,hh⟩:=hrel;obtain⟨ha,dw,be⟩:=hh.o;clear hh;refine Z278 ?_;intro a0 a1;by_cases rF:k<t.size
  ·refine Z141 ?_;intro hc bj;have bJ:l.getD k 0=l[k]' Ya:=by simp[List.getD,U1h (show k<l.length by omega)]
   rw[bj]at be;rw[bJ]at hc;generalize l[k]' Ya=c at hc be;have jT:c.toNat<256:=c.toNat_lt;clear hB bj bJ;refine Z273 ?_;intro d hd;have hF:Vr 16 18446744073709551615 acc (c::l.drop (k+1))=(if d<16 then (if 18446744073709551615<acc*16+d then .range else Vr 16 18446744073709551615 (acc*16+d) (l.drop (k+1))) else Lib.NumEnd.syntax):=by rw[hd];rfl
   rw[hF]at be;clear hF;have NX:∀n:Nat,n=acc*16+d->d<16->¬ 18446744073709551615<n->RowKit.Hid (a*16+(d:Int)=(n:Int)/\n<=18446744073709551615/\Vr 16 18446744073709551615 0 l=Vr 16 18446744073709551615 n (l.drop (k+1))):=by
    exact J137
   have SY:¬d<16->RowKit.Hid (Vr 16 18446744073709551615 0 l=Lib.NumEnd.syntax):=by
    exact J163
   have RG:d<16->18446744073709551615<acc*16+d->RowKit.Hid (Vr 16 18446744073709551615 0 l=.range):=by
    exact J155
   clear be;by_cases dJ:d<16
   ·refine Z228 ?_;intro aU;clear hd;unfold V2g at aU;by_cases bR:18446744073709551615<acc*16+d
    ·have hR:=RG dJ bR;clear RG NX;have dK:1152921504606846976<=a:=by omega
     clear bR dw ha;by_cases bS:48<=c.toNat/\c.toNat<=57
     ·obtain⟨h1,h2⟩:=bS;rw[U18 ⟨h1,h2⟩]at aU;refine Z177 ?_;intro e1
      try rw[e1]at dK
      try rw[e1]at hR
      exact J210
     rw[U1b bS]at aU;by_cases aY:97<=c.toNat/\c.toNat<=122
     ·have az:=O2b c aY;rw[U18 aY]at aU;obtain⟨h1,h2⟩:=aY;clear bS;refine Z179 ?_;intro e1
      try rw[e1]at dK
      try rw[e1]at hR
      have gP:(c.toNat:Int)-87<16:=Ya;clear aU dJ e1;exact J104
     rw[U1b aY]at aU;by_cases cr:65<=c.toNat/\c.toNat<=90
     ·have az:=O2a c cr;rw[U18 cr]at aU;obtain⟨h1,h2⟩:=cr;clear bS aY;refine Z178 ?_;intro e1
      try rw[e1]at dK
      try rw[e1]at hR
      have gP:(c.toNat:Int)-55<16:=Ya;clear aU dJ e1;exact J104
     exact J6
    have hR:=NX _ rfl dJ bR;clear RG NX;have dK:a*16+(d:Int)<=18446744073709551615:=Ya;have BG:a<1152921504606846976:=Ya;clear bR dw ha;by_cases bS:48<=c.toNat/\c.toNat<=57
    ·obtain⟨h1,h2⟩:=bS;rw[U18 ⟨h1,h2⟩]at aU;refine Z177 ?_;intro e1
     try rw[e1]at dK
     try rw[e1]at hR
     have gP:(c.toNat:Int)-48<16:=Ya;clear aU dJ e1
     go_wp2
     exact J7
    rw[U1b bS]at aU;by_cases aY:97<=c.toNat/\c.toNat<=122
    ·have az:=O2b c aY;rw[U18 aY]at aU;obtain⟨h1,h2⟩:=aY;clear bS;refine Z179 ?_;intro e1
     try rw[e1]at dK
     try rw[e1]at hR
     have gP:(c.toNat:Int)-87<16:=Ya
     exact J124
    rw[U1b aY]at aU;by_cases cr:65<=c.toNat/\c.toNat<=90
    ·have az:=O2a c cr;rw[U18 cr]at aU;obtain⟨h1,h2⟩:=cr;clear bS aY;refine Z178 ?_;intro e1
     try rw[e1]at dK
     try rw[e1]at hR
     have gP:(c.toNat:Int)-55<16:=Ya
     exact J124
    exact J6
   exact J101
  have cT:k=t.size:=Ya;subst cT;have hF:Vr 16 18446744073709551615 acc (l.drop t.size)=.ok acc:=by rw[U1w Ya];rfl
  exact J146
theorem Onw(t:ByteArray)(a8:t.size≠0)(mT:t.size<=9223372036854775806)(w:World):Calls prog 192 #[.string t,(8:Int),(64:Int)] w λ e w'=>e=.returned (Lib.uintTupleM 257 18446744073709551615 (Vr 8 18446744073709551615 0 t.data.toList))/\w'=Lib.bytesWorld w 5 t:=by
 refine Z79 ?_;intro eJ dE;have hB:∀j,j<t.size->(Lib.bytesWorld w 5 t).cell? ⟨w,j,none⟩=some (.int .u8 (t.data.toList.getD j 0).toNat):=λ j hj=>U3e w 5 t j hj
 refine Z166 ?_;intro W1 aK;rw[<-aK]at dE hB⊢;clear aK;refine Z128 ?_;intro l hL zQ;rw[<-hL]at hB⊢;clear hL;refine Z256 ?_;intro A0;go_enter func192,ntmps192
 go_wp2
 go_loop [12,13,101] (λ vu vn vi=>∃(k acc:Nat)(a:Int),vu=.bool false/\vn=.int .u64 a/\vi=.int .i64 k/\k<=t.size/\RowKit.Hid (a=(acc:Int)/\acc<=18446744073709551615/\Vr 8 18446744073709551615 0 l=Vr 8 18446744073709551615 acc (l.drop k)))
  (λ _ _ vi=>t.size-(intOf vi).toNat)
 case atStart=>exact⟨0,0,0,rfl,rfl,rfl,Ya,U10 ⟨rfl,Ya,rfl⟩⟩
 case round =>
  obtain⟨k,acc,a,rfl,rfl,rfl,hk,hh⟩:=hrel;obtain⟨ha,dw,be⟩:=hh.o;clear hh;refine Z278 ?_;intro a0 a1;by_cases rF:k<t.size
  ·refine Z141 ?_;intro hc bj;have bJ:l.getD k 0=l[k]' Ya:=by simp[List.getD,U1h (show k<l.length by omega)]
   rw[bj]at be;rw[bJ]at hc;generalize l[k]' Ya=c at hc be;have jT:c.toNat<256:=c.toNat_lt;clear hB bj bJ;refine Z273 ?_;intro d hd;have hF:Vr 8 18446744073709551615 acc (c::l.drop (k+1))=(if d<8 then (if 18446744073709551615<acc*8+d then .range else Vr 8 18446744073709551615 (acc*8+d) (l.drop (k+1))) else Lib.NumEnd.syntax):=by rw[hd];rfl
   rw[hF]at be;clear hF;have NX:∀n:Nat,n=acc*8+d->d<8->¬ 18446744073709551615<n->RowKit.Hid (a*8+(d:Int)=(n:Int)/\n<=18446744073709551615/\Vr 8 18446744073709551615 0 l=Vr 8 18446744073709551615 n (l.drop (k+1))):=by
    exact J137
   have SY:¬d<8->RowKit.Hid (Vr 8 18446744073709551615 0 l=Lib.NumEnd.syntax):=by
    exact J163
   have RG:d<8->18446744073709551615<acc*8+d->RowKit.Hid (Vr 8 18446744073709551615 0 l=.range):=by
    exact J155
   clear be;by_cases dJ:d<8
   ·refine Z228 ?_;intro aU;clear hd;unfold V2g at aU;by_cases bR:18446744073709551615<acc*8+d
    ·have hR:=RG dJ bR;clear RG NX;have dK:2305843009213693952<=a:=by omega
     clear bR dw ha;by_cases bS:48<=c.toNat/\c.toNat<=57
     ·obtain⟨h1,h2⟩:=bS;rw[U18 ⟨h1,h2⟩]at aU;refine Z177 ?_;intro e1
      try rw[e1]at dK
      try rw[e1]at hR
      have gP:(c.toNat:Int)-48<8:=Ya
      exact J68
     rw[U1b bS]at aU;by_cases aY:97<=c.toNat/\c.toNat<=122
     ·have az:=O2b c aY;rw[U18 aY]at aU;obtain⟨h1,h2⟩:=aY;clear bS;refine Z179 ?_;intro e1
      try rw[e1]at dK
      try rw[e1]at hR
      have gP:(c.toNat:Int)-87<8:=Ya;clear aU dJ e1;exact J67
     rw[U1b aY]at aU;by_cases cr:65<=c.toNat/\c.toNat<=90
     ·have az:=O2a c cr;rw[U18 cr]at aU;obtain⟨h1,h2⟩:=cr;clear bS aY;refine Z178 ?_;intro e1
      try rw[e1]at dK
      try rw[e1]at hR
      have gP:(c.toNat:Int)-55<8:=Ya;clear aU dJ e1;exact J67
     exact J6
    have hR:=NX _ rfl dJ bR;clear RG NX;have dK:a*8+(d:Int)<=18446744073709551615:=Ya;have BG:a<2305843009213693952:=Ya;clear bR dw ha;by_cases bS:48<=c.toNat/\c.toNat<=57
    ·obtain⟨h1,h2⟩:=bS;rw[U18 ⟨h1,h2⟩]at aU;refine Z177 ?_;intro e1
     try rw[e1]at dK
     try rw[e1]at hR
     have gP:(c.toNat:Int)-48<8:=Ya
     exact J158
    rw[U1b bS]at aU;by_cases aY:97<=c.toNat/\c.toNat<=122
    ·have az:=O2b c aY;rw[U18 aY]at aU;obtain⟨h1,h2⟩:=aY;clear bS;refine Z179 ?_;intro e1
     try rw[e1]at dK
     try rw[e1]at hR
     have gP:(c.toNat:Int)-87<8:=Ya
     exact J112
    rw[U1b aY]at aU;by_cases cr:65<=c.toNat/\c.toNat<=90
    ·have az:=O2a c cr;rw[U18 cr]at aU;obtain⟨h1,h2⟩:=cr;clear bS aY;refine Z178 ?_;intro e1
     try rw[e1]at dK
     try rw[e1]at hR
     have gP:(c.toNat:Int)-55<8:=Ya
     exact J112
    exact J6
   exact J105
  have cT:k=t.size:=Ya;subst cT;have hF:Vr 8 18446744073709551615 acc (l.drop t.size)=.ok acc:=by rw[U1w Ya];rfl
  exact J174
theorem Onx(t:ByteArray)(a8:t.size≠0)(mT:t.size<=9223372036854775806)(w:World):Calls prog 192 #[.string t,(2:Int),(64:Int)] w λ e w'=>e=.returned (Lib.uintTupleM 257 18446744073709551615 (Vr 2 18446744073709551615 0 t.data.toList))/\w'=Lib.bytesWorld w 5 t:=by
 refine Z79 ?_;intro eJ dE;have hB:∀j,j<t.size->(Lib.bytesWorld w 5 t).cell? ⟨w,j,none⟩=some (.int .u8 (t.data.toList.getD j 0).toNat):=λ j hj=>U3e w 5 t j hj
 refine Z166 ?_;intro W1 aK;rw[<-aK]at dE hB⊢;clear aK;refine Z128 ?_;intro l hL zQ;rw[<-hL]at hB⊢;clear hL;refine Z256 ?_;intro A0;go_enter func192,ntmps192
 go_wp2
 go_loop [12,13,101] (λ vu vn vi=>∃(k acc:Nat)(a:Int),vu=.bool false/\vn=.int .u64 a/\vi=.int .i64 k/\k<=t.size/\RowKit.Hid (a=(acc:Int)/\acc<=18446744073709551615/\Vr 2 18446744073709551615 0 l=Vr 2 18446744073709551615 acc (l.drop k)))
  (λ _ _ vi=>t.size-(intOf vi).toNat)
 case atStart=>exact⟨0,0,0,rfl,rfl,rfl,Ya,U10 ⟨rfl,Ya,rfl⟩⟩
 case round =>
  obtain⟨k,acc,a,rfl,rfl,rfl,hk,hh⟩:=hrel;obtain⟨ha,dw,be⟩:=hh.o;clear hh;refine Z278 ?_;intro a0 a1;by_cases rF:k<t.size
  ·refine Z141 ?_;intro hc bj;have bJ:l.getD k 0=l[k]' Ya:=by simp[List.getD,U1h (show k<l.length by omega)]
   rw[bj]at be;rw[bJ]at hc;generalize l[k]' Ya=c at hc be;have jT:c.toNat<256:=c.toNat_lt;clear hB bj bJ;refine Z273 ?_;intro d hd;have hF:Vr 2 18446744073709551615 acc (c::l.drop (k+1))=(if d<2 then (if 18446744073709551615<acc*2+d then .range else Vr 2 18446744073709551615 (acc*2+d) (l.drop (k+1))) else Lib.NumEnd.syntax):=by rw[hd];rfl
   rw[hF]at be;clear hF;have NX:∀n:Nat,n=acc*2+d->d<2->¬ 18446744073709551615<n->RowKit.Hid (a*2+(d:Int)=(n:Int)/\n<=18446744073709551615/\Vr 2 18446744073709551615 0 l=Vr 2 18446744073709551615 n (l.drop (k+1))):=by
    exact J137
   have SY:¬d<2->RowKit.Hid (Vr 2 18446744073709551615 0 l=Lib.NumEnd.syntax):=by
    exact J163
   have RG:d<2->18446744073709551615<acc*2+d->RowKit.Hid (Vr 2 18446744073709551615 0 l=.range):=by
    exact J155
   clear be;by_cases dJ:d<2
   ·refine Z228 ?_;intro aU;clear hd;unfold V2g at aU;by_cases bR:18446744073709551615<acc*2+d
    ·have hR:=RG dJ bR;clear RG NX;have dK:9223372036854775808<=a:=by omega
     clear bR dw ha;by_cases bS:48<=c.toNat/\c.toNat<=57
     ·obtain⟨h1,h2⟩:=bS;rw[U18 ⟨h1,h2⟩]at aU;refine Z177 ?_;intro e1
      try rw[e1]at dK
      try rw[e1]at hR
      have gP:(c.toNat:Int)-48<2:=Ya
      exact J68
     rw[U1b bS]at aU;by_cases aY:97<=c.toNat/\c.toNat<=122
     ·have az:=O2b c aY;rw[U18 aY]at aU;obtain⟨h1,h2⟩:=aY;clear bS;refine Z179 ?_;intro e1
      try rw[e1]at dK
      try rw[e1]at hR
      have gP:(c.toNat:Int)-87<2:=Ya;clear aU dJ e1;exact J67
     rw[U1b aY]at aU;by_cases cr:65<=c.toNat/\c.toNat<=90
     ·have az:=O2a c cr;rw[U18 cr]at aU;obtain⟨h1,h2⟩:=cr;clear bS aY;refine Z178 ?_;intro e1
      try rw[e1]at dK
      try rw[e1]at hR
      have gP:(c.toNat:Int)-55<2:=Ya;clear aU dJ e1;exact J67
     exact J6
    have hR:=NX _ rfl dJ bR;clear RG NX;have dK:a*2+(d:Int)<=18446744073709551615:=Ya;have BG:a<9223372036854775808:=Ya;clear bR dw ha;by_cases bS:48<=c.toNat/\c.toNat<=57
    ·obtain⟨h1,h2⟩:=bS;rw[U18 ⟨h1,h2⟩]at aU;refine Z177 ?_;intro e1
     try rw[e1]at dK
     try rw[e1]at hR
     have gP:(c.toNat:Int)-48<2:=Ya
     exact J158
    rw[U1b bS]at aU;by_cases aY:97<=c.toNat/\c.toNat<=122
    ·have az:=O2b c aY;rw[U18 aY]at aU;obtain⟨h1,h2⟩:=aY;clear bS;refine Z179 ?_;intro e1
     try rw[e1]at dK
     try rw[e1]at hR
     have gP:(c.toNat:Int)-87<2:=Ya
     exact J112
    rw[U1b aY]at aU;by_cases cr:65<=c.toNat/\c.toNat<=90
    ·have az:=O2a c cr;rw[U18 cr]at aU;obtain⟨h1,h2⟩:=cr;clear bS aY;refine Z178 ?_;intro e1
     try rw[e1]at dK
     try rw[e1]at hR
     have gP:(c.toNat:Int)-55<2:=Ya
     exact J112
    exact J6
   exact J105
  have cT:k=t.size:=Ya;subst cT;have hF:Vr 2 18446744073709551615 acc (l.drop t.size)=.ok acc:=by rw[U1w Ya];rfl
  exact J174
def EsV(w:World):Prop:=∃ev,w.cell? ⟨14,0,none⟩=some ev/\(ev=.nilIface\/∃te pe,ev=.iface te pe)
theorem EsV.gr{w w':World}(h:EsV w)(g:Gr w w'):EsV w':=by
 obtain⟨ev,h1,h2⟩:=h;exact⟨ev,(Below.cell g (p:=⟨14,0,none⟩) (Lib.lt_of_cell h1)).trans h1,h2⟩
theorem Oi(w:World)(T:TypeId)(s:ByteArray):Gr w (Lib.bytesWorld w T s):=Lib.bytesWorld_below _ _ _
namespace Pl
def V3v(c:UInt8):Bool:=decide (V2g c.toNat<16)
def V4f(l:List UInt8):Nat:=l.foldl (λ a c=>a*16+V2g c.toNat) 0
theorem V9v(M:Nat)(l:List UInt8)(acc:Nat)(h:∀c∈l,V3v c=true)(hM:(acc+1)*16 ^ l.length<=M+1):Vr 16 M acc l=.ok (l.foldl (λ a c=>a*16+V2g c.toNat) acc):=by
 induction l generalizing acc with
 |nil=>rfl
 |cons c l ih =>
  have hc:V2g c.toNat<16:=by simpa [V3v]using h c Yb
  have hp:1<=16 ^ l.length:=Nat.pos_of_ne_zero Yb;have h2:(acc*16+V2g c.toNat+1)*16 ^ l.length<=M+1:=by
   refine U1k ?_ hM;exact J13
  have h3:¬M<acc*16+V2g c.toNat:=by
   have:=Nat.le_mul_of_pos_right (acc*16+V2g c.toNat+1) hp;omega
  simp only[Vr,hc,h3,U2i,U2c,List.foldl_cons];exact ih _ (λ d hd=>h d (U26 _ hd)) h2
theorem V9w(c:UInt8):Vr 16 255 0 [c]=if V3v c then .ok (V2g c.toNat) else Lib.NumEnd.syntax:=by
 by_cases h:V2g c.toNat<16
 have h3:¬ 255<V2g c.toNat:=Ya
 simp[Vr,V3v,h,h3]
 simp[Vr,V3v,h]
theorem Omo{c:UInt8}(h:V3v c=true):V2g c.toNat<16:=by simpa [V3v]using h
theorem V89(l:List UInt8)(acc:Nat)(h:∀c∈l,V3v c=true):l.foldl (λ a c=>a*16+V2g c.toNat) acc<(acc+1)*16 ^ l.length:=by
 induction l generalizing acc with
 |nil=>simp
 |cons c l ih =>
  have hc:=Omo (h c Yb);simp only[List.foldl_cons];refine U13 (ih _ (λ d hd=>h d (U26 _ hd))) ?_;exact J13
end Pl
theorem Omp(t:ByteArray)(c:UInt8)(ht:bs t=[c])(w:World)(hv:EsV w):Calls prog 245 #[.string t,(16:Int),(8:Int)] w λ e w'=>Gr w w'/\∃n v,e=.returned (.tuple #[.int .u64 n,v])/\((V3v c=true->v=.nilIface)/\(V3v c=false->∃T p,v=.iface T (.pointer (some p)))):=by
 have bY:t.size=1:=by rw[<-O0,ht];rfl
 have hI:=Omi t Ya Ya w;rw[show t.data.toList=[c] from ht,V9w]at hI;have hg:=Oi w 5 t;have lP:=hv.gr hg;refine Z166 ?_;intro W1 aK;rw[<-aK]at hI hg lP;clear aK;by_cases hc:V3v c=true
 ·rw[U18 hc]at hI;have hI:Calls prog 192 #[.string t,(16:Int),(8:Int)] w λ e w'=>e=.returned (.tuple #[.int .u64 (V2g c.toNat),.nilIface])/\w'=W1:=hI
  go_enter func245,ntmps245;go_wp2_with (refine hI.mono ?_;rintro e W1 ⟨rfl,rfl⟩)
  go_wp2
  go_ret2
  exact⟨hg,_,_,rfl,λ _=>rfl,λ e=>absurd (hc.symm.trans e) Yb⟩
 rw[U1b hc]at hI;have hI:Calls prog 192 #[.string t,(16:Int),(8:Int)] w λ e w'=>e=.returned (.tuple #[.int .u64 0,.iface 257 (2:Int)])/\w'=W1:=hI
 obtain⟨ev,ry,pq⟩:=lP;go_enter func245,ntmps245;go_wp2_with (refine hI.mono ?_);refine Z44 ?_;go_wp2_with (refine (strconv_toError_syntax ⟨#[80,97,114,115,101,85,105,110,116]⟩ t 16 8 ev _ Ya ry pq).mono ?_);rintro e W2 ⟨N,rfl,h1,h2,h3⟩
 go_wp2
 go_ret2
 exact⟨Gr.trans hg h3,_,_,rfl,λ e=>absurd e hc,λ _=>⟨_,_,rfl⟩⟩
theorem Omq(t:ByteArray)(h0:t.size≠0)(h8:t.size<=8)(hh:∀c∈bs t,V3v c=true)(w:World):Calls prog 245 #[.string t,(16:Int),(32:Int)] w λ e w'=>Gr w w'/\e=.returned (.tuple #[.int .u64 (V4f (bs t)),.nilIface]):=by
 have hI:=Ojm t h0 Ya w;rw[V9v _ _ _ hh (by
  have:16 ^ (bs t).length<=16 ^ 8:=U4q Ya (by rw[O0];exact h8);omega)]at hI
 have hg:=Oi w 5 t;refine Z166 ?_;intro W1 aK;rw[<-aK]at hI hg;clear aK;have hI:Calls prog 192 #[.string t,(16:Int),(32:Int)] w λ e w'=>e=.returned (.tuple #[.int .u64 (V4f (bs t)),.nilIface])/\w'=W1:=hI
 go_enter func245,ntmps245;go_wp2_with (refine hI.mono ?_;rintro e W1 ⟨rfl,rfl⟩)
 go_wp2
 go_ret2
 exact⟨hg,rfl⟩
