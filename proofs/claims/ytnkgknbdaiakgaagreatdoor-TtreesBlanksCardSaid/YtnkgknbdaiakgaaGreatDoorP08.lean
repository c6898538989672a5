/- The proof's part 08. -/
import Derived.Test.YtnkgknbdaiakgaaGreatDoorP02
import Derived.Test.YtnkgknbdaiakgaaGreatDoorP03
set_option maxHeartbeats 16000000
set_option linter.all false
set_option maxRecDepth 100000
namespace Go.Proofs.YtnkgknbdaiakgaaGreatDoor
open Pl Go.Proofs.Tryz Go.RowKit
namespace Pl
def V28(c:Nat):Nat:=if 48<=c/\c<=57 then c-48 else if 97<=c/\c<=122 then c-87 else if 65<=c/\c<=90 then c-55 else 255
def Vp(B M acc:Nat):List UInt8->Lib.NumEnd Nat
 |[] => .ok acc
 |c::r=>if V28 c.toNat<B then (if M<acc*B+V28 c.toNat then .range else Vp B M (acc*B+V28 c.toNat) r) else Lib.NumEnd.syntax
end Pl
theorem O8z:∀c:Fin 256,bits .or .u8 (c.val:Int) 32=(if 65<=c.val/\c.val<=90 then (c.val:Int)+32 else if 97<=c.val/\c.val<=122 then (c.val:Int) else bits .or .u8 (c.val:Int) 32)/\(¬(65<=c.val/\c.val<=90)->¬(97<=c.val/\c.val<=122)->¬(97<=bits .or .u8 (c.val:Int) 32/\bits .or .u8 (c.val:Int) 32<=122)):=by
 decide +kernel
theorem O24(c:UInt8)(h:65<=c.toNat/\c.toNat<=90):bits .or .u8 (c.toNat:Int) 32=(c.toNat:Int)+32:=by
 have:=(O8z ⟨c.toNat,c.toNat_lt⟩).1
 simpa [h]using this
theorem O25(c:UInt8)(h:97<=c.toNat/\c.toNat<=122):bits .or .u8 (c.toNat:Int) 32=(c.toNat:Int):=by
 have:=(O8z ⟨c.toNat,c.toNat_lt⟩).1;have h2:¬(65<=c.toNat/\c.toNat<=90):=by omega
 simp only[h2,h,and_self,U1j,U1d]at this;exact this
theorem Onq(c:UInt8)(h:¬(65<=c.toNat/\c.toNat<=90))(h2:¬(97<=c.toNat/\c.toNat<=122)):¬(97<=bits .or .u8 (c.toNat:Int) 32/\bits .or .u8 (c.toNat:Int) 32<=122) :=
 (O8z ⟨c.toNat,c.toNat_lt⟩).2 h h2
theorem O1r(c v:Int)(h:bits .or .u8 c 32=v)(w:World) :
    Calls prog 207 #[.int .u8 c] w λ e w'=>e = .returned (.int .u8 v)/\w'=w:=by
 go_enter func207,ntmps207
 go_wp2
 go_ret
 exact⟨by rw[<-h];rfl,rfl⟩
theorem Olm(t:ByteArray)(a8:t.size≠0)(mQ:t.size<=9223372036854775806)(w:World) :
    Calls prog 192 #[.string t,(16:Int),(8:Int)] w λ e w'=>e = .returned (Lib.uintTupleM 257 255 (Vp 16 255 0 t.data.toList))/\w'=Lib.bytesWorld w 5 t:=by
 refine Z79 ?_;intro eO dK;have hB:∀j,j<t.size->(Lib.bytesWorld w 5 t).cell? ⟨w.heap.size,j,none⟩=some (.int .u8 (t.data.toList.getD j 0).toNat):=λ j hj=>U2h w 5 t j hj
 refine Z166 ?_;intro W1 aQ;rw[<-aQ]at dK hB⊢;clear aQ;refine Z129 ?_;intro l hL rW;rw[<-hL]at hB⊢;clear hL;have zu:IntKind.u64.wrap (IntKind.u64.wrap 256-1)=255:=by
  exact J23
 go_enter func192,ntmps192
 go_wp2
 go_loop [12,13,101] (λ vu vn vi=>∃(k acc:Nat)(a:Int),vu = .bool false/\vn = .int .u64 a/\vi = .int .i64 k/\k<=t.size/\RowKit.Hid (a=(acc:Int)/\acc<=255/\Vp 16 255 0 l=Vp 16 255 acc (l.drop k)))
  (λ _ _ vi=>t.size-(intOf vi).toNat)
 case atStart=>exact⟨0,0,0,rfl,rfl,rfl,by omega,U0 ⟨rfl,by omega,rfl⟩⟩
 case round =>
  obtain⟨k,acc,a,rfl,rfl,rfl,hk,hh⟩:=hrel;obtain⟨ha,dE,bh⟩:=hh.o;clear hh;have a0:0<=a:=by omega
  have a1:a<=255:=by omega
  by_cases AD:k<t.size
  refine Z142 ?_;intro hc bW;have cI:l.getD k 0=l[k]'(by omega):=by simp[List.getD,Uh (show k<l.length by omega)]
  rw[bW]at bh;rw[cI]at hc;generalize l[k]'(by omega)=c at hc bh;have lY:c.toNat<256:=c.toNat_lt;clear hB bW cI;refine Z267 ?_;intro d hd;have hF:Vp 16 255 acc (c::l.drop (k+1))=(if d<16 then (if 255<acc*16+d then .range else Vp 16 255 (acc*16+d) (l.drop (k+1))) else Lib.NumEnd.syntax):=by rw[hd];rfl
  rw[hF]at bh;clear hF;have NX:∀n:Nat,n=acc*16+d->d<16->¬ 255<n->RowKit.Hid (a*16+(d:Int)=(n:Int)/\n<=255/\Vp 16 255 0 l=Vp 16 255 n (l.drop (k+1))):=by
   exact J139
  have SY:¬d<16->RowKit.Hid (Vp 16 255 0 l=Lib.NumEnd.syntax):=by
   exact J165
  have RG:d<16->255<acc*16+d->RowKit.Hid (Vp 16 255 0 l = .range):=by
   exact J158
  clear bh;by_cases dN:d<16
  refine Z227 ?_;intro aS;clear hd;unfold V28 at aS;by_cases bR:255<acc*16+d
  have hR:=RG dN bR;clear RG NX;have dO:255<a*16+(d:Int):=by omega
  exact J193
  have hR:=NX _ rfl dN bR;clear RG NX;have dO:a*16+(d:Int)<=255:=by omega
  exact J108
  exact J103
  have cZ:k=t.size:=by omega
  subst cZ;have hF:Vp 16 255 acc (l.drop t.size) = .ok acc:=by rw[Ut (by omega)];rfl
  exact J149
theorem Oj4(t:ByteArray)(a8:t.size≠0)(mQ:t.size<=9223372036854775806)(w:World) :
    Calls prog 192 #[.string t,(16:Int),(32:Int)] w λ e w'=>e = .returned (Lib.uintTupleM 257 4294967295 (Vp 16 4294967295 0 t.data.toList))/\w'=Lib.bytesWorld w 5 t:=by
 refine Z79 ?_;intro eO dK;have hB:∀j,j<t.size->(Lib.bytesWorld w 5 t).cell? ⟨w.heap.size,j,none⟩=some (.int .u8 (t.data.toList.getD j 0).toNat):=λ j hj=>U2h w 5 t j hj
 refine Z166 ?_;intro W1 aQ;rw[<-aQ]at dK hB⊢;clear aQ;refine Z129 ?_;intro l hL rW;rw[<-hL]at hB⊢;clear hL;have zu:IntKind.u64.wrap (IntKind.u64.wrap 4294967296-1)=4294967295:=by
  exact J23
 go_enter func192,ntmps192
 go_wp2
 go_loop [12,13,101] (λ vu vn vi=>∃(k acc:Nat)(a:Int),vu = .bool false/\vn = .int .u64 a/\vi = .int .i64 k/\k<=t.size/\RowKit.Hid (a=(acc:Int)/\acc<=4294967295/\Vp 16 4294967295 0 l=Vp 16 4294967295 acc (l.drop k)))
  (λ _ _ vi=>t.size-(intOf vi).toNat)
 case atStart=>exact⟨0,0,0,rfl,rfl,rfl,by omega,U0 ⟨rfl,by omega,rfl⟩⟩
 case round =>
  obtain⟨k,acc,a,rfl,rfl,rfl,hk,hh⟩:=hrel;obtain⟨ha,dE,bh⟩:=hh.o;clear hh;have a0:0<=a:=by omega
  have a1:a<=4294967295:=by omega
  by_cases AD:k<t.size
  refine Z142 ?_;intro hc bW;have cI:l.getD k 0=l[k]'(by omega):=by simp[List.getD,Uh (show k<l.length by omega)]
  rw[bW]at bh;rw[cI]at hc;generalize l[k]'(by omega)=c at hc bh;have lY:c.toNat<256:=c.toNat_lt;clear hB bW cI;refine Z267 ?_;intro d hd;have hF:Vp 16 4294967295 acc (c::l.drop (k+1))=(if d<16 then (if 4294967295<acc*16+d then .range else Vp 16 4294967295 (acc*16+d) (l.drop (k+1))) else Lib.NumEnd.syntax):=by rw[hd];rfl
  rw[hF]at bh;clear hF;have NX:∀n:Nat,n=acc*16+d->d<16->¬ 4294967295<n->RowKit.Hid (a*16+(d:Int)=(n:Int)/\n<=4294967295/\Vp 16 4294967295 0 l=Vp 16 4294967295 n (l.drop (k+1))):=by
   exact J139
  have SY:¬d<16->RowKit.Hid (Vp 16 4294967295 0 l=Lib.NumEnd.syntax):=by
   exact J165
  have RG:d<16->4294967295<acc*16+d->RowKit.Hid (Vp 16 4294967295 0 l = .range):=by
   exact J158
  clear bh;by_cases dN:d<16
  refine Z227 ?_;intro aS;clear hd;unfold V28 at aS;by_cases bR:4294967295<acc*16+d
  have hR:=RG dN bR;clear RG NX;have dO:4294967295<a*16+(d:Int):=by omega
  exact J193
  have hR:=NX _ rfl dN bR;clear RG NX;have dO:a*16+(d:Int)<=4294967295:=by omega
  exact J108
  exact J103
  have cZ:k=t.size:=by omega
  subst cZ;have hF:Vp 16 4294967295 acc (l.drop t.size) = .ok acc:=by rw[Ut (by omega)];rfl
  exact J149
def EsV(w:World):Prop:=∃ev,w.cell? ⟨14,0,none⟩=some ev/\(ev = .nilIface\/∃te pe,ev = .iface te pe)
theorem EsV.gr{w w':World}(h:EsV w)(g:Gr w w'):EsV w':=by
 obtain⟨ev,h1,h2⟩:=h;exact⟨ev,(Below.cell g (p:=⟨14,0,none⟩) (Lib.lt_of_cell h1)).trans h1,h2⟩
theorem O11(w:World)(T:TypeId)(s:ByteArray):Gr w (Lib.bytesWorld w T s):=Lib.bytesWorld_below _ _ _
namespace Pl
def V3j(c:UInt8):Bool:=decide (V28 c.toNat<16)
def V41(l:List UInt8):Nat:=l.foldl (λ a c=>a*16+V28 c.toNat) 0
theorem V96(M:Nat)(l:List UInt8)(acc:Nat)(h:∀c∈l,V3j c=true)(hM:(acc+1)*16 ^ l.length<=M+1) :
    Vp 16 M acc l = .ok (l.foldl (λ a c=>a*16+V28 c.toNat) acc):=by
 induction l generalizing acc with
 |nil=>rfl
 |cons c l ih =>
  have hc:V28 c.toNat<16:=by simpa [V3j]using h c (by simp)
  have hp:1<=16 ^ l.length:=Nat.pos_of_ne_zero (by simp);have h2:(acc*16+V28 c.toNat+1)*16 ^ l.length<=M+1:=by
   refine Uj ?_ hM;exact J25
  have h3:¬M<acc*16+V28 c.toNat:=by
   have:=Nat.le_mul_of_pos_right (acc*16+V28 c.toNat+1) hp;omega
  simp only[Vp,hc,h3,U1j,U1d,List.foldl_cons];exact ih _ (λ d hd=>h d (U15 _ hd)) h2
theorem V97(c:UInt8):Vp 16 255 0 [c]=if V3j c then .ok (V28 c.toNat) else Lib.NumEnd.syntax:=by
 by_cases h:V28 c.toNat<16
 have h3:¬ 255<V28 c.toNat:=by omega
 simp[Vp,V3j,h,h3]
 simp[Vp,V3j,h]
theorem Oln{c:UInt8}(h:V3j c=true):V28 c.toNat<16:=by simpa [V3j]using h
theorem V7i(l:List UInt8)(acc:Nat)(h:∀c∈l,V3j c=true):l.foldl (λ a c=>a*16+V28 c.toNat) acc<(acc+1)*16 ^ l.length:=by
 induction l generalizing acc with
 |nil=>simp
 |cons c l ih =>
  have hc:=Oln (h c (by simp));simp only[List.foldl_cons];refine U4 (ih _ (λ d hd=>h d (U15 _ hd))) ?_;exact J25
end Pl
theorem Olo(t:ByteArray)(c:UInt8)(ht:bs t=[c])(w:World)(hv:EsV w) :
    Calls prog 245 #[.string t,(16:Int),(8:Int)] w λ e w'=>Gr w w'/\∃n v,e = .returned (.tuple #[.int .u64 n,v])/\((V3j c=true->v = .nilIface)/\(V3j c=false->∃T p,v = .iface T (.pointer (some p)))):=by
 have d5:t.size=1:=by rw[<-O0,ht];rfl
 have hI:=Olm t (by omega) (by omega) w;rw[show t.data.toList=[c] from ht,V97]at hI;have hg:=O11 w 5 t;have lK:=hv.gr hg;refine Z166 ?_;intro W1 aQ;rw[<-aQ]at hI hg lK;clear aQ;by_cases hc:V3j c=true
 ·rw[Ua hc]at hI;have hI:Calls prog 192 #[.string t,(16:Int),(8:Int)] w λ e w'=>e = .returned (.tuple #[.int .u64 (V28 c.toNat),.nilIface])/\w'=W1:=hI
  go_enter func245,ntmps245;go_wp2_with (refine hI.mono ?_;rintro e W1 ⟨rfl,rfl⟩)
  go_wp2
  go_ret2
  exact⟨hg,_,_,rfl,λ _=>rfl,λ e=>absurd (hc.symm.trans e) (by simp)⟩
 rw[Ud hc]at hI;have hI:Calls prog 192 #[.string t,(16:Int),(8:Int)] w λ e w'=>e = .returned (.tuple #[.int .u64 0,.iface 257 (2:Int)])/\w'=W1:=hI
 obtain⟨ev,r9,pk⟩:=lK;go_enter func245,ntmps245;go_wp2_with (refine hI.mono ?_);refine Z48 ?_;go_wp2_with (refine (strconv_toError_syntax ⟨#[80,97,114,115,101,85,105,110,116]⟩ t 16 8 ev _ (by omega) r9 pk).mono ?_);rintro e W2 ⟨N,rfl,h1,h2,h3⟩
 go_wp2
 go_ret2
 exact⟨Gr.trans hg h3,_,_,rfl,λ e=>absurd e hc,λ _=>⟨_,_,rfl⟩⟩
theorem Olp(t:ByteArray)(h0:t.size≠0)(h8:t.size<=8)(hh:∀c∈bs t,V3j c=true)(w:World) :
    Calls prog 245 #[.string t,(16:Int),(32:Int)] w λ e w'=>Gr w w'/\e = .returned (.tuple #[.int .u64 (V41 (bs t)),.nilIface]):=by
 have hI:=Oj4 t h0 (by omega) w;rw[V96 _ _ _ hh (by
  have:16 ^ (bs t).length<=16 ^ 8:=U3k (by omega) (by rw[O0];exact h8);omega)]at hI
 have hg:=O11 w 5 t;refine Z166 ?_;intro W1 aQ;rw[<-aQ]at hI hg;clear aQ;have hI:Calls prog 192 #[.string t,(16:Int),(32:Int)] w λ e w'=>e = .returned (.tuple #[.int .u64 (V41 (bs t)),.nilIface])/\w'=W1:=hI
 go_enter func245,ntmps245;go_wp2_with (refine hI.mono ?_;rintro e W1 ⟨rfl,rfl⟩)
 go_wp2
 go_ret2
 exact⟨hg,rfl⟩
theorem Ojg(t:ByteArray)(a8:t.size≠0)(mQ:t.size<=9223372036854775806)(w:World) :
    Calls prog 192 #[.string t,(16:Int),(64:Int)] w λ e w'=>e = .returned (Lib.uintTupleM 257 18446744073709551615 (Vp 16 18446744073709551615 0 t.data.toList))/\w'=Lib.bytesWorld w 5 t:=by
 refine Z79 ?_;intro eO dK;have hB:∀j,j<t.size->(Lib.bytesWorld w 5 t).cell? ⟨w.heap.size,j,none⟩=some (.int .u8 (t.data.toList.getD j 0).toNat):=λ j hj=>U2h w 5 t j hj
 refine Z166 ?_;intro W1 aQ;rw[<-aQ]at dK hB⊢;clear aQ;refine Z129 ?_;intro l hL rW;rw[<-hL]at hB⊢;clear hL;refine Z249 ?_;intro zu;go_enter func192,ntmps192
 go_wp2
 go_loop [12,13,101] (λ vu vn vi=>∃(k acc:Nat)(a:Int),vu = .bool false/\vn = .int .u64 a/\vi = .int .i64 k/\k<=t.size/\RowKit.Hid (a=(acc:Int)/\acc<=18446744073709551615/\Vp 16 18446744073709551615 0 l=Vp 16 18446744073709551615 acc (l.drop k)))
  (λ _ _ vi=>t.size-(intOf vi).toNat)
 case atStart=>exact⟨0,0,0,rfl,rfl,rfl,by omega,U0 ⟨rfl,by omega,rfl⟩⟩
 case round =>
  obtain⟨k,acc,a,rfl,rfl,rfl,hk,hh⟩:=hrel;obtain⟨ha,dE,bh⟩:=hh.o;clear hh;refine Z272 ?_;intro a0 a1;by_cases AD:k<t.size
  ·refine Z142 ?_;intro hc bW;have cI:l.getD k 0=l[k]'(by omega):=by simp[List.getD,Uh (show k<l.length by omega)]
   rw[bW]at bh;rw[cI]at hc;generalize l[k]'(by omega)=c at hc bh;have lY:c.toNat<256:=c.toNat_lt;clear hB bW cI;refine Z267 ?_;intro d hd;have hF:Vp 16 18446744073709551615 acc (c::l.drop (k+1))=(if d<16 then (if 18446744073709551615<acc*16+d then .range else Vp 16 18446744073709551615 (acc*16+d) (l.drop (k+1))) else Lib.NumEnd.syntax):=by rw[hd];rfl
   rw[hF]at bh;clear hF;have NX:∀n:Nat,n=acc*16+d->d<16->¬ 18446744073709551615<n->RowKit.Hid (a*16+(d:Int)=(n:Int)/\n<=18446744073709551615/\Vp 16 18446744073709551615 0 l=Vp 16 18446744073709551615 n (l.drop (k+1))):=by
    exact J139
   have SY:¬d<16->RowKit.Hid (Vp 16 18446744073709551615 0 l=Lib.NumEnd.syntax):=by
    exact J165
   have RG:d<16->18446744073709551615<acc*16+d->RowKit.Hid (Vp 16 18446744073709551615 0 l = .range):=by
    exact J158
   clear bh;by_cases dN:d<16
   ·refine Z227 ?_;intro aS;clear hd;unfold V28 at aS;by_cases bR:18446744073709551615<acc*16+d
    ·have hR:=RG dN bR;clear RG NX;have dO:1152921504606846976<=a:=by omega
     clear bR dE ha;by_cases bS:48<=c.toNat/\c.toNat<=57
     ·obtain⟨h1,h2⟩:=bS;rw[Ua ⟨h1,h2⟩]at aS;refine Z177 ?_;intro e1
      try rw[e1]at dO
      try rw[e1]at hR
      exact J210
     rw[Ud bS]at aS;by_cases aZ:97<=c.toNat/\c.toNat<=122
     ·have aB:=O25 c aZ;rw[Ua aZ]at aS;obtain⟨h1,h2⟩:=aZ;clear bS;refine Z179 ?_;intro e1
      try rw[e1]at dO
      try rw[e1]at hR
      have gO:(c.toNat:Int)-87<16:=by omega
      clear aS dN e1;exact J106
     rw[Ud aZ]at aS;by_cases cw:65<=c.toNat/\c.toNat<=90
     ·have aB:=O24 c cw;rw[Ua cw]at aS;obtain⟨h1,h2⟩:=cw;clear bS aZ;refine Z178 ?_;intro e1
      try rw[e1]at dO
      try rw[e1]at hR
      have gO:(c.toNat:Int)-55<16:=by omega
      clear aS dN e1;exact J106
     exact J21
    have hR:=NX _ rfl dN bR;clear RG NX;have dO:a*16+(d:Int)<=18446744073709551615:=by omega
    have Bf:a<1152921504606846976:=by omega
    clear bR dE ha;by_cases bS:48<=c.toNat/\c.toNat<=57
    ·obtain⟨h1,h2⟩:=bS;rw[Ua ⟨h1,h2⟩]at aS;refine Z177 ?_;intro e1
     try rw[e1]at dO
     try rw[e1]at hR
     have gO:(c.toNat:Int)-48<16:=by omega
     clear aS dN e1
     go_wp2
     exact J22
    rw[Ud bS]at aS;by_cases aZ:97<=c.toNat/\c.toNat<=122
    ·have aB:=O25 c aZ;rw[Ua aZ]at aS;obtain⟨h1,h2⟩:=aZ;clear bS;refine Z179 ?_;intro e1
     try rw[e1]at dO
     try rw[e1]at hR
     have gO:(c.toNat:Int)-87<16:=by omega
     exact J126
    rw[Ud aZ]at aS;by_cases cw:65<=c.toNat/\c.toNat<=90
    ·have aB:=O24 c cw;rw[Ua cw]at aS;obtain⟨h1,h2⟩:=cw;clear bS aZ;refine Z178 ?_;intro e1
     try rw[e1]at dO
     try rw[e1]at hR
     have gO:(c.toNat:Int)-55<16:=by omega
     exact J126
    exact J21
   exact J103
  have cZ:k=t.size:=by omega
  subst cZ;have hF:Vp 16 18446744073709551615 acc (l.drop t.size) = .ok acc:=by rw[Ut (by omega)];rfl
  exact J149
theorem Om4(t:ByteArray)(a8:t.size≠0)(mQ:t.size<=9223372036854775806)(w:World) :
    Calls prog 192 #[.string t,(8:Int),(64:Int)] w λ e w'=>e = .returned (Lib.uintTupleM 257 18446744073709551615 (Vp 8 18446744073709551615 0 t.data.toList))/\w'=Lib.bytesWorld w 5 t:=by
 refine Z79 ?_;intro eO dK;have hB:∀j,j<t.size->(Lib.bytesWorld w 5 t).cell? ⟨w.heap.size,j,none⟩=some (.int .u8 (t.data.toList.getD j 0).toNat):=λ j hj=>U2h w 5 t j hj
 refine Z166 ?_;intro W1 aQ;rw[<-aQ]at dK hB⊢;clear aQ;refine Z129 ?_;intro l hL rW;rw[<-hL]at hB⊢;clear hL;refine Z249 ?_;intro zu;go_enter func192,ntmps192
 go_wp2
 go_loop [12,13,101] (λ vu vn vi=>∃(k acc:Nat)(a:Int),vu = .bool false/\vn = .int .u64 a/\vi = .int .i64 k/\k<=t.size/\RowKit.Hid (a=(acc:Int)/\acc<=18446744073709551615/\Vp 8 18446744073709551615 0 l=Vp 8 18446744073709551615 acc (l.drop k)))
  (λ _ _ vi=>t.size-(intOf vi).toNat)
 case atStart=>exact⟨0,0,0,rfl,rfl,rfl,by omega,U0 ⟨rfl,by omega,rfl⟩⟩
 case round =>
  obtain⟨k,acc,a,rfl,rfl,rfl,hk,hh⟩:=hrel;obtain⟨ha,dE,bh⟩:=hh.o;clear hh;refine Z272 ?_;intro a0 a1;by_cases AD:k<t.size
  ·refine Z142 ?_;intro hc bW;have cI:l.getD k 0=l[k]'(by omega):=by simp[List.getD,Uh (show k<l.length by omega)]
   rw[bW]at bh;rw[cI]at hc;generalize l[k]'(by omega)=c at hc bh;have lY:c.toNat<256:=c.toNat_lt;clear hB bW cI;refine Z267 ?_;intro d hd;have hF:Vp 8 18446744073709551615 acc (c::l.drop (k+1))=(if d<8 then (if 18446744073709551615<acc*8+d then .range else Vp 8 18446744073709551615 (acc*8+d) (l.drop (k+1))) else Lib.NumEnd.syntax):=by rw[hd];rfl
   rw[hF]at bh;clear hF;have NX:∀n:Nat,n=acc*8+d->d<8->¬ 18446744073709551615<n->RowKit.Hid (a*8+(d:Int)=(n:Int)/\n<=18446744073709551615/\Vp 8 18446744073709551615 0 l=Vp 8 18446744073709551615 n (l.drop (k+1))):=by
    exact J139
   have SY:¬d<8->RowKit.Hid (Vp 8 18446744073709551615 0 l=Lib.NumEnd.syntax):=by
    exact J165
   have RG:d<8->18446744073709551615<acc*8+d->RowKit.Hid (Vp 8 18446744073709551615 0 l = .range):=by
    exact J158
   clear bh;by_cases dN:d<8
   ·refine Z227 ?_;intro aS;clear hd;unfold V28 at aS;by_cases bR:18446744073709551615<acc*8+d
    ·have hR:=RG dN bR;clear RG NX;have dO:2305843009213693952<=a:=by omega
     clear bR dE ha;by_cases bS:48<=c.toNat/\c.toNat<=57
     ·obtain⟨h1,h2⟩:=bS;rw[Ua ⟨h1,h2⟩]at aS;refine Z177 ?_;intro e1
      try rw[e1]at dO
      try rw[e1]at hR
      have gO:(c.toNat:Int)-48<8:=by omega
      exact J45
     rw[Ud bS]at aS;by_cases aZ:97<=c.toNat/\c.toNat<=122
     ·have aB:=O25 c aZ;rw[Ua aZ]at aS;obtain⟨h1,h2⟩:=aZ;clear bS;refine Z179 ?_;intro e1
      try rw[e1]at dO
      try rw[e1]at hR
      have gO:(c.toNat:Int)-87<8:=by omega
      clear aS dN e1;exact J44
     rw[Ud aZ]at aS;by_cases cw:65<=c.toNat/\c.toNat<=90
     ·have aB:=O24 c cw;rw[Ua cw]at aS;obtain⟨h1,h2⟩:=cw;clear bS aZ;refine Z178 ?_;intro e1
      try rw[e1]at dO
      try rw[e1]at hR
      have gO:(c.toNat:Int)-55<8:=by omega
      clear aS dN e1;exact J44
     exact J21
    have hR:=NX _ rfl dN bR;clear RG NX;have dO:a*8+(d:Int)<=18446744073709551615:=by omega
    have Bf:a<2305843009213693952:=by omega
    clear bR dE ha;by_cases bS:48<=c.toNat/\c.toNat<=57
    ·obtain⟨h1,h2⟩:=bS;rw[Ua ⟨h1,h2⟩]at aS;refine Z177 ?_;intro e1
     try rw[e1]at dO
     try rw[e1]at hR
     have gO:(c.toNat:Int)-48<8:=by omega
     exact J160
    rw[Ud bS]at aS;by_cases aZ:97<=c.toNat/\c.toNat<=122
    ·have aB:=O25 c aZ;rw[Ua aZ]at aS;obtain⟨h1,h2⟩:=aZ;clear bS;refine Z179 ?_;intro e1
     try rw[e1]at dO
     try rw[e1]at hR
     have gO:(c.toNat:Int)-87<8:=by omega
     exact J114
    rw[Ud aZ]at aS;by_cases cw:65<=c.toNat/\c.toNat<=90
    ·have aB:=O24 c cw;rw[Ua cw]at aS;obtain⟨h1,h2⟩:=cw;clear bS aZ;refine Z178 ?_;intro e1
     try rw[e1]at dO
     try rw[e1]at hR
     have gO:(c.toNat:Int)-55<8:=by omega
     exact J114
    exact J21
   exact J107
  have cZ:k=t.size:=by omega
  subst cZ;have hF:Vp 8 18446744073709551615 acc (l.drop t.size) = .ok acc:=by rw[Ut (by omega)];rfl
  exact J176
theorem Om5(t:ByteArray)(a8:t.size≠0)(mQ:t.size<=9223372036854775806)(w:World) :
    Calls prog 192 #[.string t,(2:Int),(64:Int)] w λ e w'=>e = .returned (Lib.uintTupleM 257 18446744073709551615 (Vp 2 18446744073709551615 0 t.data.toList))/\w'=Lib.bytesWorld w 5 t:=by
 refine Z79 ?_;intro eO dK;have hB:∀j,j<t.size->(Lib.bytesWorld w 5 t).cell? ⟨w.heap.size,j,none⟩=some (.int .u8 (t.data.toList.getD j 0).toNat):=λ j hj=>U2h w 5 t j hj
 refine Z166 ?_;intro W1 aQ;rw[<-aQ]at dK hB⊢;clear aQ;refine Z129 ?_;intro l hL rW;rw[<-hL]at hB⊢;clear hL;refine Z249 ?_;intro zu;go_enter func192,ntmps192
 go_wp2
 go_loop [12,13,101] (λ vu vn vi=>∃(k acc:Nat)(a:Int),vu = .bool false/\vn = .int .u64 a/\vi = .int .i64 k/\k<=t.size/\RowKit.Hid (a=(acc:Int)/\acc<=18446744073709551615/\Vp 2 18446744073709551615 0 l=Vp 2 18446744073709551615 acc (l.drop k)))
  (λ _ _ vi=>t.size-(intOf vi).toNat)
 case atStart=>exact⟨0,0,0,rfl,rfl,rfl,by omega,U0 ⟨rfl,by omega,rfl⟩⟩
 case round =>
  obtain⟨k,acc,a,rfl,rfl,rfl,hk,hh⟩:=hrel;obtain⟨ha,dE,bh⟩:=hh.o;clear hh;refine Z272 ?_;intro a0 a1;by_cases AD:k<t.size
  ·refine Z142 ?_;intro hc bW;have cI:l.getD k 0=l[k]'(by omega):=by simp[List.getD,Uh (show k<l.length by omega)]
   rw[bW]at bh;rw[cI]at hc;generalize l[k]'(by omega)=c at hc bh;have lY:c.toNat<256:=c.toNat_lt;clear hB bW cI;refine Z267 ?_;intro d hd;have hF:Vp 2 18446744073709551615 acc (c::l.drop (k+1))=(if d<2 then (if 18446744073709551615<acc*2+d then .range else Vp 2 18446744073709551615 (acc*2+d) (l.drop (k+1))) else Lib.NumEnd.syntax):=by rw[hd];rfl
   rw[hF]at bh;clear hF;have NX:∀n:Nat,n=acc*2+d->d<2->¬ 18446744073709551615<n->RowKit.Hid (a*2+(d:Int)=(n:Int)/\n<=18446744073709551615/\Vp 2 18446744073709551615 0 l=Vp 2 18446744073709551615 n (l.drop (k+1))):=by
    exact J139
   have SY:¬d<2->RowKit.Hid (Vp 2 18446744073709551615 0 l=Lib.NumEnd.syntax):=by
    exact J165
   have RG:d<2->18446744073709551615<acc*2+d->RowKit.Hid (Vp 2 18446744073709551615 0 l = .range):=by
    exact J158
   clear bh;by_cases dN:d<2
   ·refine Z227 ?_;intro aS;clear hd;unfold V28 at aS;by_cases bR:18446744073709551615<acc*2+d
    ·have hR:=RG dN bR;clear RG NX;have dO:9223372036854775808<=a:=by omega
     clear bR dE ha;by_cases bS:48<=c.toNat/\c.toNat<=57
     ·obtain⟨h1,h2⟩:=bS;rw[Ua ⟨h1,h2⟩]at aS;refine Z177 ?_;intro e1
      try rw[e1]at dO
      try rw[e1]at hR
      have gO:(c.toNat:Int)-48<2:=by omega
      exact J45
     rw[Ud bS]at aS;by_cases aZ:97<=c.toNat/\c.toNat<=122
     ·have aB:=O25 c aZ;rw[Ua aZ]at aS;obtain⟨h1,h2⟩:=aZ;clear bS;refine Z179 ?_;intro e1
      try rw[e1]at dO
      try rw[e1]at hR
      have gO:(c.toNat:Int)-87<2:=by omega
      clear aS dN e1;exact J44
     rw[Ud aZ]at aS;by_cases cw:65<=c.toNat/\c.toNat<=90
     ·have aB:=O24 c cw;rw[Ua cw]at aS;obtain⟨h1,h2⟩:=cw;clear bS aZ;refine Z178 ?_;intro e1
      try rw[e1]at dO
      try rw[e1]at hR
      have gO:(c.toNat:Int)-55<2:=by omega
      clear aS dN e1;exact J44
     exact J21
    have hR:=NX _ rfl dN bR;clear RG NX;have dO:a*2+(d:Int)<=18446744073709551615:=by omega
    have Bf:a<9223372036854775808:=by omega
    clear bR dE ha;by_cases bS:48<=c.toNat/\c.toNat<=57
    ·obtain⟨h1,h2⟩:=bS;rw[Ua ⟨h1,h2⟩]at aS;refine Z177 ?_;intro e1
     try rw[e1]at dO
     try rw[e1]at hR
     have gO:(c.toNat:Int)-48<2:=by omega
     exact J160
    rw[Ud bS]at aS;by_cases aZ:97<=c.toNat/\c.toNat<=122
    ·have aB:=O25 c aZ;rw[Ua aZ]at aS;obtain⟨h1,h2⟩:=aZ;clear bS;refine Z179 ?_;intro e1
     try rw[e1]at dO
     try rw[e1]at hR
     have gO:(c.toNat:Int)-87<2:=by omega
     exact J114
    rw[Ud aZ]at aS;by_cases cw:65<=c.toNat/\c.toNat<=90
    ·have aB:=O24 c cw;rw[Ua cw]at aS;obtain⟨h1,h2⟩:=cw;clear bS aZ;refine Z178 ?_;intro e1
     try rw[e1]at dO
     try rw[e1]at hR
     have gO:(c.toNat:Int)-55<2:=by omega
     exact J114
    exact J21
   exact J107
  have cZ:k=t.size:=by omega
  subst cZ;have hF:Vp 2 18446744073709551615 acc (l.drop t.size) = .ok acc:=by rw[Ut (by omega)];rfl
  exact J176
