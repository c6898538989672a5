/-
 The walks and plain laws that the claim rests on, part 9.
-/
import Derived.Test.YtfogfaagjpebcaaGreatDoorP00
import Derived.Test.YtfogfaagjpebcaaGreatDoorP02
import Derived.Test.YtfogfaagjpebcaaGreatDoorP03
import Derived.Test.YtfogfaagjpebcaaGreatDoorP06
import Derived.Test.YtfogfaagjpebcaaGreatDoorProg
import Derived.Lib.ParseIntBMem
import Derived.Lib.ConvBytes
import Derived.Laws.Strings3
import Derived.Laws.Closers25
import Derived.Laws.Closers25b
import Derived.BigCall
import Derived.BigGuard
import Derived.Lib.Hide
set_option maxHeartbeats 16000000
set_option linter.all false
set_option linter.unusedVariables false
set_option linter.unusedSimpArgs false
namespace Go.Proofs.YtfogfaagjpebcaaGreatDoor
open Go.RowKit
namespace Pl
def digV (c:Nat):Nat:=if 48≤c∧c≤57 then c-48 else if 97≤c∧c≤122 then c-87 else if 65≤c∧c≤90 then c-55 else 255
def puM (B M acc:Nat):List UInt8→Lib.NumEnd Nat
 | [] => .ok acc
 | c::r=>if digV c.toNat<B then (if M<acc*B+digV c.toNat then .range else puM B M (acc*B+digV c.toNat) r) else Lib.NumEnd.syntax
end Pl
theorem low_all:∀c:Fin 256,bits .or .u8 (c.val:Int) 32=(if 65≤c.val∧c.val≤90 then (c.val:Int)+32 else if 97≤c.val∧c.val≤122 then (c.val:Int) else bits .or .u8 (c.val:Int) 32)∧(¬(65≤c.val∧c.val≤90)→¬(97≤c.val∧c.val≤122)→¬(97≤bits .or .u8 (c.val:Int) 32∧bits .or .u8 (c.val:Int) 32≤122)):=by
 decide +kernel
theorem low_up (c:UInt8) (h:65≤c.toNat∧c.toNat≤90):bits .or .u8 (c.toNat:Int) 32=(c.toNat:Int)+32:=by
 have:=(low_all ⟨c.toNat,c.toNat_lt⟩).1
 simpa [h]using this
theorem low_lo (c:UInt8) (h:97≤c.toNat∧c.toNat≤122):bits .or .u8 (c.toNat:Int) 32=(c.toNat:Int):=by
 have:=(low_all ⟨c.toNat,c.toNat_lt⟩).1;have h2:¬(65≤c.toNat∧c.toNat≤90):=by omega
 simp only[h2,h,and_self,if_true,if_false]at this;exact this
theorem low_no (c:UInt8) (h:¬(65≤c.toNat∧c.toNat≤90)) (h2:¬(97≤c.toNat∧c.toNat≤122)):¬(97≤bits .or .u8 (c.toNat:Int) 32∧bits .or .u8 (c.toNat:Int) 32≤122) :=
 (low_all ⟨c.toNat,c.toNat_lt⟩).2 h h2
theorem lower_at (c v:Int) (h:bits .or .u8 c 32=v) (w:World) :
    Calls Tryz.prog 196 #[.int .u8 c] w fun e w'=>e = .returned (.int .u8 v)∧w'=w:=by
 go_enter Tryz.func196,Tryz.ntmps196
 go_wp2
 go_ret
 exact⟨by rw[←h];rfl,rfl⟩
set_option maxRecDepth 100000 in
theorem pu_16_8 (t:ByteArray) (hne:t.size≠0) (hmax:t.size≤9223372036854775806) (w:World) :
    Calls Tryz.prog 181 #[.string t,.int .i64 16,.int .i64 8] w fun e w'=>e = .returned (Lib.uintTupleM 251 255 (Pl.puM 16 255 0 t.data.toList))∧w'=Lib.bytesWorld w 5 t:=by
 refine Z82 ?_;intro hemp hcv;have hB:∀j,j<t.size→(Lib.bytesWorld w 5 t).cell? ⟨w.heap.size,j,none⟩=some (.int .u8 (t.data.toList.getD j 0).toNat):=fun j hj=>Lib.bytesWorld_cell w 5 t j hj
 refine Z167 ?_;intro W1 hW1;rw[←hW1]at hcv hB ⊢;clear hW1;refine Z132 ?_;intro l hL hLn;rw[←hL]at hB ⊢;clear hL;have hmv:IntKind.u64.wrap (IntKind.u64.wrap 256-1)=255:=by
  exact J22
 go_enter Tryz.func181,Tryz.ntmps181
 go_wp2
 go_loop [12,13,101] (fun vu vn vi=>∃(k acc:Nat) (a:Int),vu = .bool false∧vn = .int .u64 a∧vi = .int .i64 k∧k≤t.size∧RowKit.Hid (a=(acc:Int)∧acc≤255∧Pl.puM 16 255 0 l=Pl.puM 16 255 acc (l.drop k)))
  (fun _ _ vi=>t.size-(intOf vi).toNat)
 case atStart=>exact⟨0,0,0,rfl,rfl,rfl,by omega,Lib.hid ⟨rfl,by omega,rfl⟩⟩
 case round =>
  obtain⟨k,acc,a,rfl,rfl,rfl,hk,hh⟩:=hrel;obtain⟨ha,hacc,hdec⟩:=hh.out;clear hh;have a0:0≤a:=by omega
  have a1:a≤255:=by omega
  by_cases hkn:k<t.size
  · refine Z144 ?_;intro hc hdrop;have hget:l.getD k 0=l[k]'(by omega):=by simp[List.getD,List.getElem?_eq_getElem (show k<l.length by omega)]
    rw[hdrop]at hdec;rw[hget]at hc;generalize l[k]'(by omega)=c at hc hdec;have hc256:c.toNat<256:=c.toNat_lt;clear hB hdrop hget;refine Z266 ?_;intro d hd;have hF:Pl.puM 16 255 acc (c::l.drop (k+1))=(if d<16 then (if 255<acc*16+d then .range else Pl.puM 16 255 (acc*16+d) (l.drop (k+1))) else Lib.NumEnd.syntax):=by rw[hd];rfl
    rw[hF]at hdec;clear hF;have NX:∀n:Nat,n=acc*16+d→d<16→¬ 255<n→RowKit.Hid (a*16+(d:Int)=(n:Int)∧n≤255∧Pl.puM 16 255 0 l=Pl.puM 16 255 n (l.drop (k+1))):=by
     exact J112
    have SY:¬d<16→RowKit.Hid (Pl.puM 16 255 0 l=Lib.NumEnd.syntax):=by
     exact J130
    have RG:d<16→255<acc*16+d→RowKit.Hid (Pl.puM 16 255 0 l = .range):=by
     exact J126
    clear hdec;by_cases hdB:d<16
    · refine Z228 ?_;intro hdv;clear hd;unfold Pl.digV at hdv;by_cases hov:255<acc*16+d
      · have hR:=RG hdB hov;clear RG NX;have iov:255<a*16+(d:Int):=by omega
        exact J151
      have hR:=NX _ rfl hdB hov;clear RG NX;have iov:a*16+(d:Int)≤255:=by omega
      exact J82
    exact J77
  have hkk:k=t.size:=by omega
  subst hkk;have hF:Pl.puM 16 255 acc (l.drop t.size) = .ok acc:=by rw[List.drop_eq_nil_of_le (by omega)];rfl
  exact J121
set_option maxRecDepth 100000 in
theorem pu_16_32 (t:ByteArray) (hne:t.size≠0) (hmax:t.size≤9223372036854775806) (w:World) :
    Calls Tryz.prog 181 #[.string t,.int .i64 16,.int .i64 32] w fun e w'=>e = .returned (Lib.uintTupleM 251 4294967295 (Pl.puM 16 4294967295 0 t.data.toList))∧w'=Lib.bytesWorld w 5 t:=by
 refine Z82 ?_;intro hemp hcv;have hB:∀j,j<t.size→(Lib.bytesWorld w 5 t).cell? ⟨w.heap.size,j,none⟩=some (.int .u8 (t.data.toList.getD j 0).toNat):=fun j hj=>Lib.bytesWorld_cell w 5 t j hj
 refine Z167 ?_;intro W1 hW1;rw[←hW1]at hcv hB ⊢;clear hW1;refine Z132 ?_;intro l hL hLn;rw[←hL]at hB ⊢;clear hL;have hmv:IntKind.u64.wrap (IntKind.u64.wrap 4294967296-1)=4294967295:=by
  exact J22
 go_enter Tryz.func181,Tryz.ntmps181
 go_wp2
 go_loop [12,13,101] (fun vu vn vi=>∃(k acc:Nat) (a:Int),vu = .bool false∧vn = .int .u64 a∧vi = .int .i64 k∧k≤t.size∧RowKit.Hid (a=(acc:Int)∧acc≤4294967295∧Pl.puM 16 4294967295 0 l=Pl.puM 16 4294967295 acc (l.drop k)))
  (fun _ _ vi=>t.size-(intOf vi).toNat)
 case atStart=>exact⟨0,0,0,rfl,rfl,rfl,by omega,Lib.hid ⟨rfl,by omega,rfl⟩⟩
 case round =>
  obtain⟨k,acc,a,rfl,rfl,rfl,hk,hh⟩:=hrel;obtain⟨ha,hacc,hdec⟩:=hh.out;clear hh;have a0:0≤a:=by omega
  have a1:a≤4294967295:=by omega
  by_cases hkn:k<t.size
  · refine Z144 ?_;intro hc hdrop;have hget:l.getD k 0=l[k]'(by omega):=by simp[List.getD,List.getElem?_eq_getElem (show k<l.length by omega)]
    rw[hdrop]at hdec;rw[hget]at hc;generalize l[k]'(by omega)=c at hc hdec;have hc256:c.toNat<256:=c.toNat_lt;clear hB hdrop hget;refine Z266 ?_;intro d hd;have hF:Pl.puM 16 4294967295 acc (c::l.drop (k+1))=(if d<16 then (if 4294967295<acc*16+d then .range else Pl.puM 16 4294967295 (acc*16+d) (l.drop (k+1))) else Lib.NumEnd.syntax):=by rw[hd];rfl
    rw[hF]at hdec;clear hF;have NX:∀n:Nat,n=acc*16+d→d<16→¬ 4294967295<n→RowKit.Hid (a*16+(d:Int)=(n:Int)∧n≤4294967295∧Pl.puM 16 4294967295 0 l=Pl.puM 16 4294967295 n (l.drop (k+1))):=by
     exact J112
    have SY:¬d<16→RowKit.Hid (Pl.puM 16 4294967295 0 l=Lib.NumEnd.syntax):=by
     exact J130
    have RG:d<16→4294967295<acc*16+d→RowKit.Hid (Pl.puM 16 4294967295 0 l = .range):=by
     exact J126
    clear hdec;by_cases hdB:d<16
    · refine Z228 ?_;intro hdv;clear hd;unfold Pl.digV at hdv;by_cases hov:4294967295<acc*16+d
      · have hR:=RG hdB hov;clear RG NX;have iov:4294967295<a*16+(d:Int):=by omega
        exact J151
      have hR:=NX _ rfl hdB hov;clear RG NX;have iov:a*16+(d:Int)≤4294967295:=by omega
      exact J82
    exact J77
  have hkk:k=t.size:=by omega
  subst hkk;have hF:Pl.puM 16 4294967295 acc (l.drop t.size) = .ok acc:=by rw[List.drop_eq_nil_of_le (by omega)];rfl
  exact J121
end Go.Proofs.YtfogfaagjpebcaaGreatDoor
namespace Go.Proofs.YtfogfaagjpebcaaGreatDoor
open Go.RowKit
def EsV (w:World):Prop:=∃ev,w.cell? ⟨13,0,none⟩=some ev∧(ev = .nilIface∨∃te pe,ev = .iface te pe)
theorem EsV.gr {w w':World} (h:EsV w) (g:Gr w w'):EsV w':=by
 obtain⟨ev,h1,h2⟩:=h;exact⟨ev,(Below.cell g (p:=⟨13,0,none⟩) (Lib.lt_of_cell h1)).trans h1,h2⟩
theorem gr_bytesWorld (w:World) (T:TypeId) (s:ByteArray):Gr w (Lib.bytesWorld w T s):=Lib.bytesWorld_below _ _ _
namespace Pl
def isHex (c:UInt8):Bool:=decide (digV c.toNat<16)
def hexVal (l:List UInt8):Nat:=l.foldl (fun a c=>a*16+digV c.toNat) 0
theorem puM_hex (M:Nat) (l:List UInt8) (acc:Nat) (h:∀c∈l,isHex c=true) (hM:(acc+1)*16 ^ l.length≤M+1) :
    puM 16 M acc l = .ok (l.foldl (fun a c=>a*16+digV c.toNat) acc):=by
 induction l generalizing acc with
 | nil=>rfl
 | cons c l ih =>
  have hc:digV c.toNat<16:=by simpa [isHex]using h c (by simp)
  have hp:1≤16 ^ l.length:=Nat.pos_of_ne_zero (by simp);have h2:(acc*16+digV c.toNat+1)*16 ^ l.length≤M+1:=by
   refine Nat.le_trans ?_ hM;exact J24
  have h3:¬M<acc*16+digV c.toNat:=by
   have:=Nat.le_mul_of_pos_right (acc*16+digV c.toNat+1) hp;omega
  simp only[puM,hc,h3,if_true,if_false,List.foldl_cons];exact ih _ (fun d hd=>h d (List.mem_cons_of_mem _ hd)) h2
theorem puM_one (c:UInt8):puM 16 255 0 [c]=if isHex c then .ok (digV c.toNat) else Lib.NumEnd.syntax:=by
 by_cases h:digV c.toNat<16
 · have h3:¬ 255<digV c.toNat:=by omega
   simp[puM,isHex,h,h3]
 simp[puM,isHex,h]
theorem digV_lt {c:UInt8} (h:isHex c=true):digV c.toNat<16:=by simpa [isHex]using h
theorem foldHex_lt (l:List UInt8) (acc:Nat) (h:∀c∈l,isHex c=true):l.foldl (fun a c=>a*16+digV c.toNat) acc<(acc+1)*16 ^ l.length:=by
 induction l generalizing acc with
 | nil=>simp
 | cons c l ih =>
  have hc:=digV_lt (h c (by simp));simp only[List.foldl_cons];refine Nat.lt_of_lt_of_le (ih _ (fun d hd=>h d (List.mem_cons_of_mem _ hd))) ?_;exact J24
end Pl
set_option maxRecDepth 100000 in
theorem spu_one (t:ByteArray) (c:UInt8) (ht:bs t=[c]) (w:World) (hv:EsV w) :
    Calls Tryz.prog 235 #[.string t,.int .i64 16,.int .i64 8] w fun e w'=>Gr w w'∧∃n v,e = .returned (.tuple #[.int .u64 n,v])∧((Pl.isHex c=true→v = .nilIface)∧(Pl.isHex c=false→∃T p,v = .iface T (.pointer (some p)))):=by
 have hsz:t.size=1:=by rw[←bs_length,ht];rfl
 have hI:=pu_16_8 t (by omega) (by omega) w;rw[show t.data.toList=[c] from ht,Pl.puM_one]at hI;have hg:=gr_bytesWorld w 5 t;have hv1:=hv.gr hg;refine Z167 ?_;intro W1 hW1;rw[←hW1]at hI hg hv1;clear hW1;by_cases hc:Pl.isHex c=true
 · rw[if_pos hc]at hI;have hI:Calls Tryz.prog 181 #[.string t,.int .i64 16,.int .i64 8] w fun e w'=>e = .returned (.tuple #[.int .u64 (Pl.digV c.toNat),.nilIface])∧w'=W1:=hI
   go_enter Tryz.func235,Tryz.ntmps235;go_wp2_with (refine hI.mono ?_;rintro e W1 ⟨rfl,rfl⟩)
   go_wp2
   go_ret2
   exact⟨hg,_,_,rfl,fun _=>rfl,fun e=>absurd (hc.symm.trans e) (by simp)⟩
 rw[if_neg hc]at hI;have hI:Calls Tryz.prog 181 #[.string t,.int .i64 16,.int .i64 8] w fun e w'=>e = .returned (.tuple #[.int .u64 0,.iface 251 (.int .i64 2)])∧w'=W1:=hI
 obtain⟨ev,hv2,hev⟩:=hv1;go_enter Tryz.func235,Tryz.ntmps235;go_wp2_with (refine hI.mono ?_);refine Z48 ?_;go_wp2_with (refine (Tryz.strconv_toError_syntax ⟨#[80,97,114,115,101,85,105,110,116]⟩ t 16 8 ev _ (by omega) hv2 hev).mono ?_);rintro e W2 ⟨N,rfl,h1,h2,h3⟩
 go_wp2
 go_ret2
 exact⟨Gr.trans hg h3,_,_,rfl,fun e=>absurd e hc,fun _=>⟨_,_,rfl⟩⟩
set_option maxRecDepth 100000 in
theorem spu_hex (t:ByteArray) (h0:t.size≠0) (h8:t.size≤8) (hh:∀c∈bs t,Pl.isHex c=true) (w:World) :
    Calls Tryz.prog 235 #[.string t,.int .i64 16,.int .i64 32] w fun e w'=>Gr w w'∧e = .returned (.tuple #[.int .u64 (Pl.hexVal (bs t)),.nilIface]):=by
 have hI:=pu_16_32 t h0 (by omega) w;rw[Pl.puM_hex _ _ _ hh (by
  have:16 ^ (bs t).length≤16 ^ 8:=Nat.pow_le_pow_right (by omega) (by rw[bs_length];exact h8);omega)]at hI
 have hg:=gr_bytesWorld w 5 t;refine Z167 ?_;intro W1 hW1;rw[←hW1]at hI hg;clear hW1;have hI:Calls Tryz.prog 181 #[.string t,.int .i64 16,.int .i64 32] w fun e w'=>e = .returned (.tuple #[.int .u64 (Pl.hexVal (bs t)),.nilIface])∧w'=W1:=hI
 go_enter Tryz.func235,Tryz.ntmps235;go_wp2_with (refine hI.mono ?_;rintro e W1 ⟨rfl,rfl⟩)
 go_wp2
 go_ret2
 exact⟨hg,rfl⟩
end Go.Proofs.YtfogfaagjpebcaaGreatDoor
namespace Go.Proofs.YtfogfaagjpebcaaGreatDoor
open Go.RowKit
set_option maxRecDepth 100000 in
theorem pu_16_64 (t:ByteArray) (hne:t.size≠0) (hmax:t.size≤9223372036854775806) (w:World) :
    Calls Tryz.prog 181 #[.string t,.int .i64 16,.int .i64 64] w fun e w'=>e = .returned (Lib.uintTupleM 251 18446744073709551615 (Pl.puM 16 18446744073709551615 0 t.data.toList))∧w'=Lib.bytesWorld w 5 t:=by
 refine Z82 ?_;intro hemp hcv;have hB:∀j,j<t.size→(Lib.bytesWorld w 5 t).cell? ⟨w.heap.size,j,none⟩=some (.int .u8 (t.data.toList.getD j 0).toNat):=fun j hj=>Lib.bytesWorld_cell w 5 t j hj
 refine Z167 ?_;intro W1 hW1;rw[←hW1]at hcv hB ⊢;clear hW1;refine Z132 ?_;intro l hL hLn;rw[←hL]at hB ⊢;clear hL;refine Z248 ?_;intro hmv;go_enter Tryz.func181,Tryz.ntmps181
 go_wp2
 go_loop [12,13,101] (fun vu vn vi=>∃(k acc:Nat) (a:Int),vu = .bool false∧vn = .int .u64 a∧vi = .int .i64 k∧k≤t.size∧RowKit.Hid (a=(acc:Int)∧acc≤18446744073709551615∧Pl.puM 16 18446744073709551615 0 l=Pl.puM 16 18446744073709551615 acc (l.drop k)))
  (fun _ _ vi=>t.size-(intOf vi).toNat)
 case atStart=>exact⟨0,0,0,rfl,rfl,rfl,by omega,Lib.hid ⟨rfl,by omega,rfl⟩⟩
 case round =>
  obtain⟨k,acc,a,rfl,rfl,rfl,hk,hh⟩:=hrel;obtain⟨ha,hacc,hdec⟩:=hh.out;clear hh;refine Z271 ?_;intro a0 a1;by_cases hkn:k<t.size
  · refine Z144 ?_;intro hc hdrop;have hget:l.getD k 0=l[k]'(by omega):=by simp[List.getD,List.getElem?_eq_getElem (show k<l.length by omega)]
    rw[hdrop]at hdec;rw[hget]at hc;generalize l[k]'(by omega)=c at hc hdec;have hc256:c.toNat<256:=c.toNat_lt;clear hB hdrop hget;refine Z266 ?_;intro d hd;have hF:Pl.puM 16 18446744073709551615 acc (c::l.drop (k+1))=(if d<16 then (if 18446744073709551615<acc*16+d then .range else Pl.puM 16 18446744073709551615 (acc*16+d) (l.drop (k+1))) else Lib.NumEnd.syntax):=by rw[hd];rfl
    rw[hF]at hdec;clear hF;have NX:∀n:Nat,n=acc*16+d→d<16→¬ 18446744073709551615<n→RowKit.Hid (a*16+(d:Int)=(n:Int)∧n≤18446744073709551615∧Pl.puM 16 18446744073709551615 0 l=Pl.puM 16 18446744073709551615 n (l.drop (k+1))):=by
     exact J112
    have SY:¬d<16→RowKit.Hid (Pl.puM 16 18446744073709551615 0 l=Lib.NumEnd.syntax):=by
     exact J130
    have RG:d<16→18446744073709551615<acc*16+d→RowKit.Hid (Pl.puM 16 18446744073709551615 0 l = .range):=by
     exact J126
    clear hdec;by_cases hdB:d<16
    · refine Z228 ?_;intro hdv;clear hd;unfold Pl.digV at hdv;by_cases hov:18446744073709551615<acc*16+d
      · have hR:=RG hdB hov;clear RG NX;have iov:1152921504606846976≤a:=by omega
        clear hov hacc ha;by_cases h48:48≤c.toNat∧c.toNat≤57
        · obtain⟨h1,h2⟩:=h48;rw[if_pos ⟨h1,h2⟩]at hdv;refine Z178 ?_;intro e1
          try rw[e1]at iov
          try rw[e1]at hR
          exact J168
        rw[if_neg h48]at hdv;by_cases h97:97≤c.toNat∧c.toNat≤122
        · have hlow:=low_lo c h97;rw[if_pos h97]at hdv;obtain⟨h1,h2⟩:=h97;clear h48;refine Z180 ?_;intro e1
          try rw[e1]at iov
          try rw[e1]at hR
          have hdi:(c.toNat:Int)-87<16:=by omega
          clear hdv hdB e1;exact J80
        rw[if_neg h97]at hdv;by_cases h65:65≤c.toNat∧c.toNat≤90
        · have hlow:=low_up c h65;rw[if_pos h65]at hdv;obtain⟨h1,h2⟩:=h65;clear h48 h97;refine Z179 ?_;intro e1
          try rw[e1]at iov
          try rw[e1]at hR
          have hdi:(c.toNat:Int)-55<16:=by omega
          clear hdv hdB e1;exact J80
        exact J20
      have hR:=NX _ rfl hdB hov;clear RG NX;have iov:a*16+(d:Int)≤18446744073709551615:=by omega
      have icut:a<1152921504606846976:=by omega
      clear hov hacc ha;by_cases h48:48≤c.toNat∧c.toNat≤57
      · obtain⟨h1,h2⟩:=h48;rw[if_pos ⟨h1,h2⟩]at hdv;refine Z178 ?_;intro e1
        try rw[e1]at iov
        try rw[e1]at hR
        have hdi:(c.toNat:Int)-48<16:=by omega
        clear hdv hdB e1
        go_wp2
        exact J21
      rw[if_neg h48]at hdv;by_cases h97:97≤c.toNat∧c.toNat≤122
      · have hlow:=low_lo c h97;rw[if_pos h97]at hdv;obtain⟨h1,h2⟩:=h97;clear h48;refine Z180 ?_;intro e1
        try rw[e1]at iov
        try rw[e1]at hR
        have hdi:(c.toNat:Int)-87<16:=by omega
        exact J98
      rw[if_neg h97]at hdv;by_cases h65:65≤c.toNat∧c.toNat≤90
      · have hlow:=low_up c h65;rw[if_pos h65]at hdv;obtain⟨h1,h2⟩:=h65;clear h48 h97;refine Z179 ?_;intro e1
        try rw[e1]at iov
        try rw[e1]at hR
        have hdi:(c.toNat:Int)-55<16:=by omega
        exact J98
      exact J20
    exact J77
  have hkk:k=t.size:=by omega
  subst hkk;have hF:Pl.puM 16 18446744073709551615 acc (l.drop t.size) = .ok acc:=by rw[List.drop_eq_nil_of_le (by omega)];rfl
  exact J121
set_option maxRecDepth 100000 in
theorem pu_8_64 (t:ByteArray) (hne:t.size≠0) (hmax:t.size≤9223372036854775806) (w:World) :
    Calls Tryz.prog 181 #[.string t,.int .i64 8,.int .i64 64] w fun e w'=>e = .returned (Lib.uintTupleM 251 18446744073709551615 (Pl.puM 8 18446744073709551615 0 t.data.toList))∧w'=Lib.bytesWorld w 5 t:=by
 refine Z82 ?_;intro hemp hcv;have hB:∀j,j<t.size→(Lib.bytesWorld w 5 t).cell? ⟨w.heap.size,j,none⟩=some (.int .u8 (t.data.toList.getD j 0).toNat):=fun j hj=>Lib.bytesWorld_cell w 5 t j hj
 refine Z167 ?_;intro W1 hW1;rw[←hW1]at hcv hB ⊢;clear hW1;refine Z132 ?_;intro l hL hLn;rw[←hL]at hB ⊢;clear hL;refine Z248 ?_;intro hmv;go_enter Tryz.func181,Tryz.ntmps181
 go_wp2
 go_loop [12,13,101] (fun vu vn vi=>∃(k acc:Nat) (a:Int),vu = .bool false∧vn = .int .u64 a∧vi = .int .i64 k∧k≤t.size∧RowKit.Hid (a=(acc:Int)∧acc≤18446744073709551615∧Pl.puM 8 18446744073709551615 0 l=Pl.puM 8 18446744073709551615 acc (l.drop k)))
  (fun _ _ vi=>t.size-(intOf vi).toNat)
 case atStart=>exact⟨0,0,0,rfl,rfl,rfl,by omega,Lib.hid ⟨rfl,by omega,rfl⟩⟩
 case round =>
  obtain⟨k,acc,a,rfl,rfl,rfl,hk,hh⟩:=hrel;obtain⟨ha,hacc,hdec⟩:=hh.out;clear hh;refine Z271 ?_;intro a0 a1;by_cases hkn:k<t.size
  · refine Z144 ?_;intro hc hdrop;have hget:l.getD k 0=l[k]'(by omega):=by simp[List.getD,List.getElem?_eq_getElem (show k<l.length by omega)]
    rw[hdrop]at hdec;rw[hget]at hc;generalize l[k]'(by omega)=c at hc hdec;have hc256:c.toNat<256:=c.toNat_lt;clear hB hdrop hget;refine Z266 ?_;intro d hd;have hF:Pl.puM 8 18446744073709551615 acc (c::l.drop (k+1))=(if d<8 then (if 18446744073709551615<acc*8+d then .range else Pl.puM 8 18446744073709551615 (acc*8+d) (l.drop (k+1))) else Lib.NumEnd.syntax):=by rw[hd];rfl
    rw[hF]at hdec;clear hF;have NX:∀n:Nat,n=acc*8+d→d<8→¬ 18446744073709551615<n→RowKit.Hid (a*8+(d:Int)=(n:Int)∧n≤18446744073709551615∧Pl.puM 8 18446744073709551615 0 l=Pl.puM 8 18446744073709551615 n (l.drop (k+1))):=by
     exact J112
    have SY:¬d<8→RowKit.Hid (Pl.puM 8 18446744073709551615 0 l=Lib.NumEnd.syntax):=by
     exact J130
    have RG:d<8→18446744073709551615<acc*8+d→RowKit.Hid (Pl.puM 8 18446744073709551615 0 l = .range):=by
     exact J126
    clear hdec;by_cases hdB:d<8
    · refine Z228 ?_;intro hdv;clear hd;unfold Pl.digV at hdv;by_cases hov:18446744073709551615<acc*8+d
      · have hR:=RG hdB hov;clear RG NX;have iov:2305843009213693952≤a:=by omega
        clear hov hacc ha;by_cases h48:48≤c.toNat∧c.toNat≤57
        · obtain⟨h1,h2⟩:=h48;rw[if_pos ⟨h1,h2⟩]at hdv;refine Z178 ?_;intro e1
          try rw[e1]at iov
          try rw[e1]at hR
          have hdi:(c.toNat:Int)-48<8:=by omega
          exact J43
        rw[if_neg h48]at hdv;by_cases h97:97≤c.toNat∧c.toNat≤122
        · have hlow:=low_lo c h97;rw[if_pos h97]at hdv;obtain⟨h1,h2⟩:=h97;clear h48;refine Z180 ?_;intro e1
          try rw[e1]at iov
          try rw[e1]at hR
          have hdi:(c.toNat:Int)-87<8:=by omega
          clear hdv hdB e1;exact J42
        rw[if_neg h97]at hdv;by_cases h65:65≤c.toNat∧c.toNat≤90
        · have hlow:=low_up c h65;rw[if_pos h65]at hdv;obtain⟨h1,h2⟩:=h65;clear h48 h97;refine Z179 ?_;intro e1
          try rw[e1]at iov
          try rw[e1]at hR
          have hdi:(c.toNat:Int)-55<8:=by omega
          clear hdv hdB e1;exact J42
        exact J20
      have hR:=NX _ rfl hdB hov;clear RG NX;have iov:a*8+(d:Int)≤18446744073709551615:=by omega
      have icut:a<2305843009213693952:=by omega
      clear hov hacc ha;by_cases h48:48≤c.toNat∧c.toNat≤57
      · obtain⟨h1,h2⟩:=h48;rw[if_pos ⟨h1,h2⟩]at hdv;refine Z178 ?_;intro e1
        try rw[e1]at iov
        try rw[e1]at hR
        have hdi:(c.toNat:Int)-48<8:=by omega
        exact J128
      rw[if_neg h48]at hdv;by_cases h97:97≤c.toNat∧c.toNat≤122
      · have hlow:=low_lo c h97;rw[if_pos h97]at hdv;obtain⟨h1,h2⟩:=h97;clear h48;refine Z180 ?_;intro e1
        try rw[e1]at iov
        try rw[e1]at hR
        have hdi:(c.toNat:Int)-87<8:=by omega
        exact J88
      rw[if_neg h97]at hdv;by_cases h65:65≤c.toNat∧c.toNat≤90
      · have hlow:=low_up c h65;rw[if_pos h65]at hdv;obtain⟨h1,h2⟩:=h65;clear h48 h97;refine Z179 ?_;intro e1
        try rw[e1]at iov
        try rw[e1]at hR
        have hdi:(c.toNat:Int)-55<8:=by omega
        exact J88
      exact J20
    exact J81
  have hkk:k=t.size:=by omega
  subst hkk;have hF:Pl.puM 8 18446744073709551615 acc (l.drop t.size) = .ok acc:=by rw[List.drop_eq_nil_of_le (by omega)];rfl
  exact J138
set_option maxRecDepth 100000 in
theorem pu_2_64 (t:ByteArray) (hne:t.size≠0) (hmax:t.size≤9223372036854775806) (w:World) :
    Calls Tryz.prog 181 #[.string t,.int .i64 2,.int .i64 64] w fun e w'=>e = .returned (Lib.uintTupleM 251 18446744073709551615 (Pl.puM 2 18446744073709551615 0 t.data.toList))∧w'=Lib.bytesWorld w 5 t:=by
 refine Z82 ?_;intro hemp hcv;have hB:∀j,j<t.size→(Lib.bytesWorld w 5 t).cell? ⟨w.heap.size,j,none⟩=some (.int .u8 (t.data.toList.getD j 0).toNat):=fun j hj=>Lib.bytesWorld_cell w 5 t j hj
 refine Z167 ?_;intro W1 hW1;rw[←hW1]at hcv hB ⊢;clear hW1;refine Z132 ?_;intro l hL hLn;rw[←hL]at hB ⊢;clear hL;refine Z248 ?_;intro hmv;go_enter Tryz.func181,Tryz.ntmps181
 go_wp2
 go_loop [12,13,101] (fun vu vn vi=>∃(k acc:Nat) (a:Int),vu = .bool false∧vn = .int .u64 a∧vi = .int .i64 k∧k≤t.size∧RowKit.Hid (a=(acc:Int)∧acc≤18446744073709551615∧Pl.puM 2 18446744073709551615 0 l=Pl.puM 2 18446744073709551615 acc (l.drop k)))
  (fun _ _ vi=>t.size-(intOf vi).toNat)
 case atStart=>exact⟨0,0,0,rfl,rfl,rfl,by omega,Lib.hid ⟨rfl,by omega,rfl⟩⟩
 case round =>
  obtain⟨k,acc,a,rfl,rfl,rfl,hk,hh⟩:=hrel;obtain⟨ha,hacc,hdec⟩:=hh.out;clear hh;refine Z271 ?_;intro a0 a1;by_cases hkn:k<t.size
  · refine Z144 ?_;intro hc hdrop;have hget:l.getD k 0=l[k]'(by omega):=by simp[List.getD,List.getElem?_eq_getElem (show k<l.length by omega)]
    rw[hdrop]at hdec;rw[hget]at hc;generalize l[k]'(by omega)=c at hc hdec;have hc256:c.toNat<256:=c.toNat_lt;clear hB hdrop hget;refine Z266 ?_;intro d hd;have hF:Pl.puM 2 18446744073709551615 acc (c::l.drop (k+1))=(if d<2 then (if 18446744073709551615<acc*2+d then .range else Pl.puM 2 18446744073709551615 (acc*2+d) (l.drop (k+1))) else Lib.NumEnd.syntax):=by rw[hd];rfl
    rw[hF]at hdec;clear hF;have NX:∀n:Nat,n=acc*2+d→d<2→¬ 18446744073709551615<n→RowKit.Hid (a*2+(d:Int)=(n:Int)∧n≤18446744073709551615∧Pl.puM 2 18446744073709551615 0 l=Pl.puM 2 18446744073709551615 n (l.drop (k+1))):=by
     exact J112
    have SY:¬d<2→RowKit.Hid (Pl.puM 2 18446744073709551615 0 l=Lib.NumEnd.syntax):=by
     exact J130
    have RG:d<2→18446744073709551615<acc*2+d→RowKit.Hid (Pl.puM 2 18446744073709551615 0 l = .range):=by
     exact J126
    clear hdec;by_cases hdB:d<2
    · refine Z228 ?_;intro hdv;clear hd;unfold Pl.digV at hdv;by_cases hov:18446744073709551615<acc*2+d
      · have hR:=RG hdB hov;clear RG NX;have iov:9223372036854775808≤a:=by omega
        clear hov hacc ha;by_cases h48:48≤c.toNat∧c.toNat≤57
        · obtain⟨h1,h2⟩:=h48;rw[if_pos ⟨h1,h2⟩]at hdv;refine Z178 ?_;intro e1
          try rw[e1]at iov
          try rw[e1]at hR
          have hdi:(c.toNat:Int)-48<2:=by omega
          exact J43
        rw[if_neg h48]at hdv;by_cases h97:97≤c.toNat∧c.toNat≤122
        · have hlow:=low_lo c h97;rw[if_pos h97]at hdv;obtain⟨h1,h2⟩:=h97;clear h48;refine Z180 ?_;intro e1
          try rw[e1]at iov
          try rw[e1]at hR
          have hdi:(c.toNat:Int)-87<2:=by omega
          clear hdv hdB e1;exact J42
        rw[if_neg h97]at hdv;by_cases h65:65≤c.toNat∧c.toNat≤90
        · have hlow:=low_up c h65;rw[if_pos h65]at hdv;obtain⟨h1,h2⟩:=h65;clear h48 h97;refine Z179 ?_;intro e1
          try rw[e1]at iov
          try rw[e1]at hR
          have hdi:(c.toNat:Int)-55<2:=by omega
          clear hdv hdB e1;exact J42
        exact J20
      have hR:=NX _ rfl hdB hov;clear RG NX;have iov:a*2+(d:Int)≤18446744073709551615:=by omega
      have icut:a<9223372036854775808:=by omega
      clear hov hacc ha;by_cases h48:48≤c.toNat∧c.toNat≤57
      · obtain⟨h1,h2⟩:=h48;rw[if_pos ⟨h1,h2⟩]at hdv;refine Z178 ?_;intro e1
        try rw[e1]at iov
        try rw[e1]at hR
        have hdi:(c.toNat:Int)-48<2:=by omega
        exact J128
      rw[if_neg h48]at hdv;by_cases h97:97≤c.toNat∧c.toNat≤122
      · have hlow:=low_lo c h97;rw[if_pos h97]at hdv;obtain⟨h1,h2⟩:=h97;clear h48;refine Z180 ?_;intro e1
        try rw[e1]at iov
        try rw[e1]at hR
        have hdi:(c.toNat:Int)-87<2:=by omega
        exact J88
      rw[if_neg h97]at hdv;by_cases h65:65≤c.toNat∧c.toNat≤90
      · have hlow:=low_up c h65;rw[if_pos h65]at hdv;obtain⟨h1,h2⟩:=h65;clear h48 h97;refine Z179 ?_;intro e1
        try rw[e1]at iov
        try rw[e1]at hR
        have hdi:(c.toNat:Int)-55<2:=by omega
        exact J88
      exact J20
    exact J81
  have hkk:k=t.size:=by omega
  subst hkk;have hF:Pl.puM 2 18446744073709551615 acc (l.drop t.size) = .ok acc:=by rw[List.drop_eq_nil_of_le (by omega)];rfl
  exact J138
end Go.Proofs.YtfogfaagjpebcaaGreatDoor
