/-
 The walks and plain laws that the claim rests on, part 8.
-/
import Derived.Test.YtdgjgcepbkanhaaGreatDoorM01
import Derived.Test.YtdgjgcepbkanhaaGreatDoorM04
import Derived.Test.YtdgjgcepbkanhaaGreatDoorM05
import Derived.Test.YtdgjgcepbkanhaaGreatDoorM07
import Derived.Test.YtdgjgcepbkanhaaGreatDoorProg
import Derived.Lib.ParseIntBMem
import Derived.Lib.ConvBytes
import Derived.Laws.Strings3
import Derived.Laws.Closers25
import Derived.Laws.Closers25b
import Derived.BigCall
import Derived.BigGuard
import Derived.Lib.Hide
import Derived.Lib.SmallJoins
import Derived.Lib.OwnKind
import Derived.OwnWalk
import Derived.Lib.FrozenHead
set_option maxHeartbeats 16000000
set_option linter.all false
set_option linter.unusedVariables false
set_option linter.unusedSimpArgs false
namespace Go.Proofs.YtdgjgcepbkanhaaGreatDoor
open Go.RowKit
namespace Pl
def digV (c:Nat):Nat:=if 48≤c∧c≤57 then c-48 else if 97≤c∧c≤122 then c-87 else if 65≤c∧c≤90 then c-55 else 255
def puM (B M acc:Nat):List UInt8→Lib.NumEnd Nat
 | [] => .ok acc
 | c::r=>if digV c.toNat<B then (if M<acc*B+digV c.toNat then .range else puM B M (acc*B+digV c.toNat) r) else Lib.NumEnd.syntax
end Pl
theorem low_all:∀c:Fin 256,bits .or .u8 (c.val:Int) 32=(if 65≤c.val∧c.val≤90 then (c.val:Int)+32 else if 97≤c.val∧c.val≤122 then (c.val:Int) else bits .or .u8 (c.val:Int) 32)∧(¬(65≤c.val∧c.val≤90)→¬(97≤c.val∧c.val≤122)→¬(97≤bits .or .u8 (c.val:Int) 32∧bits .or .u8 (c.val:Int) 32≤122)):=by
 decide +kernel
theorem low_up (c:UInt8) (h:65≤c.toNat∧c.toNat≤90):bits .or .u8 (c.toNat:Int) 32=(c.toNat:Int)+32:=by
 have:=(low_all ⟨c.toNat,c.toNat_lt⟩).1
 simpa [h]using this
theorem low_lo (c:UInt8) (h:97≤c.toNat∧c.toNat≤122):bits .or .u8 (c.toNat:Int) 32=(c.toNat:Int):=by
 have:=(low_all ⟨c.toNat,c.toNat_lt⟩).1;have h2:¬(65≤c.toNat∧c.toNat≤90):=by omega
 simp only[h2,h,and_self,if_true,if_false]at this;exact this
theorem low_no (c:UInt8) (h:¬(65≤c.toNat∧c.toNat≤90)) (h2:¬(97≤c.toNat∧c.toNat≤122)):¬(97≤bits .or .u8 (c.toNat:Int) 32∧bits .or .u8 (c.toNat:Int) 32≤122) :=
 (low_all ⟨c.toNat,c.toNat_lt⟩).2 h h2
theorem lower_at (c v:Int) (h:bits .or .u8 c 32=v) (w:World) :
    Calls Tryz.prog 185 #[.int .u8 c] w fun e w'=>e = .returned (.int .u8 v)∧w'=w:=by
 go_enter Tryz.func185,Tryz.ntmps185
 go_wp2
 go_ret
 exact⟨by rw[←h];rfl,rfl⟩
set_option maxRecDepth 100000 in
theorem pu_16_8 (t:ByteArray) (hne:t.size≠0) (hmax:t.size≤9223372036854775806) (w:World) :
    Calls Tryz.prog 169 #[.string t,.int .i64 16,.int .i64 8] w fun e w'=>e = .returned (Lib.uintTupleM 234 255 (Pl.puM 16 255 0 t.data.toList))∧w'=Lib.bytesWorld w 5 t:=by
 have hemp:t.toList.isEmpty=false:=by
  rw[←decide_eq_emptyBytes];exact decide_eq_false (fun h=>hne (by rw[h];rfl))
 have hcv:=Lib.run_convert_string_bytes (P:=Tryz.prog) w 9 23 5 t (u := .string) (by kernel_rfl) (by kernel_rfl) (by kernel_rfl);have hB:∀j,j<t.size→(Lib.bytesWorld w 5 t).cell? ⟨w.heap.size,j,none⟩=some (.int .u8 (t.data.toList.getD j 0).toNat):=fun j hj=>Lib.bytesWorld_cell w 5 t j hj
 obtain⟨W1,hW1⟩:∃W1,W1=Lib.bytesWorld w 5 t:=⟨_,rfl⟩
 rw[←hW1]at hcv hB ⊢;clear hW1;obtain⟨l,hL⟩:∃l,l=t.data.toList:=⟨_,rfl⟩
 have hLn:l.length=t.size:=by rw[hL,Lib.size_eq]
 rw[←hL]at hB ⊢;clear hL;have hmv:IntKind.u64.wrap (IntKind.u64.wrap 256-1)=255:=by
  rw[IntKind.wrap_u64,IntKind.wrap_u64];decide
 go_enter Tryz.func169,Tryz.ntmps169
 go_wp2
 go_loop [12,13,101] (fun vu vn vi=>∃(k acc:Nat) (a:Int),vu = .bool false∧vn = .int .u64 a∧vi = .int .i64 k∧k≤t.size∧RowKit.Hid (a=(acc:Int)∧acc≤255∧Pl.puM 16 255 0 l=Pl.puM 16 255 acc (l.drop k)))
  (fun _ _ vi=>t.size-(intOf vi).toNat)
 case atStart=>exact⟨0,0,0,rfl,rfl,rfl,by omega,Lib.hid ⟨rfl,by omega,rfl⟩⟩
 case round =>
  obtain⟨k,acc,a,rfl,rfl,rfl,hk,hh⟩:=hrel;obtain⟨ha,hacc,hdec⟩:=hh.out;clear hh;have a0:0≤a:=by omega
  have a1:a≤255:=by omega
  by_cases hkn:k<t.size
  · have hc:=hB k hkn;have hdrop:l.drop k=l[k]'(by omega)::l.drop (k+1):=List.drop_eq_getElem_cons (by omega);have hget:l.getD k 0=l[k]'(by omega):=by simp[List.getD,List.getElem?_eq_getElem (show k<l.length by omega)]
    rw[hdrop]at hdec;rw[hget]at hc;generalize l[k]'(by omega)=c at hc hdec;have hc256:c.toNat<256:=c.toNat_lt;clear hB hdrop hget;obtain⟨d,hd⟩:∃d,d=Pl.digV c.toNat:=⟨_,rfl⟩
    have hF:Pl.puM 16 255 acc (c::l.drop (k+1))=(if d<16 then (if 255<acc*16+d then .range else Pl.puM 16 255 (acc*16+d) (l.drop (k+1))) else Lib.NumEnd.syntax):=by rw[hd];rfl
    rw[hF]at hdec;clear hF;have NX:∀n:Nat,n=acc*16+d→d<16→¬ 255<n→RowKit.Hid (a*16+(d:Int)=(n:Int)∧n≤255∧Pl.puM 16 255 0 l=Pl.puM 16 255 n (l.drop (k+1))):=by
     intro n hn h1 h2;subst hn;exact Lib.hid ⟨by omega,by omega,by rw[hdec];simp[h1,h2]⟩
    have SY:¬d<16→RowKit.Hid (Pl.puM 16 255 0 l=Lib.NumEnd.syntax):=by
     intro h1;exact Lib.hid (by rw[hdec];simp[h1])
    have RG:d<16→255<acc*16+d→RowKit.Hid (Pl.puM 16 255 0 l = .range):=by
     intro h1 h2;exact Lib.hid (by rw[hdec];simp[h1,h2])
    clear hdec;by_cases hdB:d<16
    · have SY:True:=trivial;clear SY;have hdv:d=Pl.digV c.toNat:=hd;clear hd;unfold Pl.digV at hdv;by_cases hov:255<acc*16+d
      · have hR:=RG hdB hov;clear RG NX;have iov:255<a*16+(d:Int):=by omega
        clear hov hacc ha;by_cases h48:48≤c.toNat∧c.toNat≤57
        · obtain⟨h1,h2⟩:=h48;rw[if_pos ⟨h1,h2⟩]at hdv;have e1:(d:Int)=(c.toNat:Int)-48:=by omega
          rw[e1]at iov;try rw[e1]at hR
          have hdi:(c.toNat:Int)-48<16:=by omega
          clear hdv hdB e1
          go_wp2
          go_ret2
          exact⟨by rw[hR.out];rfl,rfl⟩
        rw[if_neg h48]at hdv;by_cases h97:97≤c.toNat∧c.toNat≤122
        · have hlow:=low_lo c h97;rw[if_pos h97]at hdv;obtain⟨h1,h2⟩:=h97;clear h48;have e1:(d:Int)=(c.toNat:Int)-87:=by omega
          rw[e1]at iov;try rw[e1]at hR
          have hdi:(c.toNat:Int)-87<16:=by omega
          clear hdv hdB e1;go_wp2_with (refine (lower_at _ _ hlow _).mono ?_;rintro e w' ⟨rfl,rfl⟩)
          go_ret2
          exact⟨by rw[hR.out];rfl,rfl⟩
        rw[if_neg h97]at hdv;by_cases h65:65≤c.toNat∧c.toNat≤90
        · have hlow:=low_up c h65;rw[if_pos h65]at hdv;obtain⟨h1,h2⟩:=h65;clear h48 h97;have e1:(d:Int)=(c.toNat:Int)-55:=by omega
          rw[e1]at iov;try rw[e1]at hR
          have hdi:(c.toNat:Int)-55<16:=by omega
          clear hdv hdB e1;go_wp2_with (refine (lower_at _ _ hlow _).mono ?_;rintro e w' ⟨rfl,rfl⟩)
          go_ret2
          exact⟨by rw[hR.out];rfl,rfl⟩
        exfalso;rw[if_neg h65]at hdv;omega
      have hR:=NX _ rfl hdB hov;clear RG NX;have iov:a*16+(d:Int)≤255:=by omega
      clear hov hacc ha;by_cases h48:48≤c.toNat∧c.toNat≤57
      · obtain⟨h1,h2⟩:=h48;rw[if_pos ⟨h1,h2⟩]at hdv;have e1:(d:Int)=(c.toNat:Int)-48:=by omega
        rw[e1]at iov;try rw[e1]at hR
        have hdi:(c.toNat:Int)-48<16:=by omega
        clear hdv hdB e1
        go_wp2
        refine⟨⟨k+1,_,_,rfl,(by first|rfl|(congr 1;omega)),(by first|rfl|(congr 1;omega)),by omega,hR⟩,by simp[intOf];omega⟩
      rw[if_neg h48]at hdv;by_cases h97:97≤c.toNat∧c.toNat≤122
      · have hlow:=low_lo c h97;rw[if_pos h97]at hdv;obtain⟨h1,h2⟩:=h97;clear h48;have e1:(d:Int)=(c.toNat:Int)-87:=by omega
        rw[e1]at iov;try rw[e1]at hR
        have hdi:(c.toNat:Int)-87<16:=by omega
        clear hdv hdB e1;go_wp2_with (refine (lower_at _ _ hlow _).mono ?_;rintro e w' ⟨rfl,rfl⟩);refine⟨⟨k+1,_,_,rfl,(by first|rfl|(congr 1;omega)),(by first|rfl|(congr 1;omega)),by omega,hR⟩,by simp[intOf];omega⟩
      rw[if_neg h97]at hdv;by_cases h65:65≤c.toNat∧c.toNat≤90
      · have hlow:=low_up c h65;rw[if_pos h65]at hdv;obtain⟨h1,h2⟩:=h65;clear h48 h97;have e1:(d:Int)=(c.toNat:Int)-55:=by omega
        rw[e1]at iov;try rw[e1]at hR
        have hdi:(c.toNat:Int)-55<16:=by omega
        clear hdv hdB e1;go_wp2_with (refine (lower_at _ _ hlow _).mono ?_;rintro e w' ⟨rfl,rfl⟩);refine⟨⟨k+1,_,_,rfl,(by first|rfl|(congr 1;omega)),(by first|rfl|(congr 1;omega)),by omega,hR⟩,by simp[intOf];omega⟩
      exfalso;rw[if_neg h65]at hdv;omega
    have hR:=SY hdB;clear SY RG NX;unfold Pl.digV at hd;by_cases h48:48≤c.toNat∧c.toNat≤57
    · obtain⟨h1,h2⟩:=h48;rw[if_pos ⟨h1,h2⟩]at hd
      first
      | (exfalso;omega)
      | (subst hd
         go_wp2
         go_ret2
         exact⟨by rw[hR.out];rfl,rfl⟩)
    rw[if_neg h48]at hd;by_cases h97:97≤c.toNat∧c.toNat≤122
    · have hlow:=low_lo c h97;rw[if_pos h97]at hd;obtain⟨h1,h2⟩:=h97;clear h48;subst hd;go_wp2_with (refine (lower_at _ _ hlow _).mono ?_;rintro e w' ⟨rfl,rfl⟩)
      go_ret2
      exact⟨by rw[hR.out];rfl,rfl⟩
    rw[if_neg h97]at hd;by_cases h65:65≤c.toNat∧c.toNat≤90
    · have hlow:=low_up c h65;rw[if_pos h65]at hd;obtain⟨h1,h2⟩:=h65;clear h48 h97;subst hd;go_wp2_with (refine (lower_at _ _ hlow _).mono ?_;rintro e w' ⟨rfl,rfl⟩)
      go_ret2
      exact⟨by rw[hR.out];rfl,rfl⟩
    clear hd;by_cases h95:c.toNat=95
    · rw[h95]at hc;clear h48 h97 h65;go_wp2_with (refine (lower_at 95 127 (by decide +kernel) _).mono ?_;rintro e w' ⟨rfl,rfl⟩)
      go_ret2
      exact⟨by rw[hR.out];rfl,rfl⟩
    have hno:=low_no c h65 h97;have hv0:=bits_lo_u8 .or (c.toNat:Int) 32;have hv1:=bits_hi_u8 .or (c.toNat:Int) 32;obtain⟨v,hv⟩:∃v,bits .or .u8 (c.toNat:Int) 32=v:=⟨_,rfl⟩
    rw[hv]at hno hv0 hv1;have i48:¬((48:Int)≤c.toNat∧(c.toNat:Int)≤57):=by omega
    have i95:¬(c.toNat:Int)=95:=by omega
    clear h48 h97 h65 h95;go_wp2_with (refine (lower_at _ _ hv _).mono ?_;rintro e w' ⟨rfl,rfl⟩)
    all_goals go_ret2
    all_goals exact⟨by rw[hR.out];rfl,rfl⟩
  have hkk:k=t.size:=by omega
  subst hkk;have hF:Pl.puM 16 255 acc (l.drop t.size) = .ok acc:=by rw[List.drop_eq_nil_of_le (by omega)];rfl
  rw[hF]at hdec;subst ha;clear hacc hF a0 a1
  go_wp2
  go_ret2
  first|exact⟨rfl,rfl⟩|exact⟨by rw[hdec];rfl,rfl⟩
set_option maxRecDepth 100000 in
theorem pu_16_32 (t:ByteArray) (hne:t.size≠0) (hmax:t.size≤9223372036854775806) (w:World) :
    Calls Tryz.prog 169 #[.string t,.int .i64 16,.int .i64 32] w fun e w'=>e = .returned (Lib.uintTupleM 234 4294967295 (Pl.puM 16 4294967295 0 t.data.toList))∧w'=Lib.bytesWorld w 5 t:=by
 have hemp:t.toList.isEmpty=false:=by
  rw[←decide_eq_emptyBytes];exact decide_eq_false (fun h=>hne (by rw[h];rfl))
 have hcv:=Lib.run_convert_string_bytes (P:=Tryz.prog) w 9 23 5 t (u := .string) (by kernel_rfl) (by kernel_rfl) (by kernel_rfl);have hB:∀j,j<t.size→(Lib.bytesWorld w 5 t).cell? ⟨w.heap.size,j,none⟩=some (.int .u8 (t.data.toList.getD j 0).toNat):=fun j hj=>Lib.bytesWorld_cell w 5 t j hj
 obtain⟨W1,hW1⟩:∃W1,W1=Lib.bytesWorld w 5 t:=⟨_,rfl⟩
 rw[←hW1]at hcv hB ⊢;clear hW1;obtain⟨l,hL⟩:∃l,l=t.data.toList:=⟨_,rfl⟩
 have hLn:l.length=t.size:=by rw[hL,Lib.size_eq]
 rw[←hL]at hB ⊢;clear hL;have hmv:IntKind.u64.wrap (IntKind.u64.wrap 4294967296-1)=4294967295:=by
  rw[IntKind.wrap_u64,IntKind.wrap_u64];decide
 go_enter Tryz.func169,Tryz.ntmps169
 go_wp2
 go_loop [12,13,101] (fun vu vn vi=>∃(k acc:Nat) (a:Int),vu = .bool false∧vn = .int .u64 a∧vi = .int .i64 k∧k≤t.size∧RowKit.Hid (a=(acc:Int)∧acc≤4294967295∧Pl.puM 16 4294967295 0 l=Pl.puM 16 4294967295 acc (l.drop k)))
  (fun _ _ vi=>t.size-(intOf vi).toNat)
 case atStart=>exact⟨0,0,0,rfl,rfl,rfl,by omega,Lib.hid ⟨rfl,by omega,rfl⟩⟩
 case round =>
  obtain⟨k,acc,a,rfl,rfl,rfl,hk,hh⟩:=hrel;obtain⟨ha,hacc,hdec⟩:=hh.out;clear hh;have a0:0≤a:=by omega
  have a1:a≤4294967295:=by omega
  by_cases hkn:k<t.size
  · have hc:=hB k hkn;have hdrop:l.drop k=l[k]'(by omega)::l.drop (k+1):=List.drop_eq_getElem_cons (by omega);have hget:l.getD k 0=l[k]'(by omega):=by simp[List.getD,List.getElem?_eq_getElem (show k<l.length by omega)]
    rw[hdrop]at hdec;rw[hget]at hc;generalize l[k]'(by omega)=c at hc hdec;have hc256:c.toNat<256:=c.toNat_lt;clear hB hdrop hget;obtain⟨d,hd⟩:∃d,d=Pl.digV c.toNat:=⟨_,rfl⟩
    have hF:Pl.puM 16 4294967295 acc (c::l.drop (k+1))=(if d<16 then (if 4294967295<acc*16+d then .range else Pl.puM 16 4294967295 (acc*16+d) (l.drop (k+1))) else Lib.NumEnd.syntax):=by rw[hd];rfl
    rw[hF]at hdec;clear hF;have NX:∀n:Nat,n=acc*16+d→d<16→¬ 4294967295<n→RowKit.Hid (a*16+(d:Int)=(n:Int)∧n≤4294967295∧Pl.puM 16 4294967295 0 l=Pl.puM 16 4294967295 n (l.drop (k+1))):=by
     intro n hn h1 h2;subst hn;exact Lib.hid ⟨by omega,by omega,by rw[hdec];simp[h1,h2]⟩
    have SY:¬d<16→RowKit.Hid (Pl.puM 16 4294967295 0 l=Lib.NumEnd.syntax):=by
     intro h1;exact Lib.hid (by rw[hdec];simp[h1])
    have RG:d<16→4294967295<acc*16+d→RowKit.Hid (Pl.puM 16 4294967295 0 l = .range):=by
     intro h1 h2;exact Lib.hid (by rw[hdec];simp[h1,h2])
    clear hdec;by_cases hdB:d<16
    · have SY:True:=trivial;clear SY;have hdv:d=Pl.digV c.toNat:=hd;clear hd;unfold Pl.digV at hdv;by_cases hov:4294967295<acc*16+d
      · have hR:=RG hdB hov;clear RG NX;have iov:4294967295<a*16+(d:Int):=by omega
        clear hov hacc ha;by_cases h48:48≤c.toNat∧c.toNat≤57
        · obtain⟨h1,h2⟩:=h48;rw[if_pos ⟨h1,h2⟩]at hdv;have e1:(d:Int)=(c.toNat:Int)-48:=by omega
          rw[e1]at iov;try rw[e1]at hR
          have hdi:(c.toNat:Int)-48<16:=by omega
          clear hdv hdB e1
          go_wp2
          go_ret2
          exact⟨by rw[hR.out];rfl,rfl⟩
        rw[if_neg h48]at hdv;by_cases h97:97≤c.toNat∧c.toNat≤122
        · have hlow:=low_lo c h97;rw[if_pos h97]at hdv;obtain⟨h1,h2⟩:=h97;clear h48;have e1:(d:Int)=(c.toNat:Int)-87:=by omega
          rw[e1]at iov;try rw[e1]at hR
          have hdi:(c.toNat:Int)-87<16:=by omega
          clear hdv hdB e1;go_wp2_with (refine (lower_at _ _ hlow _).mono ?_;rintro e w' ⟨rfl,rfl⟩)
          go_ret2
          exact⟨by rw[hR.out];rfl,rfl⟩
        rw[if_neg h97]at hdv;by_cases h65:65≤c.toNat∧c.toNat≤90
        · have hlow:=low_up c h65;rw[if_pos h65]at hdv;obtain⟨h1,h2⟩:=h65;clear h48 h97;have e1:(d:Int)=(c.toNat:Int)-55:=by omega
          rw[e1]at iov;try rw[e1]at hR
          have hdi:(c.toNat:Int)-55<16:=by omega
          clear hdv hdB e1;go_wp2_with (refine (lower_at _ _ hlow _).mono ?_;rintro e w' ⟨rfl,rfl⟩)
          go_ret2
          exact⟨by rw[hR.out];rfl,rfl⟩
        exfalso;rw[if_neg h65]at hdv;omega
      have hR:=NX _ rfl hdB hov;clear RG NX;have iov:a*16+(d:Int)≤4294967295:=by omega
      clear hov hacc ha;by_cases h48:48≤c.toNat∧c.toNat≤57
      · obtain⟨h1,h2⟩:=h48;rw[if_pos ⟨h1,h2⟩]at hdv;have e1:(d:Int)=(c.toNat:Int)-48:=by omega
        rw[e1]at iov;try rw[e1]at hR
        have hdi:(c.toNat:Int)-48<16:=by omega
        clear hdv hdB e1
        go_wp2
        refine⟨⟨k+1,_,_,rfl,(by first|rfl|(congr 1;omega)),(by first|rfl|(congr 1;omega)),by omega,hR⟩,by simp[intOf];omega⟩
      rw[if_neg h48]at hdv;by_cases h97:97≤c.toNat∧c.toNat≤122
      · have hlow:=low_lo c h97;rw[if_pos h97]at hdv;obtain⟨h1,h2⟩:=h97;clear h48;have e1:(d:Int)=(c.toNat:Int)-87:=by omega
        rw[e1]at iov;try rw[e1]at hR
        have hdi:(c.toNat:Int)-87<16:=by omega
        clear hdv hdB e1;go_wp2_with (refine (lower_at _ _ hlow _).mono ?_;rintro e w' ⟨rfl,rfl⟩);refine⟨⟨k+1,_,_,rfl,(by first|rfl|(congr 1;omega)),(by first|rfl|(congr 1;omega)),by omega,hR⟩,by simp[intOf];omega⟩
      rw[if_neg h97]at hdv;by_cases h65:65≤c.toNat∧c.toNat≤90
      · have hlow:=low_up c h65;rw[if_pos h65]at hdv;obtain⟨h1,h2⟩:=h65;clear h48 h97;have e1:(d:Int)=(c.toNat:Int)-55:=by omega
        rw[e1]at iov;try rw[e1]at hR
        have hdi:(c.toNat:Int)-55<16:=by omega
        clear hdv hdB e1;go_wp2_with (refine (lower_at _ _ hlow _).mono ?_;rintro e w' ⟨rfl,rfl⟩);refine⟨⟨k+1,_,_,rfl,(by first|rfl|(congr 1;omega)),(by first|rfl|(congr 1;omega)),by omega,hR⟩,by simp[intOf];omega⟩
      exfalso;rw[if_neg h65]at hdv;omega
    have hR:=SY hdB;clear SY RG NX;unfold Pl.digV at hd;by_cases h48:48≤c.toNat∧c.toNat≤57
    · obtain⟨h1,h2⟩:=h48;rw[if_pos ⟨h1,h2⟩]at hd
      first
      | (exfalso;omega)
      | (subst hd
         go_wp2
         go_ret2
         exact⟨by rw[hR.out];rfl,rfl⟩)
    rw[if_neg h48]at hd;by_cases h97:97≤c.toNat∧c.toNat≤122
    · have hlow:=low_lo c h97;rw[if_pos h97]at hd;obtain⟨h1,h2⟩:=h97;clear h48;subst hd;go_wp2_with (refine (lower_at _ _ hlow _).mono ?_;rintro e w' ⟨rfl,rfl⟩)
      go_ret2
      exact⟨by rw[hR.out];rfl,rfl⟩
    rw[if_neg h97]at hd;by_cases h65:65≤c.toNat∧c.toNat≤90
    · have hlow:=low_up c h65;rw[if_pos h65]at hd;obtain⟨h1,h2⟩:=h65;clear h48 h97;subst hd;go_wp2_with (refine (lower_at _ _ hlow _).mono ?_;rintro e w' ⟨rfl,rfl⟩)
      go_ret2
      exact⟨by rw[hR.out];rfl,rfl⟩
    clear hd;by_cases h95:c.toNat=95
    · rw[h95]at hc;clear h48 h97 h65;go_wp2_with (refine (lower_at 95 127 (by decide +kernel) _).mono ?_;rintro e w' ⟨rfl,rfl⟩)
      go_ret2
      exact⟨by rw[hR.out];rfl,rfl⟩
    have hno:=low_no c h65 h97;have hv0:=bits_lo_u8 .or (c.toNat:Int) 32;have hv1:=bits_hi_u8 .or (c.toNat:Int) 32;obtain⟨v,hv⟩:∃v,bits .or .u8 (c.toNat:Int) 32=v:=⟨_,rfl⟩
    rw[hv]at hno hv0 hv1;have i48:¬((48:Int)≤c.toNat∧(c.toNat:Int)≤57):=by omega
    have i95:¬(c.toNat:Int)=95:=by omega
    clear h48 h97 h65 h95;go_wp2_with (refine (lower_at _ _ hv _).mono ?_;rintro e w' ⟨rfl,rfl⟩)
    all_goals go_ret2
    all_goals exact⟨by rw[hR.out];rfl,rfl⟩
  have hkk:k=t.size:=by omega
  subst hkk;have hF:Pl.puM 16 4294967295 acc (l.drop t.size) = .ok acc:=by rw[List.drop_eq_nil_of_le (by omega)];rfl
  rw[hF]at hdec;subst ha;clear hacc hF a0 a1
  go_wp2
  go_ret2
  first|exact⟨rfl,rfl⟩|exact⟨by rw[hdec];rfl,rfl⟩
end Go.Proofs.YtdgjgcepbkanhaaGreatDoor
namespace Go.Proofs.YtdgjgcepbkanhaaGreatDoor
open Go.RowKit
def EsV (w:World):Prop:=∃ev,w.cell? ⟨9,0,none⟩=some ev∧(ev = .nilIface∨∃te pe,ev = .iface te pe)
theorem EsV.gr {w w':World} (h:EsV w) (g:Gr w w'):EsV w':=by
 obtain⟨ev,h1,h2⟩:=h;exact⟨ev,(Below.cell g (p:=⟨9,0,none⟩) (Lib.lt_of_cell h1)).trans h1,h2⟩
theorem gr_bytesWorld (w:World) (T:TypeId) (s:ByteArray):Gr w (Lib.bytesWorld w T s):=Lib.bytesWorld_below _ _ _
namespace Pl
def isHex (c:UInt8):Bool:=decide (digV c.toNat<16)
def hexVal (l:List UInt8):Nat:=l.foldl (fun a c=>a*16+digV c.toNat) 0
theorem puM_hex (M:Nat) (l:List UInt8) (acc:Nat) (h:∀c∈l,isHex c=true) (hM:(acc+1)*16 ^ l.length≤M+1) :
    puM 16 M acc l = .ok (l.foldl (fun a c=>a*16+digV c.toNat) acc):=by
 induction l generalizing acc with
 | nil=>rfl
 | cons c l ih =>
  have hc:digV c.toNat<16:=by simpa [isHex]using h c (by simp)
  have hp:1≤16 ^ l.length:=Nat.pos_of_ne_zero (by simp);have h2:(acc*16+digV c.toNat+1)*16 ^ l.length≤M+1:=by
   refine Nat.le_trans ?_ hM;rw[List.length_cons,Nat.pow_succ,Nat.mul_comm (16 ^ l.length) 16,←Nat.mul_assoc];exact Nat.mul_le_mul_right _ (by omega)
  have h3:¬M<acc*16+digV c.toNat:=by
   have:=Nat.le_mul_of_pos_right (acc*16+digV c.toNat+1) hp;omega
  simp only[puM,hc,h3,if_true,if_false,List.foldl_cons];exact ih _ (fun d hd=>h d (List.mem_cons_of_mem _ hd)) h2
theorem puM_one (c:UInt8):puM 16 255 0 [c]=if isHex c then .ok (digV c.toNat) else Lib.NumEnd.syntax:=by
 by_cases h:digV c.toNat<16
 · have h3:¬ 255<digV c.toNat:=by omega
   simp[puM,isHex,h,h3]
 simp[puM,isHex,h]
theorem digV_lt {c:UInt8} (h:isHex c=true):digV c.toNat<16:=by simpa [isHex]using h
theorem foldHex_lt (l:List UInt8) (acc:Nat) (h:∀c∈l,isHex c=true):l.foldl (fun a c=>a*16+digV c.toNat) acc<(acc+1)*16 ^ l.length:=by
 induction l generalizing acc with
 | nil=>simp
 | cons c l ih =>
  have hc:=digV_lt (h c (by simp));simp only[List.foldl_cons];refine Nat.lt_of_lt_of_le (ih _ (fun d hd=>h d (List.mem_cons_of_mem _ hd))) ?_;rw[List.length_cons,Nat.pow_succ,Nat.mul_comm (16 ^ l.length) 16,←Nat.mul_assoc];exact Nat.mul_le_mul_right _ (by omega)
end Pl
set_option maxRecDepth 100000 in
theorem spu_one (t:ByteArray) (c:UInt8) (ht:bs t=[c]) (w:World) (hv:EsV w) :
    Calls Tryz.prog 226 #[.string t,.int .i64 16,.int .i64 8] w fun e w'=>Gr w w'∧∃n v,e = .returned (.tuple #[.int .u64 n,v])∧((Pl.isHex c=true→v = .nilIface)∧(Pl.isHex c=false→∃T p,v = .iface T (.pointer (some p)))):=by
 have hsz:t.size=1:=by rw[←bs_length,ht];rfl
 have hI:=pu_16_8 t (by omega) (by omega) w;rw[show t.data.toList=[c] from ht,Pl.puM_one]at hI;have hg:=gr_bytesWorld w 5 t;have hv1:=hv.gr hg;obtain⟨W1,hW1⟩:∃W1,W1=Lib.bytesWorld w 5 t:=⟨_,rfl⟩
 rw[←hW1]at hI hg hv1;clear hW1;by_cases hc:Pl.isHex c=true
 · rw[if_pos hc]at hI;have hI:Calls Tryz.prog 169 #[.string t,.int .i64 16,.int .i64 8] w fun e w'=>e = .returned (.tuple #[.int .u64 (Pl.digV c.toNat),.nilIface])∧w'=W1:=hI
   go_enter Tryz.func226,Tryz.ntmps226;go_wp2_with (refine hI.mono ?_;rintro e W1 ⟨rfl,rfl⟩)
   go_wp2
   go_ret2
   exact⟨hg,_,_,rfl,fun _=>rfl,fun e=>absurd (hc.symm.trans e) (by simp)⟩
 rw[if_neg hc]at hI;have hI:Calls Tryz.prog 169 #[.string t,.int .i64 16,.int .i64 8] w fun e w'=>e = .returned (.tuple #[.int .u64 0,.iface 234 (.int .i64 2)])∧w'=W1:=hI
 obtain⟨ev,hv2,hev⟩:=hv1;go_enter Tryz.func226,Tryz.ntmps226;go_wp2_with (refine hI.mono ?_);rintro e W1 ⟨rfl,rfl⟩;go_wp2_with (refine (Tryz.strconv_toError_syntax ⟨#[80,97,114,115,101,85,105,110,116]⟩ t 16 8 ev _ (by omega) hv2 hev).mono ?_);rintro e W2 ⟨N,rfl,h1,h2,h3⟩
 go_wp2
 go_ret2
 exact⟨Gr.trans hg h3,_,_,rfl,fun e=>absurd e hc,fun _=>⟨_,_,rfl⟩⟩
set_option maxRecDepth 100000 in
theorem spu_hex (t:ByteArray) (h0:t.size≠0) (h8:t.size≤8) (hh:∀c∈bs t,Pl.isHex c=true) (w:World) :
    Calls Tryz.prog 226 #[.string t,.int .i64 16,.int .i64 32] w fun e w'=>Gr w w'∧e = .returned (.tuple #[.int .u64 (Pl.hexVal (bs t)),.nilIface]):=by
 have hI:=pu_16_32 t h0 (by omega) w;rw[Pl.puM_hex _ _ _ hh (by
  have:16 ^ (bs t).length≤16 ^ 8:=Nat.pow_le_pow_right (by omega) (by rw[bs_length];exact h8);omega)]at hI
 have hg:=gr_bytesWorld w 5 t;obtain⟨W1,hW1⟩:∃W1,W1=Lib.bytesWorld w 5 t:=⟨_,rfl⟩
 rw[←hW1]at hI hg;clear hW1;have hI:Calls Tryz.prog 169 #[.string t,.int .i64 16,.int .i64 32] w fun e w'=>e = .returned (.tuple #[.int .u64 (Pl.hexVal (bs t)),.nilIface])∧w'=W1:=hI
 go_enter Tryz.func226,Tryz.ntmps226;go_wp2_with (refine hI.mono ?_;rintro e W1 ⟨rfl,rfl⟩)
 go_wp2
 go_ret2
 exact⟨hg,rfl⟩
end Go.Proofs.YtdgjgcepbkanhaaGreatDoor
namespace Go.Proofs.YtdgjgcepbkanhaaGreatDoor
open Go.RowKit
theorem clip_at (g o n cap:Nat) (h:n≤cap) (hc:cap≤9223372036854775807) (w:World) :
    Calls Tryz.prog 228 #[.slice (some ⟨g,o,none⟩) n cap] w fun e w'=>e = .returned (.slice (some ⟨g,o,none⟩) n n)∧w'=w:=by
 go_enter Tryz.func228,Tryz.ntmps228
 go_wp2
 go_ret
 exact⟨rfl,rfl⟩
theorem runeCells_pos (r:Int):0<(Lib.runeCells r).length:=by
 unfold Lib.runeCells Lib.encodeRuneZ;simp only[List.length_map];repeat' split
 all_goals simp
set_option maxRecDepth 100000 in
theorem put_one (b o c:Nat) (r:Nat) (hr:r≤1114111) (w:World) (hb:w.cell? ⟨b,o,none⟩=some (.int .i64 r)) :
    Calls Tryz.prog 227 #[.slice (some ⟨b,o,none⟩) 1 c] w fun e w'=>∃g cap,e = .returned (.slice (some ⟨g,0,none⟩) (Lib.runeCells r).length cap)∧w.heap.size≤g∧Gr w w' ∧
     ∀j u,(Lib.runeCells r)[j]?=some u→w'.cell? ⟨g,0+j,none⟩=some u:=by
 go_enter Tryz.func227,Tryz.ntmps227;go_wp2_with fail
 go_loopw [3,8] (fun v3 v8 wr=>(v8 = .int .i64 0∧v3 = .slice none 0 0∧wr=w)∨(v8 = .int .i64 1∧Gr w wr∧wr.ownsRow w.heap.size 5 1 v3 (Lib.runeCells r).length (Lib.runeCells r)))
  (fun _ v8 _=>1-(intOf v8).toNat)
 case atStart=>exact .inl ⟨rfl,rfl,rfl⟩
 case round =>
  rcases hrel with⟨rfl,rfl,rfl⟩|⟨rfl,hg,ho⟩
  · go_wp2_with fail;refine (Tryz.utf8_AppendRune_plain wr.heap.size (.slice none 0 0) 0 [] r (by omega) (by omega) wr ⟨by simp,.inl ⟨rfl,rfl⟩⟩ (by omega) (Nat.le_refl _)).mono ?_;rintro e w1 ⟨v',rfl,h1,o1,h2⟩;have hg:Gr wr w1:=by
     refine Below.mono (Below.trans (?_:Below wr.heap.size wr (wr.alloc o1)) ⟨h2.os,h2.tape,h2.output,h2.size,?_⟩) (Nat.le_refl _)
     · exact Below.alloc (Below.refl _ _) (Nat.le_refl _) _
     intro k hk;exact h2.block k (by simp;omega) (by simp[Value.ownBlock])
    simp at h1
    go_wp2
    exact⟨.inr ⟨rfl,hg,h1⟩,by simp[intOf]⟩
  obtain⟨g,cap,rfl,h0,h1⟩:=Go.Joins.ownsRow_form ho (runeCells_pos _);have hn:(Lib.runeCells r).length≤cap∧cap≤9223372036854775807:=by
   rcases ho.2 with⟨h2,_⟩|⟨g2,c2,_,h2,_,_,h3,h4,_⟩
   · cases h2
   cases h2;exact⟨h3,by simp[maxLen]at h4;omega⟩
  have hgl:w.heap.size≤g∧g<wr.heap.size:=(World.ownsRowF_of ho).lt g rfl;have hcs:=(World.ownsRowF_of ho).cells (g:=g) rfl;go_wp2_with fail;refine (clip_at g 0 _ cap hn.1 hn.2 wr).mono ?_;rintro e w1 ⟨rfl,rfl⟩
  go_wp2
  go_ret
  exact⟨g,_,rfl,hgl.1,hg,fun j u hj=>by have h9:=hcs j u hj;rcases j with _|j <;> simpa [Addr.add]using h9⟩
end Go.Proofs.YtdgjgcepbkanhaaGreatDoor
namespace Go.Proofs.YtdgjgcepbkanhaaGreatDoor
open Go.RowKit Go.Joins
namespace Pl
def hexRun:List UInt8→Nat→Nat
 | _,0=>0
 | [],_+1=>0
 | c::l,d+1=>if isHex c then hexRun l d+1 else 0
theorem hexRun_le (l:List UInt8) (d:Nat):hexRun l d≤d∧hexRun l d≤l.length:=by
 induction l generalizing d with
 | nil=>cases d <;> simp[hexRun]
 | cons c l ih =>
  cases d with
  | zero=>simp[hexRun]
  | succ d=>have:=ih d;simp only[hexRun];split <;> simp <;> omega
theorem hexRun_at (l:List UInt8) (d j:Nat) (hj:j≤hexRun l d):hexRun l d=j+hexRun (l.drop j) (d-j):=by
 induction l generalizing d j with
 | nil=>cases d <;> simp[hexRun]at hj <;> subst hj <;> simp[hexRun]
 | cons c l ih =>
  cases j with
  | zero=>simp
  | succ j =>
   cases d with
   | zero=>simp[hexRun]at hj
   | succ d =>
    simp only[hexRun]at hj ⊢
    split at hj
    · rename_i hc
      rw[if_pos hc,ih d j (by omega)];simp only[List.drop_succ_cons,Nat.add_sub_add_right];omega
    omega
theorem hexRun_all (l:List UInt8) (d:Nat) (h:hexRun l d=d):∀c∈l.take d,isHex c=true:=by
 induction l generalizing d with
 | nil=>simp
 | cons c l ih =>
  cases d with
  | zero=>simp
  | succ d =>
   simp only[hexRun]at h
   split at h
   · rename_i hc
     intro x hx;rw[List.take_succ_cons,List.mem_cons]at hx;rcases hx with rfl|hx
     · exact hc
     exact ih d (by omega) x hx
   omega
def unitAt (l:List UInt8) (p d:Nat):Out Nat :=
 if hexRun (l.drop p) d<d then .bad 3 (p+hexRun (l.drop p) d)
 else if Lib.validRune (hexVal ((l.drop p).take d)) then .ok (hexVal ((l.drop p).take d)) else .bad 3 p
def runeBytes (n:Nat):List UInt8:=(Lib.encodeRuneZ n).map fun x=>x.toNat.toUInt8
theorem unitAt_end (l:List UInt8) (p d j:Nat) (hj:j≤hexRun (l.drop p) d) (hd:j<d) (he:l.length≤p+j):unitAt l p d = .bad 3 (p+j):=by
 have h1:=hexRun_at _ _ _ hj;have h2:(l.drop p).drop j=[]:=by rw[List.drop_drop];exact List.drop_eq_nil_of_le (by omega)
 rw[h2]at h1;have h3:hexRun [] (d-j)=0:=by cases (d-j) <;> rfl
 have h4:hexRun (l.drop p) d=j:=by omega
 simp[unitAt,h4,hd]
theorem unitAt_step (l:List UInt8) (p d j:Nat) (hj:j≤hexRun (l.drop p) d) (hd:j<d) (c:UInt8) (r:List UInt8) (he:l.drop (p+j)=c::r) :
    (isHex c=true→j+1≤hexRun (l.drop p) d)∧(isHex c=false→unitAt l p d = .bad 3 (p+j)):=by
 have h1:=hexRun_at _ _ _ hj;rw[List.drop_drop,he]at h1;obtain⟨k,hk⟩:∃k,d-j=k+1:=⟨d-j-1,by omega⟩
 rw[hk]at h1;simp only[hexRun]at h1;constructor
 · intro hc;rw[if_pos hc]at h1;omega
 intro hc;rw[if_neg (by simp[hc])]at h1;have h4:hexRun (l.drop p) d=j:=by omega
 simp[unitAt,h4,hd]
end Pl
theorem bs_mid (s:ByteArray) (i k:Nat) (h:i≤k) (hk:k≤s.size):bs (s.extract i k)=((bs s).drop i).take (k-i):=by
 simp only[bs,Lib.extract_data]
set_option maxRecDepth 100000 in
theorem tq_unit (w:World) (R:Nat) (s:ByteArray) (a:Nat) (q:UInt8) (out:List UInt8) (ov:Value) (h:RdQ w R s a q out ov) (hv:EsV w)
    (d:Nat) (hd:d=4∨d=8) (hlt:a<s.size) (hs:s.size≤20000000) (hlen:out.length≤29000000) :
    Calls Tryz.prog 225 #[.pointer (some ⟨R,0,none⟩),.int .i64 d] w fun e w'=>match Pl.unitAt (bs s) (a+2) d with
     | .ok n=>e = .returned f0∧∃ov',RdQ w' R s (a+2+d) q (out++Pl.runeBytes n) ov'∧St (FQ R ov) (FQ R ov') w w'
     | .bad c p=>e = .returned (fv c p)∧St (FQ R ov) (FQ R ov) w w':=by
 obtain⟨X,hX⟩:∃X:Ending→World→Prop,X=fun e w'=>match Pl.unitAt (bs s) (a+2) d with
     | .ok n=>e = .returned f0∧∃ov',RdQ w' R s (a+2+d) q (out++Pl.runeBytes n) ov'∧St (FQ R ov) (FQ R ov') w w'
     | .bad c p=>e = .returned (fv c p)∧St (FQ R ov) (FQ R ov) w w':=⟨_,rfl⟩
 rw[←hX];have HX:=Lib.hid hX;obtain⟨c0,c1,c2,c3,fz⟩:=h.cells;have hR:=h.lt;have HS:=Lib.hid h;have HV:=Lib.hid hv;have hd8:d≤8:=by omega
 have hd4:4≤d:=by omega
 clear fz h hX c3 hv hd;go_enter Tryz.func225,Tryz.ntmps225;go_wp2_with fail
 go_loopw [6] (fun l wr=>∃j:Nat,l = .int .i64 ((a:Int)+2+j)∧j≤d∧j≤Pl.hexRun ((bs s).drop (a+2)) d∧Gr w wr∧w.heap.size+1≤wr.heap.size ∧
     wr.cell? ⟨w.heap.size,0,none⟩=some (.int .i64 0)∧wr.cell? ⟨w.heap.size,1,none⟩=some (.int .i64 0)∧wr.frozen? ⟨w.heap.size,0,none⟩=false∧wr.frozen? ⟨w.heap.size,1,none⟩=false)
  (fun l _=>a+2+d-(intOf l).toNat)
 case atStart =>
  refine⟨0,by simp,by omega,by omega,(Gr.refl w).alloc _,by simp,?_,?_,?_,?_⟩
  all_goals simp[go_sem]
 case round =>
  obtain⟨j,rfl,hj,hjr,hg,hz,m0,m1,m2,m3⟩:=hrel;have hr:=HS.out.gr hg;obtain⟨d0,d1,d2,d3,dz⟩:=hr.cells;have HR:=Lib.hid hr;have HG:=Lib.hid hg;clear hr hg d3 dz c0 c1 c2;by_cases hjd:j<d
  · by_cases hend:s.size≤a+2+j
    · have hU:=Lib.hid (Pl.unitAt_end (bs s) (a+2) d j hjr hjd (by rw[bs_length];exact hend));go_wp2_with fail;refine (tq_wrong _ (a+2+j) (by omega) _).mono ?_;rintro e w1 ⟨rfl,g1⟩;obtain⟨hc1,hf1,hz1⟩:=g1.use;have q0:w1.cell? ⟨w.heap.size,0,none⟩=some (.int .i64 0):=(hc1 _ _ (by omega)).trans m0;have q1:w1.cell? ⟨w.heap.size,1,none⟩=some (.int .i64 0):=(hc1 _ _ (by omega)).trans m1;have q2:w1.frozen? ⟨w.heap.size,0,none⟩=false:=(hf1 _ _ (by omega)).trans m2;have q3:w1.frozen? ⟨w.heap.size,1,none⟩=false:=(hf1 _ _ (by omega)).trans m3;clear hc1 hf1 m0 m1 m2 m3;go_wp2_with fail;refine bodyPost_ret (v:=fv 3 (a+2+j)) (by simp[results,Tryz.results225,go_sem,q0,q1]) rfl ?_;rw[HX.out,hU.out];have hst:St (FQ R ov) (FQ R ov) w w1:=((HG.out.trans g1)).st;exact⟨rfl,St.auto⟩
    have hin:a+2+j<s.size:=by omega
    obtain⟨u1,u2⟩:=Pl.unitAt_step (bs s) (a+2) d j hjr hjd s[a+2+j] _ (idx_bs s (a+2+j) hin);have ht:bs (s.extract (a+2+j) (a+2+j+1))=[s[a+2+j]]:=by
     rw[bs_mid s _ _ (by omega) (by omega),idx_bs s (a+2+j) hin];simp
    obtain⟨t,hte⟩:∃t,t=s.extract (a+2+j) (a+2+j+1):=⟨_,rfl⟩
    rw[←hte]at ht;go_wp2_with fail;rw[←hte];refine (spu_one t _ ht _ (HV.out.gr HG.out)).mono ?_;rintro e w1 ⟨g1,nn,vv,rfl,k1,k2⟩;cases hx:Pl.isHex s[a+2+j]
    · obtain⟨T,p,rfl⟩:=k2 hx;have hU:=Lib.hid (u2 hx);clear u1 u2 k1 k2 hte ht hx;obtain⟨hc1,hf1,hz1⟩:=g1.use;have n0:w1.cell? ⟨w.heap.size,0,none⟩=some (.int .i64 0):=(hc1 _ _ (by omega)).trans m0;have n1:w1.cell? ⟨w.heap.size,1,none⟩=some (.int .i64 0):=(hc1 _ _ (by omega)).trans m1;have n2:w1.frozen? ⟨w.heap.size,0,none⟩=false:=(hf1 _ _ (by omega)).trans m2;have n3:w1.frozen? ⟨w.heap.size,1,none⟩=false:=(hf1 _ _ (by omega)).trans m3;clear hc1 hf1 m0 m1 m2 m3;go_wp2_with fail;refine (tq_wrong _ (a+2+j) (by omega) _).mono ?_;rintro e w2 ⟨rfl,g2⟩;obtain⟨hc1,hf1,hz2⟩:=g2.use;have q0:w2.cell? ⟨w.heap.size,0,none⟩=some (.int .i64 0):=(hc1 _ _ (by omega)).trans n0;have q1:w2.cell? ⟨w.heap.size,1,none⟩=some (.int .i64 0):=(hc1 _ _ (by omega)).trans n1;have q2:w2.frozen? ⟨w.heap.size,0,none⟩=false:=(hf1 _ _ (by omega)).trans n2;have q3:w2.frozen? ⟨w.heap.size,1,none⟩=false:=(hf1 _ _ (by omega)).trans n3;clear hc1 hf1 n0 n1 n2 n3;go_wp2_with fail;refine bodyPost_ret (v:=fv 3 (a+2+j)) (by simp[results,Tryz.results225,go_sem,q0,q1]) rfl ?_;rw[HX.out,hU.out];have hst:St (FQ R ov) (FQ R ov) w w2:=(((HG.out.trans g1)).trans g2).st;exact⟨rfl,St.auto⟩
    obtain rfl:=k1 hx;have hj1:=u1 hx;clear u1 u2 k1 k2 hte ht hx;obtain⟨hc1,hf1,hz1⟩:=g1.use;have n0:w1.cell? ⟨w.heap.size,0,none⟩=some (.int .i64 0):=(hc1 _ _ (by omega)).trans m0;have n1:w1.cell? ⟨w.heap.size,1,none⟩=some (.int .i64 0):=(hc1 _ _ (by omega)).trans m1;have n2:w1.frozen? ⟨w.heap.size,0,none⟩=false:=(hf1 _ _ (by omega)).trans m2;have n3:w1.frozen? ⟨w.heap.size,1,none⟩=false:=(hf1 _ _ (by omega)).trans m3;clear hc1 hf1 m0 m1 m2 m3;go_wp2_with fail;refine⟨⟨j+1,(by first|rfl|(congr 1;omega)),by omega,hj1,HG.out.trans g1,by omega,n0,n1,n2,n3⟩,by simp[intOf];omega⟩
  obtain rfl:j=d:=by omega
  have hrl:=Pl.hexRun_le ((bs s).drop (a+2)) j;have hrd:Pl.hexRun ((bs s).drop (a+2)) j=j:=by omega
  have hle:a+2+j≤s.size:=by
   have:=hrl.2;rw[List.length_drop,bs_length]at this;omega
  have hall:=Pl.hexRun_all _ _ hrd;have ht:bs (s.extract (a+2) (a+2+j))=((bs s).drop (a+2)).take j:=by
   rw[bs_mid s _ _ (by omega) (by omega)];congr 1;omega
  have htz:(s.extract (a+2) (a+2+j)).size=j:=by simp;omega
  have hUA:Pl.unitAt (bs s) (a+2) j=if Lib.validRune (Pl.hexVal (bs (s.extract (a+2) (a+2+j)))) then .ok (Pl.hexVal (bs (s.extract (a+2) (a+2+j)))) else .bad 3 (a+2):=by
   rw[ht];simp[Pl.unitAt,hrd]
  have hvl:Pl.hexVal (bs (s.extract (a+2) (a+2+j)))<4294967296:=by
   have h1:=Pl.foldHex_lt _ 0 hall;rw[←ht]at h1;have h2:16 ^ (bs (s.extract (a+2) (a+2+j))).length≤16 ^ 8:=Nat.pow_le_pow_right (by omega) (by rw[bs_length,htz];exact hd8);have h3:Pl.hexVal (bs (s.extract (a+2) (a+2+j)))<(0+1)*16 ^ (bs (s.extract (a+2) (a+2+j))).length:=h1;omega
  rw[←ht]at hall;clear hrl hrd hjr ht;obtain⟨t,hte⟩:∃t,t=s.extract (a+2) (a+2+j):=⟨_,rfl⟩
  rw[←hte]at htz hUA hvl hall;go_wp2_with fail;rw[←hte];refine (spu_hex t (by omega) (by omega) hall _).mono ?_;rintro e w1 ⟨g1,rfl⟩;obtain⟨n,hn⟩:∃n,n=Pl.hexVal (bs t):=⟨_,rfl⟩
  rw[←hn]at hUA hvl ⊢;have HU:=Lib.hid hUA;clear hUA hall hte htz hn;obtain⟨hc1,hf1,hz1⟩:=g1.use;have n0:w1.cell? ⟨w.heap.size,0,none⟩=some (.int .i64 0):=(hc1 _ _ (by omega)).trans m0;have n1:w1.cell? ⟨w.heap.size,1,none⟩=some (.int .i64 0):=(hc1 _ _ (by omega)).trans m1;have n2:w1.frozen? ⟨w.heap.size,0,none⟩=false:=(hf1 _ _ (by omega)).trans m2;have n3:w1.frozen? ⟨w.heap.size,1,none⟩=false:=(hf1 _ _ (by omega)).trans m3;clear hc1 hf1 m0 m1 m2 m3;by_cases hbig:1114111<n
  · have hi:(1114111:Int)<n:=by omega
    have HVR:=Lib.hid (show Lib.validRune n=false by simp[Lib.validRune];omega);go_wp2_with fail;refine (tq_wrong _ (a+2) (by omega) _).mono ?_;rintro e w2 ⟨rfl,g2⟩;obtain⟨hc1,hf1,hz2⟩:=g2.use;have q0:w2.cell? ⟨w.heap.size,0,none⟩=some (.int .i64 0):=(hc1 _ _ (by omega)).trans n0;have q1:w2.cell? ⟨w.heap.size,1,none⟩=some (.int .i64 0):=(hc1 _ _ (by omega)).trans n1;have q2:w2.frozen? ⟨w.heap.size,0,none⟩=false:=(hf1 _ _ (by omega)).trans n2;have q3:w2.frozen? ⟨w.heap.size,1,none⟩=false:=(hf1 _ _ (by omega)).trans n3;clear hc1 hf1 n0 n1 n2 n3;go_wp2_with fail;refine bodyPost_ret (v:=fv 3 (a+2)) (by simp[results,Tryz.results225,go_sem,q0,q1]) rfl ?_;rw[HX.out,HU.out,HVR.out];have hst:St (FQ R ov) (FQ R ov) w w2:=(((HG.out.trans g1)).trans g2).st;exact⟨rfl,St.auto⟩
  have hi:(n:Int)≤1114111:=by omega
  go_wp2_with fail;refine (Tryz.utf8_ValidRune n w1).mono ?_;rintro e w1 ⟨rfl,rfl⟩;cases hvr:Lib.validRune n
  · have HVR:=Lib.hid hvr;clear hvr;go_wp2_with fail;refine (tq_wrong _ (a+2) (by omega) _).mono ?_;rintro e w2 ⟨rfl,g2⟩;obtain⟨hc1,hf1,hz2⟩:=g2.use;have q0:w2.cell? ⟨w.heap.size,0,none⟩=some (.int .i64 0):=(hc1 _ _ (by omega)).trans n0;have q1:w2.cell? ⟨w.heap.size,1,none⟩=some (.int .i64 0):=(hc1 _ _ (by omega)).trans n1;have q2:w2.frozen? ⟨w.heap.size,0,none⟩=false:=(hf1 _ _ (by omega)).trans n2;have q3:w2.frozen? ⟨w.heap.size,1,none⟩=false:=(hf1 _ _ (by omega)).trans n3;clear hc1 hf1 n0 n1 n2 n3;go_wp2_with fail;refine bodyPost_ret (v:=fv 3 (a+2)) (by simp[results,Tryz.results225,go_sem,q0,q1]) rfl ?_;rw[HX.out,HU.out,HVR.out];have hst:St (FQ R ov) (FQ R ov) w w2:=(((HG.out.trans g1)).trans g2).st;exact⟨rfl,St.auto⟩
  have HVR:=Lib.hid hvr;clear hvr;have hw:IntKind.i64.wrap (n:Int)=(n:Int):=by rw[IntKind.wrap_i64];omega
  clear hvl hbig
  rename_i K1 b1 K2 b2 K3 b3
  refine b3 _ _ ?_;clear b3 K3;have B2:=Lib.hid b2;have B1:=Lib.hid b1;clear b2 b1;go_wp2_with fail;refine B2.out _ _ ?_;have hdb:decide ((1114111:Int)<(n:Int))=false:=decide_eq_false (by omega);simp only[hdb];clear hdb;go_wp2_with fail;refine B1.out _ _ ?_;clear B1 B2;have hrb:(Pl.runeBytes n).map byteV=Lib.runeCells n:=Lib.byteCells_encodeRune n;have hrl:(Lib.runeCells n).length=(Pl.runeBytes n).length:=Lib.runeCells_length n;have hrle:=Lib.runeCells_le n;have hne:Pl.runeBytes n≠[]:=by intro e;rw[hrl,e]at hrle;simp at hrle
  rw[hrl]at hrle;obtain⟨rb,hrbe⟩:∃rb,rb=Pl.runeBytes n:=⟨_,rfl⟩
  rw[←hrbe]at hrb hrl hrle hne;have HB:=Lib.hid hrb;have HL:=Lib.hid hrl;have HN:=Lib.hid hne;have HE:=Lib.hid hrbe;clear hrb hrl hne hrbe;go_wp2_with fail;refine (put_one w1.heap.size 0 1 n (by omega) _ (by simp[go_sem])).mono ?_;rintro e w2 ⟨gb,cap,rfl,hgb,g2,hcell⟩;rw[HL.out];rw[←HB.out]at hcell;have g12:Gr w1 w2:=((Gr.refl _).alloc _).trans g2;obtain⟨hc1,hf1,hz2⟩:=g12.use;simp at hgb;have q0:w2.cell? ⟨w.heap.size,0,none⟩=some (.int .i64 0):=(hc1 _ _ (by omega)).trans n0;have q1:w2.cell? ⟨w.heap.size,1,none⟩=some (.int .i64 0):=(hc1 _ _ (by omega)).trans n1;have q2:w2.frozen? ⟨w.heap.size,0,none⟩=false:=(hf1 _ _ (by omega)).trans n2;have q3:w2.frozen? ⟨w.heap.size,1,none⟩=false:=(hf1 _ _ (by omega)).trans n3;have HC:=Lib.hid hcell;have HT:=Lib.hid g12;have HT1:=Lib.hid g1;clear hc1 hf1 n0 n1 n2 n3 hcell g12 g1 g2;go_wp2_with fail;refine (tq_take _ R s a q out ov ((HR.out.gr HT1.out).gr HT.out) _ (2+j) (by simp) (by omega) rb gb 0 cap HN.out (by omega) HC.out (by omega)).mono ?_;rintro e w3 ⟨rfl,ov',hr,hst⟩;have hb3:=hst.use w.heap.size (by omega) (fun hF=>by have:=HS.out.own_lt hF;omega);have hz:=hst.size;obtain⟨hc1,hf1⟩:=hb3;have HR3:=Lib.hid hr;have HST:=Lib.hid hst;have r0:w3.cell? ⟨w.heap.size,0,none⟩=some (.int .i64 0):=(hc1 _).trans q0;have r1:w3.cell? ⟨w.heap.size,1,none⟩=some (.int .i64 0):=(hc1 _).trans q1;have r2:w3.frozen? ⟨w.heap.size,0,none⟩=false:=(hf1 _).trans q2;have r3:w3.frozen? ⟨w.heap.size,1,none⟩=false:=(hf1 _).trans q3;clear hr hst hc1 hf1 q0 q1 q2 q3;go_wp2_with fail;refine bodyPost_ret (v:=f0) (by simp[results,Tryz.results225,go_sem,r0,r1]) rfl ?_;rw[HX.out,HU.out,HVR.out,if_pos rfl];refine⟨rfl,ov',?_,?_⟩
  · have hn3:¬FQ R ov' w.heap.size:=fun hF=>by
     rcases HST.out.own _ hF with hF|hF
     · have:=HS.out.own_lt hF;omega
     omega
    have e1:a+(2+j)=a+2+j:=by omega
    have hrd:=HR3.out;rw[e1,HE.out]at hrd;exact RdQ.auto hrd
  have hst0:St (FQ R ov) (FQ R ov') w w3:=((HG.out.trans (HT1.out.trans HT.out)).st).trans HST.out;have hst:=hst0;exact St.auto
end Go.Proofs.YtdgjgcepbkanhaaGreatDoor
