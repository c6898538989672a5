/-
 The walks and plain laws that the claim rests on, part 9.
-/
import Derived.Test.YtkplelejagpkmaaGreatDoorP02
import Derived.Test.YtkplelejagpkmaaGreatDoorP03
import Derived.Test.YtkplelejagpkmaaGreatDoorProg
import Derived.Lib.ParseIntBMem
import Derived.Lib.ConvBytes
import Derived.Laws.Strings3
import Derived.Laws.Closers25
import Derived.Laws.Closers25b
import Derived.BigCall
import Derived.BigGuard
import Derived.Lib.Hide
set_option maxHeartbeats 16000000
set_option linter.all false
set_option linter.unusedVariables false
set_option linter.unusedSimpArgs false
namespace Go.Proofs.YtkplelejagpkmaaGreatDoor
open Go.RowKit
namespace Pl
def digV (c:Nat):Nat:=if 48≤c∧c≤57 then c-48 else if 97≤c∧c≤122 then c-87 else if 65≤c∧c≤90 then c-55 else 255
def puM (B M acc:Nat):List UInt8→Lib.NumEnd Nat
 | [] => .ok acc
 | c::r=>if digV c.toNat<B then (if M<acc*B+digV c.toNat then .range else puM B M (acc*B+digV c.toNat) r) else Lib.NumEnd.syntax
end Pl
theorem low_all:∀c:Fin 256,bits .or .u8 (c.val:Int) 32=(if 65≤c.val∧c.val≤90 then (c.val:Int)+32 else if 97≤c.val∧c.val≤122 then (c.val:Int) else bits .or .u8 (c.val:Int) 32)∧(¬(65≤c.val∧c.val≤90)→¬(97≤c.val∧c.val≤122)→¬(97≤bits .or .u8 (c.val:Int) 32∧bits .or .u8 (c.val:Int) 32≤122)):=by
 decide +kernel
theorem low_up (c:UInt8) (h:65≤c.toNat∧c.toNat≤90):bits .or .u8 (c.toNat:Int) 32=(c.toNat:Int)+32:=by
 have:=(low_all ⟨c.toNat,c.toNat_lt⟩).1
 simpa [h]using this
theorem low_lo (c:UInt8) (h:97≤c.toNat∧c.toNat≤122):bits .or .u8 (c.toNat:Int) 32=(c.toNat:Int):=by
 have:=(low_all ⟨c.toNat,c.toNat_lt⟩).1;have h2:¬(65≤c.toNat∧c.toNat≤90):=by omega
 simp only[h2,h,and_self,if_true,if_false]at this;exact this
theorem low_no (c:UInt8) (h:¬(65≤c.toNat∧c.toNat≤90)) (h2:¬(97≤c.toNat∧c.toNat≤122)):¬(97≤bits .or .u8 (c.toNat:Int) 32∧bits .or .u8 (c.toNat:Int) 32≤122) :=
 (low_all ⟨c.toNat,c.toNat_lt⟩).2 h h2
theorem lower_at (c v:Int) (h:bits .or .u8 c 32=v) (w:World) :
    Calls Tryz.prog 173 #[.int .u8 c] w fun e w'=>e = .returned (.int .u8 v)∧w'=w:=by
 go_enter Tryz.func173,Tryz.ntmps173
 go_wp2
 go_ret
 exact⟨by rw[←h];rfl,rfl⟩
set_option maxRecDepth 100000 in
theorem pu_16_8 (t:ByteArray) (hne:t.size≠0) (hmax:t.size≤9223372036854775806) (w:World) :
    Calls Tryz.prog 152 #[.string t,.int .i64 16,.int .i64 8] w fun e w'=>e = .returned (Lib.uintTupleM 214 255 (Pl.puM 16 255 0 t.data.toList))∧w'=Lib.bytesWorld w 5 t:=by
 have hemp:t.toList.isEmpty=false:=by
  rw[←decide_eq_emptyBytes];exact decide_eq_false (fun h=>hne (by rw[h];rfl))
 have hcv:=Lib.run_convert_string_bytes (P:=Tryz.prog) w 9 23 5 t (u := .string) (by kernel_rfl) (by kernel_rfl) (by kernel_rfl);have hB:∀j,j<t.size→(Lib.bytesWorld w 5 t).cell? ⟨w.heap.size,j,none⟩=some (.int .u8 (t.data.toList.getD j 0).toNat):=fun j hj=>Lib.bytesWorld_cell w 5 t j hj
 obtain⟨W1,hW1⟩:∃W1,W1=Lib.bytesWorld w 5 t:=⟨_,rfl⟩
 rw[←hW1]at hcv hB ⊢;clear hW1;obtain⟨l,hL⟩:∃l,l=t.data.toList:=⟨_,rfl⟩
 have hLn:l.length=t.size:=by rw[hL,Lib.size_eq]
 rw[←hL]at hB ⊢;clear hL;have hmv:IntKind.u64.wrap (IntKind.u64.wrap 256-1)=255:=by
  rw[IntKind.wrap_u64,IntKind.wrap_u64];decide
 go_enter Tryz.func152,Tryz.ntmps152
 go_wp2
 go_loop [12,13,101] (fun vu vn vi=>∃(k acc:Nat) (a:Int),vu = .bool false∧vn = .int .u64 a∧vi = .int .i64 k∧k≤t.size∧RowKit.Hid (a=(acc:Int)∧acc≤255∧Pl.puM 16 255 0 l=Pl.puM 16 255 acc (l.drop k)))
  (fun _ _ vi=>t.size-(intOf vi).toNat)
 case atStart=>exact⟨0,0,0,rfl,rfl,rfl,by omega,Lib.hid ⟨rfl,by omega,rfl⟩⟩
 case round =>
  obtain⟨k,acc,a,rfl,rfl,rfl,hk,hh⟩:=hrel;obtain⟨ha,hacc,hdec⟩:=hh.out;clear hh;have a0:0≤a:=by omega
  have a1:a≤255:=by omega
  by_cases hkn:k<t.size
  · have hc:=hB k hkn;have hdrop:l.drop k=l[k]'(by omega)::l.drop (k+1):=List.drop_eq_getElem_cons (by omega);have hget:l.getD k 0=l[k]'(by omega):=by simp[List.getD,List.getElem?_eq_getElem (show k<l.length by omega)]
    rw[hdrop]at hdec;rw[hget]at hc;generalize l[k]'(by omega)=c at hc hdec;have hc256:c.toNat<256:=c.toNat_lt;clear hB hdrop hget;obtain⟨d,hd⟩:∃d,d=Pl.digV c.toNat:=⟨_,rfl⟩
    have hF:Pl.puM 16 255 acc (c::l.drop (k+1))=(if d<16 then (if 255<acc*16+d then .range else Pl.puM 16 255 (acc*16+d) (l.drop (k+1))) else Lib.NumEnd.syntax):=by rw[hd];rfl
    rw[hF]at hdec;clear hF;have NX:∀n:Nat,n=acc*16+d→d<16→¬ 255<n→RowKit.Hid (a*16+(d:Int)=(n:Int)∧n≤255∧Pl.puM 16 255 0 l=Pl.puM 16 255 n (l.drop (k+1))):=by
     intro n hn h1 h2;subst hn;exact Lib.hid ⟨by omega,by omega,by rw[hdec];simp[h1,h2]⟩
    have SY:¬d<16→RowKit.Hid (Pl.puM 16 255 0 l=Lib.NumEnd.syntax):=by
     intro h1;exact Lib.hid (by rw[hdec];simp[h1])
    have RG:d<16→255<acc*16+d→RowKit.Hid (Pl.puM 16 255 0 l = .range):=by
     intro h1 h2;exact Lib.hid (by rw[hdec];simp[h1,h2])
    clear hdec;by_cases hdB:d<16
    · have SY:True:=trivial;clear SY;have hdv:d=Pl.digV c.toNat:=hd;clear hd;unfold Pl.digV at hdv;by_cases hov:255<acc*16+d
      · have hR:=RG hdB hov;clear RG NX;have iov:255<a*16+(d:Int):=by omega
        clear hov hacc ha;by_cases h48:48≤c.toNat∧c.toNat≤57
        · obtain⟨h1,h2⟩:=h48;rw[if_pos ⟨h1,h2⟩]at hdv;have e1:(d:Int)=(c.toNat:Int)-48:=by omega
          rw[e1]at iov;try rw[e1]at hR
          have hdi:(c.toNat:Int)-48<16:=by omega
          clear hdv hdB e1
          go_wp2
          go_ret2
          exact⟨by rw[hR.out];rfl,rfl⟩
        rw[if_neg h48]at hdv;by_cases h97:97≤c.toNat∧c.toNat≤122
        · have hlow:=low_lo c h97;rw[if_pos h97]at hdv;obtain⟨h1,h2⟩:=h97;clear h48;have e1:(d:Int)=(c.toNat:Int)-87:=by omega
          rw[e1]at iov;try rw[e1]at hR
          have hdi:(c.toNat:Int)-87<16:=by omega
          clear hdv hdB e1;go_wp2_with (refine (lower_at _ _ hlow _).mono ?_;rintro e w' ⟨rfl,rfl⟩)
          go_ret2
          exact⟨by rw[hR.out];rfl,rfl⟩
        rw[if_neg h97]at hdv;by_cases h65:65≤c.toNat∧c.toNat≤90
        · have hlow:=low_up c h65;rw[if_pos h65]at hdv;obtain⟨h1,h2⟩:=h65;clear h48 h97;have e1:(d:Int)=(c.toNat:Int)-55:=by omega
          rw[e1]at iov;try rw[e1]at hR
          have hdi:(c.toNat:Int)-55<16:=by omega
          clear hdv hdB e1;go_wp2_with (refine (lower_at _ _ hlow _).mono ?_;rintro e w' ⟨rfl,rfl⟩)
          go_ret2
          exact⟨by rw[hR.out];rfl,rfl⟩
        exfalso;rw[if_neg h65]at hdv;omega
      have hR:=NX _ rfl hdB hov;clear RG NX;have iov:a*16+(d:Int)≤255:=by omega
      clear hov hacc ha;by_cases h48:48≤c.toNat∧c.toNat≤57
      · obtain⟨h1,h2⟩:=h48;rw[if_pos ⟨h1,h2⟩]at hdv;have e1:(d:Int)=(c.toNat:Int)-48:=by omega
        rw[e1]at iov;try rw[e1]at hR
        have hdi:(c.toNat:Int)-48<16:=by omega
        clear hdv hdB e1
        go_wp2
        refine⟨⟨k+1,_,_,rfl,(by first|rfl|(congr 1;omega)),(by first|rfl|(congr 1;omega)),by omega,hR⟩,by simp[intOf];omega⟩
      rw[if_neg h48]at hdv;by_cases h97:97≤c.toNat∧c.toNat≤122
      · have hlow:=low_lo c h97;rw[if_pos h97]at hdv;obtain⟨h1,h2⟩:=h97;clear h48;have e1:(d:Int)=(c.toNat:Int)-87:=by omega
        rw[e1]at iov;try rw[e1]at hR
        have hdi:(c.toNat:Int)-87<16:=by omega
        clear hdv hdB e1;go_wp2_with (refine (lower_at _ _ hlow _).mono ?_;rintro e w' ⟨rfl,rfl⟩);refine⟨⟨k+1,_,_,rfl,(by first|rfl|(congr 1;omega)),(by first|rfl|(congr 1;omega)),by omega,hR⟩,by simp[intOf];omega⟩
      rw[if_neg h97]at hdv;by_cases h65:65≤c.toNat∧c.toNat≤90
      · have hlow:=low_up c h65;rw[if_pos h65]at hdv;obtain⟨h1,h2⟩:=h65;clear h48 h97;have e1:(d:Int)=(c.toNat:Int)-55:=by omega
        rw[e1]at iov;try rw[e1]at hR
        have hdi:(c.toNat:Int)-55<16:=by omega
        clear hdv hdB e1;go_wp2_with (refine (lower_at _ _ hlow _).mono ?_;rintro e w' ⟨rfl,rfl⟩);refine⟨⟨k+1,_,_,rfl,(by first|rfl|(congr 1;omega)),(by first|rfl|(congr 1;omega)),by omega,hR⟩,by simp[intOf];omega⟩
      exfalso;rw[if_neg h65]at hdv;omega
    have hR:=SY hdB;clear SY RG NX;unfold Pl.digV at hd;by_cases h48:48≤c.toNat∧c.toNat≤57
    · obtain⟨h1,h2⟩:=h48;rw[if_pos ⟨h1,h2⟩]at hd
      first
      | (exfalso;omega)
      | (subst hd
         go_wp2
         go_ret2
         exact⟨by rw[hR.out];rfl,rfl⟩)
    rw[if_neg h48]at hd;by_cases h97:97≤c.toNat∧c.toNat≤122
    · have hlow:=low_lo c h97;rw[if_pos h97]at hd;obtain⟨h1,h2⟩:=h97;clear h48;subst hd;go_wp2_with (refine (lower_at _ _ hlow _).mono ?_;rintro e w' ⟨rfl,rfl⟩)
      go_ret2
      exact⟨by rw[hR.out];rfl,rfl⟩
    rw[if_neg h97]at hd;by_cases h65:65≤c.toNat∧c.toNat≤90
    · have hlow:=low_up c h65;rw[if_pos h65]at hd;obtain⟨h1,h2⟩:=h65;clear h48 h97;subst hd;go_wp2_with (refine (lower_at _ _ hlow _).mono ?_;rintro e w' ⟨rfl,rfl⟩)
      go_ret2
      exact⟨by rw[hR.out];rfl,rfl⟩
    clear hd;by_cases h95:c.toNat=95
    · rw[h95]at hc;clear h48 h97 h65;go_wp2_with (refine (lower_at 95 127 (by decide +kernel) _).mono ?_;rintro e w' ⟨rfl,rfl⟩)
      go_ret2
      exact⟨by rw[hR.out];rfl,rfl⟩
    have hno:=low_no c h65 h97;have hv0:=bits_lo_u8 .or (c.toNat:Int) 32;have hv1:=bits_hi_u8 .or (c.toNat:Int) 32;obtain⟨v,hv⟩:∃v,bits .or .u8 (c.toNat:Int) 32=v:=⟨_,rfl⟩
    rw[hv]at hno hv0 hv1;have i48:¬((48:Int)≤c.toNat∧(c.toNat:Int)≤57):=by omega
    have i95:¬(c.toNat:Int)=95:=by omega
    clear h48 h97 h65 h95;go_wp2_with (refine (lower_at _ _ hv _).mono ?_;rintro e w' ⟨rfl,rfl⟩)
    all_goals go_ret2
    all_goals exact⟨by rw[hR.out];rfl,rfl⟩
  have hkk:k=t.size:=by omega
  subst hkk;have hF:Pl.puM 16 255 acc (l.drop t.size) = .ok acc:=by rw[List.drop_eq_nil_of_le (by omega)];rfl
  rw[hF]at hdec;subst ha;clear hacc hF a0 a1
  go_wp2
  go_ret2
  first|exact⟨rfl,rfl⟩|exact⟨by rw[hdec];rfl,rfl⟩
set_option maxRecDepth 100000 in
theorem pu_16_32 (t:ByteArray) (hne:t.size≠0) (hmax:t.size≤9223372036854775806) (w:World) :
    Calls Tryz.prog 152 #[.string t,.int .i64 16,.int .i64 32] w fun e w'=>e = .returned (Lib.uintTupleM 214 4294967295 (Pl.puM 16 4294967295 0 t.data.toList))∧w'=Lib.bytesWorld w 5 t:=by
 have hemp:t.toList.isEmpty=false:=by
  rw[←decide_eq_emptyBytes];exact decide_eq_false (fun h=>hne (by rw[h];rfl))
 have hcv:=Lib.run_convert_string_bytes (P:=Tryz.prog) w 9 23 5 t (u := .string) (by kernel_rfl) (by kernel_rfl) (by kernel_rfl);have hB:∀j,j<t.size→(Lib.bytesWorld w 5 t).cell? ⟨w.heap.size,j,none⟩=some (.int .u8 (t.data.toList.getD j 0).toNat):=fun j hj=>Lib.bytesWorld_cell w 5 t j hj
 obtain⟨W1,hW1⟩:∃W1,W1=Lib.bytesWorld w 5 t:=⟨_,rfl⟩
 rw[←hW1]at hcv hB ⊢;clear hW1;obtain⟨l,hL⟩:∃l,l=t.data.toList:=⟨_,rfl⟩
 have hLn:l.length=t.size:=by rw[hL,Lib.size_eq]
 rw[←hL]at hB ⊢;clear hL;have hmv:IntKind.u64.wrap (IntKind.u64.wrap 4294967296-1)=4294967295:=by
  rw[IntKind.wrap_u64,IntKind.wrap_u64];decide
 go_enter Tryz.func152,Tryz.ntmps152
 go_wp2
 go_loop [12,13,101] (fun vu vn vi=>∃(k acc:Nat) (a:Int),vu = .bool false∧vn = .int .u64 a∧vi = .int .i64 k∧k≤t.size∧RowKit.Hid (a=(acc:Int)∧acc≤4294967295∧Pl.puM 16 4294967295 0 l=Pl.puM 16 4294967295 acc (l.drop k)))
  (fun _ _ vi=>t.size-(intOf vi).toNat)
 case atStart=>exact⟨0,0,0,rfl,rfl,rfl,by omega,Lib.hid ⟨rfl,by omega,rfl⟩⟩
 case round =>
  obtain⟨k,acc,a,rfl,rfl,rfl,hk,hh⟩:=hrel;obtain⟨ha,hacc,hdec⟩:=hh.out;clear hh;have a0:0≤a:=by omega
  have a1:a≤4294967295:=by omega
  by_cases hkn:k<t.size
  · have hc:=hB k hkn;have hdrop:l.drop k=l[k]'(by omega)::l.drop (k+1):=List.drop_eq_getElem_cons (by omega);have hget:l.getD k 0=l[k]'(by omega):=by simp[List.getD,List.getElem?_eq_getElem (show k<l.length by omega)]
    rw[hdrop]at hdec;rw[hget]at hc;generalize l[k]'(by omega)=c at hc hdec;have hc256:c.toNat<256:=c.toNat_lt;clear hB hdrop hget;obtain⟨d,hd⟩:∃d,d=Pl.digV c.toNat:=⟨_,rfl⟩
    have hF:Pl.puM 16 4294967295 acc (c::l.drop (k+1))=(if d<16 then (if 4294967295<acc*16+d then .range else Pl.puM 16 4294967295 (acc*16+d) (l.drop (k+1))) else Lib.NumEnd.syntax):=by rw[hd];rfl
    rw[hF]at hdec;clear hF;have NX:∀n:Nat,n=acc*16+d→d<16→¬ 4294967295<n→RowKit.Hid (a*16+(d:Int)=(n:Int)∧n≤4294967295∧Pl.puM 16 4294967295 0 l=Pl.puM 16 4294967295 n (l.drop (k+1))):=by
     intro n hn h1 h2;subst hn;exact Lib.hid ⟨by omega,by omega,by rw[hdec];simp[h1,h2]⟩
    have SY:¬d<16→RowKit.Hid (Pl.puM 16 4294967295 0 l=Lib.NumEnd.syntax):=by
     intro h1;exact Lib.hid (by rw[hdec];simp[h1])
    have RG:d<16→4294967295<acc*16+d→RowKit.Hid (Pl.puM 16 4294967295 0 l = .range):=by
     intro h1 h2;exact Lib.hid (by rw[hdec];simp[h1,h2])
    clear hdec;by_cases hdB:d<16
    · have SY:True:=trivial;clear SY;have hdv:d=Pl.digV c.toNat:=hd;clear hd;unfold Pl.digV at hdv;by_cases hov:4294967295<acc*16+d
      · have hR:=RG hdB hov;clear RG NX;have iov:4294967295<a*16+(d:Int):=by omega
        clear hov hacc ha;by_cases h48:48≤c.toNat∧c.toNat≤57
        · obtain⟨h1,h2⟩:=h48;rw[if_pos ⟨h1,h2⟩]at hdv;have e1:(d:Int)=(c.toNat:Int)-48:=by omega
          rw[e1]at iov;try rw[e1]at hR
          have hdi:(c.toNat:Int)-48<16:=by omega
          clear hdv hdB e1
          go_wp2
          go_ret2
          exact⟨by rw[hR.out];rfl,rfl⟩
        rw[if_neg h48]at hdv;by_cases h97:97≤c.toNat∧c.toNat≤122
        · have hlow:=low_lo c h97;rw[if_pos h97]at hdv;obtain⟨h1,h2⟩:=h97;clear h48;have e1:(d:Int)=(c.toNat:Int)-87:=by omega
          rw[e1]at iov;try rw[e1]at hR
          have hdi:(c.toNat:Int)-87<16:=by omega
          clear hdv hdB e1;go_wp2_with (refine (lower_at _ _ hlow _).mono ?_;rintro e w' ⟨rfl,rfl⟩)
          go_ret2
          exact⟨by rw[hR.out];rfl,rfl⟩
        rw[if_neg h97]at hdv;by_cases h65:65≤c.toNat∧c.toNat≤90
        · have hlow:=low_up c h65;rw[if_pos h65]at hdv;obtain⟨h1,h2⟩:=h65;clear h48 h97;have e1:(d:Int)=(c.toNat:Int)-55:=by omega
          rw[e1]at iov;try rw[e1]at hR
          have hdi:(c.toNat:Int)-55<16:=by omega
          clear hdv hdB e1;go_wp2_with (refine (lower_at _ _ hlow _).mono ?_;rintro e w' ⟨rfl,rfl⟩)
          go_ret2
          exact⟨by rw[hR.out];rfl,rfl⟩
        exfalso;rw[if_neg h65]at hdv;omega
      have hR:=NX _ rfl hdB hov;clear RG NX;have iov:a*16+(d:Int)≤4294967295:=by omega
      clear hov hacc ha;by_cases h48:48≤c.toNat∧c.toNat≤57
      · obtain⟨h1,h2⟩:=h48;rw[if_pos ⟨h1,h2⟩]at hdv;have e1:(d:Int)=(c.toNat:Int)-48:=by omega
        rw[e1]at iov;try rw[e1]at hR
        have hdi:(c.toNat:Int)-48<16:=by omega
        clear hdv hdB e1
        go_wp2
        refine⟨⟨k+1,_,_,rfl,(by first|rfl|(congr 1;omega)),(by first|rfl|(congr 1;omega)),by omega,hR⟩,by simp[intOf];omega⟩
      rw[if_neg h48]at hdv;by_cases h97:97≤c.toNat∧c.toNat≤122
      · have hlow:=low_lo c h97;rw[if_pos h97]at hdv;obtain⟨h1,h2⟩:=h97;clear h48;have e1:(d:Int)=(c.toNat:Int)-87:=by omega
        rw[e1]at iov;try rw[e1]at hR
        have hdi:(c.toNat:Int)-87<16:=by omega
        clear hdv hdB e1;go_wp2_with (refine (lower_at _ _ hlow _).mono ?_;rintro e w' ⟨rfl,rfl⟩);refine⟨⟨k+1,_,_,rfl,(by first|rfl|(congr 1;omega)),(by first|rfl|(congr 1;omega)),by omega,hR⟩,by simp[intOf];omega⟩
      rw[if_neg h97]at hdv;by_cases h65:65≤c.toNat∧c.toNat≤90
      · have hlow:=low_up c h65;rw[if_pos h65]at hdv;obtain⟨h1,h2⟩:=h65;clear h48 h97;have e1:(d:Int)=(c.toNat:Int)-55:=by omega
        rw[e1]at iov;try rw[e1]at hR
        have hdi:(c.toNat:Int)-55<16:=by omega
        clear hdv hdB e1;go_wp2_with (refine (lower_at _ _ hlow _).mono ?_;rintro e w' ⟨rfl,rfl⟩);refine⟨⟨k+1,_,_,rfl,(by first|rfl|(congr 1;omega)),(by first|rfl|(congr 1;omega)),by omega,hR⟩,by simp[intOf];omega⟩
      exfalso;rw[if_neg h65]at hdv;omega
    have hR:=SY hdB;clear SY RG NX;unfold Pl.digV at hd;by_cases h48:48≤c.toNat∧c.toNat≤57
    · obtain⟨h1,h2⟩:=h48;rw[if_pos ⟨h1,h2⟩]at hd
      first
      | (exfalso;omega)
      | (subst hd
         go_wp2
         go_ret2
         exact⟨by rw[hR.out];rfl,rfl⟩)
    rw[if_neg h48]at hd;by_cases h97:97≤c.toNat∧c.toNat≤122
    · have hlow:=low_lo c h97;rw[if_pos h97]at hd;obtain⟨h1,h2⟩:=h97;clear h48;subst hd;go_wp2_with (refine (lower_at _ _ hlow _).mono ?_;rintro e w' ⟨rfl,rfl⟩)
      go_ret2
      exact⟨by rw[hR.out];rfl,rfl⟩
    rw[if_neg h97]at hd;by_cases h65:65≤c.toNat∧c.toNat≤90
    · have hlow:=low_up c h65;rw[if_pos h65]at hd;obtain⟨h1,h2⟩:=h65;clear h48 h97;subst hd;go_wp2_with (refine (lower_at _ _ hlow _).mono ?_;rintro e w' ⟨rfl,rfl⟩)
      go_ret2
      exact⟨by rw[hR.out];rfl,rfl⟩
    clear hd;by_cases h95:c.toNat=95
    · rw[h95]at hc;clear h48 h97 h65;go_wp2_with (refine (lower_at 95 127 (by decide +kernel) _).mono ?_;rintro e w' ⟨rfl,rfl⟩)
      go_ret2
      exact⟨by rw[hR.out];rfl,rfl⟩
    have hno:=low_no c h65 h97;have hv0:=bits_lo_u8 .or (c.toNat:Int) 32;have hv1:=bits_hi_u8 .or (c.toNat:Int) 32;obtain⟨v,hv⟩:∃v,bits .or .u8 (c.toNat:Int) 32=v:=⟨_,rfl⟩
    rw[hv]at hno hv0 hv1;have i48:¬((48:Int)≤c.toNat∧(c.toNat:Int)≤57):=by omega
    have i95:¬(c.toNat:Int)=95:=by omega
    clear h48 h97 h65 h95;go_wp2_with (refine (lower_at _ _ hv _).mono ?_;rintro e w' ⟨rfl,rfl⟩)
    all_goals go_ret2
    all_goals exact⟨by rw[hR.out];rfl,rfl⟩
  have hkk:k=t.size:=by omega
  subst hkk;have hF:Pl.puM 16 4294967295 acc (l.drop t.size) = .ok acc:=by rw[List.drop_eq_nil_of_le (by omega)];rfl
  rw[hF]at hdec;subst ha;clear hacc hF a0 a1
  go_wp2
  go_ret2
  first|exact⟨rfl,rfl⟩|exact⟨by rw[hdec];rfl,rfl⟩
end Go.Proofs.YtkplelejagpkmaaGreatDoor
namespace Go.Proofs.YtkplelejagpkmaaGreatDoor
open Go.RowKit
set_option maxRecDepth 100000 in
theorem pu_16_64 (t:ByteArray) (hne:t.size≠0) (hmax:t.size≤9223372036854775806) (w:World) :
    Calls Tryz.prog 152 #[.string t,.int .i64 16,.int .i64 64] w fun e w'=>e = .returned (Lib.uintTupleM 214 18446744073709551615 (Pl.puM 16 18446744073709551615 0 t.data.toList))∧w'=Lib.bytesWorld w 5 t:=by
 have hemp:t.toList.isEmpty=false:=by
  rw[←decide_eq_emptyBytes];exact decide_eq_false (fun h=>hne (by rw[h];rfl))
 have hcv:=Lib.run_convert_string_bytes (P:=Tryz.prog) w 9 23 5 t (u := .string) (by kernel_rfl) (by kernel_rfl) (by kernel_rfl);have hB:∀j,j<t.size→(Lib.bytesWorld w 5 t).cell? ⟨w.heap.size,j,none⟩=some (.int .u8 (t.data.toList.getD j 0).toNat):=fun j hj=>Lib.bytesWorld_cell w 5 t j hj
 obtain⟨W1,hW1⟩:∃W1,W1=Lib.bytesWorld w 5 t:=⟨_,rfl⟩
 rw[←hW1]at hcv hB ⊢;clear hW1;obtain⟨l,hL⟩:∃l,l=t.data.toList:=⟨_,rfl⟩
 have hLn:l.length=t.size:=by rw[hL,Lib.size_eq]
 rw[←hL]at hB ⊢;clear hL;have hmv:IntKind.u64.wrap (IntKind.u64.wrap 18446744073709551616-1)=18446744073709551615:=by
  rw[IntKind.wrap_u64,IntKind.wrap_u64];decide
 go_enter Tryz.func152,Tryz.ntmps152
 go_wp2
 go_loop [12,13,101] (fun vu vn vi=>∃(k acc:Nat) (a:Int),vu = .bool false∧vn = .int .u64 a∧vi = .int .i64 k∧k≤t.size∧RowKit.Hid (a=(acc:Int)∧acc≤18446744073709551615∧Pl.puM 16 18446744073709551615 0 l=Pl.puM 16 18446744073709551615 acc (l.drop k)))
  (fun _ _ vi=>t.size-(intOf vi).toNat)
 case atStart=>exact⟨0,0,0,rfl,rfl,rfl,by omega,Lib.hid ⟨rfl,by omega,rfl⟩⟩
 case round =>
  obtain⟨k,acc,a,rfl,rfl,rfl,hk,hh⟩:=hrel;obtain⟨ha,hacc,hdec⟩:=hh.out;clear hh;have a0:0≤a:=by omega
  have a1:a≤18446744073709551615:=by omega
  by_cases hkn:k<t.size
  · have hc:=hB k hkn;have hdrop:l.drop k=l[k]'(by omega)::l.drop (k+1):=List.drop_eq_getElem_cons (by omega);have hget:l.getD k 0=l[k]'(by omega):=by simp[List.getD,List.getElem?_eq_getElem (show k<l.length by omega)]
    rw[hdrop]at hdec;rw[hget]at hc;generalize l[k]'(by omega)=c at hc hdec;have hc256:c.toNat<256:=c.toNat_lt;clear hB hdrop hget;obtain⟨d,hd⟩:∃d,d=Pl.digV c.toNat:=⟨_,rfl⟩
    have hF:Pl.puM 16 18446744073709551615 acc (c::l.drop (k+1))=(if d<16 then (if 18446744073709551615<acc*16+d then .range else Pl.puM 16 18446744073709551615 (acc*16+d) (l.drop (k+1))) else Lib.NumEnd.syntax):=by rw[hd];rfl
    rw[hF]at hdec;clear hF;have NX:∀n:Nat,n=acc*16+d→d<16→¬ 18446744073709551615<n→RowKit.Hid (a*16+(d:Int)=(n:Int)∧n≤18446744073709551615∧Pl.puM 16 18446744073709551615 0 l=Pl.puM 16 18446744073709551615 n (l.drop (k+1))):=by
     intro n hn h1 h2;subst hn;exact Lib.hid ⟨by omega,by omega,by rw[hdec];simp[h1,h2]⟩
    have SY:¬d<16→RowKit.Hid (Pl.puM 16 18446744073709551615 0 l=Lib.NumEnd.syntax):=by
     intro h1;exact Lib.hid (by rw[hdec];simp[h1])
    have RG:d<16→18446744073709551615<acc*16+d→RowKit.Hid (Pl.puM 16 18446744073709551615 0 l = .range):=by
     intro h1 h2;exact Lib.hid (by rw[hdec];simp[h1,h2])
    clear hdec;by_cases hdB:d<16
    · have SY:True:=trivial;clear SY;have hdv:d=Pl.digV c.toNat:=hd;clear hd;unfold Pl.digV at hdv;by_cases hov:18446744073709551615<acc*16+d
      · have hR:=RG hdB hov;clear RG NX;have iov:1152921504606846976≤a:=by omega
        clear hov hacc ha;by_cases h48:48≤c.toNat∧c.toNat≤57
        · obtain⟨h1,h2⟩:=h48;rw[if_pos ⟨h1,h2⟩]at hdv;have e1:(d:Int)=(c.toNat:Int)-48:=by omega
          try rw[e1]at iov
          try rw[e1]at hR
          have hdi:(c.toNat:Int)-48<16:=by omega
          clear hdv hdB e1
          go_wp2
          go_ret2
          exact⟨by rw[hR.out];rfl,rfl⟩
        rw[if_neg h48]at hdv;by_cases h97:97≤c.toNat∧c.toNat≤122
        · have hlow:=low_lo c h97;rw[if_pos h97]at hdv;obtain⟨h1,h2⟩:=h97;clear h48;have e1:(d:Int)=(c.toNat:Int)-87:=by omega
          try rw[e1]at iov
          try rw[e1]at hR
          have hdi:(c.toNat:Int)-87<16:=by omega
          clear hdv hdB e1;go_wp2_with (refine (lower_at _ _ hlow _).mono ?_;rintro e w' ⟨rfl,rfl⟩)
          go_ret2
          exact⟨by rw[hR.out];rfl,rfl⟩
        rw[if_neg h97]at hdv;by_cases h65:65≤c.toNat∧c.toNat≤90
        · have hlow:=low_up c h65;rw[if_pos h65]at hdv;obtain⟨h1,h2⟩:=h65;clear h48 h97;have e1:(d:Int)=(c.toNat:Int)-55:=by omega
          try rw[e1]at iov
          try rw[e1]at hR
          have hdi:(c.toNat:Int)-55<16:=by omega
          clear hdv hdB e1;go_wp2_with (refine (lower_at _ _ hlow _).mono ?_;rintro e w' ⟨rfl,rfl⟩)
          go_ret2
          exact⟨by rw[hR.out];rfl,rfl⟩
        exfalso;rw[if_neg h65]at hdv;omega
      have hR:=NX _ rfl hdB hov;clear RG NX;have iov:a*16+(d:Int)≤18446744073709551615:=by omega
      have icut:a<1152921504606846976:=by omega
      clear hov hacc ha;by_cases h48:48≤c.toNat∧c.toNat≤57
      · obtain⟨h1,h2⟩:=h48;rw[if_pos ⟨h1,h2⟩]at hdv;have e1:(d:Int)=(c.toNat:Int)-48:=by omega
        try rw[e1]at iov
        try rw[e1]at hR
        have hdi:(c.toNat:Int)-48<16:=by omega
        clear hdv hdB e1
        go_wp2
        refine⟨⟨k+1,_,_,rfl,(by first|rfl|(congr 1;omega)),(by first|rfl|(congr 1;omega)),by omega,hR⟩,by simp[intOf];omega⟩
      rw[if_neg h48]at hdv;by_cases h97:97≤c.toNat∧c.toNat≤122
      · have hlow:=low_lo c h97;rw[if_pos h97]at hdv;obtain⟨h1,h2⟩:=h97;clear h48;have e1:(d:Int)=(c.toNat:Int)-87:=by omega
        try rw[e1]at iov
        try rw[e1]at hR
        have hdi:(c.toNat:Int)-87<16:=by omega
        clear hdv hdB e1;go_wp2_with (refine (lower_at _ _ hlow _).mono ?_;rintro e w' ⟨rfl,rfl⟩);refine⟨⟨k+1,_,_,rfl,(by first|rfl|(congr 1;omega)),(by first|rfl|(congr 1;omega)),by omega,hR⟩,by simp[intOf];omega⟩
      rw[if_neg h97]at hdv;by_cases h65:65≤c.toNat∧c.toNat≤90
      · have hlow:=low_up c h65;rw[if_pos h65]at hdv;obtain⟨h1,h2⟩:=h65;clear h48 h97;have e1:(d:Int)=(c.toNat:Int)-55:=by omega
        try rw[e1]at iov
        try rw[e1]at hR
        have hdi:(c.toNat:Int)-55<16:=by omega
        clear hdv hdB e1;go_wp2_with (refine (lower_at _ _ hlow _).mono ?_;rintro e w' ⟨rfl,rfl⟩);refine⟨⟨k+1,_,_,rfl,(by first|rfl|(congr 1;omega)),(by first|rfl|(congr 1;omega)),by omega,hR⟩,by simp[intOf];omega⟩
      exfalso;rw[if_neg h65]at hdv;omega
    have hR:=SY hdB;clear SY RG NX;unfold Pl.digV at hd;by_cases h48:48≤c.toNat∧c.toNat≤57
    · obtain⟨h1,h2⟩:=h48;rw[if_pos ⟨h1,h2⟩]at hd
      first
      | (exfalso;omega)
      | (subst hd
         go_wp2
         go_ret2
         exact⟨by rw[hR.out];rfl,rfl⟩)
    rw[if_neg h48]at hd;by_cases h97:97≤c.toNat∧c.toNat≤122
    · have hlow:=low_lo c h97;rw[if_pos h97]at hd;obtain⟨h1,h2⟩:=h97;clear h48;subst hd;go_wp2_with (refine (lower_at _ _ hlow _).mono ?_;rintro e w' ⟨rfl,rfl⟩)
      go_ret2
      exact⟨by rw[hR.out];rfl,rfl⟩
    rw[if_neg h97]at hd;by_cases h65:65≤c.toNat∧c.toNat≤90
    · have hlow:=low_up c h65;rw[if_pos h65]at hd;obtain⟨h1,h2⟩:=h65;clear h48 h97;subst hd;go_wp2_with (refine (lower_at _ _ hlow _).mono ?_;rintro e w' ⟨rfl,rfl⟩)
      go_ret2
      exact⟨by rw[hR.out];rfl,rfl⟩
    clear hd;by_cases h95:c.toNat=95
    · rw[h95]at hc;clear h48 h97 h65;go_wp2_with (refine (lower_at 95 127 (by decide +kernel) _).mono ?_;rintro e w' ⟨rfl,rfl⟩)
      go_ret2
      exact⟨by rw[hR.out];rfl,rfl⟩
    have hno:=low_no c h65 h97;have hv0:=bits_lo_u8 .or (c.toNat:Int) 32;have hv1:=bits_hi_u8 .or (c.toNat:Int) 32;obtain⟨v,hv⟩:∃v,bits .or .u8 (c.toNat:Int) 32=v:=⟨_,rfl⟩
    rw[hv]at hno hv0 hv1;have i48:¬((48:Int)≤c.toNat∧(c.toNat:Int)≤57):=by omega
    have i95:¬(c.toNat:Int)=95:=by omega
    clear h48 h97 h65 h95;go_wp2_with (refine (lower_at _ _ hv _).mono ?_;rintro e w' ⟨rfl,rfl⟩)
    all_goals go_ret2
    all_goals exact⟨by rw[hR.out];rfl,rfl⟩
  have hkk:k=t.size:=by omega
  subst hkk;have hF:Pl.puM 16 18446744073709551615 acc (l.drop t.size) = .ok acc:=by rw[List.drop_eq_nil_of_le (by omega)];rfl
  rw[hF]at hdec;subst ha;clear hacc hF a0 a1
  go_wp2
  go_ret2
  first|exact⟨rfl,rfl⟩|exact⟨by rw[hdec];rfl,rfl⟩
set_option maxRecDepth 100000 in
theorem pu_8_64 (t:ByteArray) (hne:t.size≠0) (hmax:t.size≤9223372036854775806) (w:World) :
    Calls Tryz.prog 152 #[.string t,.int .i64 8,.int .i64 64] w fun e w'=>e = .returned (Lib.uintTupleM 214 18446744073709551615 (Pl.puM 8 18446744073709551615 0 t.data.toList))∧w'=Lib.bytesWorld w 5 t:=by
 have hemp:t.toList.isEmpty=false:=by
  rw[←decide_eq_emptyBytes];exact decide_eq_false (fun h=>hne (by rw[h];rfl))
 have hcv:=Lib.run_convert_string_bytes (P:=Tryz.prog) w 9 23 5 t (u := .string) (by kernel_rfl) (by kernel_rfl) (by kernel_rfl);have hB:∀j,j<t.size→(Lib.bytesWorld w 5 t).cell? ⟨w.heap.size,j,none⟩=some (.int .u8 (t.data.toList.getD j 0).toNat):=fun j hj=>Lib.bytesWorld_cell w 5 t j hj
 obtain⟨W1,hW1⟩:∃W1,W1=Lib.bytesWorld w 5 t:=⟨_,rfl⟩
 rw[←hW1]at hcv hB ⊢;clear hW1;obtain⟨l,hL⟩:∃l,l=t.data.toList:=⟨_,rfl⟩
 have hLn:l.length=t.size:=by rw[hL,Lib.size_eq]
 rw[←hL]at hB ⊢;clear hL;have hmv:IntKind.u64.wrap (IntKind.u64.wrap 18446744073709551616-1)=18446744073709551615:=by
  rw[IntKind.wrap_u64,IntKind.wrap_u64];decide
 go_enter Tryz.func152,Tryz.ntmps152
 go_wp2
 go_loop [12,13,101] (fun vu vn vi=>∃(k acc:Nat) (a:Int),vu = .bool false∧vn = .int .u64 a∧vi = .int .i64 k∧k≤t.size∧RowKit.Hid (a=(acc:Int)∧acc≤18446744073709551615∧Pl.puM 8 18446744073709551615 0 l=Pl.puM 8 18446744073709551615 acc (l.drop k)))
  (fun _ _ vi=>t.size-(intOf vi).toNat)
 case atStart=>exact⟨0,0,0,rfl,rfl,rfl,by omega,Lib.hid ⟨rfl,by omega,rfl⟩⟩
 case round =>
  obtain⟨k,acc,a,rfl,rfl,rfl,hk,hh⟩:=hrel;obtain⟨ha,hacc,hdec⟩:=hh.out;clear hh;have a0:0≤a:=by omega
  have a1:a≤18446744073709551615:=by omega
  by_cases hkn:k<t.size
  · have hc:=hB k hkn;have hdrop:l.drop k=l[k]'(by omega)::l.drop (k+1):=List.drop_eq_getElem_cons (by omega);have hget:l.getD k 0=l[k]'(by omega):=by simp[List.getD,List.getElem?_eq_getElem (show k<l.length by omega)]
    rw[hdrop]at hdec;rw[hget]at hc;generalize l[k]'(by omega)=c at hc hdec;have hc256:c.toNat<256:=c.toNat_lt;clear hB hdrop hget;obtain⟨d,hd⟩:∃d,d=Pl.digV c.toNat:=⟨_,rfl⟩
    have hF:Pl.puM 8 18446744073709551615 acc (c::l.drop (k+1))=(if d<8 then (if 18446744073709551615<acc*8+d then .range else Pl.puM 8 18446744073709551615 (acc*8+d) (l.drop (k+1))) else Lib.NumEnd.syntax):=by rw[hd];rfl
    rw[hF]at hdec;clear hF;have NX:∀n:Nat,n=acc*8+d→d<8→¬ 18446744073709551615<n→RowKit.Hid (a*8+(d:Int)=(n:Int)∧n≤18446744073709551615∧Pl.puM 8 18446744073709551615 0 l=Pl.puM 8 18446744073709551615 n (l.drop (k+1))):=by
     intro n hn h1 h2;subst hn;exact Lib.hid ⟨by omega,by omega,by rw[hdec];simp[h1,h2]⟩
    have SY:¬d<8→RowKit.Hid (Pl.puM 8 18446744073709551615 0 l=Lib.NumEnd.syntax):=by
     intro h1;exact Lib.hid (by rw[hdec];simp[h1])
    have RG:d<8→18446744073709551615<acc*8+d→RowKit.Hid (Pl.puM 8 18446744073709551615 0 l = .range):=by
     intro h1 h2;exact Lib.hid (by rw[hdec];simp[h1,h2])
    clear hdec;by_cases hdB:d<8
    · have SY:True:=trivial;clear SY;have hdv:d=Pl.digV c.toNat:=hd;clear hd;unfold Pl.digV at hdv;by_cases hov:18446744073709551615<acc*8+d
      · have hR:=RG hdB hov;clear RG NX;have iov:2305843009213693952≤a:=by omega
        clear hov hacc ha;by_cases h48:48≤c.toNat∧c.toNat≤57
        · obtain⟨h1,h2⟩:=h48;rw[if_pos ⟨h1,h2⟩]at hdv;have e1:(d:Int)=(c.toNat:Int)-48:=by omega
          try rw[e1]at iov
          try rw[e1]at hR
          have hdi:(c.toNat:Int)-48<8:=by omega
          clear hdv hdB e1
          go_wp2
          all_goals go_ret2
          all_goals exact⟨by rw[hR.out];rfl,rfl⟩
        rw[if_neg h48]at hdv;by_cases h97:97≤c.toNat∧c.toNat≤122
        · have hlow:=low_lo c h97;rw[if_pos h97]at hdv;obtain⟨h1,h2⟩:=h97;clear h48;have e1:(d:Int)=(c.toNat:Int)-87:=by omega
          try rw[e1]at iov
          try rw[e1]at hR
          have hdi:(c.toNat:Int)-87<8:=by omega
          clear hdv hdB e1;go_wp2_with (refine (lower_at _ _ hlow _).mono ?_;rintro e w' ⟨rfl,rfl⟩)
          all_goals go_ret2
          all_goals exact⟨by rw[hR.out];rfl,rfl⟩
        rw[if_neg h97]at hdv;by_cases h65:65≤c.toNat∧c.toNat≤90
        · have hlow:=low_up c h65;rw[if_pos h65]at hdv;obtain⟨h1,h2⟩:=h65;clear h48 h97;have e1:(d:Int)=(c.toNat:Int)-55:=by omega
          try rw[e1]at iov
          try rw[e1]at hR
          have hdi:(c.toNat:Int)-55<8:=by omega
          clear hdv hdB e1;go_wp2_with (refine (lower_at _ _ hlow _).mono ?_;rintro e w' ⟨rfl,rfl⟩)
          all_goals go_ret2
          all_goals exact⟨by rw[hR.out];rfl,rfl⟩
        exfalso;rw[if_neg h65]at hdv;omega
      have hR:=NX _ rfl hdB hov;clear RG NX;have iov:a*8+(d:Int)≤18446744073709551615:=by omega
      have icut:a<2305843009213693952:=by omega
      clear hov hacc ha;by_cases h48:48≤c.toNat∧c.toNat≤57
      · obtain⟨h1,h2⟩:=h48;rw[if_pos ⟨h1,h2⟩]at hdv;have e1:(d:Int)=(c.toNat:Int)-48:=by omega
        try rw[e1]at iov
        try rw[e1]at hR
        have hdi:(c.toNat:Int)-48<8:=by omega
        clear hdv hdB e1
        go_wp2
        all_goals refine⟨⟨k+1,_,_,rfl,(by first|rfl|(congr 1;omega)),(by first|rfl|(congr 1;omega)),by omega,hR⟩,by simp[intOf];omega⟩
      rw[if_neg h48]at hdv;by_cases h97:97≤c.toNat∧c.toNat≤122
      · have hlow:=low_lo c h97;rw[if_pos h97]at hdv;obtain⟨h1,h2⟩:=h97;clear h48;have e1:(d:Int)=(c.toNat:Int)-87:=by omega
        try rw[e1]at iov
        try rw[e1]at hR
        have hdi:(c.toNat:Int)-87<8:=by omega
        clear hdv hdB e1;go_wp2_with (refine (lower_at _ _ hlow _).mono ?_;rintro e w' ⟨rfl,rfl⟩)
        all_goals refine⟨⟨k+1,_,_,rfl,(by first|rfl|(congr 1;omega)),(by first|rfl|(congr 1;omega)),by omega,hR⟩,by simp[intOf];omega⟩
      rw[if_neg h97]at hdv;by_cases h65:65≤c.toNat∧c.toNat≤90
      · have hlow:=low_up c h65;rw[if_pos h65]at hdv;obtain⟨h1,h2⟩:=h65;clear h48 h97;have e1:(d:Int)=(c.toNat:Int)-55:=by omega
        try rw[e1]at iov
        try rw[e1]at hR
        have hdi:(c.toNat:Int)-55<8:=by omega
        clear hdv hdB e1;go_wp2_with (refine (lower_at _ _ hlow _).mono ?_;rintro e w' ⟨rfl,rfl⟩)
        all_goals refine⟨⟨k+1,_,_,rfl,(by first|rfl|(congr 1;omega)),(by first|rfl|(congr 1;omega)),by omega,hR⟩,by simp[intOf];omega⟩
      exfalso;rw[if_neg h65]at hdv;omega
    have hR:=SY hdB;clear SY RG NX;unfold Pl.digV at hd;by_cases h48:48≤c.toNat∧c.toNat≤57
    · obtain⟨h1,h2⟩:=h48;rw[if_pos ⟨h1,h2⟩]at hd
      first
      | (exfalso;omega)
      | (subst hd
         go_wp2
         all_goals go_ret2
         exact⟨by rw[hR.out];rfl,rfl⟩)
    rw[if_neg h48]at hd;by_cases h97:97≤c.toNat∧c.toNat≤122
    · have hlow:=low_lo c h97;rw[if_pos h97]at hd;obtain⟨h1,h2⟩:=h97;clear h48;subst hd;go_wp2_with (refine (lower_at _ _ hlow _).mono ?_;rintro e w' ⟨rfl,rfl⟩)
      all_goals go_ret2
      all_goals exact⟨by rw[hR.out];rfl,rfl⟩
    rw[if_neg h97]at hd;by_cases h65:65≤c.toNat∧c.toNat≤90
    · have hlow:=low_up c h65;rw[if_pos h65]at hd;obtain⟨h1,h2⟩:=h65;clear h48 h97;subst hd;go_wp2_with (refine (lower_at _ _ hlow _).mono ?_;rintro e w' ⟨rfl,rfl⟩)
      all_goals go_ret2
      all_goals exact⟨by rw[hR.out];rfl,rfl⟩
    clear hd;by_cases h95:c.toNat=95
    · rw[h95]at hc;clear h48 h97 h65;go_wp2_with (refine (lower_at 95 127 (by decide +kernel) _).mono ?_;rintro e w' ⟨rfl,rfl⟩)
      all_goals go_ret2
      all_goals exact⟨by rw[hR.out];rfl,rfl⟩
    have hno:=low_no c h65 h97;have hv0:=bits_lo_u8 .or (c.toNat:Int) 32;have hv1:=bits_hi_u8 .or (c.toNat:Int) 32;obtain⟨v,hv⟩:∃v,bits .or .u8 (c.toNat:Int) 32=v:=⟨_,rfl⟩
    rw[hv]at hno hv0 hv1;have i48:¬((48:Int)≤c.toNat∧(c.toNat:Int)≤57):=by omega
    have i95:¬(c.toNat:Int)=95:=by omega
    clear h48 h97 h65 h95;go_wp2_with (refine (lower_at _ _ hv _).mono ?_;rintro e w' ⟨rfl,rfl⟩)
    all_goals go_ret2
    all_goals exact⟨by rw[hR.out];rfl,rfl⟩
  have hkk:k=t.size:=by omega
  subst hkk;have hF:Pl.puM 8 18446744073709551615 acc (l.drop t.size) = .ok acc:=by rw[List.drop_eq_nil_of_le (by omega)];rfl
  rw[hF]at hdec;subst ha;clear hacc hF a0 a1
  go_wp2
  all_goals go_ret2
  first|exact⟨rfl,rfl⟩|exact⟨by rw[hdec];rfl,rfl⟩
set_option maxRecDepth 100000 in
theorem pu_2_64 (t:ByteArray) (hne:t.size≠0) (hmax:t.size≤9223372036854775806) (w:World) :
    Calls Tryz.prog 152 #[.string t,.int .i64 2,.int .i64 64] w fun e w'=>e = .returned (Lib.uintTupleM 214 18446744073709551615 (Pl.puM 2 18446744073709551615 0 t.data.toList))∧w'=Lib.bytesWorld w 5 t:=by
 have hemp:t.toList.isEmpty=false:=by
  rw[←decide_eq_emptyBytes];exact decide_eq_false (fun h=>hne (by rw[h];rfl))
 have hcv:=Lib.run_convert_string_bytes (P:=Tryz.prog) w 9 23 5 t (u := .string) (by kernel_rfl) (by kernel_rfl) (by kernel_rfl);have hB:∀j,j<t.size→(Lib.bytesWorld w 5 t).cell? ⟨w.heap.size,j,none⟩=some (.int .u8 (t.data.toList.getD j 0).toNat):=fun j hj=>Lib.bytesWorld_cell w 5 t j hj
 obtain⟨W1,hW1⟩:∃W1,W1=Lib.bytesWorld w 5 t:=⟨_,rfl⟩
 rw[←hW1]at hcv hB ⊢;clear hW1;obtain⟨l,hL⟩:∃l,l=t.data.toList:=⟨_,rfl⟩
 have hLn:l.length=t.size:=by rw[hL,Lib.size_eq]
 rw[←hL]at hB ⊢;clear hL;have hmv:IntKind.u64.wrap (IntKind.u64.wrap 18446744073709551616-1)=18446744073709551615:=by
  rw[IntKind.wrap_u64,IntKind.wrap_u64];decide
 go_enter Tryz.func152,Tryz.ntmps152
 go_wp2
 go_loop [12,13,101] (fun vu vn vi=>∃(k acc:Nat) (a:Int),vu = .bool false∧vn = .int .u64 a∧vi = .int .i64 k∧k≤t.size∧RowKit.Hid (a=(acc:Int)∧acc≤18446744073709551615∧Pl.puM 2 18446744073709551615 0 l=Pl.puM 2 18446744073709551615 acc (l.drop k)))
  (fun _ _ vi=>t.size-(intOf vi).toNat)
 case atStart=>exact⟨0,0,0,rfl,rfl,rfl,by omega,Lib.hid ⟨rfl,by omega,rfl⟩⟩
 case round =>
  obtain⟨k,acc,a,rfl,rfl,rfl,hk,hh⟩:=hrel;obtain⟨ha,hacc,hdec⟩:=hh.out;clear hh;have a0:0≤a:=by omega
  have a1:a≤18446744073709551615:=by omega
  by_cases hkn:k<t.size
  · have hc:=hB k hkn;have hdrop:l.drop k=l[k]'(by omega)::l.drop (k+1):=List.drop_eq_getElem_cons (by omega);have hget:l.getD k 0=l[k]'(by omega):=by simp[List.getD,List.getElem?_eq_getElem (show k<l.length by omega)]
    rw[hdrop]at hdec;rw[hget]at hc;generalize l[k]'(by omega)=c at hc hdec;have hc256:c.toNat<256:=c.toNat_lt;clear hB hdrop hget;obtain⟨d,hd⟩:∃d,d=Pl.digV c.toNat:=⟨_,rfl⟩
    have hF:Pl.puM 2 18446744073709551615 acc (c::l.drop (k+1))=(if d<2 then (if 18446744073709551615<acc*2+d then .range else Pl.puM 2 18446744073709551615 (acc*2+d) (l.drop (k+1))) else Lib.NumEnd.syntax):=by rw[hd];rfl
    rw[hF]at hdec;clear hF;have NX:∀n:Nat,n=acc*2+d→d<2→¬ 18446744073709551615<n→RowKit.Hid (a*2+(d:Int)=(n:Int)∧n≤18446744073709551615∧Pl.puM 2 18446744073709551615 0 l=Pl.puM 2 18446744073709551615 n (l.drop (k+1))):=by
     intro n hn h1 h2;subst hn;exact Lib.hid ⟨by omega,by omega,by rw[hdec];simp[h1,h2]⟩
    have SY:¬d<2→RowKit.Hid (Pl.puM 2 18446744073709551615 0 l=Lib.NumEnd.syntax):=by
     intro h1;exact Lib.hid (by rw[hdec];simp[h1])
    have RG:d<2→18446744073709551615<acc*2+d→RowKit.Hid (Pl.puM 2 18446744073709551615 0 l = .range):=by
     intro h1 h2;exact Lib.hid (by rw[hdec];simp[h1,h2])
    clear hdec;by_cases hdB:d<2
    · have SY:True:=trivial;clear SY;have hdv:d=Pl.digV c.toNat:=hd;clear hd;unfold Pl.digV at hdv;by_cases hov:18446744073709551615<acc*2+d
      · have hR:=RG hdB hov;clear RG NX;have iov:9223372036854775808≤a:=by omega
        clear hov hacc ha;by_cases h48:48≤c.toNat∧c.toNat≤57
        · obtain⟨h1,h2⟩:=h48;rw[if_pos ⟨h1,h2⟩]at hdv;have e1:(d:Int)=(c.toNat:Int)-48:=by omega
          try rw[e1]at iov
          try rw[e1]at hR
          have hdi:(c.toNat:Int)-48<2:=by omega
          clear hdv hdB e1
          go_wp2
          all_goals go_ret2
          all_goals exact⟨by rw[hR.out];rfl,rfl⟩
        rw[if_neg h48]at hdv;by_cases h97:97≤c.toNat∧c.toNat≤122
        · have hlow:=low_lo c h97;rw[if_pos h97]at hdv;obtain⟨h1,h2⟩:=h97;clear h48;have e1:(d:Int)=(c.toNat:Int)-87:=by omega
          try rw[e1]at iov
          try rw[e1]at hR
          have hdi:(c.toNat:Int)-87<2:=by omega
          clear hdv hdB e1;go_wp2_with (refine (lower_at _ _ hlow _).mono ?_;rintro e w' ⟨rfl,rfl⟩)
          all_goals go_ret2
          all_goals exact⟨by rw[hR.out];rfl,rfl⟩
        rw[if_neg h97]at hdv;by_cases h65:65≤c.toNat∧c.toNat≤90
        · have hlow:=low_up c h65;rw[if_pos h65]at hdv;obtain⟨h1,h2⟩:=h65;clear h48 h97;have e1:(d:Int)=(c.toNat:Int)-55:=by omega
          try rw[e1]at iov
          try rw[e1]at hR
          have hdi:(c.toNat:Int)-55<2:=by omega
          clear hdv hdB e1;go_wp2_with (refine (lower_at _ _ hlow _).mono ?_;rintro e w' ⟨rfl,rfl⟩)
          all_goals go_ret2
          all_goals exact⟨by rw[hR.out];rfl,rfl⟩
        exfalso;rw[if_neg h65]at hdv;omega
      have hR:=NX _ rfl hdB hov;clear RG NX;have iov:a*2+(d:Int)≤18446744073709551615:=by omega
      have icut:a<9223372036854775808:=by omega
      clear hov hacc ha;by_cases h48:48≤c.toNat∧c.toNat≤57
      · obtain⟨h1,h2⟩:=h48;rw[if_pos ⟨h1,h2⟩]at hdv;have e1:(d:Int)=(c.toNat:Int)-48:=by omega
        try rw[e1]at iov
        try rw[e1]at hR
        have hdi:(c.toNat:Int)-48<2:=by omega
        clear hdv hdB e1
        go_wp2
        all_goals refine⟨⟨k+1,_,_,rfl,(by first|rfl|(congr 1;omega)),(by first|rfl|(congr 1;omega)),by omega,hR⟩,by simp[intOf];omega⟩
      rw[if_neg h48]at hdv;by_cases h97:97≤c.toNat∧c.toNat≤122
      · have hlow:=low_lo c h97;rw[if_pos h97]at hdv;obtain⟨h1,h2⟩:=h97;clear h48;have e1:(d:Int)=(c.toNat:Int)-87:=by omega
        try rw[e1]at iov
        try rw[e1]at hR
        have hdi:(c.toNat:Int)-87<2:=by omega
        clear hdv hdB e1;go_wp2_with (refine (lower_at _ _ hlow _).mono ?_;rintro e w' ⟨rfl,rfl⟩)
        all_goals refine⟨⟨k+1,_,_,rfl,(by first|rfl|(congr 1;omega)),(by first|rfl|(congr 1;omega)),by omega,hR⟩,by simp[intOf];omega⟩
      rw[if_neg h97]at hdv;by_cases h65:65≤c.toNat∧c.toNat≤90
      · have hlow:=low_up c h65;rw[if_pos h65]at hdv;obtain⟨h1,h2⟩:=h65;clear h48 h97;have e1:(d:Int)=(c.toNat:Int)-55:=by omega
        try rw[e1]at iov
        try rw[e1]at hR
        have hdi:(c.toNat:Int)-55<2:=by omega
        clear hdv hdB e1;go_wp2_with (refine (lower_at _ _ hlow _).mono ?_;rintro e w' ⟨rfl,rfl⟩)
        all_goals refine⟨⟨k+1,_,_,rfl,(by first|rfl|(congr 1;omega)),(by first|rfl|(congr 1;omega)),by omega,hR⟩,by simp[intOf];omega⟩
      exfalso;rw[if_neg h65]at hdv;omega
    have hR:=SY hdB;clear SY RG NX;unfold Pl.digV at hd;by_cases h48:48≤c.toNat∧c.toNat≤57
    · obtain⟨h1,h2⟩:=h48;rw[if_pos ⟨h1,h2⟩]at hd
      first
      | (exfalso;omega)
      | (subst hd
         go_wp2
         all_goals go_ret2
         exact⟨by rw[hR.out];rfl,rfl⟩)
    rw[if_neg h48]at hd;by_cases h97:97≤c.toNat∧c.toNat≤122
    · have hlow:=low_lo c h97;rw[if_pos h97]at hd;obtain⟨h1,h2⟩:=h97;clear h48;subst hd;go_wp2_with (refine (lower_at _ _ hlow _).mono ?_;rintro e w' ⟨rfl,rfl⟩)
      all_goals go_ret2
      all_goals exact⟨by rw[hR.out];rfl,rfl⟩
    rw[if_neg h97]at hd;by_cases h65:65≤c.toNat∧c.toNat≤90
    · have hlow:=low_up c h65;rw[if_pos h65]at hd;obtain⟨h1,h2⟩:=h65;clear h48 h97;subst hd;go_wp2_with (refine (lower_at _ _ hlow _).mono ?_;rintro e w' ⟨rfl,rfl⟩)
      all_goals go_ret2
      all_goals exact⟨by rw[hR.out];rfl,rfl⟩
    clear hd;by_cases h95:c.toNat=95
    · rw[h95]at hc;clear h48 h97 h65;go_wp2_with (refine (lower_at 95 127 (by decide +kernel) _).mono ?_;rintro e w' ⟨rfl,rfl⟩)
      all_goals go_ret2
      all_goals exact⟨by rw[hR.out];rfl,rfl⟩
    have hno:=low_no c h65 h97;have hv0:=bits_lo_u8 .or (c.toNat:Int) 32;have hv1:=bits_hi_u8 .or (c.toNat:Int) 32;obtain⟨v,hv⟩:∃v,bits .or .u8 (c.toNat:Int) 32=v:=⟨_,rfl⟩
    rw[hv]at hno hv0 hv1;have i48:¬((48:Int)≤c.toNat∧(c.toNat:Int)≤57):=by omega
    have i95:¬(c.toNat:Int)=95:=by omega
    clear h48 h97 h65 h95;go_wp2_with (refine (lower_at _ _ hv _).mono ?_;rintro e w' ⟨rfl,rfl⟩)
    all_goals go_ret2
    all_goals exact⟨by rw[hR.out];rfl,rfl⟩
  have hkk:k=t.size:=by omega
  subst hkk;have hF:Pl.puM 2 18446744073709551615 acc (l.drop t.size) = .ok acc:=by rw[List.drop_eq_nil_of_le (by omega)];rfl
  rw[hF]at hdec;subst ha;clear hacc hF a0 a1
  go_wp2
  all_goals go_ret2
  first|exact⟨rfl,rfl⟩|exact⟨by rw[hdec];rfl,rfl⟩
end Go.Proofs.YtkplelejagpkmaaGreatDoor
