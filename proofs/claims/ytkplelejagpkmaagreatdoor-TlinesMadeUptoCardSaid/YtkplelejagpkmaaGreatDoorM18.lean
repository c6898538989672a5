/-
 The walks and plain laws that the claim rests on, part 18.
-/
import Derived.Test.YtkplelejagpkmaaGreatDoorM07
import Derived.Test.YtkplelejagpkmaaGreatDoorM20
set_option maxHeartbeats 16000000
set_option linter.all false
set_option linter.unusedVariables false
set_option linter.unusedSimpArgs false
namespace Go.Proofs.YtkplelejagpkmaaGreatDoor
open Go.RowKit
set_option maxRecDepth 100000 in
theorem pu_16_64 (t:ByteArray) (hne:t.size≠0) (hmax:t.size≤9223372036854775806) (w:World) :
    Calls Tryz.prog 152 #[.string t,.int .i64 16,.int .i64 64] w fun e w'=>e = .returned (Lib.uintTupleM 214 18446744073709551615 (Pl.puM 16 18446744073709551615 0 t.data.toList))∧w'=Lib.bytesWorld w 5 t:=by
 have hemp:t.toList.isEmpty=false:=by
  rw[←decide_eq_emptyBytes];exact decide_eq_false (fun h=>hne (by rw[h];rfl))
 have hcv:=Lib.run_convert_string_bytes (P:=Tryz.prog) w 9 23 5 t (u := .string) (by kernel_rfl) (by kernel_rfl) (by kernel_rfl);have hB:∀j,j<t.size→(Lib.bytesWorld w 5 t).cell? ⟨w.heap.size,j,none⟩=some (.int .u8 (t.data.toList.getD j 0).toNat):=fun j hj=>Lib.bytesWorld_cell w 5 t j hj
 obtain⟨W1,hW1⟩:∃W1,W1=Lib.bytesWorld w 5 t:=⟨_,rfl⟩
 rw[←hW1]at hcv hB ⊢;clear hW1;obtain⟨l,hL⟩:∃l,l=t.data.toList:=⟨_,rfl⟩
 have hLn:l.length=t.size:=by rw[hL,Lib.size_eq]
 rw[←hL]at hB ⊢;clear hL;have hmv:IntKind.u64.wrap (IntKind.u64.wrap 18446744073709551616-1)=18446744073709551615:=by
  rw[IntKind.wrap_u64,IntKind.wrap_u64];decide
 go_enter Tryz.func152,Tryz.ntmps152
 go_wp2
 go_loop [12,13,101] (fun vu vn vi=>∃(k acc:Nat) (a:Int),vu = .bool false∧vn = .int .u64 a∧vi = .int .i64 k∧k≤t.size∧RowKit.Hid (a=(acc:Int)∧acc≤18446744073709551615∧Pl.puM 16 18446744073709551615 0 l=Pl.puM 16 18446744073709551615 acc (l.drop k)))
  (fun _ _ vi=>t.size-(intOf vi).toNat)
 case atStart=>exact⟨0,0,0,rfl,rfl,rfl,by omega,Lib.hid ⟨rfl,by omega,rfl⟩⟩
 case round =>
  obtain⟨k,acc,a,rfl,rfl,rfl,hk,hh⟩:=hrel;obtain⟨ha,hacc,hdec⟩:=hh.out;clear hh;have a0:0≤a:=by omega
  have a1:a≤18446744073709551615:=by omega
  by_cases hkn:k<t.size
  · have hc:=hB k hkn;have hdrop:l.drop k=l[k]'(by omega)::l.drop (k+1):=List.drop_eq_getElem_cons (by omega);have hget:l.getD k 0=l[k]'(by omega):=by simp[List.getD,List.getElem?_eq_getElem (show k<l.length by omega)]
    rw[hdrop]at hdec;rw[hget]at hc;generalize l[k]'(by omega)=c at hc hdec;have hc256:c.toNat<256:=c.toNat_lt;clear hB hdrop hget;obtain⟨d,hd⟩:∃d,d=Pl.digV c.toNat:=⟨_,rfl⟩
    have hF:Pl.puM 16 18446744073709551615 acc (c::l.drop (k+1))=(if d<16 then (if 18446744073709551615<acc*16+d then .range else Pl.puM 16 18446744073709551615 (acc*16+d) (l.drop (k+1))) else Lib.NumEnd.syntax):=by rw[hd];rfl
    rw[hF]at hdec;clear hF;have NX:∀n:Nat,n=acc*16+d→d<16→¬ 18446744073709551615<n→RowKit.Hid (a*16+(d:Int)=(n:Int)∧n≤18446744073709551615∧Pl.puM 16 18446744073709551615 0 l=Pl.puM 16 18446744073709551615 n (l.drop (k+1))):=by
     intro n hn h1 h2;subst hn;exact Lib.hid ⟨by omega,by omega,by rw[hdec];simp[h1,h2]⟩
    have SY:¬d<16→RowKit.Hid (Pl.puM 16 18446744073709551615 0 l=Lib.NumEnd.syntax):=by
     intro h1;exact Lib.hid (by rw[hdec];simp[h1])
    have RG:d<16→18446744073709551615<acc*16+d→RowKit.Hid (Pl.puM 16 18446744073709551615 0 l = .range):=by
     intro h1 h2;exact Lib.hid (by rw[hdec];simp[h1,h2])
    clear hdec;by_cases hdB:d<16
    · have SY:True:=trivial;clear SY;have hdv:d=Pl.digV c.toNat:=hd;clear hd;unfold Pl.digV at hdv;by_cases hov:18446744073709551615<acc*16+d
      · have hR:=RG hdB hov;clear RG NX;have iov:1152921504606846976≤a:=by omega
        clear hov hacc ha;by_cases h48:48≤c.toNat∧c.toNat≤57
        · obtain⟨h1,h2⟩:=h48;rw[if_pos ⟨h1,h2⟩]at hdv;have e1:(d:Int)=(c.toNat:Int)-48:=by omega
          try rw[e1]at iov
          try rw[e1]at hR
          have hdi:(c.toNat:Int)-48<16:=by omega
          clear hdv hdB e1
          go_wp2
          go_ret2
          exact⟨by rw[hR.out];rfl,rfl⟩
        rw[if_neg h48]at hdv;by_cases h97:97≤c.toNat∧c.toNat≤122
        · have hlow:=low_lo c h97;rw[if_pos h97]at hdv;obtain⟨h1,h2⟩:=h97;clear h48;have e1:(d:Int)=(c.toNat:Int)-87:=by omega
          try rw[e1]at iov
          try rw[e1]at hR
          have hdi:(c.toNat:Int)-87<16:=by omega
          clear hdv hdB e1;go_wp2_with (refine (lower_at _ _ hlow _).mono ?_;rintro e w' ⟨rfl,rfl⟩)
          go_ret2
          exact⟨by rw[hR.out];rfl,rfl⟩
        rw[if_neg h97]at hdv;by_cases h65:65≤c.toNat∧c.toNat≤90
        · have hlow:=low_up c h65;rw[if_pos h65]at hdv;obtain⟨h1,h2⟩:=h65;clear h48 h97;have e1:(d:Int)=(c.toNat:Int)-55:=by omega
          try rw[e1]at iov
          try rw[e1]at hR
          have hdi:(c.toNat:Int)-55<16:=by omega
          clear hdv hdB e1;go_wp2_with (refine (lower_at _ _ hlow _).mono ?_;rintro e w' ⟨rfl,rfl⟩)
          go_ret2
          exact⟨by rw[hR.out];rfl,rfl⟩
        exfalso;rw[if_neg h65]at hdv;omega
      have hR:=NX _ rfl hdB hov;clear RG NX;have iov:a*16+(d:Int)≤18446744073709551615:=by omega
      have icut:a<1152921504606846976:=by omega
      clear hov hacc ha;by_cases h48:48≤c.toNat∧c.toNat≤57
      · obtain⟨h1,h2⟩:=h48;rw[if_pos ⟨h1,h2⟩]at hdv;have e1:(d:Int)=(c.toNat:Int)-48:=by omega
        try rw[e1]at iov
        try rw[e1]at hR
        have hdi:(c.toNat:Int)-48<16:=by omega
        clear hdv hdB e1
        go_wp2
        refine⟨⟨k+1,_,_,rfl,(by first|rfl|(congr 1;omega)),(by first|rfl|(congr 1;omega)),by omega,hR⟩,by simp[intOf];omega⟩
      rw[if_neg h48]at hdv;by_cases h97:97≤c.toNat∧c.toNat≤122
      · have hlow:=low_lo c h97;rw[if_pos h97]at hdv;obtain⟨h1,h2⟩:=h97;clear h48;have e1:(d:Int)=(c.toNat:Int)-87:=by omega
        try rw[e1]at iov
        try rw[e1]at hR
        have hdi:(c.toNat:Int)-87<16:=by omega
        clear hdv hdB e1;go_wp2_with (refine (lower_at _ _ hlow _).mono ?_;rintro e w' ⟨rfl,rfl⟩);refine⟨⟨k+1,_,_,rfl,(by first|rfl|(congr 1;omega)),(by first|rfl|(congr 1;omega)),by omega,hR⟩,by simp[intOf];omega⟩
      rw[if_neg h97]at hdv;by_cases h65:65≤c.toNat∧c.toNat≤90
      · have hlow:=low_up c h65;rw[if_pos h65]at hdv;obtain⟨h1,h2⟩:=h65;clear h48 h97;have e1:(d:Int)=(c.toNat:Int)-55:=by omega
        try rw[e1]at iov
        try rw[e1]at hR
        have hdi:(c.toNat:Int)-55<16:=by omega
        clear hdv hdB e1;go_wp2_with (refine (lower_at _ _ hlow _).mono ?_;rintro e w' ⟨rfl,rfl⟩);refine⟨⟨k+1,_,_,rfl,(by first|rfl|(congr 1;omega)),(by first|rfl|(congr 1;omega)),by omega,hR⟩,by simp[intOf];omega⟩
      exfalso;rw[if_neg h65]at hdv;omega
    have hR:=SY hdB;clear SY RG NX;unfold Pl.digV at hd;by_cases h48:48≤c.toNat∧c.toNat≤57
    · obtain⟨h1,h2⟩:=h48;rw[if_pos ⟨h1,h2⟩]at hd
      first
      | (exfalso;omega)
      | (subst hd
         go_wp2
         go_ret2
         exact⟨by rw[hR.out];rfl,rfl⟩)
    rw[if_neg h48]at hd;by_cases h97:97≤c.toNat∧c.toNat≤122
    · have hlow:=low_lo c h97;rw[if_pos h97]at hd;obtain⟨h1,h2⟩:=h97;clear h48;subst hd;go_wp2_with (refine (lower_at _ _ hlow _).mono ?_;rintro e w' ⟨rfl,rfl⟩)
      go_ret2
      exact⟨by rw[hR.out];rfl,rfl⟩
    rw[if_neg h97]at hd;by_cases h65:65≤c.toNat∧c.toNat≤90
    · have hlow:=low_up c h65;rw[if_pos h65]at hd;obtain⟨h1,h2⟩:=h65;clear h48 h97;subst hd;go_wp2_with (refine (lower_at _ _ hlow _).mono ?_;rintro e w' ⟨rfl,rfl⟩)
      go_ret2
      exact⟨by rw[hR.out];rfl,rfl⟩
    clear hd;by_cases h95:c.toNat=95
    · rw[h95]at hc;clear h48 h97 h65;go_wp2_with (refine (lower_at 95 127 (by decide +kernel) _).mono ?_;rintro e w' ⟨rfl,rfl⟩)
      go_ret2
      exact⟨by rw[hR.out];rfl,rfl⟩
    have hno:=low_no c h65 h97;have hv0:=bits_lo_u8 .or (c.toNat:Int) 32;have hv1:=bits_hi_u8 .or (c.toNat:Int) 32;obtain⟨v,hv⟩:∃v,bits .or .u8 (c.toNat:Int) 32=v:=⟨_,rfl⟩
    rw[hv]at hno hv0 hv1;have i48:¬((48:Int)≤c.toNat∧(c.toNat:Int)≤57):=by omega
    have i95:¬(c.toNat:Int)=95:=by omega
    clear h48 h97 h65 h95;go_wp2_with (refine (lower_at _ _ hv _).mono ?_;rintro e w' ⟨rfl,rfl⟩)
    all_goals go_ret2
    all_goals exact⟨by rw[hR.out];rfl,rfl⟩
  have hkk:k=t.size:=by omega
  subst hkk;have hF:Pl.puM 16 18446744073709551615 acc (l.drop t.size) = .ok acc:=by rw[List.drop_eq_nil_of_le (by omega)];rfl
  rw[hF]at hdec;subst ha;clear hacc hF a0 a1
  go_wp2
  go_ret2
  first|exact⟨rfl,rfl⟩|exact⟨by rw[hdec];rfl,rfl⟩
set_option maxRecDepth 100000 in
theorem pu_8_64 (t:ByteArray) (hne:t.size≠0) (hmax:t.size≤9223372036854775806) (w:World) :
    Calls Tryz.prog 152 #[.string t,.int .i64 8,.int .i64 64] w fun e w'=>e = .returned (Lib.uintTupleM 214 18446744073709551615 (Pl.puM 8 18446744073709551615 0 t.data.toList))∧w'=Lib.bytesWorld w 5 t:=by
 have hemp:t.toList.isEmpty=false:=by
  rw[←decide_eq_emptyBytes];exact decide_eq_false (fun h=>hne (by rw[h];rfl))
 have hcv:=Lib.run_convert_string_bytes (P:=Tryz.prog) w 9 23 5 t (u := .string) (by kernel_rfl) (by kernel_rfl) (by kernel_rfl);have hB:∀j,j<t.size→(Lib.bytesWorld w 5 t).cell? ⟨w.heap.size,j,none⟩=some (.int .u8 (t.data.toList.getD j 0).toNat):=fun j hj=>Lib.bytesWorld_cell w 5 t j hj
 obtain⟨W1,hW1⟩:∃W1,W1=Lib.bytesWorld w 5 t:=⟨_,rfl⟩
 rw[←hW1]at hcv hB ⊢;clear hW1;obtain⟨l,hL⟩:∃l,l=t.data.toList:=⟨_,rfl⟩
 have hLn:l.length=t.size:=by rw[hL,Lib.size_eq]
 rw[←hL]at hB ⊢;clear hL;have hmv:IntKind.u64.wrap (IntKind.u64.wrap 18446744073709551616-1)=18446744073709551615:=by
  rw[IntKind.wrap_u64,IntKind.wrap_u64];decide
 go_enter Tryz.func152,Tryz.ntmps152
 go_wp2
 go_loop [12,13,101] (fun vu vn vi=>∃(k acc:Nat) (a:Int),vu = .bool false∧vn = .int .u64 a∧vi = .int .i64 k∧k≤t.size∧RowKit.Hid (a=(acc:Int)∧acc≤18446744073709551615∧Pl.puM 8 18446744073709551615 0 l=Pl.puM 8 18446744073709551615 acc (l.drop k)))
  (fun _ _ vi=>t.size-(intOf vi).toNat)
 case atStart=>exact⟨0,0,0,rfl,rfl,rfl,by omega,Lib.hid ⟨rfl,by omega,rfl⟩⟩
 case round =>
  obtain⟨k,acc,a,rfl,rfl,rfl,hk,hh⟩:=hrel;obtain⟨ha,hacc,hdec⟩:=hh.out;clear hh;have a0:0≤a:=by omega
  have a1:a≤18446744073709551615:=by omega
  by_cases hkn:k<t.size
  · have hc:=hB k hkn;have hdrop:l.drop k=l[k]'(by omega)::l.drop (k+1):=List.drop_eq_getElem_cons (by omega);have hget:l.getD k 0=l[k]'(by omega):=by simp[List.getD,List.getElem?_eq_getElem (show k<l.length by omega)]
    rw[hdrop]at hdec;rw[hget]at hc;generalize l[k]'(by omega)=c at hc hdec;have hc256:c.toNat<256:=c.toNat_lt;clear hB hdrop hget;obtain⟨d,hd⟩:∃d,d=Pl.digV c.toNat:=⟨_,rfl⟩
    have hF:Pl.puM 8 18446744073709551615 acc (c::l.drop (k+1))=(if d<8 then (if 18446744073709551615<acc*8+d then .range else Pl.puM 8 18446744073709551615 (acc*8+d) (l.drop (k+1))) else Lib.NumEnd.syntax):=by rw[hd];rfl
    rw[hF]at hdec;clear hF;have NX:∀n:Nat,n=acc*8+d→d<8→¬ 18446744073709551615<n→RowKit.Hid (a*8+(d:Int)=(n:Int)∧n≤18446744073709551615∧Pl.puM 8 18446744073709551615 0 l=Pl.puM 8 18446744073709551615 n (l.drop (k+1))):=by
     intro n hn h1 h2;subst hn;exact Lib.hid ⟨by omega,by omega,by rw[hdec];simp[h1,h2]⟩
    have SY:¬d<8→RowKit.Hid (Pl.puM 8 18446744073709551615 0 l=Lib.NumEnd.syntax):=by
     intro h1;exact Lib.hid (by rw[hdec];simp[h1])
    have RG:d<8→18446744073709551615<acc*8+d→RowKit.Hid (Pl.puM 8 18446744073709551615 0 l = .range):=by
     intro h1 h2;exact Lib.hid (by rw[hdec];simp[h1,h2])
    clear hdec;by_cases hdB:d<8
    · have SY:True:=trivial;clear SY;have hdv:d=Pl.digV c.toNat:=hd;clear hd;unfold Pl.digV at hdv;by_cases hov:18446744073709551615<acc*8+d
      · have hR:=RG hdB hov;clear RG NX;have iov:2305843009213693952≤a:=by omega
        clear hov hacc ha;by_cases h48:48≤c.toNat∧c.toNat≤57
        · obtain⟨h1,h2⟩:=h48;rw[if_pos ⟨h1,h2⟩]at hdv;have e1:(d:Int)=(c.toNat:Int)-48:=by omega
          try rw[e1]at iov
          try rw[e1]at hR
          have hdi:(c.toNat:Int)-48<8:=by omega
          clear hdv hdB e1
          go_wp2
          all_goals go_ret2
          all_goals exact⟨by rw[hR.out];rfl,rfl⟩
        rw[if_neg h48]at hdv;by_cases h97:97≤c.toNat∧c.toNat≤122
        · have hlow:=low_lo c h97;rw[if_pos h97]at hdv;obtain⟨h1,h2⟩:=h97;clear h48;have e1:(d:Int)=(c.toNat:Int)-87:=by omega
          try rw[e1]at iov
          try rw[e1]at hR
          have hdi:(c.toNat:Int)-87<8:=by omega
          clear hdv hdB e1;go_wp2_with (refine (lower_at _ _ hlow _).mono ?_;rintro e w' ⟨rfl,rfl⟩)
          all_goals go_ret2
          all_goals exact⟨by rw[hR.out];rfl,rfl⟩
        rw[if_neg h97]at hdv;by_cases h65:65≤c.toNat∧c.toNat≤90
        · have hlow:=low_up c h65;rw[if_pos h65]at hdv;obtain⟨h1,h2⟩:=h65;clear h48 h97;have e1:(d:Int)=(c.toNat:Int)-55:=by omega
          try rw[e1]at iov
          try rw[e1]at hR
          have hdi:(c.toNat:Int)-55<8:=by omega
          clear hdv hdB e1;go_wp2_with (refine (lower_at _ _ hlow _).mono ?_;rintro e w' ⟨rfl,rfl⟩)
          all_goals go_ret2
          all_goals exact⟨by rw[hR.out];rfl,rfl⟩
        exfalso;rw[if_neg h65]at hdv;omega
      have hR:=NX _ rfl hdB hov;clear RG NX;have iov:a*8+(d:Int)≤18446744073709551615:=by omega
      have icut:a<2305843009213693952:=by omega
      clear hov hacc ha;by_cases h48:48≤c.toNat∧c.toNat≤57
      · obtain⟨h1,h2⟩:=h48;rw[if_pos ⟨h1,h2⟩]at hdv;have e1:(d:Int)=(c.toNat:Int)-48:=by omega
        try rw[e1]at iov
        try rw[e1]at hR
        have hdi:(c.toNat:Int)-48<8:=by omega
        clear hdv hdB e1
        go_wp2
        all_goals refine⟨⟨k+1,_,_,rfl,(by first|rfl|(congr 1;omega)),(by first|rfl|(congr 1;omega)),by omega,hR⟩,by simp[intOf];omega⟩
      rw[if_neg h48]at hdv;by_cases h97:97≤c.toNat∧c.toNat≤122
      · have hlow:=low_lo c h97;rw[if_pos h97]at hdv;obtain⟨h1,h2⟩:=h97;clear h48;have e1:(d:Int)=(c.toNat:Int)-87:=by omega
        try rw[e1]at iov
        try rw[e1]at hR
        have hdi:(c.toNat:Int)-87<8:=by omega
        clear hdv hdB e1;go_wp2_with (refine (lower_at _ _ hlow _).mono ?_;rintro e w' ⟨rfl,rfl⟩)
        all_goals refine⟨⟨k+1,_,_,rfl,(by first|rfl|(congr 1;omega)),(by first|rfl|(congr 1;omega)),by omega,hR⟩,by simp[intOf];omega⟩
      rw[if_neg h97]at hdv;by_cases h65:65≤c.toNat∧c.toNat≤90
      · have hlow:=low_up c h65;rw[if_pos h65]at hdv;obtain⟨h1,h2⟩:=h65;clear h48 h97;have e1:(d:Int)=(c.toNat:Int)-55:=by omega
        try rw[e1]at iov
        try rw[e1]at hR
        have hdi:(c.toNat:Int)-55<8:=by omega
        clear hdv hdB e1;go_wp2_with (refine (lower_at _ _ hlow _).mono ?_;rintro e w' ⟨rfl,rfl⟩)
        all_goals refine⟨⟨k+1,_,_,rfl,(by first|rfl|(congr 1;omega)),(by first|rfl|(congr 1;omega)),by omega,hR⟩,by simp[intOf];omega⟩
      exfalso;rw[if_neg h65]at hdv;omega
    have hR:=SY hdB;clear SY RG NX;unfold Pl.digV at hd;by_cases h48:48≤c.toNat∧c.toNat≤57
    · obtain⟨h1,h2⟩:=h48;rw[if_pos ⟨h1,h2⟩]at hd
      first
      | (exfalso;omega)
      | (subst hd
         go_wp2
         all_goals go_ret2
         exact⟨by rw[hR.out];rfl,rfl⟩)
    rw[if_neg h48]at hd;by_cases h97:97≤c.toNat∧c.toNat≤122
    · have hlow:=low_lo c h97;rw[if_pos h97]at hd;obtain⟨h1,h2⟩:=h97;clear h48;subst hd;go_wp2_with (refine (lower_at _ _ hlow _).mono ?_;rintro e w' ⟨rfl,rfl⟩)
      all_goals go_ret2
      all_goals exact⟨by rw[hR.out];rfl,rfl⟩
    rw[if_neg h97]at hd;by_cases h65:65≤c.toNat∧c.toNat≤90
    · have hlow:=low_up c h65;rw[if_pos h65]at hd;obtain⟨h1,h2⟩:=h65;clear h48 h97;subst hd;go_wp2_with (refine (lower_at _ _ hlow _).mono ?_;rintro e w' ⟨rfl,rfl⟩)
      all_goals go_ret2
      all_goals exact⟨by rw[hR.out];rfl,rfl⟩
    clear hd;by_cases h95:c.toNat=95
    · rw[h95]at hc;clear h48 h97 h65;go_wp2_with (refine (lower_at 95 127 (by decide +kernel) _).mono ?_;rintro e w' ⟨rfl,rfl⟩)
      all_goals go_ret2
      all_goals exact⟨by rw[hR.out];rfl,rfl⟩
    have hno:=low_no c h65 h97;have hv0:=bits_lo_u8 .or (c.toNat:Int) 32;have hv1:=bits_hi_u8 .or (c.toNat:Int) 32;obtain⟨v,hv⟩:∃v,bits .or .u8 (c.toNat:Int) 32=v:=⟨_,rfl⟩
    rw[hv]at hno hv0 hv1;have i48:¬((48:Int)≤c.toNat∧(c.toNat:Int)≤57):=by omega
    have i95:¬(c.toNat:Int)=95:=by omega
    clear h48 h97 h65 h95;go_wp2_with (refine (lower_at _ _ hv _).mono ?_;rintro e w' ⟨rfl,rfl⟩)
    all_goals go_ret2
    all_goals exact⟨by rw[hR.out];rfl,rfl⟩
  have hkk:k=t.size:=by omega
  subst hkk;have hF:Pl.puM 8 18446744073709551615 acc (l.drop t.size) = .ok acc:=by rw[List.drop_eq_nil_of_le (by omega)];rfl
  rw[hF]at hdec;subst ha;clear hacc hF a0 a1
  go_wp2
  all_goals go_ret2
  first|exact⟨rfl,rfl⟩|exact⟨by rw[hdec];rfl,rfl⟩
set_option maxRecDepth 100000 in
theorem pu_2_64 (t:ByteArray) (hne:t.size≠0) (hmax:t.size≤9223372036854775806) (w:World) :
    Calls Tryz.prog 152 #[.string t,.int .i64 2,.int .i64 64] w fun e w'=>e = .returned (Lib.uintTupleM 214 18446744073709551615 (Pl.puM 2 18446744073709551615 0 t.data.toList))∧w'=Lib.bytesWorld w 5 t:=by
 have hemp:t.toList.isEmpty=false:=by
  rw[←decide_eq_emptyBytes];exact decide_eq_false (fun h=>hne (by rw[h];rfl))
 have hcv:=Lib.run_convert_string_bytes (P:=Tryz.prog) w 9 23 5 t (u := .string) (by kernel_rfl) (by kernel_rfl) (by kernel_rfl);have hB:∀j,j<t.size→(Lib.bytesWorld w 5 t).cell? ⟨w.heap.size,j,none⟩=some (.int .u8 (t.data.toList.getD j 0).toNat):=fun j hj=>Lib.bytesWorld_cell w 5 t j hj
 obtain⟨W1,hW1⟩:∃W1,W1=Lib.bytesWorld w 5 t:=⟨_,rfl⟩
 rw[←hW1]at hcv hB ⊢;clear hW1;obtain⟨l,hL⟩:∃l,l=t.data.toList:=⟨_,rfl⟩
 have hLn:l.length=t.size:=by rw[hL,Lib.size_eq]
 rw[←hL]at hB ⊢;clear hL;have hmv:IntKind.u64.wrap (IntKind.u64.wrap 18446744073709551616-1)=18446744073709551615:=by
  rw[IntKind.wrap_u64,IntKind.wrap_u64];decide
 go_enter Tryz.func152,Tryz.ntmps152
 go_wp2
 go_loop [12,13,101] (fun vu vn vi=>∃(k acc:Nat) (a:Int),vu = .bool false∧vn = .int .u64 a∧vi = .int .i64 k∧k≤t.size∧RowKit.Hid (a=(acc:Int)∧acc≤18446744073709551615∧Pl.puM 2 18446744073709551615 0 l=Pl.puM 2 18446744073709551615 acc (l.drop k)))
  (fun _ _ vi=>t.size-(intOf vi).toNat)
 case atStart=>exact⟨0,0,0,rfl,rfl,rfl,by omega,Lib.hid ⟨rfl,by omega,rfl⟩⟩
 case round =>
  obtain⟨k,acc,a,rfl,rfl,rfl,hk,hh⟩:=hrel;obtain⟨ha,hacc,hdec⟩:=hh.out;clear hh;have a0:0≤a:=by omega
  have a1:a≤18446744073709551615:=by omega
  by_cases hkn:k<t.size
  · have hc:=hB k hkn;have hdrop:l.drop k=l[k]'(by omega)::l.drop (k+1):=List.drop_eq_getElem_cons (by omega);have hget:l.getD k 0=l[k]'(by omega):=by simp[List.getD,List.getElem?_eq_getElem (show k<l.length by omega)]
    rw[hdrop]at hdec;rw[hget]at hc;generalize l[k]'(by omega)=c at hc hdec;have hc256:c.toNat<256:=c.toNat_lt;clear hB hdrop hget;obtain⟨d,hd⟩:∃d,d=Pl.digV c.toNat:=⟨_,rfl⟩
    have hF:Pl.puM 2 18446744073709551615 acc (c::l.drop (k+1))=(if d<2 then (if 18446744073709551615<acc*2+d then .range else Pl.puM 2 18446744073709551615 (acc*2+d) (l.drop (k+1))) else Lib.NumEnd.syntax):=by rw[hd];rfl
    rw[hF]at hdec;clear hF;have NX:∀n:Nat,n=acc*2+d→d<2→¬ 18446744073709551615<n→RowKit.Hid (a*2+(d:Int)=(n:Int)∧n≤18446744073709551615∧Pl.puM 2 18446744073709551615 0 l=Pl.puM 2 18446744073709551615 n (l.drop (k+1))):=by
     intro n hn h1 h2;subst hn;exact Lib.hid ⟨by omega,by omega,by rw[hdec];simp[h1,h2]⟩
    have SY:¬d<2→RowKit.Hid (Pl.puM 2 18446744073709551615 0 l=Lib.NumEnd.syntax):=by
     intro h1;exact Lib.hid (by rw[hdec];simp[h1])
    have RG:d<2→18446744073709551615<acc*2+d→RowKit.Hid (Pl.puM 2 18446744073709551615 0 l = .range):=by
     intro h1 h2;exact Lib.hid (by rw[hdec];simp[h1,h2])
    clear hdec;by_cases hdB:d<2
    · have SY:True:=trivial;clear SY;have hdv:d=Pl.digV c.toNat:=hd;clear hd;unfold Pl.digV at hdv;by_cases hov:18446744073709551615<acc*2+d
      · have hR:=RG hdB hov;clear RG NX;have iov:9223372036854775808≤a:=by omega
        clear hov hacc ha;by_cases h48:48≤c.toNat∧c.toNat≤57
        · obtain⟨h1,h2⟩:=h48;rw[if_pos ⟨h1,h2⟩]at hdv;have e1:(d:Int)=(c.toNat:Int)-48:=by omega
          try rw[e1]at iov
          try rw[e1]at hR
          have hdi:(c.toNat:Int)-48<2:=by omega
          clear hdv hdB e1
          go_wp2
          all_goals go_ret2
          all_goals exact⟨by rw[hR.out];rfl,rfl⟩
        rw[if_neg h48]at hdv;by_cases h97:97≤c.toNat∧c.toNat≤122
        · have hlow:=low_lo c h97;rw[if_pos h97]at hdv;obtain⟨h1,h2⟩:=h97;clear h48;have e1:(d:Int)=(c.toNat:Int)-87:=by omega
          try rw[e1]at iov
          try rw[e1]at hR
          have hdi:(c.toNat:Int)-87<2:=by omega
          clear hdv hdB e1;go_wp2_with (refine (lower_at _ _ hlow _).mono ?_;rintro e w' ⟨rfl,rfl⟩)
          all_goals go_ret2
          all_goals exact⟨by rw[hR.out];rfl,rfl⟩
        rw[if_neg h97]at hdv;by_cases h65:65≤c.toNat∧c.toNat≤90
        · have hlow:=low_up c h65;rw[if_pos h65]at hdv;obtain⟨h1,h2⟩:=h65;clear h48 h97;have e1:(d:Int)=(c.toNat:Int)-55:=by omega
          try rw[e1]at iov
          try rw[e1]at hR
          have hdi:(c.toNat:Int)-55<2:=by omega
          clear hdv hdB e1;go_wp2_with (refine (lower_at _ _ hlow _).mono ?_;rintro e w' ⟨rfl,rfl⟩)
          all_goals go_ret2
          all_goals exact⟨by rw[hR.out];rfl,rfl⟩
        exfalso;rw[if_neg h65]at hdv;omega
      have hR:=NX _ rfl hdB hov;clear RG NX;have iov:a*2+(d:Int)≤18446744073709551615:=by omega
      have icut:a<9223372036854775808:=by omega
      clear hov hacc ha;by_cases h48:48≤c.toNat∧c.toNat≤57
      · obtain⟨h1,h2⟩:=h48;rw[if_pos ⟨h1,h2⟩]at hdv;have e1:(d:Int)=(c.toNat:Int)-48:=by omega
        try rw[e1]at iov
        try rw[e1]at hR
        have hdi:(c.toNat:Int)-48<2:=by omega
        clear hdv hdB e1
        go_wp2
        all_goals refine⟨⟨k+1,_,_,rfl,(by first|rfl|(congr 1;omega)),(by first|rfl|(congr 1;omega)),by omega,hR⟩,by simp[intOf];omega⟩
      rw[if_neg h48]at hdv;by_cases h97:97≤c.toNat∧c.toNat≤122
      · have hlow:=low_lo c h97;rw[if_pos h97]at hdv;obtain⟨h1,h2⟩:=h97;clear h48;have e1:(d:Int)=(c.toNat:Int)-87:=by omega
        try rw[e1]at iov
        try rw[e1]at hR
        have hdi:(c.toNat:Int)-87<2:=by omega
        clear hdv hdB e1;go_wp2_with (refine (lower_at _ _ hlow _).mono ?_;rintro e w' ⟨rfl,rfl⟩)
        all_goals refine⟨⟨k+1,_,_,rfl,(by first|rfl|(congr 1;omega)),(by first|rfl|(congr 1;omega)),by omega,hR⟩,by simp[intOf];omega⟩
      rw[if_neg h97]at hdv;by_cases h65:65≤c.toNat∧c.toNat≤90
      · have hlow:=low_up c h65;rw[if_pos h65]at hdv;obtain⟨h1,h2⟩:=h65;clear h48 h97;have e1:(d:Int)=(c.toNat:Int)-55:=by omega
        try rw[e1]at iov
        try rw[e1]at hR
        have hdi:(c.toNat:Int)-55<2:=by omega
        clear hdv hdB e1;go_wp2_with (refine (lower_at _ _ hlow _).mono ?_;rintro e w' ⟨rfl,rfl⟩)
        all_goals refine⟨⟨k+1,_,_,rfl,(by first|rfl|(congr 1;omega)),(by first|rfl|(congr 1;omega)),by omega,hR⟩,by simp[intOf];omega⟩
      exfalso;rw[if_neg h65]at hdv;omega
    have hR:=SY hdB;clear SY RG NX;unfold Pl.digV at hd;by_cases h48:48≤c.toNat∧c.toNat≤57
    · obtain⟨h1,h2⟩:=h48;rw[if_pos ⟨h1,h2⟩]at hd
      first
      | (exfalso;omega)
      | (subst hd
         go_wp2
         all_goals go_ret2
         exact⟨by rw[hR.out];rfl,rfl⟩)
    rw[if_neg h48]at hd;by_cases h97:97≤c.toNat∧c.toNat≤122
    · have hlow:=low_lo c h97;rw[if_pos h97]at hd;obtain⟨h1,h2⟩:=h97;clear h48;subst hd;go_wp2_with (refine (lower_at _ _ hlow _).mono ?_;rintro e w' ⟨rfl,rfl⟩)
      all_goals go_ret2
      all_goals exact⟨by rw[hR.out];rfl,rfl⟩
    rw[if_neg h97]at hd;by_cases h65:65≤c.toNat∧c.toNat≤90
    · have hlow:=low_up c h65;rw[if_pos h65]at hd;obtain⟨h1,h2⟩:=h65;clear h48 h97;subst hd;go_wp2_with (refine (lower_at _ _ hlow _).mono ?_;rintro e w' ⟨rfl,rfl⟩)
      all_goals go_ret2
      all_goals exact⟨by rw[hR.out];rfl,rfl⟩
    clear hd;by_cases h95:c.toNat=95
    · rw[h95]at hc;clear h48 h97 h65;go_wp2_with (refine (lower_at 95 127 (by decide +kernel) _).mono ?_;rintro e w' ⟨rfl,rfl⟩)
      all_goals go_ret2
      all_goals exact⟨by rw[hR.out];rfl,rfl⟩
    have hno:=low_no c h65 h97;have hv0:=bits_lo_u8 .or (c.toNat:Int) 32;have hv1:=bits_hi_u8 .or (c.toNat:Int) 32;obtain⟨v,hv⟩:∃v,bits .or .u8 (c.toNat:Int) 32=v:=⟨_,rfl⟩
    rw[hv]at hno hv0 hv1;have i48:¬((48:Int)≤c.toNat∧(c.toNat:Int)≤57):=by omega
    have i95:¬(c.toNat:Int)=95:=by omega
    clear h48 h97 h65 h95;go_wp2_with (refine (lower_at _ _ hv _).mono ?_;rintro e w' ⟨rfl,rfl⟩)
    all_goals go_ret2
    all_goals exact⟨by rw[hR.out];rfl,rfl⟩
  have hkk:k=t.size:=by omega
  subst hkk;have hF:Pl.puM 2 18446744073709551615 acc (l.drop t.size) = .ok acc:=by rw[List.drop_eq_nil_of_le (by omega)];rfl
  rw[hF]at hdec;subst ha;clear hacc hF a0 a1
  go_wp2
  all_goals go_ret2
  first|exact⟨rfl,rfl⟩|exact⟨by rw[hdec];rfl,rfl⟩
end Go.Proofs.YtkplelejagpkmaaGreatDoor
namespace Go.Proofs.YtkplelejagpkmaaGreatDoor
theorem idx_none (b:UInt8) (l:List UInt8) (h:Lib.indexByte l b = -1):∀c∈l,c≠b:=by
 induction l with
 | nil=>intro c hc;cases hc
 | cons a l ih =>
  cases ha:(a==b) with
  | true=>unfold Lib.indexByte at h;rw[ha]at h;cases h
  | false =>
   have h2:Lib.indexByte l b = -1:=by
    rcases indexByte_cases l b with e|⟨i,e⟩
    · exact e
    rw[indexByte_step a b l ha _ e,if_neg (by omega)]at h;omega
   intro c hc;rcases List.mem_cons.1 hc with rfl|hc
   · simpa using ha
   exact ih h2 c hc
theorem idx_some (b:UInt8) (l:List UInt8) (i:Nat) (h:Lib.indexByte l b=i):(∀c∈l.take i,c≠b)∧l.drop i=b::l.drop (i+1):=by
 induction l generalizing i with
 | nil=>unfold Lib.indexByte at h;omega
 | cons a l ih =>
  cases ha:(a==b) with
  | true =>
   have:i=0:=by unfold Lib.indexByte at h;rw[ha]at h;simp at h;omega
   subst this;have:a=b:=by simpa using ha
   subst this;exact⟨fun c hc=>by simp at hc,rfl⟩
  | false =>
   rcases indexByte_cases l b with e|⟨k,e⟩
   · rw[indexByte_step a b l ha _ e,if_pos rfl]at h;omega
   rw[indexByte_step a b l ha _ e,if_neg (by omega)]at h;obtain rfl:i=k+1:=by omega
   obtain⟨h1,h2⟩:=ih k e;refine⟨fun c hc=>?_,h2⟩;rw[List.take_succ_cons]at hc;rcases List.mem_cons.1 hc with rfl|hc
   · simpa using ha
   exact h1 c hc
namespace Pl
theorem lowless_filter (l:Bs):lowless l=l.filter (· != 95):=by
 have H:∀n (l:Bs),l.length≤n→Lib.replaceK [95] [] (Lib.count l [95]) l=l.filter (· != 95):=by
  intro n
  induction n with
  | zero =>
   intro l hl;have:l=[]:=List.length_eq_zero_iff.1 (by omega);subst this;rfl
  | succ n ih =>
   intro l hl;rcases indexByte_cases l 95 with e|⟨i,e⟩
   · have e2:Lib.index l [95] = -1:=by rw[Lib.index_one];exact e
     rw[Lib.count_miss e2];have:=idx_none 95 l e;show l=_;rw[List.filter_eq_self.2 (fun c hc=>by simpa using this c hc)]
   have e2:Lib.index l [95]=i:=by rw[Lib.index_one];exact e
   obtain⟨h1,h2⟩:=idx_some 95 l i e;have hlen:i<l.length:=by
    have:=congrArg List.length h2;rw[List.length_drop,List.length_cons]at this;omega
   rw[Lib.count_hit (by simp) e2,Nat.add_comm,Lib.replaceK_hit [95] [] _ l i e2];show l.take i++[]++Lib.replaceK [95] [] (Lib.count (l.drop (i+1)) [95]) (l.drop (i+1))=_;rw[ih (l.drop (i+1)) (by rw[List.length_drop];omega),List.append_nil]
   conv=>rhs;rw[←List.take_append_drop i l,List.filter_append,h2]
   have ht:(l.take i).filter (· != 95)=l.take i:=List.filter_eq_self.2 (fun c hc=>by simpa using h1 c hc);rw[ht];simp
 unfold lowless Lib.replaceAll Lib.replace Lib.replaceNum;rw[if_neg (by decide),if_pos (.inl (by decide))];exact H l.length l (Nat.le_refl _)
theorem lowless_len (l:Bs):(lowless l).length≤l.length:=by rw[lowless_filter];exact List.length_filter_le _ _
theorem split_mem (l:Bs):∀c∈l,c≠95→∃p∈splitB 95 l,c∈p:=by
 induction l with
 | nil=>intro c hc;cases hc
 | cons a l ih =>
  intro c hc hne;unfold splitB;cases ha:(a==95) with
  | true =>
   rw[if_pos rfl];have:a=95:=by simpa using ha
   rcases List.mem_cons.1 hc with rfl|hc
   · exact absurd this hne
   obtain⟨p,hp,h⟩:=ih c hc hne;exact⟨p,List.mem_cons_of_mem _ hp,h⟩
  | false =>
   rw[if_neg (by simp)];cases hs:splitB 95 l with
   | nil=>exact absurd hs (splitB_ne 95 l)
   | cons q qs =>
    simp only;rcases List.mem_cons.1 hc with rfl|hc
    · exact⟨c::q,by simp,by simp⟩
    obtain⟨p,hp,h⟩:=ih c hc hne;rw[hs]at hp;rcases List.mem_cons.1 hp with rfl|hp
    · exact⟨a::p,by simp,List.mem_cons_of_mem _ h⟩
    exact⟨p,List.mem_cons_of_mem _ hp,h⟩
theorem right_digits (d:UInt8→Bool) (l:Bs) (h:rightD d l=true):(∀c∈lowless l,d c=true)∧lowless l≠[]:=by
 unfold rightD at h;rw[List.all_eq_true]at h;constructor
 · intro c hc;rw[lowless_filter,List.mem_filter]at hc;obtain⟨p,hp,hcp⟩:=split_mem l c hc.1 (by simpa using hc.2);have:=h p hp;simp only[Bool.and_eq_true,List.all_eq_true]at this;exact this.2 c hcp
 intro he;cases hs:splitB 95 l with
 | nil=>exact splitB_ne 95 l hs
 | cons p ps =>
  have hp:=h p (by rw[hs];simp);simp only[Bool.and_eq_true,Bool.not_eq_true',List.isEmpty_eq_false_iff]at hp;have hfirst:∀(l p:Bs) ps,splitB 95 l=p::ps→p≠[]→∃c∈l,c≠95:=by
   intro l p ps hs hne;cases l with
   | nil=>simp[splitB]at hs;exact absurd hs.1 (by rw[hs.1]at hne;exact absurd rfl hne)
   | cons a l =>
    unfold splitB at hs
    split at hs
    · simp only[List.cons.injEq]at hs;exact absurd hs.1.symm hne
    rename_i ha
    exact⟨a,by simp,by simpa using ha⟩
  obtain⟨c,h1,h2⟩:=hfirst l p ps hs hp.1;have:c∈lowless l:=by rw[lowless_filter,List.mem_filter];exact⟨h1,by simpa using h2⟩
  rw[he]at this;cases this
theorem parseU_digits (M:Nat) (l:Bs):∀acc,(∀c∈l,isDec c=true)→Lib.parseUintM M acc l≠Lib.NumEnd.syntax:=by
 induction l with
 | nil=>intro acc _ h;simp[Lib.parseUintM]at h
 | cons c l ih =>
  intro acc hd;have hc:=hd c (by simp);simp only[isDec,Bool.and_eq_true,decide_eq_true_eq]at hc;unfold Lib.parseUintM;rw[if_pos hc]
  split
  · simp
  split
  · simp
  exact ih _ (fun x hx=>hd x (List.mem_cons_of_mem _ hx))
theorem parse_digits (sg l:Bs) (hs:sg=[]∨sg=[43]∨sg=[45]) (hd:∀c∈l,isDec c=true) (hne:l≠[]):Lib.parseIntB 64 (sg++l)≠Lib.NumEnd.syntax:=by
 have hU:Lib.parseUintB 64 l≠Lib.NumEnd.syntax:=by unfold Lib.parseUintB;rw[if_neg hne];exact parseU_digits _ _ _ hd
 have fin:∀(neg:Prop) [Decidable neg],(match Lib.parseUintB 64 l with
     | Lib.NumEnd.syntax=>Lib.NumEnd.syntax
     | .range => .range
     | .ok u=>if ¬neg∧2 ^ (64-1)≤u then .range else if neg∧2 ^ (64-1)<u then .range else .ok (if neg then -(u:Int) else u))≠Lib.NumEnd.syntax:=by
  intro neg _ h;revert h hU;cases Lib.parseUintB 64 l with
  | range=>intro _ h;cases h
  | ok u =>
   intro _ h;simp only at h
   split at h
   · cases h
   split at h <;> cases h
  | _=>intro hU;exact absurd rfl hU
 rcases hs with rfl|rfl|rfl
 · rw[List.nil_append];cases l with
   | nil=>exact absurd rfl hne
   | cons c l =>
    have hc:=hd c (by simp);simp only[isDec,Bool.and_eq_true,decide_eq_true_eq]at hc;unfold Lib.parseIntB;simp only;rw[if_neg (by omega)];exact fin _
 · exact fin _
 exact fin _
end Pl
end Go.Proofs.YtkplelejagpkmaaGreatDoor
