/-
 Short forms of steps and of ends of walks that come again and again: what they run stands as each one's default argument.
-/
import Derived.WalkSpells
import Derived.WalkLawsBesides
import Derived.BigQuiet
import Derived.Deep.AppendLies
import Derived.Deep.RegionLaw
import Derived.Deep.RegionHeld3
import Derived.StillTailTactics
import Derived.OwnWalkIn
import Derived.TacticsInMore
import Derived.LoopNIn
import Derived.LoopIn
import Derived.Deep.DeepCutAuto
import Derived.Lib.AtoiAll
import Derived.Lib.ConvBytes
import Derived.Lib.Hide
import Derived.Lib.Strings
set_option linter.all false
namespace Go.Proofs.YtnkgknbdaiakgaaGreatDoor.Pl
end Go.Proofs.YtnkgknbdaiakgaaGreatDoor.Pl
namespace Go.Proofs.YtnkgknbdaiakgaaGreatDoor
instance:Coe World Nat:=⟨λ w=>w.heap.size⟩
instance:Coe Nat Addr:=⟨λ g=>⟨g,0,none⟩⟩
theorem _root_.Ya{p:Prop}(h:p:=by omega):p:=h
theorem _root_.Yb{p:Prop}(h:p:=by simp):p:=h
theorem _root_.Yc{p:Prop}(h:p:=by kernel_rfl):p:=h
theorem _root_.Yd{p:Prop}(h:p:=by decide):p:=h
theorem _root_.Ye{p:Prop}(h:p:=by simp;omega):p:=h
theorem _root_.Yf{p:Prop}(h:p:=by first|(simp;done)|(simp;omega)):p:=h
theorem _root_.Yg{p:Prop}(h:p:=by decide +kernel):p:=h
theorem _root_.Yh{p:Prop}(h:p:=by simp[go_sem]):p:=h
theorem _root_.Yi{p:Prop}(h:p:=by rfl):p:=h
theorem _root_.Yj{p:Prop}(h:p:=by simp only;omega):p:=h
theorem _root_.Yk{p:Prop}(h:p:=by unfold maxLen;omega):p:=h
theorem _root_.Yl{p:Prop}(h:p:=by assumption):p:=h
theorem _root_.Ym{p:Prop}(h:p:=by simp[Value.oneCell']):p:=h
theorem _root_.Yn{p:Prop}(h:p:=by simp[V4p]):p:=h
instance:Coe Int Value:=⟨λ x=>.int .i64 x⟩
instance:Coe Nat Value:=⟨λ x=>.int .i64 x⟩
instance:Coe Int Lit:=⟨λ x=>.int .i64 x⟩
instance:Coe Nat Lit:=⟨λ x=>.int .i64 x⟩
abbrev U10:=@Go.Lib.hid
abbrev U11:=@Go.bodyPost_ret
abbrev U12:=@Nat.le_refl
abbrev U13:=@Nat.lt_of_lt_of_le
abbrev U14:=@List.getElem?_eq_some_iff
abbrev U15:=@Go.RowKit.Below.heap_setCell
abbrev U16:=@List.length_drop
abbrev U17:=@Prod.mk.injEq
abbrev U18:=@Array.getElem?_eq_some_iff
abbrev U19:=@List.getElem?_append_left
abbrev U1a:=@if_pos
abbrev U1b:=@List.length_append
abbrev U1c:=@if_neg
abbrev U1d:=@List.length_cons
abbrev U1e:=@List.getElem?_eq_getElem
abbrev U1f:=@Option.some.injEq
abbrev U1g:=@Decidable.byContradiction
abbrev U1h:=@Bool.and_eq_true
abbrev U1i:=@List.getD_eq_getElem?_getD
abbrev U1j:=@List.length_map
abbrev U1k:=@Go.IntWalk.i64_in
abbrev U1l:=@Nat.le_trans
abbrev U1m:=@List.getElem?_map
abbrev U1n:=@Go.World.cell?_setCell_other
abbrev U1o:=@List.cons_append
abbrev U1p:=@List.takeWhile_cons
abbrev U1q:=@List.length_nil
abbrev U1r:=@Go.World.cell?_of_block
abbrev U1s:=@Go.World.size_alloc
abbrev U1t:=@List.drop_eq_nil_of_le
abbrev U1u:=@List.drop_eq_getElem_cons
abbrev U1v:=@Nat.zero_add
abbrev U1w:=@Go.heap_alloc_new
abbrev U1x:=@decide_eq_true_eq
abbrev U1y:=@List.getElem?_append_right
abbrev U1z:=@List.length_singleton
abbrev U20:=@List.mem_singleton
abbrev U21:=@Go.Lib.toList_data
abbrev U22:=@Go.Oper.semAt_some
abbrev U23:=@Bool.false_eq_true
abbrev U24:=@List.mem_cons_of_mem
abbrev U25:=@Option.map_some
abbrev U26:=@List.length_take
abbrev U27:=@List.cons.injEq
abbrev U28:=@Nat.add_assoc
abbrev U29:=@List.mem_append
abbrev U2a:=@List.getElem?_cons_zero
abbrev U2b:=@List.drop_zero
abbrev U2c:=@List.length_set
abbrev U2d:=@UInt8.toNat_inj
abbrev U2e:=@Go.World.news_of_block
abbrev U2f:=@if_false
abbrev U2g:=@List.getElem?_eq_none
abbrev U2h:=@List.getElem?_set
abbrev U2i:=@List.length_modify
abbrev U2j:=@List.drop_drop
abbrev U2k:=@List.all_eq_true
abbrev U2l:=@List.nil_append
abbrev U2m:=@Option.some.inj
abbrev U2n:=@ByteArray.data_append
abbrev U2o:=@if_true
abbrev U2p:=@List.mem_of_getElem?
abbrev U2q:=@Array.toList_inj
abbrev U2r:=@List.take_append_of_le_length
abbrev U2s:=@List.mem_cons
abbrev U2t:=@Nat.le_succ
abbrev U2u:=@Nat.zero_le
abbrev U2v:=@Go.World.cell?_setCell_same'
abbrev U2w:=@congrArg
abbrev U2x:=@List.map_append
abbrev U2y:=@List.getElem?_drop
abbrev U2z:=@beq_iff_eq
abbrev U30:=@ByteArray.ext
abbrev U31:=@List.eq_nil_of_length_eq_zero
abbrev U32:=@Go.wp_append_lies
abbrev U33:=@Go.World.frozen?_of_block
abbrev U34:=@List.set_cons_zero
abbrev U35:=@List.take_succ_cons
abbrev U36:=@Go.Lib.extract_data
abbrev U37:=@List.setIfInBounds_toArray
abbrev U38:=@List.set_cons_succ
abbrev U39:=@List.dropWhile_sublist
abbrev U3a:=@Nat.lt_of_not_le
abbrev U3b:=@List.drop_append
abbrev U3c:=@List.dropWhile_cons
abbrev U3d:=@Bool.eq_iff_iff
abbrev U3e:=@List.mem_of_getLast?
abbrev U3f:=@trivial
abbrev U3g:=@Go.Lib.bytesWorld_cell
abbrev U3h:=@Go.Value.slice.injEq
abbrev U3i:=@List.getLast?_eq_getElem?
abbrev U3j:=@List.append_nil
abbrev U3k:=@List.mem_map
abbrev U3l:=@Ne.symm
abbrev U3m:=@List.isEmpty_iff
abbrev U3n:=@List.getElem?_of_mem
abbrev U3o:=@List.getElem?_append
abbrev U3p:=@List.getElem?_modify
abbrev U3q:=@List.map_cons
abbrev U3r:=@List.length_eq_zero_iff
abbrev U3s:=@List.prefix_iff_eq_take
abbrev U3t:=@List.length_pos_iff
abbrev U3u:=@beq_eq_false_iff_ne
abbrev U3v:=@List.getElem_cons_succ
abbrev U3w:=@Go.info_parts
abbrev U3x:=@Go.callsIn_wide
abbrev U3y:=@List.takeWhile_prefix
abbrev U3z:=@List.getLast?_eq_none_iff
abbrev U40:=@List.takeWhile_append_dropWhile
abbrev U41:=@Nat.le_of_eq
abbrev U42:=@Nat.sub_self
abbrev U43:=@List.getElem_mem
abbrev U44:=@Option.ite_none_right_eq_some
abbrev U45:=@List.getElem_cons_zero
abbrev U46:=@Array.getElem?_eq_none
abbrev U47:=@Go.Lib.run_convert_string_bytes
abbrev U48:=@decide_eq_false
abbrev U49:=@Go.Addr.add_lit
abbrev U4a:=@List.set_append_right
abbrev U4b:=@List.singleton_append
abbrev U4c:=@Go.run_convert_bytes_arg
abbrev U4d:=@Go.Maps.keyOf_int_mk
abbrev U4e:=@List.append_assoc
abbrev U4f:=@List.ext_getElem?
abbrev U4g:=@List.getElem_toArray
abbrev U4h:=@Nat.mul_le_mul_right
abbrev U4i:=@List.length_dropLast
abbrev U4j:=@Nat.pow_le_pow_right
abbrev U4k:=@Go.run_next_ascii
abbrev U4l:=@Bool.false_and
abbrev U4m:=@Go.Lib.NumEnd.ok.injEq
abbrev U4n:=@List.length_reverse
abbrev U4o:=@List.map_map
abbrev U4p:=@Bool.false_or
open Pl 
theorem ExZ{α:Type}(a:α):∃x,a=x:=⟨_,rfl⟩
variable {P Q:Prop}
structure Kq(Q:Prop):Prop where
 o:Q
theorem _root_.Go.RowKit.Hid.o{p:Prop}(h:Go.RowKit.Hid p):p:=h
theorem J1(h:P:=by
 cases h;omega):P:=h
theorem J2(h:P:=by
 go_wp2
 all_goals go_ret
 all_goals (refine⟨O3l ?_,rfl⟩;rw[U3d];simp[V3u,V5h];try omega)):P:=h
theorem J3(h:P:=by
 intro ar h1 h2;have:¬ar<s.size:=by omega
 rw[Lib.idxFuncFrom,U1c (by omega)]):P:=h
theorem J4(h:P:=by
 go_wp2_with fail
 go_ret
 exact⟨rfl,Gr.auto⟩):P:=h
theorem J5(h:P:=by
 simpa using this):P:=h
theorem J6(h:P:=by
 go_roundw
 case rel=>exact⟨1,rfl,.inr (.inl rfl),hg.alloc _⟩
 case measure=>simp[intOf]):P:=h
theorem J7(h:P:=by
 exact⟨rfl,rfl⟩):P:=h
theorem J8(h:P:=by
 go_wp2
 go_ret
 exact J7):P:=h
theorem J9(h:P:=by
 exfalso;rw[U1c cz]at be;omega):P:=h
theorem J10(h:P:=by
 refine⟨⟨k+1,_,_,rfl,(by first|rfl|(congr 1;omega)),(by first|rfl|(congr 1;omega)),by omega,hR⟩,by simp[intOf];omega⟩):P:=h
theorem J11(h:P:=by
 rw[IntKind.wrap_u64,IntKind.wrap_u64];decide):P:=h
theorem J12(h:P:=by
 rw[<-decide_eq_emptyBytes];exact U48 (λ h=>a8 (by rw[h];rfl))):P:=h
theorem J13(h:P:=by
 go_wp2_with fail
 go_ret
 exact J7):P:=h
theorem J14(h:P:=by
 rcases Nat.lt_or_ge 2 w.heap.size with h'|h'
 exact h'
 rw[U46 h']at hp;cases hp):P:=h
theorem J15(h:P:=by
 simp only[U1s]at this;exact this):P:=h
theorem J16(h:P:=by
 rw[U1d,Nat.pow_succ,Nat.mul_comm (16 ^ l.length) 16,<-Nat.mul_assoc];exact U4h _ (by omega)):P:=h
theorem J17(h:P:=by
 (repeat (first|refine Gr.setCell ?_ (by simp) _|refine Gr.drew ?_));exact (Gr.refl w).alloc _):P:=h
theorem J18(h:P:=by
 go_enter func127,ntmps127;go_wp2_with fail
 go_ret
 exact⟨by (rw[HX.o];try rfl),rfl⟩):P:=h
theorem J19(h:P:=by
 unfold V23
 split;simp
 split;simp
 split;rw[U26];omega
 simp):P:=h
theorem J20(h:P:=by
 have:=U2w List.length hu;rw[U16]at this;simp only[U1d]at this;omega):P:=h
theorem J21(h:P:=by
 exact O70 (d:=D) (t:=⟨#[]⟩) (p:=⟨#[]⟩) (z:=⟨#[]⟩) (n:=10) rfl rfl (O3n (O7t (O4e (O4d (O4c (O3n (O4c bJ _) _) _) _) _) _) _) ⟨⟨D,⟨#[]⟩,⟨#[]⟩,⟨#[]⟩,by (rw[HY.o];try rfl),by (rw[HY.o];try rfl),by (rw[HY.o];try rfl),by (rw[HY.o];try rfl),by (rw[HY.o];try rfl),GX.o,U2u _,U2u _,U2u _⟩,by (repeat refine Gr.setCell ?_ (U12 _) _);exact cB⟩):P:=h
theorem J22(h:P:=by
 exact⟨λ t e h=>by (simp only[V9.ok.injEq,U17]at h;omega),λ c p h=>by (simp at h),by simp⟩):P:=h
theorem J23(h:P:=by
 cases h;exact⟨ha,by decide⟩):P:=h
theorem J24(h:P:=by
 exact⟨λ e st' h=>by (simp at h),λ c' p' h=>by (cases h;exact⟨hb.2,by decide⟩)⟩):P:=h
theorem J25(h:P:=by
 exact⟨λ e' st' h=>by (simp only[V9.ok.injEq,U17]at h;omega),λ c' p' h=>by (simp at h)⟩):P:=h
theorem J26(h:P:=by
 exact⟨λ i e st' h=>by (simp at h),λ c' p' h=>by (simp at h)⟩):P:=h
theorem J27(h:P:=by
 exact⟨λ i e st' h=>by (simp at h),λ c' p' h=>by (cases h;exact⟨by omega,by decide⟩)⟩):P:=h
theorem J28(h:P:=by
 exact⟨by simp,λ l e st' h=>by simp at h⟩):P:=h
theorem J29(h:P:=by
 rw[U1o,U1p,U1p]
 split
 rename_i ha
 rw[U1a ha]at h;rw[ih (by simpa using h)]
 rfl):P:=h
theorem J30(h:P:=by
 rename_i e;simp only[U27]at e;exact absurd e.1 fF):P:=h
theorem J31(h:P:=by
 rename_i e;simp only[U27]at e;exact absurd e.1 da):P:=h
theorem J32(h:P:=by
 split at h;exact J30;exact J31;cases h
 split;exact J30;exact J31;exact J30
 exact h):P:=h
theorem J33(h:P:=by
 rename_i x1 x2 x3;exact absurd rfl (x3 _)):P:=h
theorem J34(h:P:=by
 simp only[V9.ok.injEq,U17]at h;omega):P:=h
theorem J35(h:P:=by
 have aa:=HT.o;exact St.auto):P:=h
theorem J36(h:P:=by
 rw[U2v _ _ _ (by rw[U1n _ _ _ _ (by simp),h1];rfl)]):P:=h
theorem J37(h:P:=by
 rw[U1n _ _ _ _ (by simp),U2v _ _ _ (by rw[h0];rfl)]):P:=h
theorem J38(h:P:=by
 intro o;rw[World.frozen?_setCell,World.frozen?_setCell]):P:=h
theorem J39(h:P:=by
 rename_i h;simp only[U27]at h;obtain⟨rfl,rfl,rfl,_⟩:=h;simp[Pl.pre]):P:=h
theorem J40(h:P:=by
 have:=h ⟨c.toNat,c.toNat_lt⟩;exact J5):P:=h
theorem J41(h:P:=by
 simp only[U2b]at e1;rw[e1,e2]at hb;simp only[U27]at hb;exact hb.1):P:=h
theorem J42(h:P:=by
 have h1:Gr w ((w.alloc (.cells #[.pointer (some ⟨R,0,none⟩)] 172)).alloc (.cells #[(0:Int),(0:Int)] 29)):=Gr.auto;exact h1.trans g1):P:=h
theorem J43(h:P:=by
 have aa:=HT.o;have eC:=hg.o;exact St.auto):P:=h
theorem J44(h:P:=by
 refine (O7z _ R s a q out ov (RdQ.auto iT.o) (HQ.o.es.gr Gr.auto) T (HQ.o.sh.gr Gr.auto) a9 hs (by omega)).mono ?_;rw[HX.o];cases sr with
 |bad p =>
  exact J176
 |go n t over =>
  obtain rfl:=HO.o n t over rfl;rintro e w2 ⟨rfl,aH,hr,aa⟩;refine Z18 ?_;intro aF d5 aM;refine Z163 ?_;intro HR HT;have fg:¬FQ R aH (w.heap.size+1):=λ hF=>by
   rcases HT.o.own _ hF with hF|hF
   have:=HS.o.own_lt hF;omega
   simp at hF;omega
  clear hr aa;go_wp2_with fail;refine U11 (v:=.tuple #[.bool false,f0]) (by simp[results,results251,go_sem,aF,ag,dQ,dx]) rfl ⟨rfl,aH,RdQ.auto HR.o,?_⟩;exact J43):P:=h
theorem J45(h:P:=by
 obtain⟨es,pV,h1,F,hs,hD⟩:=h;exact⟨es,pV,hb.trans h1,F,hs,hD⟩):P:=h
theorem J46(h:P:=by
 rcases h.nodes.2 with⟨_,h0⟩|⟨g,cap,cur,hv,cr,y9,h1,h2,h3,h4⟩
 omega
 have ho:own g=3:=h.oN g (by rw[hv];rfl);refine⟨g,cap,cur,hv,cr,(h.lt g (by omega)).2,ho,λ e=>?_,λ e=>?_,y9,h3,h1,h2,h4⟩;subst e;rw[h.oR]at ho;omega
 subst e;rw[h.oB]at ho;omega):P:=h
theorem J47(h:P:=by
 have q:∀(f n:Nat)(out:Bs),V2i step (u++r) f n out=.ok (t,k)->n<k:=by
  intro f
  induction f with
  |zero=>intro n out h;simp[V2i]at h
  |succ f ih =>
   intro n out h;unfold V2i at h
   split at h;cases h
   split at h;cases h
   cases h
   rename_i m t' over hs
   have:=ap _ _ _ _ hs
   split at h;exact J34
   have:=ih _ _ h;omega
 exact q _ _ _ h):P:=h
theorem J48(h:P:=by
 exact⟨h1,λ t k h=>by (have:=h2 t k h;omega),λ c' p h=>by (have:=h4 c' p h;omega)⟩):P:=h
theorem J49(h:P:=by
 have:=U3t.2 hk;rw[U4i];omega):P:=h
theorem J50(h:P:=by
 unfold V3k at h
 split at h;cases h
 cases h
 split at h;cases h
 cases h;rfl):P:=h
theorem J51(h:P:=by
 split at he;cases he
 cases he
 simp only[V9.ok.injEq,U17]at he;rw[<-he.2.2];exact hp):P:=h
theorem J52(h:P:=by
 rename_i e;simp only[U27]at e;obtain⟨rfl,rfl,rfl,_⟩:=e;simp at h):P:=h
theorem J53(h:P:=by
 simp only[V9.ok.injEq,U17]at h;obtain⟨_,rfl⟩:=h;exact q1):P:=h
theorem J54(h:P:=by
 simp only[V9.ok.injEq,U17]at h;rw[<-h.2];exact⟨h.1,ha,by simp[h0]⟩):P:=h
theorem J55(h:P:=by
 rename_i c' p' hw;cases h;exact Okd _ _ _ _ _ _ _ _ hd hw):P:=h
theorem J56(h:P:=by
 rw[U16]at this;simp only[U1d,U1q]at this;omega):P:=h
theorem J57(h:P:=by
 exact Od dG (λ k hk=>by simp[Value.ownBlock]at hk;subst hk;exact oZ) _):P:=h
theorem J58(h:P:=by
 simpa using block_setCell (i:=0) hb (.slice (some ⟨g,0,none⟩) (L.length+1) cap)):P:=h
theorem J59(h:P:=by
 rw[hg.block R (by omega) (λ e=>by have:=h.oN R e.symm;rw[h.oR]at this;omega),g1.block hR.2];exact h.blk):P:=h
theorem J60(h:P:=by
 rcases cX with ha|ha
 exact .inl (h.oN g ha)
 by_cases e:own g=0;exact .inr ⟨e,by omega⟩
 have:=(h.lt g e).2;omega):P:=h
theorem J61(h:P:=by
 refine⟨?_,?_,?_,by omega,?_,?_⟩;subst ao;exact H.st.os;subst ao;exact H.st.tape;subst ao;exact H.st.output
 intro k hk hn;refine jP k hk (λ e=>hn ?_) (λ e=>hn ?_);subst e;unfold FV;omega
 unfold FI at e;unfold FV;omega
 intro k hk
 replace hk:(if kv.ownBlock=some k then 4+3*i else if sv.ownBlock=some k then 5+3*i else if uv.ownBlock=some k then 6+3*i else own k)≠0:=hk
 have fi:∀b,FI own i b\/w.heap.size<=b->FV own b\/w.heap.size<=b:=λ b e=>e.imp (λ e=>by unfold FI at e;unfold FV;omega) id
 exact J211):P:=h
theorem J63(h:P:=by
 refine Z107 ?_;intro aD;refine Reg.on 9 ?_;skip;refine Z110 ?_;intro gK aJ V4 ho hg ha hz cN dq;have jV:=U10 (dC.o.appK (n:=r.nd.keys.length+1) (cap:=aJ) hg ha);have jU:=U10 (cd.o.appK (n:=r.nd.keys.length+1) (cap:=aJ) hg ha);exact J205):P:=h
theorem J64(h:P:=by
 refine Z107 ?_;intro aD;refine Reg.on 9 ?_;skip;refine Z110 ?_;intro gK aJ V4 ho hg ha hz cN dq;have jU:=U10 (cd.o.appK (n:=r.nd.keys.length+1) (cap:=aJ) hg ha);have jV:=U10 (dC.o.appK (n:=r.nd.keys.length+1) (cap:=aJ) hg ha);exact J205):P:=h
theorem J65(h:P:=by
 have e1:(V10 r.nd (bs key) (a,b) n).keys.length=r.nd.keys.length+1:=by simp[V10]
 have e2:(V10 r.nd (bs key) (a,b) n).spots.length=r.nd.spots.length+1:=by simp[V10]
 have e3:(V10 r.nd (bs key) (a,b) n).subs.length=r.nd.subs.length+1:=by simp[V10]
 have e4:Oh (V10 r.nd (bs key) (a,b) n).keys=Oh r.nd.keys++[.string key]:=by simp only[V10,Oh,U2x,U3q,List.map_nil,Omw]
 have e5:Oc (V10 r.nd (bs key) (a,b) n).spots=Oc r.nd.spots++[.int .i64 a,.int .i64 b]:=by simp[V10,Oc]
 have e6:O6 (V10 r.nd (bs key) (a,b) n).subs=O6 r.nd.subs++[.int .i64 n]:=by simp[V10,O6]
 rw[e1,e2,e3,e4,e5,e6];exact H):P:=h
theorem J66(h:P:=by
 go_wp2_with (go_at_call 63;refine (O1d _ s.size rfl _).mono ?_;rintro e w3 ⟨rfl,g3⟩;obtain⟨lC,tI,iW⟩:=g3.use;have p0:w3.cell? ⟨w.heap.size,0,none⟩=some (.int .i64 0):=(lC _ _ (by omega)).trans m0;have p1:w3.cell? ⟨w.heap.size,1,none⟩=some (.int .i64 0):=(lC _ _ (by omega)).trans m1;have p2:w3.frozen? ⟨w.heap.size,0,none⟩=false:=(tI _ _ (by omega)).trans m2;have p3:w3.frozen? ⟨w.heap.size,1,none⟩=false:=(tI _ _ (by omega)).trans m3;clear lC tI);refine U11 (v:=.tuple #[.string ⟨#[]⟩,(0:Int),fv 3 s.size]) (by simp[results,results40,go_sem,p0,p1,p2,p3]) rfl ?_;rw[<-V87 _ _ _ _ _ _ ek.o a8 (by rw[U16,O0];omega)];refine⟨by rw[U16,O0,show n+(s.size-n)=s.size from by omega],by omega,Gr.auto⟩):P:=h
theorem J67(h:P:=by
 obtain⟨k,a,out,ov,hr,hx,ET,PJ,BM,hg,hz,m0,m1,m2,m3⟩:=hrel;obtain⟨e0,e1,e2,e3,ez⟩:=hr.cells;have eW:=O8t hr;have HP:=U10 eW;have HR:=U10 hr;have ek:=U10 hx;clear hr hx d0 d1 d2 d3 dz e3 eW;by_cases a9:a<s.size
 ·obtain⟨k,rfl⟩:∃k',k=k'+1:=by
   cases k with
   |zero=>exact absurd ek.o.symm a8
   |succ k=>exact⟨k,rfl⟩
  refine Z233 ?_;intro sr tD jo;go_wp2_with fail;cases sr with
  |bad p =>
   refine (O6a true q _ _ s a out ov HR.o a9 hs BM T (sx.o.gr hg) _ tD.o).mono ?_;exact J119
  |go m t over =>
   have km:=V3p _ _ _ _ _ _ _ tD.o;rw[U16,O0]at km;refine (O6a true q _ _ s a out ov HR.o a9 hs BM T (sx.o.gr hg) _ tD.o).mono ?_;exact J106
 exact J66):P:=h
theorem J68(h:P:=by
 go_simp;refine Z2 ?_;refine Reg.on 2 ?_;skip;go_simp;refine (O3y gK (acc.length+1) aJ Ag.1 Ag.2 _).mono ?_;refine Z48 ?_;refine Z84 ?_;exact J200):P:=h
theorem J69(h:P:=by
 exact .inr (by omega)):P:=h
theorem J70(h:P:=by
 have:=EU.o;rw[<-ca]at this;exact this):P:=h
theorem J71(h:P:=by
 rintro (hf|hf)
 rcases dk.o _ hf with e|e
 exact bT e
 have:=fB.o;omega
 have:=(eD.o _ hf).2;have:=fB.o;omega):P:=h
theorem J72(h:P:=by
 go_wp2_with (refine (O1p _ _ aB _).mono ?_;rintro e w' ⟨rfl,rfl⟩)
 all_goals go_ret2
 all_goals exact⟨by rw[hR.o];rfl,rfl⟩):P:=h
theorem J73(h:P:=by
 clear be dU e1
 go_wp2
 all_goals go_ret2
 all_goals exact⟨by rw[hR.o];rfl,rfl⟩):P:=h
theorem J74(h:P:=by
 rw[jQ,show (⟨#[]⟩:ByteArray).size=0 from rfl];have h5:bs (s.extract 0 s.size)=bs s:=by rw[O4];rfl
 exact U30 (U2q.1 h5)):P:=h
theorem J75(h:P:=by
 simp only[U1h,U1x]at h2;unfold V2d;rw[U1a (by omega)];omega):P:=h
theorem J76(h:P:=by
 exact Oi6 HX.o _ _ _ _ _ _ _ _ HK.o rfl rfl rfl rfl rfl):P:=h
theorem J77(h:P:=by
 refine Z48 ?_;clear hV;cases V with
 |false =>
  have HV:Hid (V21 (bs s)=.bad 3 0):=U10 (by rw[HX.o,U1c (λ h=>by have h2:=h.symm.trans BN.o;cases h2)]);clear HX;go_wp2_with fail;exact U11 (v:=.tuple #[.string ⟨#[]⟩,(3:Int)]) (by simp[results,results100,go_sem]) rfl ⟨O1l HV.o,Gr.auto⟩
 |true =>
  have HV:Hid (V21 (bs s)=V18 (Lib.trimPrefix (Vn (bs s)) [43])):=U10 (HX.o.trans (U1a BN.o));clear HX;go_wp2_with fail;refine (O1e s hs _ (HW.o.gr Gr.auto)).mono ?_;rintro e w8 ⟨rfl,g8⟩;obtain⟨L1,BO⟩:∃L1:ByteArray,⟨(Lib.replaceAll (bs s) [95] []).toArray⟩=L1:=⟨_,rfl⟩
  have BP:bs L1=Vn (bs s):=by rw[<-BO,O1o];rfl
  rw[BO];have HL:=U10 BP;clear BO BP;go_wp2_with fail;refine (strings_TrimPrefix L1 ⟨#[43]⟩ _).mono ?_;refine Z48 ?_;obtain⟨L2,vI⟩:∃L2:ByteArray,⟨(Lib.trimPrefix L1.data.toList (ByteArray.mk #[43]).data.toList).toArray⟩=L2:=⟨_,rfl⟩
  have yc:bs L2=Lib.trimPrefix (Vn (bs s)) [43]:=by rw[<-vI,O1o,<-HL.o]
  have GY:L2.size<=20000000:=by
   rw[<-O0,yc];have h1:=V3o (bs s);rw[O0]at h1;unfold Lib.trimPrefix
   split;rw[U16];omega
   omega
  rw[vI];have PK:=U10 yc;clear vI yc;go_wp2_with fail;refine (Ona L2 GY _ (HW.o.gr Gr.auto)).mono ?_;rintro e cH ⟨hp,fS⟩;rw[PK.o,<-HV.o]at hp;have HP:=U10 hp;clear hp;unfold Oq at HP;cases hX:V21 (bs s) with
  |ok x =>
   rw[hX]at HP;have he:=HP.o;subst he;clear HV;go_wp2_with fail;exact U11 (v:=.tuple #[.string ⟨x.toArray⟩,(0:Int)]) (by simp[results,results100,go_sem]) rfl ⟨(by rw[hX];rfl),Gr.auto⟩
  |bad c p =>
   rw[hX]at HP;have he:=HP.o;subst he;go_wp2_with fail;exact U11 (v:=.tuple #[.string ⟨#[]⟩,c]) (by simp[results,results100,go_sem]) rfl ⟨(by rw[hX];rfl),Gr.auto⟩):P:=h
theorem J78(h:P:=by
 go_enter func163,ntmps163;go_wp2_with fail
 go_ret
 exact⟨by (rw[HY.o];try rfl),rfl⟩):P:=h
theorem J79(h:P:=by
 obtain⟨p0,p1,p2,p3,p4,pf,hz⟩:=Oa jO;cases v1 with
 |false =>
  have HY:Hid (V44 c=false):=U10 (by rw[HX.o,Br,Bz,zC];rfl);go_wp2_with fail
  go_ret
  exact⟨by (rw[HY.o];try rfl),oT⟩
 |true =>
  have HY:Hid (V44 c=v2):=U10 (by rw[HX.o,Br,Bz,zC];rfl);go_wp2_with fail;refine (Bq.o _).mono ?_;rintro e w8 ⟨rfl,g8⟩;have BQ:=oT.trans g8;go_wp2_with fail
  go_ret
  exact⟨by (rw[HY.o];try rfl),BQ⟩):P:=h
theorem J80(h:P:=by
 have hj:j<7:=by have:=(U14.1 hv).1;rw[O1b]at this;exact this
 have:=h1.cells (g:=g) rfl (i*7+j) v (by rw[O71 _ _ _ hj,hi];exact hv);rw[U49,U1v]at this;exact (U1r (w:=wr) (a:=⟨g,i*7+j,none⟩) (hb g (by omega) (by omega))).trans this):P:=h
theorem J81(h:P:=by
 rw[O43,U15 _ _ _ _ bE,U15 _ _ _ _ bE];exact gQ):P:=h
theorem J82(h:P:=by
 rw[O43,U15 _ _ _ _ bE,U15 _ _ _ _ bE];exact gP):P:=h
theorem J83(h:P:=by
 exact⟨none,0,by rw[e,e2]⟩):P:=h
theorem J84(h:P:=by
 rw[U1c cY]at ae;exact absurd ae.symm a8):P:=h
theorem J85(h:P:=by
 rw[U1i,U19 (by omega),<-U1i]):P:=h
theorem J86(h:P:=by
 have h1:la<ws.length:=by have:=fN.o;omega
 exact⟨ws[la].1,ws[la].2.1,ws[la].2.2,U1e h1⟩):P:=h
theorem J87(h:P:=by
 refine Z88 ?_;exact (g5.use.1 _ _ (U13 eu.o.rl dZ.o.size)).trans dX):P:=h
theorem J88(h:P:=by
 refine Z298 ?_;go_wp2_with fail
 go_meet
 exact O4o aq ((((Gr.refl W).alloc (.cells #[(0:Int),(0:Int)] 29)).alloc (.cells #[(0:Int),(0:Int)] 67)).drew) (Gr.refl _) a9 eu.o.rl (by omega) (by omega) (by omega) (.inl (by show _<((W.alloc _).alloc _).heap.size;rw[zb];omega)) (.inl (by show _<((W.alloc _).alloc _).heap.size;rw[zb];omega)) f5 f6):P:=h
theorem J89(h:P:=by
 refine Z298 ?_;go_wp2_with fail
 go_meet
 exact O4o aq (((Gr.refl W).alloc (.cells #[(0:Int),(0:Int)] 29)).drew) (gb) a9 eu.o.rl (by omega) (by omega) (by omega) (.inr (U12 _)) (.inl (by show _<(W.alloc _).heap.size;rw[za];omega)) f5 f6):P:=h
theorem J90(h:P:=by
 refine Z298 ?_;go_wp2_with fail
 go_meet
 exact O4o aq ((((Gr.refl W).alloc (.cells #[(0:Int),(0:Int)] 67)).alloc (.cells #[(0:Int),(0:Int)] 29)).drew) (Gr.refl _) a9 eu.o.rl (by omega) (by omega) (by omega) (.inl (by show _<((W.alloc _).alloc _).heap.size;rw[zb];omega)) (.inl (by show _<((W.alloc _).alloc _).heap.size;rw[zb];omega)) f5 f6):P:=h
theorem J91(h:P:=by
 refine Z298 ?_;go_wp2_with fail
 go_meet
 exact O4o aq (((Gr.refl W).alloc (.cells #[(0:Int),(0:Int)] 67)).drew) (gb) a9 eu.o.rl (by omega) (by omega) (by omega) (.inl (by show _<(W.alloc _).heap.size;rw[za];omega)) (.inr (U12 _)) f5 f6):P:=h
theorem J92(h:P:=by
 refine Z298 ?_;go_wp2_with fail
 go_meet
 exact O4o aq ((Gr.refl W).drew) (g3) a9 eu.o.rl (by omega) (by omega) (by omega) (.inr (by omega)) (.inr (by omega)) f5 f6):P:=h
theorem J93(h:P:=by
 refine Z88 ?_;exact gj.o.v.cells.1.2.2.1):P:=h
theorem J94(h:P:=by
 obtain⟨W,hW⟩:=ExZ (w.alloc (.cells #[(0:Int),(0:Int)] 29))
 have fR:St (λ k=>k=I) (λ k=>k=I) w W:=by rw[<-hW];exact (St.refl _ w).alloc _
 rw[hW]at GZ EV⊢;have ip:FX w.heap.size (0:Int) (0:Int) W.drew:=GZ.gr (Gr.refl _).drew;clear hW;refine Z95 ?_;obtain⟨q0,q1,qf,ql⟩:=GZ;refine Z191 ?_;refine Z12 ?_;go_wp2_with fail;refine U11 (v:=.tuple #[n,f0]) (by simp[results,results91,go_sem,q0,q1,qf,ql]) rfl ?_;rw[<-HX.o];refine⟨rfl,hn,St.auto,Vo,Vo,Vo,?_,?_⟩;rw[O43,U15 _ _ _ _ bE,U15 _ _ _ _ bE];exact EV
 exact⟨O16 (Ot _ _ _ _),O16 (Ot _ _ _ _),.inl ⟨rfl,rfl⟩⟩):P:=h
theorem J95(h:P:=by
 go_upto_region 3 with (go_at_call 85;refine (O_s ⟨#[35,13,10]⟩ _ true G'.o _).mono ?_;rintro e w3 ⟨⟨i,rfl,hi⟩,rfl⟩;have fh:decide (i<0)=false:=by (simp at hi⊢;omega))
 try clear aG
 have cL:=iV.o;have aD:=cL.gr (Gr.refl w1).drew;clear p0 p1 pf pl p2 p3 fG fH p4 p5 dt db;obtain⟨⟨p0,p1,pf,pl⟩,⟨p2,p3,fG,fH⟩,⟨p4,p5,dt,db⟩⟩:=id cL;refine Reg.begin' (W:=λ _=>true) (S:=WB3 w.heap.size (0:Int) (0:Int) (.slice none 0 0) (0:Int) (0:Int) (0:Int)) (by kernel_rfl) ?_;refine Z4 ?_;go_wp2_with fail;obtain⟨⟨q0,q1,qf,ql⟩,⟨y0,y1,yf,yl⟩,⟨n8,n9,nh,nj⟩⟩:=aD;have gE:=ej.o.drew;rw[<-ae];exact U11 (v:=.tuple #[.agg #[(0:Int),(0:Int)],.agg #[.slice none 0 0,(0:Int)],f0]) (by simp[results,results58,go_sem,q0,q1,qf,ql,y0,y1,yf,yl,n8,n9,nh,nj]) rfl ⟨0,_,[],w1.drew.heap.size,nv,L,own,x,rfl,rfl,rfl,H.o.gr gE,(St.refl (FV own) w).gr gE,λ k hk => .inl hk,.inl ⟨rfl,rfl⟩,rfl,gE.size,λ k hk=>U1g λ h=>by have:=(H.o.v.lt k h).2;have:=gE.size;omega⟩):P:=h
theorem J96(h:P:=by
 (intro w;go_simp;refine (U1c (by first|omega|(simp[ByteArray.size_append];omega))).trans ?_;try with_reducible rfl)):P:=h
theorem J97(h:P:=by
 refine Z100 ?_;refine Z12 ?_;have dw:Gr w w4:=(dN.drew.trans g3).trans g4;clear g3 g4 dN c0 c1 c2 a9 br aD;obtain⟨⟨c0,c1,c2⟩,a9⟩:=cm;go_wp2_with fail;obtain⟨bP,mr,ms⟩:=HY.o (by simp);cases Y with
 |ok v =>
  obtain⟨oG,me⟩:=mr v rfl;have HP:Hid (∀W,V3y W->Calls prog 134 #[.string T,bb,(64:Int)] W λ e w'=>e=.returned (.tuple #[v,.nilIface])/\Gr W w'):=λ W hW=>by
   obtain⟨ep,he⟩:=hW.err;exact ms W ep he
  refine Z119 ?_;intro HV;clear ms mr bP HY oG me
  go_region_held3 (Ou bg bb ds w1.heap.size) (first|exact⟨⟨c0,c1,c2⟩,a9⟩|assumption|exact Ou.gr (by assumption) (by assumption)|go_keep) (first|(go_at_call 135;refine (O1e D (by omega) _ (HW.o.gr Gr.auto)).mono ?_;rw[<-HL.o];rintro e w5 ⟨rfl,g5⟩)|(go_at_call 134;refine (HP.o _ (HW.o.gr Gr.auto)).mono ?_;rintro e w6 ⟨rfl,g6⟩))
  exact J199
 |range =>
  have HP:Hid (∀W,V3y W->Calls prog 134 #[.string T,bb,(64:Int)] W λ e w'=>(∃(k:Int)(N:Nat)(ep:Addr),e=.returned (.tuple #[k,.iface 260 (.pointer (some ⟨N,0,none⟩))])/\w'.cell? ⟨N,2,none⟩=some (.iface 288 (.pointer (some ep)))/\w'.cell? ⟨1,0,none⟩=some (.iface 288 (.pointer (some ep))))/\Gr W w'):=λ W hW=>by
   obtain⟨ep,he⟩:=hW.err;refine (ms W ep he).mono ?_;rintro e w' ⟨⟨k,N,rfl,hN⟩,g⟩;exact⟨⟨k,N,ep,rfl,hN,(g.use.1 _ _ (Lib.lt_of_cell he)).trans he⟩,g⟩
  clear ms mr bP HY
  go_region_held3 (Ou bg bb ds w1.heap.size) (first|exact⟨⟨c0,c1,c2⟩,a9⟩|assumption|exact Ou.gr (by assumption) (by assumption)|go_keep) (first|(go_at_call 135;refine (O1e D (by omega) _ (HW.o.gr Gr.auto)).mono ?_;rw[<-HL.o];rintro e w5 ⟨rfl,g5⟩)|(go_at_call 134;refine (HP.o _ (HW.o.gr Gr.auto)).mono ?_;rintro e w6 ⟨⟨k,N,ep,rfl,hN,hE⟩,g6⟩))
  exact J201
 |_=>exact absurd rfl bP):P:=h
theorem J98(h:P:=by
 simp only at dD;refine Z134 ?_;rintro e w5 ⟨rfl,oU,EP,L5,cq,vw,rfl,d7,eE⟩;have xR:¬FV ac w.heap.size:=λ hf=>by
  rcases ko.o _ hf with e|e
  exact bT e
  have:=fB.o;omega
 have gh:Hid (∀k,cq k≠0->own k≠0\/z0<=k):=λ k hk=>by
  rcases eE k hk with e|e
  exact ko.o k e
  exact .inr (U1l BR.o e)
 have vx:¬FV cq w.heap.size:=λ hf=>by
  rcases gh.o _ hf with e|e
  exact bT e
  have:=fB.o;omega
 have gd:=eB.o.st d7 xR;have jl:=U10 (gd.set (0:Int) (0:Int));refine Z75 ?_;intro iO gc;have vJ:z0<=w5.heap.size:=U1l BR.o d7.size;obtain⟨a0,a1,af,al⟩:=gd;obtain⟨e2,nE⟩:=ExZ (V7 (bs s) n2)
 have BD:e2<=s.size:=by have:=V8 (bs s) n2 (by rw[O0];omega);rw[O0]at this;omega
 rw[nE]at dD;have H6:=U10 dD;have BE:=U10 nE;clear dD d7 hP vw eE nE BS H7 bm eB nz k9 ko;go_wp2_with fail;refine Z155 ?_;intro w6 g6;have tA:z0<=w6.heap.size:=by have:=g6.size;simp[World.setCell]at this;omega
 have pR:=U10 (jl.o.gr g6);have lj:=U10 (iO.o.gr g6);have iw:=U10 (gc.o.gr g6);have gX:=lj.o.cells.2.2.1;clear g6 a0 a1 af al jl iO gc;go_wp2_with fail;refine Z222 ?_;intro w7 g7 ls lz tC iu At;clear g7 gX pR lj iw;go_wp2_with fail;refine Z259 ?_;refine Z48 ?_;have dD:=H6.o;by_cases hb:Va (bs s) e2=125
 ·rw[U1a hb]at dD;have bJ:(((Va (bs s) e2:Nat):Int)==125)=true:=by simp;omega
  have mm:Hid (e2<s.size):=U3a λ aP=>by rw[O12 s e2 (by omega)]at hb;omega
  have ae:=HX.o;rw[<-dD]at ae;simp only at ae;cases bh:Pl.kind8 (L5.map (·.nd)) T with
  |false=>rw[bh,U1c (by simp)]at ae;exact absurd ae.symm HN.o
  |true =>
  rw[bh,U1a rfl]at ae;have bY:=U10 ae;have vt:=U10 bh;have oV:=tC;have sq:=lz;have nw:=iu;have dk:=gh;clear ae bh dD hb At;have jP:IntKind.i64.wrap ((e2:Int)+1)=(e2:Int)+1:=U1k _ ⟨by have:=mm.o;omega,by have:=mm.o;omega⟩;obtain⟨rT,tJ⟩:∃r,(L5)[T]?=some r:=by
   have hk:=vt.o;unfold Pl.kind8 at hk;rw[U1h,U1m]at hk
   replace hk:=hk.2
   cases hl:(L5)[T]? with
   |none=>rw[hl]at hk;cases hk
   |some x=>exact⟨x,rfl⟩
  have vz:T<(L5).length:=(U14.1 tJ).1;obtain⟨gN,ij,H8,lD,H9,Ha,Hc,Hd,He,pW,yd,Hf,Hg,ye⟩:=oV.o.form (by omega);have cA:=oV.o.cells;rw[lD]at cA;obtain⟨a0,a1,a2,a3,af⟩:=cA;have yg:∀o,w7.frozen? ⟨gN,o,none⟩=false:=λ o=>unfrozen_of_block pW o
  have pI:(0:Int)<=(T:Int):=by omega
  have fh:(T:Int)<((L5).length:Int):=by omega
  have pJ:Hid (RdV w7 R B base s root (.slice (some ⟨gN,0,none⟩) (L5).length ij) L5 cq):=by rw[<-lD];exact oV.o
  obtain⟨p0,p1,pf,pl⟩:=sq.o;obtain⟨_,_,_,_,_,n5,n6,_⟩:=pJ.o.ndCells rfl T rT tJ;have Hh:w7.cell? ⟨gN,T*7+5+1,none⟩=some (.int .i64 rT.nd.sp.2):=n6;clear n6;have PL:w.heap.size≠gN:=λ e=>by
   have:own gN≠0\/z0<=gN:=dk.o gN (by omega);rcases this with e2|e2
   exact bT (by unfold FV;rw[e];exact e2)
   have:=fB.o;omega
  have Bt:=U10 tJ;clear tJ pW ye yd lD;go_wp2_with fail;refine Z103 ?_;intro cg il cQ;have xN:¬FV cq w.heap.size:=λ hf=>by
   rcases dk.o _ hf with e|e
   exact bT e
   have:=fB.o;omega
  refine Z138 ?_;intro lq wS fC;rw[fC]at il cQ lq⊢;clear fC cg p0 p1 pf pl n5 Hh yg a0 a1 a2 a3 af;obtain⟨p0,p1,pf,pl⟩:=lq.o
  go_region
  all_goals go_wp2_with fail
  refine Z105 ?_;rfl
 rw[U1c hb]at dD;have bJ:(((Va (bs s) e2:Nat):Int)==125)=false:=by simp;omega
 obtain⟨q0,q1,qf,ql⟩:=lz.o;by_cases dE:Va (bs s) e2=44
 ·rw[U1a dE]at dD;have aA:(((Va (bs s) e2:Nat):Int) != 44)=false:=by simp;omega
  have PM:e2<s.size:=U3a λ aP=>by rw[O12 s e2 (by omega)]at dE;omega
  have U3:IntKind.i64.wrap ((e2:Int)+1)=(e2:Int)+1:=U1k _ ⟨by omega,by omega⟩;have Hi:=U10 dD;clear dD hb dE;go_wp2_with fail;refine Z259 ?_;refine Z48 ?_;go_wp2_with fail;refine (O9 s _ (e2+1) (by simp) (by omega) (by omega) _).mono ?_;rintro e cH ⟨rfl,fS⟩;have BG:V7 (bs s) (e2+1)<=s.size:=by have:=V8 (bs s) (e2+1) (by rw[O0];omega);rw[O0]at this;omega
  have iX:=iu.o.gr fS;have vG:=U10 iX;have BH:=U10 (lz.o.gr fS);have GT:=U10 (tC.o.gr fS);have GU:z0<=cH.heap.size:=U1l ls fS.size;clear iX fS At q0 q1 qf ql lz tC iu;go_wp2_with fail
  go_roundg gk
  case measure=>omega
  case rel =>
   refine Z237 ?_;exact Hi.o
 rw[U1c dE]at dD;have aA:(((Va (bs s) e2:Nat):Int) != 44)=true:=by simp;omega
 have bY:Hid (V9.bad 3 e2=X):=by
  have:=HX.o;rw[<-dD]at this;exact this
 clear dD hb dE;go_wp2_with fail;refine Z259 ?_;refine Z48 ?_;go_wp2_with fail;refine (O3m e2 e2 rfl _).mono ?_;rintro e cH ⟨rfl,fS⟩;obtain⟨u0,u1,uf,ul⟩:=lz.o.gr fS;have iX:=iu.o.gr fS;clear q0 q1 qf ql At;go_wp2_with fail;rw[<-bY.o];exact U11 (v:=.tuple #[(0:Int),(0:Int),fv 3 e2]) (by simp[results,results46,go_sem,u0,u1,uf,ul]) rfl ⟨rfl,by omega,_,(iX.setCell (.inr (U12 _)) _).setCell (.inr (U12 _)) _,((tC.o.rk.gr fS).set (by omega) _).set (by omega) _⟩):P:=h
theorem J99(h:P:=by
 refine Z1 ?_;intro gU py V6 lj xv kU xw xx xy Bj;go_wp2_with fail
 go_end0
 exact⟨rfl,nG.o V6 (.slice (some ⟨gK,0,none⟩) (r.nd.keys.length+1) aJ) (.slice (some ⟨gS,0,none⟩) (r.nd.spots.length+1) cO) (.slice (some ⟨gU,0,none⟩) (r.nd.subs.length+1) py) lj.o⟩):P:=h
theorem J100(h:P:=by
 refine Z17 ?_;intro gS cO V4 cN mV xA cm xB xC xD xF;refine Z2 ?_;refine Reg.ty 15 ?_;refine Reg.on 16 ?_;go_simp;refine Z2 ?_;refine Reg.ty 17 ?_;refine Z12 ?_;refine Z92 ?_;intro xM VE EL pH;clear xM xB xC xD xF;rw[EL]at pH⊢;clear EL;have HK:=U10 pH;clear pH;go_wp2_with fail;refine Z58 ?_;intro w3 g3 p0 p1 p2 p3 p4 p5 p6 p7 vs jK a HA Bk sm;by_cases jZ:Va (bs s) a=46
 ·rw[U1a jZ]at sm;refine Z265 ?_;intro a9;rw[byteAt_lt s a a9]at jZ;have vK:((a:Int)==(s.size:Int))=false:=by simp;omega
  have Ax:((s[a].toNat:Int) != 46)=false:=by simp;omega
  refine Z148 ?_;intro bB bX vp aA;clear sm jZ;go_wp2_with (go_at_call 20;refine (O9 s _ (a+1) (by omega) (by omega) (by omega) _).mono ?_;rintro e5 w5 ⟨rfl,g5⟩)
  go_roundw
  case rel =>
   have aV:V7 (bs s) (a+1)<=s.size:=aA.2
   first
    |exact⟨V7 (bs s) (a+1),ix,e,_,_,_,rfl,rfl,aV,vp.o,jK.o.gr g5,by simp;omega⟩
    |((repeat apply Exists.intro);exact⟨⟨V7 (bs s) (a+1),ix,e,_,_,_,rfl,rfl,aV,vp.o,jK.o.gr g5,by simp;omega⟩,rfl⟩)
  case measure =>
   have aV:a+1<=V7 (bs s) (a+1):=aA.1;simp[intOf];omega
 rw[U1c jZ]at sm;refine Z69 ?_;intro pG vp bB;clear sm jZ;obtain⟨kq,U4⟩:∃kq,kq=1:=⟨_,rfl⟩
 rcases pG with vK|⟨a9,vK,Ax⟩
 all_goals
  go_wp2_with fail;refine Z151 ?_;intro VV EM tx;clear EM p0 p1 p2 p3 p4 p5 p6 p7;refine Z167 ?_;intro p0 p1 p2 p3 p4 p5 p6 p7 pB GD Bo mi;clear tx;refine Z70 ?_;intro mh Ag EG;clear Bo mi;refine Z112 ?_;refine Z14 ?_;intro j hj;rcases hj with rfl|rfl
  ·refine Reg.one (i:=1) rfl (by rfl) ?_;go_simp;refine Z2 ?_;refine Reg.all (rs:=[2,4]) (by kernel_rfl) (by simp) ?_;refine Z14 ?_;intro j hj;rcases hj with rfl|rfl
   ·refine Z207 ?_;refine Z48 ?_;refine Z84 ?_;refine Reg.on 4 ?_;skip;go_simp;refine Z2 ?_;exact J200
   refine Z271 ?_;exact J68
  refine Z271 ?_;go_simp;refine Z2 ?_;refine Reg.on 1 ?_;skip;exact J68):P:=h
theorem J101(h:P:=by
 rintro e w1 aq;cases X with
 |non=>exact absurd rfl HN.o
 |bad c p =>
  obtain⟨rfl,hc,F',aa,gY⟩:=aq;have sD:=U10 gY;clear gY;refine Z23 ?_;intro a0 a1 af al fW;have HC:=U10 hc;clear aa hc;go_wp2_with fail;exact U11 (v:=.tuple #[(0:Int),(0:Int),fv c p]) (by simp[results,results24,go_sem,a0,a1,af,al]) rfl ⟨rfl,HC.o,F',(fW.o.setCell (.inr (U12 _)) _).setCell (.inr (U12 _)) _,(sD.o.set (by omega) _).set (by omega) _⟩
 |ok r =>
  obtain⟨iv,m,st'⟩:=r;obtain⟨rfl,hm,hi,nv',L',own',eM,Mc,aa,bL⟩:=aq;refine Z23 ?_;intro a0 a1 af al fW;refine Z81 ?_;intro ay cp GG;have Ay:¬FV own' w.heap.size:=λ hf=>by
   rcases cp.o _ hf with e|e
   exact bT e
   omega
  clear aa eM bL Mc;go_wp2_with fail;exact U11 (v:=.tuple #[iv,m,f0]) (by simp[results,results24,go_sem,a0,a1,af,al]) rfl ⟨rfl,hm,hi,nv',L',own',(ay.o.setCell Ay _).setCell Ay _,GG.o,(fW.o.setCell (.inr (U12 _)) _).setCell (.inr (U12 _)) _,λ k hk=>(cp.o k hk).imp id (λ e=>by omega)⟩):P:=h
theorem J102(h:P:=by
 obtain⟨p0,p1,p2,p3,p4,pf,hz⟩:=Oa dE;cases b1 with
 |false =>
  refine Z90 ?_;intro HY;go_wp2_with fail
  go_ret
  exact⟨by (rw[HY.o];try rfl),dw⟩
 |true =>
  go_wp2_with fail;refine Z201 ?_;intro w5 g5 iq dN;clear g5 dE dw p0 p1 p2 p3 p4 pf hz;obtain⟨p0,p1,p2,p3,p4,pf,hz⟩:=Oa iq;cases b2 with
  |false =>
   refine Z90 ?_;intro HY;go_wp2_with fail
   go_ret
   exact⟨by (rw[HY.o];try rfl),dN⟩
  |true =>
   go_wp2_with fail;refine Z202 ?_;intro w6 g6 jm eR;clear g6 iq dN p0 p1 p2 p3 p4 pf hz;obtain⟨p0,p1,p2,p3,p4,pf,hz⟩:=Oa jm;cases b3 with
   |false =>
    refine Z90 ?_;intro HY;go_wp2_with fail
    go_ret
    exact⟨by (rw[HY.o];try rfl),eR⟩
   |true =>
    have Bz:B=true:=tB;rcases HC.o with⟨z1,zC⟩|⟨z1,z2,v1,v2,zC,Ah,Ai⟩
    ·refine Z178 ?_;intro HY;go_wp2_with fail
     go_ret
     exact⟨by (rw[HY.o];try rfl),eR⟩
    refine Z89 ?_;intro k1 k4 xL Bq;clear Ah Ai;go_wp2_with fail;refine Z203 ?_;intro w7 g7 jO oT;clear g7 jm eR p0 p1 p2 p3 p4 pf hz;exact J79):P:=h
theorem J103(h:P:=by
 refine Z100 ?_;refine Z12 ?_;have dw:Gr w w4:=(bM.drew.trans g3).trans g4;clear g3 g4 bM c0 c1 c2 a9 br aD;obtain⟨⟨c0,c1,c2⟩,a9⟩:=cm;go_wp2_with fail;obtain⟨bP,mr,ms⟩:=HY.o (by simp);cases Y with
 |ok v =>
  obtain⟨oG,me⟩:=mr v rfl;have HP:Hid (∀W,V3y W->Calls prog 134 #[.string T,bb,(64:Int)] W λ e w'=>e=.returned (.tuple #[v,.nilIface])/\Gr W w'):=λ W hW=>by
   obtain⟨ep,he⟩:=hW.err;exact ms W ep he
  refine Z119 ?_;intro HV;clear ms mr bP HY oG me
  go_region_held3 (Ou bg bb ds w1.heap.size) (first|exact⟨⟨c0,c1,c2⟩,a9⟩|assumption|exact Ou.gr (by assumption) (by assumption)|go_keep) (first|(go_at_call 135;refine (O1e s (by omega) _ (HW.o.gr Gr.auto)).mono ?_;rw[<-HL.o];rintro e w5 ⟨rfl,g5⟩)|(go_at_call 134;refine (HP.o _ (HW.o.gr Gr.auto)).mono ?_;rintro e w6 ⟨rfl,g6⟩))
  exact J199
 |range =>
  have HP:Hid (∀W,V3y W->Calls prog 134 #[.string T,bb,(64:Int)] W λ e w'=>(∃(k:Int)(N:Nat)(ep:Addr),e=.returned (.tuple #[k,.iface 260 (.pointer (some ⟨N,0,none⟩))])/\w'.cell? ⟨N,2,none⟩=some (.iface 288 (.pointer (some ep)))/\w'.cell? ⟨1,0,none⟩=some (.iface 288 (.pointer (some ep))))/\Gr W w'):=λ W hW=>by
   obtain⟨ep,he⟩:=hW.err;refine (ms W ep he).mono ?_;rintro e w' ⟨⟨k,N,rfl,hN⟩,g⟩;exact⟨⟨k,N,ep,rfl,hN,(g.use.1 _ _ (Lib.lt_of_cell he)).trans he⟩,g⟩
  clear ms mr bP HY
  go_region_held3 (Ou bg bb ds w1.heap.size) (first|exact⟨⟨c0,c1,c2⟩,a9⟩|assumption|exact Ou.gr (by assumption) (by assumption)|go_keep) (first|(go_at_call 135;refine (O1e s (by omega) _ (HW.o.gr Gr.auto)).mono ?_;rw[<-HL.o];rintro e w5 ⟨rfl,g5⟩)|(go_at_call 134;refine (HP.o _ (HW.o.gr Gr.auto)).mono ?_;rintro e w6 ⟨⟨k,N,ep,rfl,hN,hE⟩,g6⟩))
  exact J201
 |_=>exact absurd rfl bP):P:=h
theorem J104(h:P:=by
 have hR:=SY dU;clear SY RG NX;unfold V2d at hd;by_cases bW:48<=c.toNat/\c.toNat<=57
 ·obtain⟨h1,h2⟩:=bW;rw[U1a ⟨h1,h2⟩]at hd
  first
  |(exfalso;omega)
  | (subst hd
     go_wp2
     go_ret2
     exact⟨by rw[hR.o];rfl,rfl⟩)
 rw[U1c bW]at hd;by_cases bA:97<=c.toNat/\c.toNat<=122;have aB:=O24 c bA;rw[U1a bA]at hd;obtain⟨h1,h2⟩:=bA;clear bW;exact J213
 rw[U1c bA]at hd;by_cases cz:65<=c.toNat/\c.toNat<=90;have aB:=O23 c cz;rw[U1a cz]at hd;obtain⟨h1,h2⟩:=cz;clear bW bA;exact J213
 clear hd;by_cases EW:c.toNat=95
 ·rw[EW]at hc;clear bW bA cz;go_wp2_with (refine (O1p 95 127 (by decide +kernel) _).mono ?_;rintro e w' ⟨rfl,rfl⟩)
  go_ret2
  exact⟨by rw[hR.o];rfl,rfl⟩
 exact J204):P:=h
theorem J105(h:P:=by
 refine Reg.all (rs:=[11,15,16]) (by kernel_rfl) (by simp) ?_;refine Z14 ?_;intro j hj;rcases hj with rfl|rfl|rfl
 skip;refine Reg.one (i:=11) rfl (by rfl) ?_;refine Z295 ?_;rintro e w2 aq;obtain⟨n,d,c,q,rfl,ac,aa⟩:=aq.open bP;dsimp only;refine Z47 ?_;refine Reg.all (rs:=[15,16]) (by kernel_rfl) (by simp) ?_;refine Z14 ?_;intro j hj;rcases hj with rfl|rfl
 skip;refine Z114 ?_;refine Z7 ?_;refine Reg.on 16 ?_;refine Z7 ?_;refine Z39 ?_;intro hv fa ga W3 g3 r0 r1 rf rl k0 k1 kf kl f5 f6 gb;refine Z311 ?_;exact J92
 skip;refine Z157 ?_;refine Z7 ?_;refine Reg.on 15 ?_;refine Z7 ?_;refine Z38 ?_;intro hv fa ga W3 g3 r0 r1 rf rl k0 k1 kf kl f5 f6 gb;refine Z311 ?_;exact J92
 skip;refine Z114 ?_;refine Z73 ?_;refine Reg.all (rs:=[11,16]) (by kernel_rfl) (by simp) ?_;refine Z14 ?_;intro j hj;rcases hj with rfl|rfl
 skip;refine Reg.one (i:=11) rfl (by rfl) ?_;refine Z147 ?_;rintro e w2 aq;obtain⟨n,d,c,q,rfl,ac,aa⟩:=aq.open bP;dsimp only;refine Z47 ?_;refine Reg.on 16 ?_;refine Z7 ?_;refine Z31 ?_;intro hv fa ga za pC sj W3 r0 r1 rf rl k0 k1 kf kl f5 f6 gb;refine Z311 ?_;exact J91
 skip;refine Z157 ?_;refine Z54 ?_;refine Reg.on 11 ?_;refine Z94 ?_;rintro e w2 aq;obtain⟨n,d,c,q,rfl,ac,aa⟩:=aq.open bP;dsimp only;refine Z47 ?_;refine Z29 ?_;intro hv fa ga za gb f5 f6 r0 r1 rf rl k0 k1 kf kl fb zb;refine Z311 ?_;exact J90
 skip;refine Z157 ?_;refine Z72 ?_;refine Reg.all (rs:=[11,15]) (by kernel_rfl) (by simp) ?_;refine Z14 ?_;intro j hj;rcases hj with rfl|rfl
 skip;refine Reg.one (i:=11) rfl (by rfl) ?_;refine Z146 ?_;rintro e w2 aq;obtain⟨n,d,c,q,rfl,ac,aa⟩:=aq.open bP;dsimp only;refine Z47 ?_;refine Reg.on 15 ?_;refine Z7 ?_;refine Z30 ?_;intro hv fa ga za pC sj W3 r0 r1 rf rl k0 k1 kf kl f5 f6 gb;refine Z311 ?_;exact J89
 skip;refine Z114 ?_;refine Z53 ?_;refine Reg.on 11 ?_;refine Z93 ?_;rintro e w2 aq;obtain⟨n,d,c,q,rfl,ac,aa⟩:=aq.open bP;dsimp only;refine Z47 ?_;refine Z28 ?_;intro hv fa ga za gb f6 f5 r0 r1 rf rl k0 k1 kf kl fb zb;refine Z311 ?_;exact J88):P:=h
theorem J106(h:P:=by
 rintro e w2 ⟨rfl,aH,d8,aa⟩;refine Z106 ?_;intro hu aM cb;have p0:w2.cell? ⟨w.heap.size,0,none⟩=some (.int .i64 0):=(hu.1 0).trans m0;have p1:w2.cell? ⟨w.heap.size,1,none⟩=some (.int .i64 0):=(hu.1 1).trans m1;have p2:w2.frozen? ⟨w.heap.size,0,none⟩=false:=(hu.2 0).trans m2;have p3:w2.frozen? ⟨w.heap.size,1,none⟩=false:=(hu.2 1).trans m3;refine Z128 ?_;intro eN PN;have tK:∀k,FQ (w.heap.size+1) aH k->w.heap.size+1<=k:=λ k hF=>by
  rcases aa.own k hF with hF|hF
  exact (HR.o.own_lt hF).1
  omega
 refine Z224 ?_;intro g0 g1 g2 g3 gz aO dO;clear aa hu aM m0 m1 m2 m3 d8 e0 e1 e2 ez;cases over with
 |false =>
  go_wp2_with fail
  go_roundw
  case rel =>
   refine⟨k,a+m,out++t,aH,aO.o.alloc _,?_,by omega,by omega,by simp;omega,cb.alloc _,by simp;omega,?_,?_,?_,?_⟩
   ·have:=jo.o;simp only[U23,U2f]at this;rw[show a+m-n=a-n+m from by omega];exact this
   all_goals (simp[go_sem,eN];try assumption)
  case measure =>
   rw[O8t (aO.o.alloc _),HP.o];omega
 |true =>
  go_wp2_with fail
  go_region
  all_goals go_wp2_with fail
  all_goals
   refine Z282 ?_;have:=jo.o;simp only[U2o]at this;rw[<-this];refine⟨by rw[show n+(a-n+m)=a+m from by omega],by omega,by omega,Gr.auto⟩):P:=h
theorem J107(h:P:=by
 go_wp2_with (refine (O1p _ _ aB _).mono ?_;rintro e w' ⟨rfl,rfl⟩)
 go_ret2
 exact⟨by rw[hR.o];rfl,rfl⟩):P:=h
theorem J108(h:P:=by
 have hR:=SY dU;clear SY RG NX;unfold V2d at hd;by_cases bW:48<=c.toNat/\c.toNat<=57
 ·obtain⟨h1,h2⟩:=bW;rw[U1a ⟨h1,h2⟩]at hd
  first
  |(exfalso;omega)
  | (subst hd
     go_wp2
     all_goals go_ret2
     exact⟨by rw[hR.o];rfl,rfl⟩)
 rw[U1c bW]at hd;by_cases bA:97<=c.toNat/\c.toNat<=122;have aB:=O24 c bA;rw[U1a bA]at hd;obtain⟨h1,h2⟩:=bA;clear bW;subst hd;exact J72
 rw[U1c bA]at hd;by_cases cz:65<=c.toNat/\c.toNat<=90;have aB:=O23 c cz;rw[U1a cz]at hd;obtain⟨h1,h2⟩:=cz;clear bW bA;subst hd;exact J72
 clear hd;by_cases EW:c.toNat=95
 ·rw[EW]at hc;clear bW bA cz;go_wp2_with (refine (O1p 95 127 (by decide +kernel) _).mono ?_;rintro e w' ⟨rfl,rfl⟩)
  all_goals go_ret2
  all_goals exact⟨by rw[hR.o];rfl,rfl⟩
 exact J204):P:=h
theorem J109(h:P:=by
 clear bV dH ha;by_cases bW:48<=c.toNat/\c.toNat<=57
 ·obtain⟨h1,h2⟩:=bW;rw[U1a ⟨h1,h2⟩]at be;refine Z179 ?_;intro e1;rw[e1]at dV;try rw[e1]at hR
  have gZ:(c.toNat:Int)-48<16:=by omega
  clear be dU e1
  go_wp2
  exact J10
 rw[U1c bW]at be;by_cases bA:97<=c.toNat/\c.toNat<=122
 ·have aB:=O24 c bA;rw[U1a bA]at be;obtain⟨h1,h2⟩:=bA;clear bW;refine Z181 ?_;intro e1;rw[e1]at dV;try rw[e1]at hR
  have gZ:(c.toNat:Int)-87<16:=by omega
  clear be dU e1;exact J210
 rw[U1c bA]at be;by_cases cz:65<=c.toNat/\c.toNat<=90
 ·have aB:=O23 c cz;rw[U1a cz]at be;obtain⟨h1,h2⟩:=cz;clear bW bA;refine Z180 ?_;intro e1;rw[e1]at dV;try rw[e1]at hR
  have gZ:(c.toNat:Int)-55<16:=by omega
  clear be dU e1;exact J210
 exact J9):P:=h
theorem J110(h:P:=by
 have dN:=nH.o.trans kW;clear p0 p1 pf pl p2 p3 fG fH v0 v1 vf vl hF;refine Z44 ?_;rintro e w6 aq;obtain⟨ec,eq,rfl,ac,aX⟩:=aq.open lE;have eO:∀k,w.heap.size<=k->¬FV own k:=λ k hk e=>by have:=(H.o.v.lt k e).2;omega
 have ik:=aD.1.st aX (λ k h1 _=>eO k h1);have kU:=And.intro ik (aD.2.st aX (eO bK (by omega)));refine Z77 ?_;obtain⟨⟨p0,p1,pf,pl⟩,⟨p2,p3,fG,fH⟩,⟨p4,p5,dt,db⟩⟩:=id ik;refine Reg.on 5 ?_;go_simp;rw[O5 ik.i.1,O5 ik.i.2.1];refine Z77 ?_;refine Reg.on 6 ?_;go_simp;rw[O5 ik.t.1,O5 ik.t.2.1];refine Z77 ?_;refine Reg.on 7 ?_;refine Z298 ?_;go_wp2_with fail;refine Z67 ?_;intro WF ao q0 q1 qf ql y0 y1 yf yl n8 n9 nh nj EF;exact U11 (v:=.tuple #[.agg #[(0:Int),(0:Int)],.agg #[.slice none 0 0,(0:Int)],.agg #[ec,eq]]) (by simp[results,results58,go_sem,q0,q1,qf,ql,y0,y1,yf,yl,n8,n9,nh,nj]) rfl EF):P:=h
theorem J111(h:P:=by
 refine Z118 ?_;intro k4 ku GJ GK GL GO bv;clear aA
 go_upto_region 10 with fail
 refine Z195 ?_;intro hS;refine Reg.takeY (i:=1) (v:=?_) rfl (by kernel_rfl) (by kernel_rfl) (by kernel_rfl) (λ _ _ _ h=>h) (by rfl) ?_ ?_;rotate_left;exact J96
 refine Z50 ?_;refine Z85 ?_;intro w4 q4 EI g4 cm Bp;refine Z34 ?_;refine Reg.takeY (i:=9) (v:=?_) rfl (by kernel_rfl) (by kernel_rfl) (by kernel_rfl) (λ _ _ _ h=>h) (by rfl) ?_ ?_;rotate_left;exact J96
 refine Z50 ?_;refine Reg.takeY (i:=10) (v:=?_) rfl (by kernel_rfl) (by kernel_rfl) (by kernel_rfl) (λ _ _ _ h=>h) (by rfl) ?_ ?_;rotate_left;exact J96
 refine Z50 ?_;refine Reg.on 11 ?_;refine Z298 ?_;go_wp2_with fail
 go_roundw
 case rel=>exact⟨m+1,_,ub,rfl,rfl,by omega,PO.o,by rw[<-GL.o,O64,O64,O64,EI];simp[bs],(mj.o.trans (Gr.refl wq).drew).trans g4⟩
 case measure=>simp[intOf];omega):P:=h
theorem J112(h:P:=by
 rw[hq]at hp HF;obtain⟨rfl,aH,hr,aa⟩:=hp;obtain⟨ag,au⟩:=aa.use w.heap.size (by omega) iY;have az:=aa.size;have r0:w1.cell? ⟨w.heap.size,0,none⟩=some (.int .i64 0):=(ag _).trans m0;have r1:w1.cell? ⟨w.heap.size,1,none⟩=some (.int .i64 0):=(ag _).trans m1;have r2:w1.frozen? ⟨w.heap.size,0,none⟩=false:=(au _).trans m2;have r3:w1.frozen? ⟨w.heap.size,1,none⟩=false:=(au _).trans m3;refine Z163 ?_;intro aN bG;have HQ:=U10 HF;clear hr aa ag au m0 m1 m2 m3 hq HF;go_wp2_with fail;refine Z261 ?_;rw[HX.o,HQ.o];refine⟨rfl,aH,?_,?_⟩
 have fg:¬FQ R aH w.heap.size:=λ hF=>by
  rcases bG.o.own _ hF with hF|hF
  exact iY hF
  omega
 have eF:=aN.o;exact RdQ.auto eF
 have d9:St (FQ R ov) (FQ R aH) w w1:=HG.o.st.trans bG.o;have aa:=d9;exact St.auto):P:=h
theorem J113(h:P:=by
 obtain⟨y0,y1,yf,yl⟩:=eX.gr g4;have jJ:=(g4.block (U18.1 vL).1).trans vL;refine Z55 ?_;intro eL dN i0 i1 i2 i3 i4 i5 i6 i7 i8 fd fe v0 v1 vf vl WF ao mY zI zF zG;clear vL eX d6 dw g4 ao
 try clear q0 q1 qf ql
 go_wp2_with fail
 go_region
 all_goals rw[mY.o]
 all_goals clear mY i0 i1 i2 i3 i4 i5 i6 i7 i8 fd fe v0 v1 vf vl jJ eL dN
 all_goals obtain⟨⟨i0,i1,i2,i3,i4,i5,i6,i7,i8⟩,fd,fe⟩:=O4p zI
 all_goals obtain⟨v0,v1,vf,vl⟩:=id zF
 all_goals go_wp2_with fail
 all_goals refine U11 (v:=.tuple #[itZ,fv c p]) (by simp[results,results59,go_sem,i0,i1,i2,i3,i4,i5,i6,i7,i8,v0,v1]) rfl ?_
 all_goals (rw[<-HX.o];first|exact⟨rfl,hc,zG⟩|exact⟨rfl,hc,zG.drew⟩|exact⟨rfl,hc,zG.drew.drew⟩)):P:=h
theorem J114(h:P:=by
 rw[hP]at dD;simp only at dD;refine Z134 ?_;refine Z116 ?_;intro w5 hc F5 d7 yh;have xR:¬FV ac w.heap.size:=λ hf=>by
  rcases ko.o _ hf with e|e
  exact bT e
  have:=fB.o;omega
 refine Z123 ?_;intro jl gc bY HC a0 a1 af al lp;clear dD d7 hP hc;go_wp2_with fail;refine Z231 ?_;intro w6 g6;obtain⟨u0,u1,uf,ul⟩:=jl.o.gr g6;have dI:=gc.o.gr g6;have Hj:=yh.o.gr g6;clear g6 a0 a1 af al;go_wp2_with fail
 go_region
 all_goals go_wp2_with fail
 rw[<-bY.o];exact U11 (v:=.tuple #[(0:Int),(0:Int),fv c p]) (by simp[results,results46,go_sem,u0,u1,uf,ul]) rfl ⟨rfl,HC.o,F5,((dI.setCell (.inr (U12 _)) _).setCell (.inr (U12 _)) _).drew,((Hj.set (by omega) _).set (by omega) _).drew⟩):P:=h
theorem J115(h:P:=by
 clear be dU e1;go_wp2_with (refine (O1p _ _ aB _).mono ?_;rintro e w' ⟨rfl,rfl⟩)
 all_goals refine⟨⟨k+1,_,_,rfl,(by first|rfl|(congr 1;omega)),(by first|rfl|(congr 1;omega)),by omega,hR⟩,by simp[intOf];omega⟩):P:=h
theorem J116(h:P:=by
 refine Z35 ?_;intro gN ij V4 cN;refine Z2 ?_;have Az:=sD.o V4 cN.o.st;obtain⟨k7,k8,kf⟩:=Az;refine Z192 ?_;refine Z2 ?_;refine Reg.ty 19 ?_;refine Reg.ty 20 ?_;refine Reg.on 21 ?_;refine Z298 ?_;go_wp2_with fail
 go_meet
 exact Onq pX.o yi.o cN.o (by simp) (Hk.o.add it _ _ _) (by rw[<-PP.o];simp)):P:=h
theorem J117(h:P:=by
 refine Z76 ?_;refine Z113 ?_;intro ay aj ah;have av:=tG.o.alloc (.cells #[a,b] 38);refine Z215 ?_;intro V2 hV;rw[hV]at ay aj ah av⊢;clear hV;refine Z49 ?_;intro aO co;have fE:=U10 av;have ei:=U10 aj;clear ay aj ah av;refine Z33 ?_;intro br;refine Reg.on 8 ?_;skip;refine Z135 ?_;intro ay ax ah;have av:=fE.o.alloc (.cells #[.string key] 9);have aj:=ei.o.alloc (.cells #[.string key] 9);refine Z254 ?_;intro V3 hV;rw[hV]at ay ax ah av aj⊢;clear hV;refine Z49 ?_;intro bm bN;have dC:=U10 av;have cd:=U10 aj;have nx:=U10 ax;clear ay ax ah av aj;exact J63):P:=h
theorem J118(h:P:=by
 refine Z66 ?_;refine Z154 ?_;intro ay av ah;have aj:=tH.o.alloc (.cells #[n] 3);refine Z252 ?_;intro V2 hV;rw[hV]at ay av ah aj⊢;clear hV;refine Z49 ?_;intro aO co;have ei:=U10 aj;have fE:=U10 av;clear ay av ah aj;refine Z33 ?_;intro br;refine Reg.on 8 ?_;skip;refine Z135 ?_;intro ay ax ah;have aj:=ei.o.alloc (.cells #[.string key] 9);have av:=fE.o.alloc (.cells #[.string key] 9);refine Z254 ?_;intro V3 hV;rw[hV]at ay ax ah aj av⊢;clear hV;refine Z49 ?_;intro bm bN;have cd:=U10 aj;have dC:=U10 av;have nx:=U10 ax;clear ay ax ah aj av;exact J64):P:=h
theorem J119(h:P:=by
 rintro e w2 ⟨rfl,F',aa⟩;refine Z106 ?_;intro hu aM cb;have p0:w2.cell? ⟨w.heap.size,0,none⟩=some (.int .i64 0):=(hu.1 0).trans m0;have p1:w2.cell? ⟨w.heap.size,1,none⟩=some (.int .i64 0):=(hu.1 1).trans m1;have p2:w2.frozen? ⟨w.heap.size,0,none⟩=false:=(hu.2 0).trans m2;have p3:w2.frozen? ⟨w.heap.size,1,none⟩=false:=(hu.2 1).trans m3;have eN:w.heap.size<w2.heap.size:=by omega
 clear aa hu aM m0 m1 m2 m3;go_wp2_with fail
 go_region
 all_goals go_wp2_with fail
 all_goals
  refine Z250 ?_;refine⟨by rw[show n+(a-n+p)=a+p from by omega],by omega,Gr.auto⟩):P:=h
theorem J120(h:P:=by
 rw[hq]at hp HF;obtain⟨rfl,aa⟩:=hp;obtain⟨ag,au⟩:=aa.use w.heap.size (by omega) iY;have az:=aa.size;have r0:w1.cell? ⟨w.heap.size,0,none⟩=some (.int .i64 0):=(ag _).trans m0;have r1:w1.cell? ⟨w.heap.size,1,none⟩=some (.int .i64 0):=(ag _).trans m1;have r2:w1.frozen? ⟨w.heap.size,0,none⟩=false:=(au _).trans m2;have r3:w1.frozen? ⟨w.heap.size,1,none⟩=false:=(au _).trans m3;have bG:=U10 aa;have HQ:=U10 HF;clear aa ag au m0 m1 m2 m3 hq HF;go_wp2_with fail;refine Z268 ?_;intro d9 aa;exact⟨rfl,St.auto⟩):P:=h
theorem J121(h:P:=by
 go_wp2_with fail;refine (O1d _ (a+2) (by omega) _).mono ?_;rintro e w2 ⟨rfl,g2⟩;obtain⟨ag,au,aM⟩:=g2.use;have q0:w2.cell? ⟨w.heap.size,0,none⟩=some (.int .i64 0):=(ag _ _ (by omega)).trans n0;have q1:w2.cell? ⟨w.heap.size,1,none⟩=some (.int .i64 0):=(ag _ _ (by omega)).trans n1;have q2:w2.frozen? ⟨w.heap.size,0,none⟩=false:=(au _ _ (by omega)).trans n2;have q3:w2.frozen? ⟨w.heap.size,1,none⟩=false:=(au _ _ (by omega)).trans n3;clear ag au n0 n1 n2 n3;go_wp2_with fail;refine Z240 ?_;intro aa;exact⟨rfl,St.auto⟩):P:=h
theorem J122(h:P:=by
 obtain⟨z1,z2⟩:=V1u _ 48 _ hz;have HZ:Hid ((bs D)[0]?=some 48):=U10 (by
  have h2:=O8 D 0 e0;simp only[U2b]at h2;rw[h2];simp only[U2a,U1f,<-U2d]
  simpa using hz)
 clear hz;refine Z5 ?_;intro w4 g4 cm;refine Z74 ?_;refine Z100 ?_;refine Z12 ?_;have dw:Gr w w4:=(dN.drew.trans g3).trans g4;exact J208):P:=h
theorem J123(h:P:=by
 exact⟨λ i e st' h=>by (simp only[V9.ok.injEq,U17]at h;omega),λ c' p' h=>by (simp at h)⟩):P:=h
theorem J124(h:P:=by
 rintro e w4 hp;obtain⟨x,y,z,rfl⟩:=hp.form nJ.o;obtain⟨q0,q1,qf,ql⟩:=vM.st (hp.st nJ.o) (by simpa using U3l bE);clear i0 i1 i2 i3 i4 i5 i6 i7 i8 fd fe;go_wp2_with fail;refine Z175 ?_;exact hp.setF2 AA (U12 _) BT bE _ _):P:=h
theorem J125(h:P:=by
 go_wp2_with fail;refine Z290 ?_;intro w3 kk x cc ke g3;obtain⟨cI,hx,dJ⟩:=ke;have hF:=dl.gr g3;have dj:Gr w w3:=cB.trans g3;clear g3 cB dl;subst dJ hx cI;go_wp2_with fail;have hS:FX w.heap.size (0:Int) (0:Int) w3.drew:=hF.gr (Gr.refl _).drew;refine Z165 ?_;refine Z32 ?_;refine Z41 ?_;refine Z60 ?_;intro w4 nv' own' p0 p1 pf pl fg H3 jh Bm;refine Z12 ?_;go_wp2_with fail;refine Z145 ?_;exact (jh.o.setCell (.inr (U12 _)) _).setCell (.inr (U12 _)) _):P:=h
theorem J126(h:P:=by
 clear g3;go_wp2_with fail;exact U11 (v:=.tuple #[.string ⟨#[]⟩,(3:Int)]) (by simp[results,results99,go_sem]) rfl ⟨O1l (Ak.o (by simp)),dj⟩):P:=h
theorem J127(h:P:=by
 clear be dU e1;exact J210):P:=h
theorem J128(h:P:=by
 intro k hk
 replace hk:(if kv.ownBlock=some k then 4+3*i else if sv.ownBlock=some k then 5+3*i else if uv.ownBlock=some k then 6+3*i else own k)≠0:=hk
 have fi:∀b,FI own i b\/w.heap.size<=b->own b≠0\/w.heap.size<=b:=λ b e=>e.imp (λ e=>by unfold FI at e;omega) id
 exact J211):P:=h
theorem J129(h:P:=by
 obtain⟨rfl,rfl⟩:=hrel;go_wp2_with fail
 go_step3
 go_wp2_with fail
 go_quiet (fail)
 go_wp2_with fail
 go_quiet ((go_at_call 85;first|exact O5j (Oe9 _ _ c hl _) ⟨_,rfl⟩|exact O36 (Oe9 _ _ c hl _) ⟨_,rfl⟩))
 exact J207):P:=h
theorem J130(h:P:=by
 go_wp2_with fail
 go_region
 all_goals go_wp2_with fail
 have AB:X=.bad 5 a:=by have:=HX.o;rw[<-vN.o]at this;exact this.symm
 rw[AB];exact U11 (v:=.tuple #[(0:Int),fv 5 a]) (by simp[results,results76,go_sem,q0,q1,qf,ql]) rfl ⟨rfl,by omega,FV own',((bG.o.setCell (.inr (U12 _)) _).setCell (.inr (U12 _)) _).drew,((ay.o.rk.set (by omega) _).set (by omega) _).drew⟩):P:=h
theorem J131(h:P:=by
 go_wp2_with fail;refine Z290 ?_;intro w3 kk x cc ke g3;obtain⟨rfl,hc⟩:=ke;obtain⟨q0,q1,qf,ql⟩:=dl.gr g3;have U5:((cc:Int) != 0)=true:=by simp;omega
 have dj:Gr w w3:=cB.trans g3;clear g3 cB dl;go_wp2_with fail;exact U11 (v:=.tuple #[(0:Int),(0:Int),fv cc n]) (by simp[results,results42,go_sem,q0,q1,qf,ql]) rfl ⟨rfl,hc,FV own,St.auto,H.o.rk.gr Gr.auto⟩):P:=h
theorem J132(h:P:=by
 have s2:decide ((256:Int)<(d:Int)+2)=true:=by simp;omega
 rw[U1a hH]at ae;have iQ:=(HE.o.gr G7.o)
 obtain⟨r0,r1,rf,rl⟩:=id iQ;go_wp2_with fail;refine Z68 ?_;intro Bn WF q0 q1 qf ql sF aF;exact U11 (v:=fv 4 a) (by simp[results,results87,go_sem,q0,q1,qf,ql]) rfl ⟨rfl,by decide,own',sF,aF,λ k hk=>(kb.o k hk).imp id (λ h=>by have:=HG.o.size;omega)⟩):P:=h
theorem J133(h:P:=by
 refine Z36 ?_;intro ay aj ah;have ax:=cZ.o.alloc (.cells #[a,b] 38);have av:=fE.o.alloc (.cells #[a,b] 38);refine Z130 ?_;intro V3 hV;rw[hV]at ay aj ah ax av⊢;clear hV;refine Z49 ?_;intro bm bN;have nx:=U10 ax;have dC:=U10 av;have cd:=U10 aj;clear ay aj ah ax av;exact J63):P:=h
theorem J134(h:P:=by
 refine Z36 ?_;intro ay aj ah;have av:=fE.o.alloc (.cells #[a,b] 38);have ax:=cZ.o.alloc (.cells #[a,b] 38);refine Z130 ?_;intro V3 hV;rw[hV]at ay aj ah av ax⊢;clear hV;refine Z49 ?_;intro bm bN;have dC:=U10 av;have nx:=U10 ax;have cd:=U10 aj;clear ay aj ah av ax;exact J63):P:=h
theorem J135(h:P:=by
 refine Z56 ?_;refine Reg.tl 2 hS ?_ (hy:=by intro w ab;obtain⟨q0,q1,q2⟩:=ab;go_simp;try with_reducible rfl);refine Z41 ?_;refine Z188 ?_;intro k1 EN ce cB;refine Z65 ?_;refine Z313 ?_;refine Z12 ?_;go_wp2_with fail;exact U11 (v:=.string R) (by simp[results,results178,go_sem]) rfl ⟨⟨R,rfl,HR.o⟩,cB⟩):P:=h
theorem J136(h:P:=by
 refine Z57 ?_;intro ay av ah;have ax:=cZ.o.alloc (.cells #[n] 3);have aj:=ei.o.alloc (.cells #[n] 3);refine Z171 ?_;intro V3 hV;rw[hV]at ay av ah ax aj⊢;clear hV;refine Z49 ?_;intro bm bN;have nx:=U10 ax;have cd:=U10 aj;have dC:=U10 av;clear ay av ah ax aj;exact J64):P:=h
theorem J137(h:P:=by
 refine Z57 ?_;intro ay av ah;have aj:=ei.o.alloc (.cells #[n] 3);have ax:=cZ.o.alloc (.cells #[n] 3);refine Z171 ?_;intro V3 hV;rw[hV]at ay av ah aj ax⊢;clear hV;refine Z49 ?_;intro bm bN;have cd:=U10 aj;have nx:=U10 ax;have dC:=U10 av;clear ay av ah aj ax;exact J64):P:=h
theorem J138(h:P:=by
 go_enter func162,ntmps162;go_wp2_with fail
 try rw[hU]
 refine (HA.o _).mono ?_;rintro e w1 ⟨rfl,g1⟩;go_wp2_with fail
 go_ret
 exact⟨by (rw[HY.o];try rfl),g1⟩):P:=h
theorem J139(h:P:=by
 rw[hv];refine (slices_Index_string b 0 r.nd.keys.length c (r.nd.keys.map λ k=>(⟨k.toArray⟩:ByteArray)) key w (by simp) (by unfold maxLen at eP;omega) ?_).mono ?_;intro j hj;rw[U1j]at hj;rw[U1v];refine cA j _ ?_;simp[Oh,hj,List.getD]
 refine Z48 ?_;rw[List.take_of_length_le (by simp),dF];exact J7):P:=h
theorem J140(h:P:=by
 intro n hn h1 h2;subst hn;exact U10 ⟨by omega,by omega,by rw[bC];simp[h1,h2]⟩):P:=h
theorem J141(h:P:=by
 intro nd hn;obtain⟨j,hj⟩:=U3n hn;rw[Of]at hj
 split at hj
 cases hs:a[j]? with
 |none=>rw[hs]at hj;cases hj
 |some x =>
  rw[hs]at hj;simp only[U25,U1f]at hj;subst hj;exact hf x (h x (U2p hs))
 exact h nd (U2p hj)):P:=h
theorem J142(h:P:=by
 split at h;cases h
 cases h
 split at h;simp only[V9.ok.injEq,U17]at h;obtain⟨rfl,rfl,rfl⟩:=h;exact⟨_,by simp;rfl,rfl⟩
 cases h):P:=h
theorem J143(h:P:=by
 go_enter func40,ntmps40;go_wp2_with (go_at_call 63;refine (O1d _ n rfl _).mono ?_;rintro e w1 ⟨rfl,g1⟩;obtain⟨ag,au,az⟩:=g1.use;simp at az);exact U11 (v:=.tuple #[.string ⟨#[]⟩,(0:Int),fv 3 n]) (by simp[results,results40,go_sem,ag,au]) rfl ⟨rfl,Gr.auto⟩):P:=h
theorem J144(h:P:=by
 rw[U1m]at hi;cases hx:L[i]? with
 |none=>rw[hx]at hi;cases hi
 |some x =>
  rw[hx]at hi;cases hi;have hR:=hr.rows i x hx;exact⟨λ k e=>hR.tk k (by rw[<-O2v];exact e),λ k e=>hR.ts k (by rw[<-O2v];exact e),λ k e=>hR.tu k (by rw[<-O2v];exact e)⟩):P:=h
theorem J145(h:P:=by
 have q:=t2 g1 ht;refine⟨by simp,λ into root nds g1 he=>?_⟩;simp only[V9.ok.injEq,U17]at he;obtain⟨rfl,rfl,rfl,rfl⟩:=he;exact⟨q.gi,by have:=q.le;omega,q.ge,q.its,q.ns,by rw[q.many];omega,.inr (by have:=q.dep;omega),λ hp=>by rw[i9.2.2 (by omega)]at hp;cases hp⟩):P:=h
theorem J146(h:P:=by
 intro k hk;rw[dc];by_cases h0:own k=0
 split at hk;rename_i e;have:=H.k.lt k e;exact this
 split at hk;rename_i e;have:=H.s.lt k e;exact this
 split at hk;rename_i e;have:=H.u.lt k e;exact this
 exact absurd h0 hk
 have:=h.lt k h0;exact⟨this.1,by omega⟩):P:=h
theorem J147(h:P:=by
 clear h1 h2 h0
 go_upto_region 38 with fail
 go_quiet (fail)
 go_wp2_with fail
 go_roundw
 case rel=>first|exact⟨j+1,by go_num,by omega,mj.o.drewN _⟩|((repeat apply Exists.intro);exact⟨⟨j+1,rfl,by omega,mj.o.drewN _⟩,rfl⟩)
 case measure=>simp[intOf];omega):P:=h
theorem J148(h:P:=by
 rw[U21];show (bs x=[]/\(bs x).isEmpty=true/\(bs x).isEmpty=true)\/_;cases h:bs x with
 |nil=>exact .inl ⟨rfl,rfl,rfl⟩
 |cons c l =>
  right;refine⟨?_,?_,rfl⟩;show ¬bs x=[];rw[h];simp
  show (bs x).isEmpty=false;rw[h];rfl):P:=h
theorem J149(h:P:=by
 have hL:0<L.length:=by cases L with|nil=>simp at hr|cons=>simp
 have hc:=h.nodes.cells (g:=g) (by rw[hv];rfl);have hj:∀j u,j<7->(ndV r)[j]?=some u->w.cell? ⟨g,i*7+j,none⟩=some u:=by
  intro j u hj hu;have:=hc (i*7+j) u (by rw[O71 _ _ _ hj,hr];exact hu)
  rwa [U49,U1v]at this
 obtain⟨g',nL,cur,EX,_,_,_,_,_,y9,_⟩:=h.form hL;rw[hv]at EX;cases EX;exact⟨hj 0 _ (by omega) rfl,hj 1 _ (by omega) rfl,hj 2 _ (by omega) rfl,hj 3 _ (by omega) rfl,hj 4 _ (by omega) rfl,hj 5 _ (by omega) rfl,hj 6 _ (by omega) rfl,λ o=>unfrozen_of_block y9 o⟩):P:=h
theorem J150(h:P:=by
 rintro e w1 ⟨rfl,g1⟩;go_wp2_with fail
 go_ret
 exact⟨by (rw[HX.o];try rfl),g1⟩):P:=h
theorem J151(h:P:=by
 go_enter func73,ntmps73;go_wp2_with fail;exact U11 (v:=.tuple #[.int .u8 1,.string t,(0:Int)]) (by simp[results,results73,go_sem]) rfl ⟨⟨1,t,0,rfl,by rw[HX.o];exact⟨rfl,rfl,rfl⟩⟩,Gr.refl _⟩):P:=h
theorem J152(h:P:=by
 rw[hF]at bC;subst ha;clear dH hF a0 a1
 go_wp2
 go_ret2
 first|exact⟨rfl,rfl⟩|exact⟨by rw[bC];rfl,rfl⟩):P:=h
theorem J153(h:P:=by
 obtain⟨h1,h2⟩:=bW;rw[U1a ⟨h1,h2⟩]at be;refine Z179 ?_;intro e1;rw[e1]at dV;try rw[e1]at hR
 exact J215):P:=h
theorem J154(h:P:=by
 rw[hs]at a8;simp only at a8⊢
 split at a8
 rename_i bx
 rw[U1a bx,U1a (hr.room bx),hl,show k+n+m=k+(n+m) by omega];exact .ok _ _ _ _ (hr.app ⟨rfl,rfl,rfl,rfl,rfl,rfl⟩)
 exact absurd rfl a8):P:=h
theorem J155(h:P:=by
 exact⟨by simp,λ am d' st' h=>by simp at h⟩):P:=h
theorem J156(h:P:=by
 split at h;cases h
 cases h
 split at h
 simp only[V9.ok.injEq,U17]at h;obtain⟨rfl,_,rfl⟩:=h;intro j hj e9;have:j=st.length:=by simp at e9;omega
 subst this;exact .inr kt
 cases h):P:=h
theorem J157(h:P:=by
 refine⟨by simp,λ e g' he=>?_⟩;simp only[V9.ok.injEq,U17]at he;obtain⟨rfl,rfl⟩:=he;exact⟨q.gi.more _ _,k.lt,k.le,by simp only;omega,qg,by simp[q.its],by simp[q.ns],q.many,q.dep⟩):P:=h
theorem J158(h:P:=by
 go_wp2
 go_ret
 exact⟨rfl,(Gr.refl _).alloc _⟩):P:=h
theorem J159(h:P:=by
 split at hk
 rename_i e
 subst e;refine⟨?_,a9⟩;rcases dG.2 with⟨h6,_⟩|⟨g5,c5,u5,h6,h7,_⟩
 cases h6
 cases h6;exact h7
 have:=h.lt k hk;exact⟨this.1,by omega⟩):P:=h
theorem J160(h:P:=by
 intro k hk;by_cases h1:k=w.heap.size+1;subst h1;simp;omega
 rw[U1c h1]at hk;by_cases h2:k=w.heap.size;subst h2;simp;omega
 rw[U1c h2]at hk;exact absurd rfl hk):P:=h
theorem J161(h:P:=by
 intro h1 h2;exact U10 (by rw[bC];simp[h1,h2])):P:=h
theorem J162(h:P:=by
 rw[hX];exact U11 (v:=.tuple #[.agg #[i,.int .i64 ((d:Int)+1)],.bool false]) (by simp[results,results119,go_sem,q0,q1,qf,ql]) rfl ⟨⟨_,_,rfl⟩,gE⟩):P:=h
theorem J163(h:P:=by
 clear be dU e1
 go_wp2
 all_goals refine⟨⟨k+1,_,_,rfl,(by first|rfl|(congr 1;omega)),(by first|rfl|(congr 1;omega)),by omega,hR⟩,by simp[intOf];omega⟩):P:=h
theorem J164(h:P:=by
 show (nd.subs++[i]).Pairwise _;rw[List.pairwise_append];exact⟨h0.up,List.pairwise_singleton _ _,λ a ha b hb=>by rw[U20]at hb;subst hb;exact hi a ha⟩):P:=h
theorem J165(h:P:=by
 go_wp2_with fail
 go_region
 all_goals go_wp2_with fail
 exact U11 (v:=.tuple #[i,f0]) (by simp[results,results101,go_sem]) rfl ⟨rfl,Gr.auto⟩):P:=h
theorem J166(h:P:=by
 intro h1;exact U10 (by rw[bC];simp[h1])):P:=h
theorem J167(h:P:=by
 split at h;cases h
 cases h
 split at h;simp only[V9.ok.injEq,U17]at h;obtain⟨rfl,_,rfl⟩:=h;exact Oml hw hp _ _ _ _
 cases h):P:=h
theorem J168(h:P:=by
 go_wp2_with fail;exact U11 (v:=.tuple #[.string ⟨#[]⟩,(3:Int)]) (by simp[results,results98,go_sem]) rfl ⟨O1l HY.o,Gr.auto⟩):P:=h
theorem J169(h:P:=by
 rw[Obc,Bool.or_eq_true]at kx;rcases kx with h|h
 all_goals
  have:=V1i _ _ h;rw[U16,O0]at this;simp at this;omega):P:=h
theorem J170(h:P:=by
 refine Z205 ?_;refine Z12 ?_;go_wp2_with fail
 go_roundw
 case rel=>exact⟨j+1,by go_num,by omega,ky.o⟩
 case measure=>simp[intOf];omega):P:=h
theorem J171(h:P:=by
 go_wp2_with fail
 go_quiet (fail)
 go_wp2_with fail;refine Z183 ?_;intro w2 p0 p1 pf pl bM;go_wp2_with fail;refine Z286 ?_;rw[<-pa.o];exact rfl):P:=h
theorem J172(h:P:=by
 intro r sign ds h;unfold V1t at h
 split at h;cases h;exact .inl rfl
 split at h;cases h
 cases h;exact .inr rfl
 cases h;exact .inl rfl):P:=h
theorem J173(h:P:=by
 split at h;cases h
 cases h
 split at h;simp only[V9.ok.injEq,U17]at h;obtain⟨_,_,rfl⟩:=h;exact lf _ _ _ _
 cases h):P:=h
theorem J174(h:P:=by
 split at hk
 rename_i e
 subst e;rcases eC with h5|h5
 exact .inl (.inl (by unfold FV;omega))
 exact .inr h5.2
 exact .inl (.inl hk)):P:=h
theorem J175(h:P:=by
 go_enter func128,ntmps128;go_wp2_with fail
 go_ret
 exact⟨⟨_,rfl,by (rw[HX.o];try rfl),by (simp;try omega)⟩,Gr.auto⟩):P:=h
theorem J176(h:P:=by
 rintro e w2 ⟨rfl,aa⟩;refine Z18 ?_;intro aF d5 aM;have HT:=U10 aa;clear aa;go_wp2_with fail;refine Z279 ?_;exact J43):P:=h
theorem J177(h:P:=by
 rw[hF]at bC;subst ha;clear dH hF a0 a1
 go_wp2
 all_goals go_ret2
 first|exact⟨rfl,rfl⟩|exact⟨by rw[bC];rfl,rfl⟩):P:=h
theorem J178(h:P:=by
 go_enter func128,ntmps128;go_wp2_with fail
 go_ret
 exact⟨⟨_,rfl,by (rw[HX.o];try rfl),U2u _⟩,Gr.auto⟩):P:=h
theorem J179(h:P:=by
 intro k hk hn;refine cG k hk (λ e=>hn (.inl ?_)) (λ e=>hn (.inl ?_));subst e;unfold FV;rw[h.oR];omega
 unfold FV;omega):P:=h
theorem J180(h:P:=by
 split at he;cases he
 split at he;cases he
 cases he
 simp only[V9.ok.injEq,U17]at he;rw[<-he.2.2];exact h1):P:=h
theorem J181(h:P:=by
 intro k e;simp[Value.ownBlock]at e;subst e;show (if _ then _ else _)=3;rw[tg g (by omega) (nF g 3 dR (by omega))];exact dR):P:=h
theorem J182(h:P:=by
 rw[b3]at r3;simp only[V9.ok.injEq,U17]at r3;obtain⟨rfl,rfl⟩:=r3;exact⟨by omega,λ hk=>by omega⟩):P:=h
theorem J183(h:P:=by
 unfold feed at h⊢
 split at h;exact J31;exact J30;cases h
 split;exact J31;exact J30;exact J30
 exact h):P:=h
theorem J184(h:P:=by
 split at hk
 rename_i e
 subst e;rcases eC with h5|h5
 exact .inl (by omega)
 exact .inr (.inr h5.2)
 exact .inl hk):P:=h
theorem J185(h:P:=by
 split;exact⟨_,rfl,rfl,rfl⟩
 exact⟨_,rfl,rfl,rfl⟩):P:=h
theorem J186(h:P:=by
 simp only at h
 split at h;exact ih _ _ _ _ BU h
 simp only[V9.ok.injEq,U17]at h;rw[<-h.1];exact BU):P:=h
theorem J187(h:P:=by
 intro k e;simp only at e;have a1:kv.ownBlock≠some k:=λ e2=>H.ks k e2 e
 simp only[a1,e,U2o,U2f]):P:=h
theorem J189(h:P:=by
 intro hv fa ga W3 g3 r0 r1 rf rl k0 k1 kf kl f5 f6 gb;refine Z318 ?_;exact J92):P:=h
theorem J190(h:P:=by
 intro y hy;rcases U29.1 hy with hy|hy
 exact h0.lt y hy
 rw[U20]at hy;omega):P:=h
theorem J191(h:P:=by
 exfalso;rcases b2 with⟨c1,_⟩|⟨_,c1,_⟩
 rw[r0]at c1;cases c1
 rw[r1]at c1;cases c1):P:=h
theorem J192(h:P:=by
 rename_i x hx;exact (U14.1 hx).1):P:=h
theorem J193(h:P:=by
 rw[hv];refine (slices_Index_string_empty a c key w).mono ?_;refine Z48 ?_;rw[h0];exact J7):P:=h
theorem J194(h:P:=by
 refine Z193 ?_;exact (cQ.o.setCell (.inr (U12 _)) _).setCell (.inr (U12 _)) _):P:=h
theorem J195(h:P:=by
 rw[HX.o,<-HE.o];have aa:=HT.o;have aX:=ia.o;exact⟨rfl,St.auto⟩):P:=h
theorem J196(h:P:=by
 go_wp2_with fail;refine Z20 ?_;intro V0 iP mX bj;refine Z14 ?_;intro j hj;rcases hj with rfl|rfl|rfl
 refine Z189 ?_;refine Z297 ?_;intro V1 aN fX n7 ce;refine Reg.all (rs:=[9,15,22]) (by kernel_rfl) (by simp) ?_;refine Z14 ?_;intro j hj;rcases hj with rfl|rfl|rfl
 refine Z63 ?_;intro gK aJ V2 aO co br;refine Z14 ?_;intro j hj;rcases hj with rfl|rfl
 refine Z320 ?_;intro V3 bm bN cd aD;intro j hj;exact J218
 refine Z323 ?_;intro V3 bm bN dC aD;skip;refine Z10 ?_;exact J219
 refine Z300 ?_;intro V2 aO co cZ ei br j hj;rcases hj with rfl|rfl
 refine Z299 ?_;intro gK aJ V3 bm bN cd aD j hj;exact J218
 exact J136
 refine Z301 ?_;intro V2 aO co cZ fE br j hj;rcases hj with rfl|rfl
 refine Z303 ?_;intro gK aJ V3 bm bN dC aD;skip;refine Z10 ?_;exact J219
 exact J133
 refine Z76 ?_;refine Z187 ?_;refine Z297 ?_;intro V1 aN fX tH ce;refine Reg.all (rs:=[8,22]) (by kernel_rfl) (by simp) ?_;refine Z14 ?_;intro j hj;rcases hj with rfl|rfl
 refine Z305 ?_;intro V2 aO co ei cZ br j hj;rcases hj with rfl|rfl
 refine Z299 ?_;intro gK aJ V3 bm bN cd aD j hj;exact J218
 exact J137
 exact J118
 refine Z66 ?_;refine Z221 ?_;refine Z297 ?_;intro V1 aN fX tG ce;refine Reg.all (rs:=[8,15]) (by kernel_rfl) (by simp) ?_;refine Z14 ?_;intro j hj;rcases hj with rfl|rfl
 refine Z306 ?_;intro V2 aO co fE cZ br j hj;rcases hj with rfl|rfl
 refine Z303 ?_;intro gK aJ V3 bm bN dC aD;skip;refine Z10 ?_;exact J219
 exact J134
 exact J117):P:=h
theorem J197(h:P:=by
 refine Z12 ?_;have bM:Gr w w2:=pc.drew.trans g2;clear g2 eV pc c0 c1 c2 a9 bj;obtain⟨⟨c0,c1,c2⟩,a9⟩:=ce;go_wp2_with fail
 go_quiet (fail)
 obtain⟨W2,dy⟩:=ExZ (w2.drewN nq)
 have dN:Gr w W2:=by rw[<-dy];exact bM.drewN _
 have k0:W2.cell? ⟨w1.heap.size,0,none⟩=some (.string bg):=by rw[<-dy];exact c0
 have k1:W2.cell? ⟨w1.heap.size,1,none⟩=some (.int .i64 bb):=by rw[<-dy];exact c1
 have k2:W2.cell? ⟨w1.heap.size,2,none⟩=some (.string ds):=by rw[<-dy];exact c2
 have kl:w1.heap.size<W2.heap.size:=by rw[<-dy];exact a9
 rw[dy];clear c0 c1 c2 a9 bM dy;refine Z212 ?_;intro c0 c1 c2 a9;clear k0 k1 k2 kl;go_wp2_with fail;have br:Ou bg bb ds w1.heap.size W2.drew:=⟨⟨c0,c1,c2⟩,a9⟩
 refine Z25 ?_;intro w3 g3 aD;refine Z16 ?_;cases r with
 |false =>
  refine Z21 ?_;refine Z12 ?_;have dj:Gr w w3:=dN.drew.trans g3;exact J126
 |true =>
  by_cases h1:1<D.size
  have e1:decide ((1:Int)<(D.size:Int))=true:=by simp;omega
  have H1:=U10 h1;have e0:0<D.size:=by omega
  have e2:(0:Int)<(D.size:Int):=by omega
  cases hz:((D[0]'e0).toNat==48) with
  |true =>
   exact J122
  |false =>
   obtain⟨z1,z2⟩:=V1u _ 48 _ hz;have BV:Hid (¬(1<D.size/\(bs D)[0]?=some 48)):=U10 (by
    rintro⟨_,h3⟩;have h2:=O8 D 0 e0;simp only[U2b]at h2;rw[h2]at h3;simp only[U2a,U1f]at h3;rw[h3]at hz;simp at hz)
   clear hz;refine Z5 ?_;intro w4 g4 cm;refine Z74 ?_;exact J97
  have e1:decide ((1:Int)<(D.size:Int))=false:=by simp;omega
  have BV:Hid (¬(1<D.size/\(bs D)[0]?=some 48)):=U10 (λ h3=>h1 h3.1);refine Z5 ?_;intro w4 g4 cm;refine Z91 ?_;exact J97):P:=h
theorem J198(h:P:=by
 clear bV dH ha;by_cases bW:48<=c.toNat/\c.toNat<=57;exact J153
 rw[U1c bW]at be;by_cases bA:97<=c.toNat/\c.toNat<=122
 ·have aB:=O24 c bA;rw[U1a bA]at be;obtain⟨h1,h2⟩:=bA;clear bW;refine Z181 ?_;intro e1;rw[e1]at dV;try rw[e1]at hR
  have gZ:(c.toNat:Int)-87<16:=by omega
  clear be dU e1;exact J107
 rw[U1c bA]at be;by_cases cz:65<=c.toNat/\c.toNat<=90
 ·have aB:=O23 c cz;rw[U1a cz]at be;obtain⟨h1,h2⟩:=cz;clear bW bA;refine Z180 ?_;intro e1;rw[e1]at dV;try rw[e1]at hR
  have gZ:(c.toNat:Int)-55<16:=by omega
  clear be dU e1;exact J107
 exact J9):P:=h
theorem J199(h:P:=by
 refine Z40 ?_;intro eR lm ep he HF;clear g5 g6 dw;go_wp2_with (first|(go_at_call 136;refine (O6n _ _ _).mono ?_;rintro e w7 ⟨rfl,g7⟩)|(go_at_call 137;refine (HF.o _ (lm.gr Gr.auto)).mono ?_;rintro e w8 ⟨rfl,k8,PQ,rfl⟩));exact U11 (v:=.tuple #[.string ⟨(Lib.itoa v).toArray⟩,(0:Int)]) (by simp[results,results99,go_sem]) rfl ⟨On6 (xQ.o (by simp) BV.o),(eR.trans g7).trans (O4b _ _ _)⟩):P:=h
theorem J200(h:P:=by
 refine Reg.on 5 ?_;skip;refine Z226 ?_;refine Z48 ?_;refine Z84 ?_;refine Z210 ?_;refine Z2 ?_;refine Reg.ty 10 ?_;refine Reg.on 11 ?_;refine Z298 ?_;go_wp2_with fail;refine Z22 ?_;intro tj xG e1;refine⟨_,_,rfl,GE,?_,?_,by rw[e1];omega,by rw[e1];omega,xG.2.2⟩;rw[e1];rw[e1]at xG;exact xG.1
 rw[e1];rw[e1]at xG;exact xG.2.1):P:=h
theorem J201(h:P:=by
 refine Z158 ?_;intro eR;clear g5 g6 dw;go_wp2_with (go_at_call 136;refine (Oce N ep _ hN).mono ?_;rintro e w7 ⟨rfl,rfl⟩);exact U11 (v:=.tuple #[.string ⟨#[]⟩,(8:Int)]) (by simp[results,results99,go_sem]) rfl ⟨O1l (xQ.o (by simp) BV.o),eR⟩):P:=h
theorem J202(h:P:=by
 clear h1 lr;go_enter func24,ntmps24;go_wp2_with fail;refine Z144 ?_;refine Z48 ?_;rw[HC.o];go_wp2_with fail;refine (On0 E hE _ R B base s root nv L own aN.o ej.o hs n d n rfl hn X HX.o HN.o).mono ?_;exact J101):P:=h
theorem J203(h:P:=by
 have dD:=BS.o;cases hP:V1l E V (bs s) T m2 d (L2.map (·.nd)) with
 |non=>rw[hP]at dD;exact absurd dD.symm tL.o
 |bad c p =>
  exact J114
 |ok r =>
  obtain⟨n2,st2⟩:=r;rw[hP]at dD;exact J98):P:=h
theorem J204(h:P:=by
 refine Z26 ?_;intro v hv M2 M3 oF oG me;clear bW bA cz EW;go_wp2_with (refine (O1p _ _ hv _).mono ?_;rintro e w' ⟨rfl,rfl⟩)
 all_goals go_ret2
 all_goals exact⟨by rw[hR.o];rfl,rfl⟩):P:=h
theorem J205(h:P:=by
 clear ho hg ha hz;have cm:=O18 cN.o dq.o HC.o;refine⟨λ _ _=>cm,?_⟩;refine Reg.pt ?_;refine Reg.on 16 ?_;skip;refine Z3 ?_;intro gS cO V5 iO ii jT eQ;skip;exact J99):P:=h
theorem J206(h:P:=by
 have br:=O2e mZ.o;refine⟨by first|exact br|exact λ _=>br,?_⟩;refine Reg.pt ?_;refine Reg.on 4 ?_;skip;refine Z62 ?_;intro gK aJ V3 bm mW ti cd aD;skip;exact J100):P:=h
theorem J207(h:P:=by
 go_wp2_with fail;simp +zetaDelta only [Exit.inBlock,Exit.noGoto,Exit.then];exact U11 (v:=.int .i64 (-1)) (by simp[results,results124,go_sem]) rfl ⟨rfl,(Gr.refl wr).drewN _⟩):P:=h
theorem J208(h:P:=by
 clear g3 g4;go_wp2_with fail;exact U11 (v:=.tuple #[.string ⟨#[]⟩,(3:Int)]) (by simp[results,results99,go_sem]) rfl ⟨O1l (Am.o ⟨H1.o,HZ.o⟩),dw⟩):P:=h
theorem J209(h:P:=by
 go_wp2_with fail;refine (iV.o _).mono ?_;rintro e w4 ⟨rfl,g4⟩;have dE:=(g4.block hz).trans aV;have dw:=dj.trans g4;clear g4 aV dj p0 p1 p2 p3 p4 pf hz;exact J102):P:=h
theorem J210(h:P:=by
 go_wp2_with (refine (O1p _ _ aB _).mono ?_;rintro e w' ⟨rfl,rfl⟩);exact J10):P:=h
theorem J211(h:P:=by
 split at hk;rename_i e;exact fi k (H.fk k e)
 split at hk;rename_i e;exact fi k (H.fs k e)
 split at hk;rename_i e;exact fi k (H.fu k e)
 exact .inl hk):P:=h
theorem J212(h:P:=by
 clear ho hg ha hz;have aD:=et.o V3 bm.o.st;refine⟨λ _ _=>aD,?_⟩;refine Reg.pt ?_;clear pD;have pD:=BW;exact J116):P:=h
theorem J213(h:P:=by
 subst hd;go_wp2_with (refine (O1p _ _ aB _).mono ?_;rintro e w' ⟨rfl,rfl⟩)
 go_ret2
 exact⟨by rw[hR.o];rfl,rfl⟩):P:=h
theorem J214(h:P:=by
 go_wp2_with fail;refine (iV.o _).mono ?_;refine Z293 ?_;intro w4 g4 dE dw;clear g4 kj eV p0 p1 p2 p3 p4 pf hz;exact J102):P:=h
theorem J215(h:P:=by
 have gZ:(c.toNat:Int)-48<16:=by omega
 clear be dU e1
 go_wp2
 go_ret2
 exact⟨by rw[hR.o];rfl,rfl⟩):P:=h
theorem J216(h:P:=by
 go_enter func143,ntmps143;go_wp2_with fail
 try rw[hr]
 refine (HR.o _).mono ?_;exact J150):P:=h
theorem J217(h:P:=by
 go_enter func143,ntmps143;go_wp2_with fail;refine (HD.o _).mono ?_;exact J150):P:=h
theorem J218(h:P:=by
 rcases hj with rfl|rfl
 refine Z8 ?_;intro gS cO V4 cN dq cm;skip;refine Z13 ?_;intro V5 iO ii jT eQ;skip;exact J99
 refine Z11 ?_;intro V4 cN dq jU jV cm;skip;refine Z3 ?_;intro gS cO V5 iO ii jT eQ;skip;exact J99):P:=h
theorem J219(h:P:=by
 intro V4 cN dq jV jU cm;skip;refine Z3 ?_;intro gS cO V5 iO ii jT eQ;skip;exact J99):P:=h
variable (k:Q)
include k
theorem Z1(h:Kq Q->P:=by
 intro O;refine U32 _ (.tmp 38) (.tmp 40) 36 (by rfl) base 3 iU _ 1 8 underlying36 fV.o.1 fV.o.2.1 fV.o.2.2.1 fV.o.2.2.2 (by rfl) (by decide) r.uv r.nd.subs.length (O6 r.nd.subs) (by rfl) iO.o.u _ 1 1 [.int .i64 n] (by rfl) (by rfl) (U2e jT.o.blk) (by simp[Value.oneCell']) (by decide) (by unfold maxLen;omega) (by omega) (U1l bS iO.o.size) _ rfl ?_;intro gU py V6 ho hg ha hz;have lj:=U10 (iO.o.appU ho hg ha);have xv:=U10 (ii.o.appU (n:=r.nd.subs.length+1) (cap:=py) hg ha);clear ho hg ha hz;have kU:=O18 lj.o xv.o HC.o;refine⟨λ _ _=>kU,?_⟩;refine Reg.pt ?_;refine Reg.ty 24 ?_;refine Reg.ty 25 ?_;obtain⟨xw,xx,xy,Bj⟩:=O4k lj.o HC.o;refine Reg.on 26 ?_;go_simp;refine Z2 ?_;refine Reg.ty 27 ?_;refine Reg.ty 28 ?_;refine Reg.on 29 ?_;go_simp;refine Z2 ?_;refine Reg.ty 30 ?_;refine Reg.ty 31 ?_;refine Reg.on 32 ?_;go_simp;refine Z2 ?_;refine Reg.done (by kernel_rfl) ?_ _;revert gU py V6 lj xv kU xw xx xy Bj;exact O.o):P:=h ⟨k⟩
theorem Z2(h:Kq Q->P:=by
 intro O
 try simp only[Act.put,U37,U34,U38]
 exact O.o):P:=h ⟨k⟩
theorem Z3(h:Kq Q->P:=by
 intro O;refine U32 _ (.tmp 31) (.tmp 33) 35 (by rfl) base 38 iS _ 2 16 underlying35 et.o.1 et.o.2.1 et.o.2.2.1 et.o.2.2.2 (by rfl) (by decide) r.sv r.nd.spots.length (Oc r.nd.spots) (by rfl) cN.o.s _ 1 1 [.int .i64 a,.int .i64 b] (by rfl) (by rfl) (U2e jU.o.blk) (by simp[Value.oneCell']) (by decide) (by unfold maxLen;omega) (by omega) (U1l bS cN.o.size) _ rfl ?_;intro gS cO V5 ho hg ha hz;have iO:=U10 (cN.o.appS ho hg ha);have ii:=U10 (dq.o.appS (n:=r.nd.spots.length+1) (cap:=cO) hg ha);have jT:=U10 (jV.o.appS (n:=r.nd.spots.length+1) (cap:=cO) hg ha);clear ho hg ha hz;have eQ:=O18 iO.o ii.o HC.o;refine⟨λ _ _=>eQ,?_⟩;refine Reg.pt ?_;refine Reg.on 23 ?_;revert gS cO V5 iO ii jT eQ;exact O.o):P:=h ⟨k⟩
theorem Z4(h:Kq Q->P:=by
 intro O;refine Reg.tl 0 aD ?_ (hy:=by intro w ab;obtain⟨⟨s0,s1,s2,s3⟩,⟨s4,s5,s6,s7⟩,⟨s8,s9,kV,pz⟩⟩:=ab;go_simp;try with_reducible rfl);refine Reg.tl 1 aD ?_ (hy:=by intro w ab;obtain⟨⟨s0,s1,s2,s3⟩,⟨s4,s5,s6,s7⟩,⟨s8,s9,kV,pz⟩⟩:=ab;go_simp;try with_reducible rfl);refine Reg.tl 2 aD ?_ (hy:=by intro w ab;obtain⟨⟨s0,s1,s2,s3⟩,⟨s4,s5,s6,s7⟩,⟨s8,s9,kV,pz⟩⟩:=ab;go_simp;try with_reducible rfl);refine Reg.on 3 ?_;go_simp;rw[O5 cL.i.1,O5 cL.i.2.1];refine Z16 ?_;refine Reg.on 4 ?_;go_simp;rw[O5 cL.t.1,O5 cL.t.2.1];refine Z16 ?_;refine Reg.on 5 ?_;go_simp;rw[O5 cL.f.1,O5 cL.f.2.1];refine Z16 ?_;refine Reg.done (by kernel_rfl) ?_ _;exact O.o):P:=h ⟨k⟩
theorem Z5(h:Kq Q->P:=by
 intro O;refine Reg.ty 3 ?_;refine Reg.ty 4 ?_;refine Z312 ?_;intro w4 g4 cm;refine⟨by first|exact cm|exact λ _=>cm|exact λ _ _=>cm,?_⟩;refine Reg.pt ?_;refine Reg.ty 7 ?_;refine Z313 ?_;refine Reg.ty 10 ?_;refine Reg.ty 11 ?_;refine Reg.ty 12 ?_;refine Reg.ty 13 ?_;revert w4 g4 cm;exact O.o):P:=h ⟨k⟩
theorem Z6(h:Kq Q->P:=by
 intro O;refine Reg.one (i:=9) rfl (by rfl) ?_;refine U32 _ (.tmp 24) (.tmp 26) 34 (by rfl) base 9 iK _ 1 16 underlying34 fL.o.1 fL.o.2.1 fL.o.2.2.1 fL.o.2.2.2 (by rfl) (by decide) r.kv r.nd.keys.length (Oh r.nd.keys) (by rfl) aO.o.k _ 1 1 [.string key] (by rfl) (by rfl) (U2e cZ.o.blk) (by simp[Value.oneCell']) (by decide) (by unfold maxLen;omega) (by omega) (U1l bS aO.o.size) _ rfl ?_;intro gK aJ V3 ho hg ha hz;have bm:=U10 (aO.o.appK ho hg ha);have bN:=U10 (co.o.appK (n:=r.nd.keys.length+1) (cap:=aJ) hg ha);revert gK aJ V3 ho hg ha hz bm bN;exact O.o):P:=h ⟨k⟩
theorem Z7(h:Kq Q->P:=by
 intro O;go_simp;refine⟨by first|exact (eu.o.gr ((Gr.refl W).drew))|exact λ _=>(eu.o.gr ((Gr.refl W).drew))|exact λ h=>h.gr ((Gr.refl _).alloc _)|exact λ _ h=>h.gr ((Gr.refl _).alloc _),?_⟩;refine Reg.pt ?_;exact O.o):P:=h ⟨k⟩
theorem Z8(h:Kq Q->P:=by
 intro O;refine Reg.one (i:=16) rfl (by rfl) ?_;refine U32 _ (.tmp 31) (.tmp 33) 35 (by rfl) base 38 iS _ 2 16 underlying35 et.o.1 et.o.2.1 et.o.2.2.1 et.o.2.2.2 (by rfl) (by decide) r.sv r.nd.spots.length (Oc r.nd.spots) (by rfl) bm.o.s _ 1 1 [.int .i64 a,.int .i64 b] (by rfl) (by rfl) (U2e cd.o.blk) (by simp[Value.oneCell']) (by decide) (by unfold maxLen;omega) (by omega) (U1l bS bm.o.size) _ rfl ?_;intro gS cO V4 ho hg ha hz;have cN:=U10 (bm.o.appS ho hg ha);have dq:=U10 (bN.o.appS (n:=r.nd.spots.length+1) (cap:=cO) hg ha);clear ho hg ha hz;have cm:=O18 cN.o dq.o HC.o;refine⟨λ _ _=>cm,?_⟩;refine Reg.pt ?_;refine Reg.on 22 ?_;revert gS cO V4 cN dq cm;exact O.o):P:=h ⟨k⟩
theorem Z9(h:Kq Q->P:=by
 intro O;refine Reg.ty 12 ?_;refine Reg.tl 13 fc ?_ (hy:=by intro w ab;obtain⟨⟨q0,q1,q2,q3,q4,q5,q6,qf,ql⟩,qc⟩:=ab;go_simp;try with_reducible rfl);refine Reg.ty 14 ?_;refine Reg.tl 15 fc ?_ (hy:=by intro w ab;obtain⟨⟨q0,q1,q2,q3,q4,q5,q6,qf,ql⟩,qc⟩:=ab;go_simp;try with_reducible rfl);refine Reg.ty 16 ?_;refine Reg.ty 17 ?_;refine Reg.ty 18 ?_;refine Reg.on 19 ?_;go_simp;refine Reg.ty 20 ?_;refine Reg.done (by kernel_rfl) ?_ _;exact O.o):P:=h ⟨k⟩
theorem Z10(h:Kq Q->P:=by
 intro O;go_simp;have ay:=bm.o.alloc (.cells #[a,b] 38);have aj:=bm.o.newB #[a,b] 38;have ah:=bN.o.alloc (.cells #[a,b] 38);have av:=dC.o.alloc (.cells #[a,b] 38);obtain⟨V4,hV⟩:=ExZ (V3.alloc (.cells #[a,b] 38))
 rw[hV]at ay aj ah av⊢;clear hV;have cN:=U10 ay;have dq:=U10 ah;have jV:=U10 av;have jU:=U10 aj;clear ay aj ah av;have cm:=O18 cN.o dq.o HC.o;refine⟨by first|exact cm|exact λ _=>cm,?_⟩;refine Reg.pt ?_;refine Reg.on 16 ?_;revert cm;revert jU;revert jV;revert dq;revert cN;revert V4;exact O.o):P:=h ⟨k⟩
theorem Z11(h:Kq Q->P:=by
 intro O;refine Reg.one (i:=22) rfl (by rfl) ?_;go_simp;have ay:=bm.o.alloc (.cells #[n] 3);have av:=bm.o.newB #[n] 3;have ah:=bN.o.alloc (.cells #[n] 3);have aj:=cd.o.alloc (.cells #[n] 3);obtain⟨V4,hV⟩:=ExZ (V3.alloc (.cells #[n] 3))
 rw[hV]at ay av ah aj⊢;clear hV;have cN:=U10 ay;have dq:=U10 ah;have jU:=U10 aj;have jV:=U10 av;clear ay av ah aj;have cm:=O18 cN.o dq.o HC.o;refine⟨by first|exact cm|exact λ _=>cm,?_⟩;refine Reg.pt ?_;refine Reg.on 16 ?_;revert cm;revert jV;revert jU;revert dq;revert cN;revert V4;exact O.o):P:=h ⟨k⟩
theorem Z12(h:Kq Q->P:=by
 intro O;refine Reg.done (by kernel_rfl) ?_ _;exact O.o):P:=h ⟨k⟩
theorem Z13(h:Kq Q->P:=by
 intro O;go_simp;have ay:=cN.o.alloc (.cells #[n] 3);have av:=cN.o.newB #[n] 3;have ah:=dq.o.alloc (.cells #[n] 3);obtain⟨V5,hV⟩:=ExZ (V4.alloc (.cells #[n] 3))
 rw[hV]at ay av ah⊢;clear hV;have iO:=U10 ay;have ii:=U10 ah;have jT:=U10 av;clear ay av ah;have eQ:=O18 iO.o ii.o HC.o;refine⟨by first|exact eQ|exact λ _=>eQ,?_⟩;refine Reg.pt ?_;refine Reg.on 23 ?_;revert eQ;revert jT;revert ii;revert iO;revert V5;exact O.o):P:=h ⟨k⟩
theorem Z14(h:Kq Q->P:=by
 intro O;intro j hj;simp only[U2s,List.not_mem_nil,or_false]at hj;revert hj;revert j;exact O.o):P:=h ⟨k⟩
theorem Z15(h:Kq Q->P:=by
 intro O;have bj:Ou bg bb ds w1.heap.size (W0.drewN nq).drew:=⟨⟨c0,c1,c2⟩,a9⟩
 refine Reg.begin' (W:=λ _=>true) (S:=Ou bg bb ds w1.heap.size) (by kernel_rfl) ?_;refine Reg.tl 0 bj ?_ (hy:=by intro w ab;obtain⟨⟨q0,q1,q2⟩,ql⟩:=ab;go_simp;try with_reducible rfl);refine Reg.on 1 ?_;go_simp;refine (O8o _).mono ?_;rintro e w2 ⟨rfl,g2⟩;have ce:=bj.gr g2;refine⟨by first|exact ce|exact λ _=>ce|exact λ _ _=>ce,?_⟩;refine Reg.pt ?_;refine Reg.ty 2 ?_;refine Reg.ty 3 ?_;revert bj w2 g2 ce;exact O.o):P:=h ⟨k⟩
theorem Z16(h:Kq Q->P:=by
 intro O;refine⟨by first|exact aD|exact λ _=>aD|exact λ _ _=>aD,?_⟩;refine Reg.pt ?_;exact O.o):P:=h ⟨k⟩
theorem Z17(h:Kq Q->P:=by
 intro O;refine U32 _ (.tmp 38) (.tmp 42) 35 (by rfl) w.heap.size 38 iS _ 2 16 underlying35 et.o.1 et.o.2.1 et.o.2.2.1 et.o.2.2.2 (by rfl) (by decide) sv acc.length _ (by rfl) bm.o.s _ 1 1 [.int .i64 n,.int .i64 e] (by rfl) (by rfl) (U2e cd.o.blk) (by simp[Value.oneCell']) (by decide) (by unfold maxLen;omega) (by omega) bm.o.size _ rfl ?_;intro gS cO V4 ho hg ha hz;have cN:=U10 (bm.o.appS ho hg ha);have mV:=U10 (mW.o.appS (n:=acc.length+1) (cap:=cO) hg ha);have xA:=U10 (ti.o.appS (n:=acc.length+1) (cap:=cO) hg ha);clear ho hg ha hz;have cm:=O2e mV.o;refine⟨λ _ _=>cm,?_⟩;refine Reg.pt ?_;obtain⟨xB,xC⟩:=mV.o.cell (i:=0) rfl;obtain⟨xD,xF⟩:=mV.o.cell (i:=1) rfl;refine Reg.on 14 ?_;go_simp;revert gS cO V4 cN mV xA cm xB xC xD xF;exact O.o):P:=h ⟨k⟩
theorem Z18(h:Kq Q->P:=by
 intro O;have hu:=aa.use (w.heap.size+1) (by simp;omega) (λ hF=>by have:=HS.o.own_lt hF;omega);have aM:=aa.size;simp at aM;obtain⟨aF,d5⟩:=hu;revert aM;revert d5;revert aF;exact O.o):P:=h ⟨k⟩
theorem Z19(h:Kq Q->P:=by
 intro O;refine Reg.ty 7 ?_;refine Z313 ?_;refine Reg.ty 10 ?_;refine Reg.ty 11 ?_;refine Reg.ty 12 ?_;refine Reg.ty 13 ?_;refine Reg.ty 14 ?_;refine Reg.ty 15 ?_;refine Reg.ty 16 ?_;exact O.o):P:=h ⟨k⟩
theorem Z20(h:Kq Q->P:=by
 intro O;have jW:=bG.o _ ((Gr.refl w).alloc (.cells #[a,b] 38)).drew;have ah:=(bG.o w (Gr.refl w)).newB #[a,b] 38;refine Reg.begin' (W:=λ i=>i != 26&&i != 29&&i != 32) (S:=Vcl g i w.heap.size r a b) (by kernel_rfl) ?_;obtain⟨V0,hV⟩:=ExZ ((w.alloc (.cells #[a,b] 38)).drew)
 have pA:=ah.drew;rw[hV]at jW pA⊢;clear hV ah;have iP:=U10 jW;have mX:=U10 pA;clear jW pA;have bj:=O18 iP.o mX.o HC.o;refine Reg.ty 0 ?_;refine Reg.ty 1 ?_;refine Reg.ty 2 ?_;refine Reg.ty 3 ?_;refine Reg.ty 4 ?_;refine Reg.ty 5 ?_;refine Reg.ty 7 ?_;refine Reg.ty 10 ?_;refine Reg.ty 11 ?_;refine Reg.ty 12 ?_;refine Reg.ty 17 ?_;refine Reg.ty 18 ?_;refine Reg.ty 19 ?_;refine Reg.ty 21 ?_;refine Reg.tl 6 bj ?_ (hy:=by intro w ab;obtain⟨q1,q2,q3,q4,q5⟩:=ab;go_simp;try with_reducible rfl);refine Reg.tl 13 bj ?_ (hy:=by intro w ab;obtain⟨q1,q2,q3,q4,q5⟩:=ab;go_simp;try with_reducible rfl);refine Reg.tl 14 bj ?_ (hy:=by intro w ab;obtain⟨q1,q2,q3,q4,q5⟩:=ab;go_simp;try with_reducible rfl);refine Reg.tl 20 bj ?_ (hy:=by intro w ab;obtain⟨q1,q2,q3,q4,q5⟩:=ab;go_simp;try with_reducible rfl);refine Reg.all (rs:=[8,15,22]) (by kernel_rfl) (by simp) ?_;revert bj;revert mX;revert iP;revert V0;exact O.o):P:=h ⟨k⟩
theorem Z21(h:Kq Q->P:=by
 intro O;refine Reg.ty 3 ?_;refine Reg.ty 4 ?_;refine Reg.sk 5 ?_;refine Reg.sk 6 ?_;refine Reg.sk 7 ?_;refine Z302 ?_;refine Reg.sk 14 ?_;refine Reg.sk 15 ?_;refine Reg.sk 16 ?_;refine Reg.sk 17 ?_;refine Reg.ty 18 ?_;exact O.o):P:=h ⟨k⟩
theorem Z22(h:Kq Q->P:=by
 intro O;rw[Exit.noGoto_ret];have tj:w.heap.size<VV.heap.size:=by omega
 refine U11 (v:=.tuple #[.agg #[.slice (some ⟨gK,0,none⟩) (acc.length+1) (acc.length+1),.slice (some ⟨gS,0,none⟩) (acc.length+1) (acc.length+1)],e,f0]) (by simp[results,results9,go_sem,p0,p1,p2,p3,p4,p5,p6,p7,tj,pB]) rfl ?_;rw[<-vp.o];have xG:=On1 GD.o;have e1:(acc++[(t,n,e)]).length=acc.length+1:=by simp
 revert tj xG e1;exact O.o):P:=h ⟨k⟩
theorem Z23(h:Kq Q->P:=by
 intro O;obtain⟨a0,a1,af,al⟩:=(FX.new w (0:Int) (0:Int) 29).st aa bT;have fW:=U10 (((St.refl (FV own) w).alloc (.cells #[(0:Int),(0:Int)] 29)).trans aa);revert a0 a1 af al fW;exact O.o):P:=h ⟨k⟩
theorem Z24(h:Kq Q->P:=by
 intro O;refine Reg.ty 3 ?_;refine Reg.ty 4 ?_;refine Reg.tl 5 fc ?_ (hy:=by intro w ab;obtain⟨⟨q0,q1,q2,q3,q4,q5,q6,qf,ql⟩,qc⟩:=ab;go_simp;try with_reducible rfl);refine Reg.ty 6 ?_;refine Reg.tl 7 fc ?_ (hy:=by intro w ab;obtain⟨⟨q0,q1,q2,q3,q4,q5,q6,qf,ql⟩,qc⟩:=ab;go_simp;try with_reducible rfl);refine Z313 ?_;refine Reg.ty 10 ?_;refine Reg.ty 11 ?_;exact O.o):P:=h ⟨k⟩
theorem Z25(h:Kq Q->P:=by
 intro O;refine Reg.begin' (W:=λ _=>true) (S:=Ou bg bb ds w1.heap.size) (by kernel_rfl) ?_;refine Reg.tl 0 br ?_ (hy:=by intro w ab;obtain⟨⟨q0,q1,q2⟩,ql⟩:=ab;go_simp;try with_reducible rfl);refine Reg.ty 1 ?_;refine Reg.on 2 ?_;go_simp;refine (HR.o _).mono ?_;rintro e w3 ⟨rfl,g3⟩;have aD:=br.gr g3;revert w3 g3 aD;exact O.o):P:=h ⟨k⟩
theorem Z26(h:Kq Q->P:=by
 intro O;have oF:=Onx c cz bA;have oG:=bits_lo_u8 .or (c.toNat:Int) 32;have me:=bits_hi_u8 .or (c.toNat:Int) 32;obtain⟨v,hv⟩:=ExZ (bits .or .u8 (c.toNat:Int) 32)
 rw[hv]at oF oG me;have M2:¬((48:Int)<=c.toNat/\(c.toNat:Int)<=57):=by omega
 have M3:¬(c.toNat:Int)=95:=by omega
 revert me;revert oG;revert oF;revert M3;revert M2;revert hv;revert v;exact O.o):P:=h ⟨k⟩
theorem Z27(h:Kq Q->P:=by
 intro O;rintro e w4 ⟨rfl,rfl⟩;refine⟨by first|exact hS|exact λ _=>hS|exact λ _ _=>hS,?_⟩;refine Reg.pt ?_;exact O.o):P:=h ⟨k⟩
theorem Z28(h:Kq Q->P:=by
 intro O;have hv:W.heap.size<=w2.heap.size:=U1l ((((Gr.refl W).alloc (.cells #[(0:Int),(0:Int)] 29)).alloc (.cells #[(0:Int),(0:Int)] 67)).drew).size aa.size;obtain⟨fa,ga,za⟩:=bx2 W (0:Int) (0:Int) 29;obtain⟨fb,gb,zb⟩:=bx2 (W.alloc (.cells #[(0:Int),(0:Int)] 29)) (0:Int) (0:Int) 67;have f6:=((fa.gr gb).gr ((Gr.refl _).drew)).st aa (λ e=>by have:=a9 _ e;omega);rw[za]at fb;have f5:=(fb.gr ((Gr.refl _).drew)).st aa (λ e=>by have:=a9 _ e;omega);rw[za]at zb;obtain⟨r0,r1,rf,rl⟩:=id f5;obtain⟨k0,k1,kf,kl⟩:=id f6;revert zb;revert fb;revert kl;revert kf;revert k1;revert k0;revert rl;revert rf;revert r1;revert r0;revert f5;revert f6;revert gb;revert za;revert ga;revert fa;revert hv;exact O.o):P:=h ⟨k⟩
theorem Z29(h:Kq Q->P:=by
 intro O;have hv:W.heap.size<=w2.heap.size:=U1l ((((Gr.refl W).alloc (.cells #[(0:Int),(0:Int)] 67)).alloc (.cells #[(0:Int),(0:Int)] 29)).drew).size aa.size;obtain⟨fa,ga,za⟩:=bx2 W (0:Int) (0:Int) 67;obtain⟨fb,gb,zb⟩:=bx2 (W.alloc (.cells #[(0:Int),(0:Int)] 67)) (0:Int) (0:Int) 29;have f5:=((fa.gr gb).gr ((Gr.refl _).drew)).st aa (λ e=>by have:=a9 _ e;omega);rw[za]at fb;have f6:=(fb.gr ((Gr.refl _).drew)).st aa (λ e=>by have:=a9 _ e;omega);rw[za]at zb;obtain⟨r0,r1,rf,rl⟩:=id f5;obtain⟨k0,k1,kf,kl⟩:=id f6;revert zb;revert fb;revert kl;revert kf;revert k1;revert k0;revert rl;revert rf;revert r1;revert r0;revert f6;revert f5;revert gb;revert za;revert ga;revert fa;revert hv;exact O.o):P:=h ⟨k⟩
theorem Z30(h:Kq Q->P:=by
 intro O;have hv:W.heap.size<=w2.heap.size:=U1l (((Gr.refl W).alloc (.cells #[(0:Int),(0:Int)] 29)).drew).size aa.size;obtain⟨fa,ga,za⟩:=bx2 W (0:Int) (0:Int) 29;have pC:=(fa.gr ((Gr.refl _).drew)).st aa (λ e=>by have:=a9 _ e;omega);obtain⟨f5,gb,zb⟩:=bx2 w2 (0:Int) (0:Int) 67;have f6:=pC.gr gb;have sj:W.heap.size<w2.heap.size:=pC.2.2.2;obtain⟨W3,bH⟩:=ExZ (w2.alloc (.cells #[(0:Int),(0:Int)] 67))
 rw[bH]at f5 f6 gb;rw[bH];clear bH zb;obtain⟨r0,r1,rf,rl⟩:=id f5;obtain⟨k0,k1,kf,kl⟩:=id f6;revert gb;revert f6;revert f5;revert kl;revert kf;revert k1;revert k0;revert rl;revert rf;revert r1;revert r0;revert W3;revert sj;revert pC;revert za;revert ga;revert fa;revert hv;exact O.o):P:=h ⟨k⟩
theorem Z31(h:Kq Q->P:=by
 intro O;have hv:W.heap.size<=w2.heap.size:=U1l (((Gr.refl W).alloc (.cells #[(0:Int),(0:Int)] 67)).drew).size aa.size;obtain⟨fa,ga,za⟩:=bx2 W (0:Int) (0:Int) 67;have pC:=(fa.gr ((Gr.refl _).drew)).st aa (λ e=>by have:=a9 _ e;omega);obtain⟨f6,gb,zb⟩:=bx2 w2 (0:Int) (0:Int) 29;have f5:=pC.gr gb;have sj:W.heap.size<w2.heap.size:=pC.2.2.2;obtain⟨W3,bH⟩:=ExZ (w2.alloc (.cells #[(0:Int),(0:Int)] 29))
 rw[bH]at f5 f6 gb;rw[bH];clear bH zb;obtain⟨r0,r1,rf,rl⟩:=id f5;obtain⟨k0,k1,kf,kl⟩:=id f6;revert gb;revert f6;revert f5;revert kl;revert kf;revert k1;revert k0;revert rl;revert rf;revert r1;revert r0;revert W3;revert sj;revert pC;revert za;revert ga;revert fa;revert hv;exact O.o):P:=h ⟨k⟩
theorem Z32(h:Kq Q->P:=by
 intro O;refine Reg.ty 0 ?_;refine Reg.ty 1 ?_;refine Reg.ty 2 ?_;exact O.o):P:=h ⟨k⟩
theorem Z33(h:Kq Q->P:=by
 intro O;have br:=O18 aO.o co.o HC.o;refine⟨by first|exact br|exact λ _=>br,?_⟩;refine Reg.pt ?_;revert br;exact O.o):P:=h ⟨k⟩
theorem Z34(h:Kq Q->P:=by
 intro O;refine⟨by first|exact cm|exact λ _=>cm|exact λ _ _=>cm,?_⟩;refine Reg.pt ?_;exact O.o):P:=h ⟨k⟩
theorem Z35(h:Kq Q->P:=by
 intro O;refine Reg.on 15 ?_;refine U32 _ (.tmp 75) (.tmp 77) 36 (by rfl) base 3 iU _ 1 8 underlying36 fV.o.1 fV.o.2.1 fV.o.2.2.1 fV.o.2.2.2 (by rfl) (by decide) x1.nsv g.its.length xn (by rfl) bm.o.n _ 1 1 [.int .i64 (nI)] (by rfl) (by rfl) (U2e pD.o) (by simp[Value.oneCell']) (by decide) (by unfold maxLen;omega) (by omega) (U1l bS bm.o.st.size) _ rfl ?_;intro gN ij V4 ho hg ha hz;have cN:=U10 (bm.o.appN ho hg ha);clear ho hg ha hz;refine⟨λ h=>absurd h (by decide),?_⟩;revert gN ij V4 cN;exact O.o):P:=h ⟨k⟩
theorem Z36(h:Kq Q->P:=by
 intro O;refine Reg.one (i:=15) rfl (by rfl) ?_;go_simp;have ay:=aO.o.alloc (.cells #[a,b] 38);have aj:=aO.o.newB #[a,b] 38;have ah:=co.o.alloc (.cells #[a,b] 38);revert ay aj ah;exact O.o):P:=h ⟨k⟩
theorem Z37(h:Kq Q->P:=by
 intro O;go_simp;refine⟨by first|exact⟨((xH.other (by omega) _).other (by omega) _).gr (Gr.refl _).drew,((vq.other (by omega) _).other (by omega) _).gr (Gr.refl _).drew⟩|exact λ _=>⟨((xH.other (by omega) _).other (by omega) _).gr (Gr.refl _).drew,((vq.other (by omega) _).other (by omega) _).gr (Gr.refl _).drew⟩|exact λ _ _=>⟨((xH.other (by omega) _).other (by omega) _).gr (Gr.refl _).drew,((vq.other (by omega) _).other (by omega) _).gr (Gr.refl _).drew⟩,?_⟩;refine Reg.pt ?_;exact O.o):P:=h ⟨k⟩
theorem Z38(h:Kq Q->P:=by
 intro O;have hv:W.heap.size<=w2.heap.size:=U1l ((Gr.refl W).drew).size aa.size;obtain⟨fa,ga,za⟩:=bx2 w2 (0:Int) (0:Int) 29;obtain⟨f5,gb,zb⟩:=bx2 (w2.alloc (.cells #[(0:Int),(0:Int)] 29)) (0:Int) (0:Int) 67;have f6:=fa.gr gb;rw[za]at f5;obtain⟨W3,bH⟩:=ExZ ((w2.alloc (.cells #[(0:Int),(0:Int)] 29)).alloc (.cells #[(0:Int),(0:Int)] 67))
 rw[bH]at f5 f6 gb;rw[bH];have g3:=ga.trans gb;clear bH za zb;obtain⟨r0,r1,rf,rl⟩:=id f5;obtain⟨k0,k1,kf,kl⟩:=id f6;revert gb;revert f6;revert f5;revert kl;revert kf;revert k1;revert k0;revert rl;revert rf;revert r1;revert r0;revert g3;revert W3;revert ga;revert fa;revert hv;exact O.o):P:=h ⟨k⟩
theorem Z39(h:Kq Q->P:=by
 intro O;have hv:W.heap.size<=w2.heap.size:=U1l ((Gr.refl W).drew).size aa.size;obtain⟨fa,ga,za⟩:=bx2 w2 (0:Int) (0:Int) 67;obtain⟨f6,gb,zb⟩:=bx2 (w2.alloc (.cells #[(0:Int),(0:Int)] 67)) (0:Int) (0:Int) 29;have f5:=fa.gr gb;rw[za]at f6;obtain⟨W3,bH⟩:=ExZ ((w2.alloc (.cells #[(0:Int),(0:Int)] 67)).alloc (.cells #[(0:Int),(0:Int)] 29))
 rw[bH]at f5 f6 gb;rw[bH];have g3:=ga.trans gb;clear bH za zb;obtain⟨r0,r1,rf,rl⟩:=id f5;obtain⟨k0,k1,kf,kl⟩:=id f6;revert gb;revert f6;revert f5;revert kl;revert kf;revert k1;revert k0;revert rl;revert rf;revert r1;revert r0;revert g3;revert W3;revert ga;revert fa;revert hv;exact O.o):P:=h ⟨k⟩
theorem Z40(h:Kq Q->P:=by
 intro O;have eR:Gr w w6:=(dw.drew.trans g5).trans g6;have lm:=HW.o.gr eR;obtain⟨ep,he⟩:=lm.err;have HF:=U10 (λ W (hW:V3y W)=>(strconv_FormatInt_10 v HV.o.1 HV.o.2 W hW.pow));revert eR lm ep he HF;exact O.o):P:=h ⟨k⟩
theorem Z41(h:Kq Q->P:=by
 intro O;refine Reg.ty 3 ?_;refine Reg.ty 4 ?_;exact O.o):P:=h ⟨k⟩
theorem Z42(h:Kq Q->P:=by
 intro O;refine Z313 ?_;refine Reg.ty 10 ?_;exact O.o):P:=h ⟨k⟩
theorem Z43(h:Kq Q->P:=by
 intro O;refine Reg.begin' (W:=λ _=>true) (S:=FX (w.heap.size+1) a b) (by kernel_rfl) ?_;refine Reg.ty 0 ?_;refine Reg.ty 1 ?_;refine Reg.tl 2 hS ?_ (hy:=by intro w ab;obtain⟨s0,s1,sf,sl⟩:=ab;go_simp;try with_reducible rfl);refine Reg.ty 3 ?_;refine Reg.on 4 ?_;go_simp;refine⟨by first|exact ((fM.other (by omega) _).other (by omega) _).gr (Gr.refl _).drew|exact λ _ _=>((fM.other (by omega) _).other (by omega) _).gr (Gr.refl _).drew,?_⟩;refine Reg.pt ?_;refine Reg.on 5 ?_;go_simp;refine⟨by first|exact ((((fM.other (by omega) _).other (by omega) _).other (by omega) _).other (by omega) _).gr (Gr.refl _).drew|exact λ _=>((((fM.other (by omega) _).other (by omega) _).other (by omega) _).other (by omega) _).gr (Gr.refl _).drew|exact λ _ _=>((((fM.other (by omega) _).other (by omega) _).other (by omega) _).other (by omega) _).gr (Gr.refl _).drew,?_⟩;refine Reg.pt ?_;exact O.o):P:=h ⟨k⟩
theorem Z44(h:Kq Q->P:=by
 intro O;refine Reg.begin' (W:=λ i=>i != 7) (S:=λ W=>WB3 w.heap.size (0:Int) (0:Int) (.slice none 0 0) (0:Int) (0:Int) (0:Int) W/\FX bK (.slice (some ⟨gk,0,none⟩) ws.length ck) (.slice (some ⟨gs,0,none⟩) ws.length cs) W) (by kernel_rfl) ?_;refine Reg.tl 0 aD ?_ (hy:=by intro w ab;obtain⟨⟨⟨s0,s1,s2,s3⟩,⟨s4,s5,s6,s7⟩,⟨s8,s9,kV,pz⟩⟩,⟨vr,M4,M5,M6⟩⟩:=ab;go_simp;try with_reducible rfl);refine Reg.tl 1 aD ?_ (hy:=by intro w ab;obtain⟨⟨⟨s0,s1,s2,s3⟩,⟨s4,s5,s6,s7⟩,⟨s8,s9,kV,pz⟩⟩,⟨vr,M4,M5,M6⟩⟩:=ab;go_simp;try with_reducible rfl);refine Reg.ty 2 ?_;refine Reg.tl 3 aD ?_ (hy:=by intro w ab;obtain⟨⟨⟨s0,s1,s2,s3⟩,⟨s4,s5,s6,s7⟩,⟨s8,s9,kV,pz⟩⟩,⟨vr,M4,M5,M6⟩⟩:=ab;go_simp;try with_reducible rfl);refine Reg.on 4 ?_;go_simp;refine jX.o.mono ?_;exact O.o):P:=h ⟨k⟩
theorem Z45(h:Kq Q->P:=by
 intro O;refine Reg.sk 12 ?_;refine Reg.sk 13 ?_;refine Reg.sk 14 ?_;refine Reg.sk 15 ?_;refine Reg.sk 16 ?_;refine Reg.sk 17 ?_;refine Reg.ty 18 ?_;exact O.o):P:=h ⟨k⟩
theorem Z46(h:Kq Q->P:=by
 intro O;refine Z302 ?_;refine Reg.sk 14 ?_;refine Reg.sk 15 ?_;exact O.o):P:=h ⟨k⟩
theorem Z47(h:Kq Q->P:=by
 intro O;refine Reg.ty 12 ?_;refine Reg.ty 13 ?_;refine Reg.ty 14 ?_;exact O.o):P:=h ⟨k⟩
theorem Z48(h:Kq Q->P:=by
 intro O;rintro e w' ⟨rfl,rfl⟩;exact O.o):P:=h ⟨k⟩
theorem Z49(h:Kq Q->P:=by
 intro O;have aN:=U10 ay;have fX:=U10 ah;revert aN fX;exact O.o):P:=h ⟨k⟩
theorem Z50(h:Kq Q->P:=by
 intro O
 try simp only[Act.put,U4g,U3v,U45,U37,U34,U38]
 exact O.o):P:=h ⟨k⟩
theorem Z51(h:Kq Q->P:=by
 intro O;have ap:(V34 L).length=L.length*7:=O46 L;have bT:WF.ownsRow base 40 7 (.slice (some ⟨g,0,none⟩) L.length cap) L.length (V34 (L.set i ⟨nd,kv,sv,uv⟩)):=by
  subst ao;have e1:=Oy M7 (i*7+2) (by omega) kv;have e2:=Oy e1 (i*7+3) (by rw[U2c];omega) sv;have e3:=Oy e2 (i*7+4) (by rw[U2c,U2c];omega) uv;have f1:=O1r L i 2 (by omega) kv r ⟨r.nd,kv,r.sv,r.uv⟩ hr rfl;have f2:=O1r (L.set i ⟨r.nd,kv,r.sv,r.uv⟩) i 3 (by omega) sv ⟨r.nd,kv,r.sv,r.uv⟩ ⟨r.nd,kv,sv,r.uv⟩ (by simp[hi]) rfl;have f3:=O1r ((L.set i ⟨r.nd,kv,r.sv,r.uv⟩).set i ⟨r.nd,kv,sv,r.uv⟩) i 4 (by omega) uv ⟨r.nd,kv,sv,r.uv⟩ ⟨nd,kv,sv,uv⟩ (by simp[hi]) (by simp[ndV,bB,bX,fy]);rw[f1,f2,f3]at e3
  simpa using e3
 rw[ao];revert ap bT;exact O.o):P:=h ⟨k⟩
theorem Z52(h:Kq Q->P:=by
 intro O;have i0:∀W,(Instr.index 229 (.agg V50) (0:Int)).run prog W=.ok (V3n ⟨#[48,120]⟩ 16 V6a) W:=λ _=>by kernel_rfl
 have i1:∀W,(Instr.index 229 (.agg V50) (1:Int)).run prog W=.ok (V3n ⟨#[48,111]⟩ 8 V6b) W:=λ _=>by kernel_rfl
 have i2:∀W,(Instr.index 229 (.agg V50) (2:Int)).run prog W=.ok (V3n ⟨#[48,98]⟩ 2 V6c) W:=λ _=>by kernel_rfl
 unfold V50 at i0 i1 i2;revert i2;revert i1;revert i0;exact O.o):P:=h ⟨k⟩
theorem Z53(h:Kq Q->P:=by
 intro O;go_simp;refine⟨by first|exact (eu.o.gr ((((Gr.refl W).alloc (.cells #[(0:Int),(0:Int)] 29)).alloc (.cells #[(0:Int),(0:Int)] 67)).drew))|exact λ _=>(eu.o.gr ((((Gr.refl W).alloc (.cells #[(0:Int),(0:Int)] 29)).alloc (.cells #[(0:Int),(0:Int)] 67)).drew))|exact λ h=>h.gr ((Gr.refl _).alloc _)|exact λ _ h=>h.gr ((Gr.refl _).alloc _),?_⟩;refine Reg.pt ?_;exact O.o):P:=h ⟨k⟩
theorem Z54(h:Kq Q->P:=by
 intro O;go_simp;refine⟨by first|exact (eu.o.gr ((((Gr.refl W).alloc (.cells #[(0:Int),(0:Int)] 67)).alloc (.cells #[(0:Int),(0:Int)] 29)).drew))|exact λ _=>(eu.o.gr ((((Gr.refl W).alloc (.cells #[(0:Int),(0:Int)] 67)).alloc (.cells #[(0:Int),(0:Int)] 29)).drew))|exact λ h=>h.gr ((Gr.refl _).alloc _)|exact λ _ h=>h.gr ((Gr.refl _).alloc _),?_⟩;refine Reg.pt ?_;exact O.o):P:=h ⟨k⟩
theorem Z55(h:Kq Q->P:=by
 intro O;have eL:=d6.gr g4;have dN:=dw.trans g4;obtain⟨⟨i0,i1,i2,i3,i4,i5,i6,i7,i8⟩,fd,fe⟩:=O1v jJ;obtain⟨v0,v1,vf,vl⟩:=id eL;obtain⟨zI,zF,zG,_⟩:=O8i jJ eL (Nat.ne_of_lt (Nat.lt_succ_self _)) dN (U12 _) (U2t _) (.int .u8 0) (0:Int) (0:Int) Vo Vo (0:Int) (0:Int) Vo (0:Int) c p;obtain⟨WF,ao⟩:=ExZ ((((((((((((w4.setCell ⟨w.heap.size,0,none⟩ (.int .u8 0)).setCell ⟨w.heap.size,1,none⟩ (0:Int)).setCell ⟨w.heap.size,2,none⟩ (0:Int)).setCell ⟨w.heap.size,3,none⟩ Vo).setCell ⟨w.heap.size,4,none⟩ Vo).setCell ⟨w.heap.size,5,none⟩ (0:Int)).setCell ⟨w.heap.size,6,none⟩ (0:Int)).setCell ⟨w.heap.size,7,none⟩ Vo).setCell ⟨w.heap.size,8,none⟩ (0:Int)).setCell ⟨w.heap.size+1,0,none⟩ c).setCell ⟨w.heap.size+1,1,none⟩ p))
 rw[ao]at zI zF zG;have mY:=U10 ao;revert zG;revert zF;revert zI;revert mY;revert ao;revert WF;revert vl;revert vf;revert v1;revert v0;revert fe;revert fd;revert i8;revert i7;revert i6;revert i5;revert i4;revert i3;revert i2;revert i1;revert i0;revert dN;revert eL;exact O.o):P:=h ⟨k⟩
theorem Z56(h:Kq Q->P:=by
 intro O;refine Reg.ty 0 ?_;refine Reg.ty 1 ?_;exact O.o):P:=h ⟨k⟩
theorem Z57(h:Kq Q->P:=by
 intro O;refine Reg.one (i:=22) rfl (by rfl) ?_;go_simp;have ay:=aO.o.alloc (.cells #[n] 3);have av:=aO.o.newB #[n] 3;have ah:=co.o.alloc (.cells #[n] 3);revert ay av ah;exact O.o):P:=h ⟨k⟩
theorem Z58(h:Kq Q->P:=by
 intro O;refine (O9 s _ e rfl GE (by omega) _).mono ?_;rintro e3 w3 ⟨rfl,g3⟩;have Bk:=V8 (bs s) e (by rw[O0];exact GE);rw[O0]at Bk;have tp:=HK.o.gr g3;obtain⟨p0,p1,p2,p3,p4,p5,p6,p7⟩:=tp.cells;have vs:=tp.lt;have jK:=U10 tp;have sm:=bY.o
 try dsimp only at sm
 obtain⟨a,ha⟩:=ExZ (V7 (bs s) e)
 rw[ha]at Bk sm⊢;have HA:=U10 ha;clear ha tp;revert sm;revert Bk;revert HA;revert a;revert jK;revert vs;revert p7;revert p6;revert p5;revert p4;revert p3;revert p2;revert p1;revert p0;revert g3;revert w3;exact O.o):P:=h ⟨k⟩
theorem Z59(h:Kq Q->P:=by
 intro O;refine Reg.ty 7 ?_;refine Z313 ?_;exact O.o):P:=h ⟨k⟩
theorem Z60(h:Kq Q->P:=by
 intro O;refine Reg.ty 5 ?_;refine Reg.ty 6 ?_;refine Reg.ty 8 ?_;refine Reg.tl 9 hS ?_ (hy:=by intro w ab;obtain⟨q0,q1,qf,ql⟩:=ab;go_simp;try with_reducible rfl);refine Reg.on 7 ?_;go_simp;refine (O9y w w3.drew R B base s root nv L own H.o dj.drew HR.o kk vt.o x n (n+k) _ rfl _ (by simp)).mono ?_;rintro e w4 ⟨rfl,nv',own',pE,ln,fY,jY⟩;have d6:=hS.st jY Bl.o;refine⟨by first|exact d6|exact λ _=>d6|exact λ _ _=>d6,?_⟩;refine Reg.pt ?_;refine Reg.ty 10 ?_;refine Reg.ty 11 ?_;obtain⟨p0,p1,pf,pl⟩:=d6;have fg:¬FV own' w.heap.size:=by
  intro hf;rcases fY _ hf with e|e
  exact Bl.o e
  have:=hS.2.2.2;omega
 have H3:=U10 pE;have jh:=U10 ln;have Bm:=U10 fY;clear pE ln fY jY;refine Reg.on 12 ?_;go_simp;revert w4 nv' own' p0 p1 pf pl fg H3 jh Bm;exact O.o):P:=h ⟨k⟩
theorem Z61(h:Kq Q->P:=by
 intro O;refine Reg.ty 10 ?_;refine Reg.ty 11 ?_;exact O.o):P:=h ⟨k⟩
theorem Z62(h:Kq Q->P:=by
 intro O;refine U32 _ (.tmp 33) (.tmp 35) 34 (by rfl) w.heap.size 9 iK _ 1 16 underlying34 fL.o.1 fL.o.2.1 fL.o.2.2.1 fL.o.2.2.2 (by rfl) (by decide) kv acc.length _ (by rfl) aO.o.k _ 1 1 [V2s t] (by rfl) (by rfl) (U2e cZ.o.blk) (by simp[Value.oneCell']) (by decide) (by unfold maxLen;omega) (by omega) aO.o.size _ rfl ?_;intro gK aJ V3 ho hg ha hz;have bm:=U10 (aO.o.appK ho hg ha);have mW:=U10 (mZ.o.appK (n:=acc.length+1) (cap:=aJ) hg ha);have ti:=U10 (tq.o.appK (n:=acc.length+1) (cap:=aJ) hg ha);have cd:=U10 (ei.o.appK (n:=acc.length+1) (cap:=aJ) hg ha);clear ho hg ha hz;have aD:=O2e mW.o;refine⟨λ _ _=>aD,?_⟩;refine Reg.pt ?_;refine Reg.ty 13 ?_;refine Reg.on 11 ?_;revert gK aJ V3 bm mW ti cd aD;exact O.o):P:=h ⟨k⟩
theorem Z63(h:Kq Q->P:=by
 intro O;refine Reg.one (i:=9) rfl (by rfl) ?_;refine U32 _ (.tmp 24) (.tmp 26) 34 (by rfl) base 9 iK _ 1 16 underlying34 fL.o.1 fL.o.2.1 fL.o.2.2.1 fL.o.2.2.2 (by rfl) (by decide) r.kv r.nd.keys.length (Oh r.nd.keys) (by rfl) aN.o.k _ 1 1 [.string key] (by rfl) (by rfl) (U2e n7.o.blk) (by simp[Value.oneCell']) (by decide) (by unfold maxLen;omega) (by omega) (U1l bS aN.o.size) _ rfl ?_;intro gK aJ V2 ho hg ha hz;have aO:=U10 (aN.o.appK ho hg ha);have co:=U10 (fX.o.appK (n:=r.nd.keys.length+1) (cap:=aJ) hg ha);clear ho hg ha hz;have br:=O18 aO.o co.o HC.o;refine⟨λ _ _=>br,?_⟩;refine Reg.pt ?_;refine Reg.all (rs:=[15,22]) (by kernel_rfl) (by simp) ?_;revert gK aJ V2 aO co br;exact O.o):P:=h ⟨k⟩
theorem Z64(h:Kq Q->P:=by
 intro O;obtain⟨r1,r2,r3⟩:=mg.o la wt a b GF.o;have cP:=Oei w5 gk gs la ck cs ⟨wt.toArray⟩ a b (by omega) (U13 (U13 ji bG.o.size) g5.size) (U13 (U13 jj bG.o.size) g5.size) ((V3e _).trans r1) ((xI _).trans r2) ((xI _).trans r3);rw[<-fN.o]at cP;refine cP.mono ?_;rintro e w6 ⟨rfl,g6⟩;have fZ:=g5.trans g6;revert cP;revert fZ;revert g6;revert w6;revert r3;revert r2;revert r1;exact O.o):P:=h ⟨k⟩
theorem Z65(h:Kq Q->P:=by
 intro O;refine⟨by first|exact ce|exact λ _=>ce|exact λ _ _=>ce,?_⟩;refine Reg.pt ?_;exact O.o):P:=h ⟨k⟩
theorem Z66(h:Kq Q->P:=by
 intro O;refine Reg.one (i:=22) rfl (by rfl) ?_;go_simp;exact O.o):P:=h ⟨k⟩
theorem Z67(h:Kq Q->P:=by
 intro O;have M8:=(ik.i.other (b2:=w.heap.size+1+1) (o:=0) (by omega) ec).other (b2:=w.heap.size+1+1) (o:=1) (by omega) eq;have M9:=(ik.t.other (b2:=w.heap.size+1+1) (o:=0) (by omega) ec).other (b2:=w.heap.size+1+1) (o:=1) (by omega) eq;have xJ:=ik.f.set ec eq;have EF:=Ofv dN (show w.heap.size+1+1<w5.heap.size from cL.f.2.2.2) (λ k hk=>(H.o.v.lt k hk).2) pF.2 aq;obtain⟨WF,ao⟩:=ExZ (((w6.setCell ⟨w.heap.size+1+1,0,none⟩ ec).setCell ⟨w.heap.size+1+1,1,none⟩ eq))
 rw[ao]at M8 M9 xJ EF;rw[ao];obtain⟨q0,q1,qf,ql⟩:=M8;obtain⟨y0,y1,yf,yl⟩:=M9;obtain⟨n8,n9,nh,nj⟩:=xJ;rw[<-np];revert EF;revert nj;revert nh;revert n9;revert n8;revert yl;revert yf;revert y1;revert y0;revert ql;revert qf;revert q1;revert q0;revert ao;revert WF;exact O.o):P:=h ⟨k⟩
theorem Z68(h:Kq Q->P:=by
 intro O;have hF:=iQ.set (4:Int) a;have Bn:=(((HG.o.st).trans bG.o).gr G7.o)
 have sF:St (FV own) (FV own') w _:=(Bn.setCell (p:=⟨w.heap.size+1,0,none⟩) (.inr (by simp only;omega)) (4:Int)).setCell (p:=⟨w.heap.size+1,1,none⟩) (.inr (by simp only;omega)) a;have aF:((W7.setCell ⟨w.heap.size+1,0,none⟩ (4:Int)).setCell ⟨w.heap.size+1,1,none⟩ a).cell? ⟨R,2,none⟩=some (.string s):=by
  exact J93
 obtain⟨WF,ao⟩:=ExZ (((W7.setCell ⟨w.heap.size+1,0,none⟩ (4:Int)).setCell ⟨w.heap.size+1,1,none⟩ a))
 rw[ao]at hF sF aF;rw[ao];clear ao;obtain⟨q0,q1,qf,ql⟩:=hF;rw[<-ae];revert aF;revert sF;revert ql;revert qf;revert q1;revert q0;revert WF;revert Bn;exact O.o):P:=h ⟨k⟩
theorem Z69(h:Kq Q->P:=by
 intro O;have pG:(((a:Int)==(s.size:Int))=true)\/(∃a9:a<s.size,((a:Int)==(s.size:Int))=false/\((s[a].toNat:Int) != 46)=true):=by
  by_cases h:a<s.size;refine .inr ⟨h,by simp;omega,?_⟩;rw[byteAt_lt s a h]at jZ;simp;omega
  exact .inl (by simp;omega)
 have vp:=U10 sm;have bB:(0:Int)<=(a:Int):=by omega
 revert pG vp bB;exact O.o):P:=h ⟨k⟩
theorem Z70(h:Kq Q->P:=by
 intro O;have mh:Oau w VV:=⟨p4,p5⟩
 have Ag:acc.length+1<=aJ/\aJ<=9223372036854775807:=by
  rcases Bo with⟨h,_⟩|⟨g,c,h,h1,h2⟩
  cases h
  cases h;exact⟨h1,h2⟩
 have EG:acc.length+1<=cO/\cO<=9223372036854775807:=by
  rcases mi with⟨h,_⟩|⟨g,c,h,h1,h2⟩
  cases h
  cases h;exact⟨h1,h2⟩
 revert mh Ag EG;exact O.o):P:=h ⟨k⟩
theorem Z71(h:Kq Q->P:=by
 intro O;have e0:∀xs:List UInt8,strOfNums (xs.map λ x=>(x.toNat:Int))=⟨xs.toArray⟩:=by
  intro xs;unfold strOfNums;rw[U4o];congr 2
  conv=>rhs;rw[<-List.map_id xs]
  exact List.map_congr_left (λ x _=>by simp)
 revert e0;exact O.o):P:=h ⟨k⟩
theorem Z72(h:Kq Q->P:=by
 intro O;go_simp;refine⟨by first|exact (eu.o.gr (((Gr.refl W).alloc (.cells #[(0:Int),(0:Int)] 29)).drew))|exact λ _=>(eu.o.gr (((Gr.refl W).alloc (.cells #[(0:Int),(0:Int)] 29)).drew))|exact λ h=>h.gr ((Gr.refl _).alloc _)|exact λ _ h=>h.gr ((Gr.refl _).alloc _),?_⟩;refine Reg.pt ?_;exact O.o):P:=h ⟨k⟩
theorem Z73(h:Kq Q->P:=by
 intro O;go_simp;refine⟨by first|exact (eu.o.gr (((Gr.refl W).alloc (.cells #[(0:Int),(0:Int)] 67)).drew))|exact λ _=>(eu.o.gr (((Gr.refl W).alloc (.cells #[(0:Int),(0:Int)] 67)).drew))|exact λ h=>h.gr ((Gr.refl _).alloc _)|exact λ _ h=>h.gr ((Gr.refl _).alloc _),?_⟩;refine Reg.pt ?_;exact O.o):P:=h ⟨k⟩
theorem Z74(h:Kq Q->P:=by
 intro O;refine Reg.ty 14 ?_;refine Reg.ty 15 ?_;refine Reg.ty 16 ?_;exact O.o):P:=h ⟨k⟩
theorem Z75(h:Kq Q->P:=by
 intro O;have iO:=U10 ((vw.setCell (p:=⟨w.heap.size,0,none⟩) vx (0:Int)).setCell (p:=⟨w.heap.size,1,none⟩) vx (0:Int));have gc:=U10 (((k9.o.trans d7).setCell (p:=⟨w.heap.size,0,none⟩) (.inr (U12 _)) (0:Int)).setCell (p:=⟨w.heap.size,1,none⟩) (.inr (U12 _)) (0:Int));revert iO gc;exact O.o):P:=h ⟨k⟩
theorem Z76(h:Kq Q->P:=by
 intro O;refine Reg.one (i:=15) rfl (by rfl) ?_;go_simp;exact O.o):P:=h ⟨k⟩
theorem Z77(h:Kq Q->P:=by
 intro O;refine⟨by first|exact kU|exact λ _=>kU|exact λ _ _=>kU,?_⟩;refine Reg.pt ?_;exact O.o):P:=h ⟨k⟩
theorem Z78(h:Kq Q->P:=by
 intro O;refine (O68 _ R s m q out ov (RdQ.auto aO.o) hm hs).mono ?_;rw[EH.o];rintro e w1 ⟨rfl,g1⟩;obtain⟨ag,au,az⟩:=g1.use;simp at az;have dx:w.heap.size<w1.heap.size:=by omega
 have oH:¬w.heap.size=w1.heap.size:=by omega
 revert az;revert oH;revert dx;revert au;revert ag;revert g1;revert w1;exact O.o):P:=h ⟨k⟩
theorem Z79(h:Kq Q->P:=by
 intro O;have eS:t.toList.isEmpty=false:=by
  exact J12
 have dO:=U47 (P:=prog) w 9 22 5 t (u:=.string) (by kernel_rfl) (by kernel_rfl) (by kernel_rfl);revert eS dO;exact O.o):P:=h ⟨k⟩
theorem Z80(h:Kq Q->P:=by
 intro O;refine Z324 ?_;refine Reg.tl 1 hS ?_ (hy:=by intro w ab;obtain⟨⟨s0,s1,sf,sl⟩,⟨s2,s3,Ma,Mb⟩⟩:=ab;go_simp;try with_reducible rfl);refine Reg.on 2 ?_;exact O.o):P:=h ⟨k⟩
theorem Z81(h:Kq Q->P:=by
 intro O;have ay:=U10 eM;have cp:Hid (∀k,own' k≠0->own k≠0\/w.heap.size+1<=k):=λ k hk=>(bL k hk).imp id (λ e=>by simpa using e)
 have GG:=U10 Mc;revert ay cp GG;exact O.o):P:=h ⟨k⟩
theorem Z83(h:Kq Q->P:=by
 intro O;refine Reg.ty 4 ?_;refine Reg.ty 5 ?_;refine Reg.ty 6 ?_;exact O.o):P:=h ⟨k⟩
theorem Z84(h:Kq Q->P:=by
 intro O;refine⟨by first|exact mh|exact λ _=>mh|exact λ _ h=>h,?_⟩;refine Reg.pt ?_;exact O.o):P:=h ⟨k⟩
theorem Z85(h:Kq Q->P:=by
 intro O;refine Reg.ty 3 ?_;refine Reg.tl 2 hS ?_ (hy:=by intro w ab;obtain⟨⟨s0,s1,s2,s3⟩,s4,s5⟩:=ab;go_simp;try with_reducible rfl);refine Reg.tl 4 hS ?_ (hy:=by intro w ab;obtain⟨⟨s0,s1,s2,s3⟩,s4,s5⟩:=ab;go_simp;try with_reducible rfl);refine Reg.ty 5 ?_;refine Reg.ty 6 ?_;refine Reg.tl 7 hS ?_ (hy:=by intro w ab;obtain⟨⟨s0,s1,s2,s3⟩,s4,s5⟩:=ab;go_simp;try with_reducible rfl);refine Reg.on 8 ?_;go_simp;refine (GH.o wq.drew (mj.o.trans (Gr.refl wq).drew)).mono ?_;rintro e w4 ⟨q4,rfl,EI,g4⟩;have cm:=hS.gr g4;have Bp:q4.size=a.length:=by rw[<-EI,O0]
 revert w4 q4 EI g4 cm Bp;exact O.o):P:=h ⟨k⟩
theorem Z86(h:Kq Q->P:=by
 intro O;rintro e w1 ⟨rfl,g1⟩;obtain⟨ag,au,az⟩:=g1.use;simp at az;revert az;revert au;revert ag;revert g1;revert w1;exact O.o):P:=h ⟨k⟩
theorem Z87(h:Kq Q->P:=by
 intro O;refine Reg.one (i:=8) rfl (by rfl) ?_;refine U32 _ (.tmp 68) (.tmp 70) 48 (by rfl) base 53 iI _ 9 120 underlying48 vy.o.1 vy.o.2.1 vy.o.2.2.1 vy.o.2.2.2 (by rfl) (by decide) x1.iv g.its.length xi (by rfl) aO.o.i _ 1 1 [.int .u8 it.kind,.int .i64 it.a,.int .i64 it.b,.slice ka kn kc,.slice sa sn sc,.int .i64 it.va,.int .i64 it.vb,.slice ta tn tc,.int .i64 it.root] (by rfl) (by rfl) (U2e xK.o) (by simp[Value.oneCell']) (by decide) (by unfold maxLen;omega) (by omega) (U1l bS aO.o.st.size) _ rfl ?_;intro gI tw V3 ho hg ha hz;have bm:=U10 (aO.o.appI ho hg ha);have EJ:=U1l EK hg.size;revert gI tw V3 ho hg ha hz bm EJ;exact O.o):P:=h ⟨k⟩
theorem Z88(h:Kq Q->P:=by
 intro O;rw[U1n _ _ _ _ (by first|(simp;done)|(simp;omega)),U1n _ _ _ _ (by first|(simp;done)|(simp;omega))];exact O.o):P:=h ⟨k⟩
theorem Z89(h:Kq Q->P:=by
 intro O;have k1:(1:Int)<=(z.size:Int):=by omega
 have k4:(4:Int)<=(z.size:Int):=by omega
 have xL:=U10 Ah;have Bq:=U10 Ai;revert k1 k4 xL Bq;exact O.o):P:=h ⟨k⟩
theorem Z90(h:Kq Q->P:=by
 intro O;have HY:Hid (V44 c=false):=U10 (by rw[HX.o,Br,tB];rfl);revert HY;exact O.o):P:=h ⟨k⟩
theorem Z91(h:Kq Q->P:=by
 intro O;refine Reg.sk 14 ?_;refine Reg.sk 15 ?_;refine Reg.sk 16 ?_;exact O.o):P:=h ⟨k⟩
theorem Z92(h:Kq Q->P:=by
 intro O;have xM:=U10 (Oo9 cN.o mV.o xA.o);obtain⟨VE,EL⟩:=ExZ ((V4.setCell ⟨w.heap.size,0,none⟩ (.slice (some ⟨gK,0,none⟩) (acc.length+1) aJ)).setCell ⟨w.heap.size,1,none⟩ (.slice (some ⟨gS,0,none⟩) (acc.length+1) cO))
 have pH:=xM.o;revert xM VE EL pH;exact O.o):P:=h ⟨k⟩
theorem Z93(h:Kq Q->P:=by
 intro O;go_simp;refine (jk.o (((W.alloc (.cells #[(0:Int),(0:Int)] 29)).alloc (.cells #[(0:Int),(0:Int)] 67)).drew) (HG.o.trans ((((Gr.refl W).alloc (.cells #[(0:Int),(0:Int)] 29)).alloc (.cells #[(0:Int),(0:Int)] 67)).drew))).mono ?_;exact O.o):P:=h ⟨k⟩
theorem Z94(h:Kq Q->P:=by
 intro O;go_simp;refine (jk.o (((W.alloc (.cells #[(0:Int),(0:Int)] 67)).alloc (.cells #[(0:Int),(0:Int)] 29)).drew) (HG.o.trans ((((Gr.refl W).alloc (.cells #[(0:Int),(0:Int)] 67)).alloc (.cells #[(0:Int),(0:Int)] 29)).drew))).mono ?_;exact O.o):P:=h ⟨k⟩
theorem Z95(h:Kq Q->P:=by
 intro O;refine Reg.begin' (W:=λ i=>i != 3) (S:=FX w.heap.size (0:Int) (0:Int)) (by kernel_rfl) ?_;refine Z319 ?_;exact O.o):P:=h ⟨k⟩
theorem Z96(h:Kq Q->P:=by
 intro O;have HK:Hid (false=(r7.toList.isEmpty&&(o3.toList.isEmpty==o4.toList.isEmpty)&&(o5.toList.isEmpty==o7.toList.isEmpty))):=U10 (by rw[bV,H3.o,f2,H5.o,g2];rfl);rw[fA];revert HK;exact O.o):P:=h ⟨k⟩
theorem Z97(h:Kq Q->P:=by
 intro O;have HK:Hid (true=(r7.toList.isEmpty&&(o3.toList.isEmpty==o4.toList.isEmpty)&&(o5.toList.isEmpty==o7.toList.isEmpty))):=U10 (by rw[bV,H3.o,f2,H5.o,g2];rfl);rw[fA];revert HK;exact O.o):P:=h ⟨k⟩
theorem Z98(h:Kq Q->P:=by
 intro O;have tg:∀k,own k≠0->¬FI own i k->(if kv.ownBlock=some k then 4+3*i else if sv.ownBlock=some k then 5+3*i else if uv.ownBlock=some k then 6+3*i else own k)=own k:=by
  intro k h0 hF;have hk:=(h.lt k h0).2;have a1:kv.ownBlock≠some k:=λ e=>(H.fk k e).elim hF (λ e=>by omega)
  have a2:sv.ownBlock≠some k:=λ e=>(H.fs k e).elim hF (λ e=>by omega)
  have a3:uv.ownBlock≠some k:=λ e=>(H.fu k e).elim hF (λ e=>by omega)
  simp only[a1,a2,a3,U2f]
 revert tg;exact O.o):P:=h ⟨k⟩
theorem Z99(h:Kq Q->P:=by
 intro O;refine⟨by first|exact ce|exact λ _=>ce,?_⟩;refine Reg.pt ?_;exact O.o):P:=h ⟨k⟩
theorem Z100(h:Kq Q->P:=by
 intro O;refine Reg.ty 17 ?_;refine Reg.ty 18 ?_;exact O.o):P:=h ⟨k⟩
theorem Z101(h:Kq Q->P:=by
 intro O;have bG:Hid (∀V,Gr w V->V20 w V base (FI own i) r.kv r.sv r.uv r.nd.keys.length r.nd.spots.length r.nd.subs.length (Oh r.nd.keys) (Oc r.nd.spots) (O6 r.nd.subs)):=λ V g1=>h.start3 g1 i r hr h8
 obtain⟨iK,k1,k2,k3,k4⟩:=U3w Oe8;obtain⟨iS,s1,s2,s3,s4⟩:=U3w Oc1;obtain⟨iU,u1,u2,u3,u4⟩:=U3w O4j;have fL:=U10 (And.intro k1 (And.intro k2 (And.intro k3 k4)));have et:=U10 (And.intro s1 (And.intro s2 (And.intro s3 s4)));have fV:=U10 (And.intro u1 (And.intro u2 (And.intro u3 u4)));have pI:(0:Int)<=(i:Int):=by omega
 have fh:(i:Int)<(L.length:Int):=by omega
 revert bG iK k1 k2 k3 k4 iS s1 s2 s3 s4 iU u1 u2 u3 u4 fL et fV pI fh;exact O.o):P:=h ⟨k⟩
theorem Z102(h:Kq Q->P:=by
 intro O;obtain⟨hB,gB,zB⟩:=bx2 W0 (0:Int) (0:Int) 29;obtain⟨W1,aR⟩:=ExZ (W0.alloc (.cells #[(0:Int),(0:Int)] 29))
 rw[aR]at hB gB zB;rw[zA]at hB zB;revert zB;revert hB;revert gB;revert aR;revert W1;exact O.o):P:=h ⟨k⟩
theorem Z103(h:Kq Q->P:=by
 intro O;have cg:=pJ.o.span T rT Bt.o (n:Int) ((e2:Int)+1);have il:Hid (RdV ((w7.setCell ⟨gN,T*7+5,none⟩ (.int .i64 (n:Int))).setCell ⟨gN,T*7+5+1,none⟩ (.int .i64 ((e2:Int)+1))) R B base s root (.slice (some ⟨gN,0,none⟩) (L5).length ij) ((L5).set T (O2m rT (n:Int) ((e2:Int)+1))) cq):=cg.1;have cQ:Hid (St (FV own) (FV cq) w ((w7.setCell ⟨gN,T*7+5,none⟩ (.int .i64 (n:Int))).setCell ⟨gN,T*7+5+1,none⟩ (.int .i64 ((e2:Int)+1)))):=nw.o.trans cg.2;revert cg il cQ;exact O.o):P:=h ⟨k⟩
theorem Z104(h:Kq Q->P:=by
 intro O;have aD:=O18 bm.o bN.o HC.o;refine⟨λ _ _=>aD,?_⟩;refine Reg.pt ?_;revert aD;exact O.o):P:=h ⟨k⟩
theorem Z105(h:Kq Q->P:=by
 intro O;rw[<-bY.o];refine U11 (v:=.tuple #[T,.int .i64 (e2+1:Nat),f0]) (by simp[results,results46,go_sem,p0,p1,pf,pl]) rfl ⟨rfl,by have:=mm.o;omega,by simpa using vz,_,_,cq,((il.o.setCell xN _).setCell xN _).drew,?_,((cQ.o.setCell (.inr (U12 _)) _).setCell (.inr (U12 _)) _).drew,λ k hk=>(dk.o k hk).imp id (λ e=>by have:=fB.o;omega)⟩;rw[O5x _ T rT _ _ Bt.o];exact O.o):P:=h ⟨k⟩
theorem Z106(h:Kq Q->P:=by
 intro O;have hu:=aa.use w.heap.size (by omega) (λ hF=>by have:=HR.o.own_lt hF;omega);have aM:=aa.size;have cb:Gr w w2:=aa.below hg (λ k hF=>by have:=HR.o.own_lt hF;omega);revert hu aM cb;exact O.o):P:=h ⟨k⟩
theorem Z107(h:Kq Q->P:=by
 intro O;have aD:=O18 bm.o bN.o HC.o;refine⟨by first|exact aD|exact λ _=>aD,?_⟩;refine Reg.pt ?_;revert aD;exact O.o):P:=h ⟨k⟩
theorem Z108(h:Kq Q->P:=by
 intro O;refine Reg.one (i:=8) rfl (by rfl) ?_;go_simp;have ay:=aN.o.alloc (.cells #[.string key] 9);have ax:=aN.o.newB #[.string key] 9;have ah:=fX.o.alloc (.cells #[.string key] 9);revert ay ax ah;exact O.o):P:=h ⟨k⟩
theorem Z109(h:Kq Q->P:=by
 intro O;refine Reg.ty 13 ?_;refine Reg.ty 14 ?_;refine Reg.ty 15 ?_;refine Reg.tl 6 hS ?_ (hy:=by intro w ab;obtain⟨x1,x2,x3,xf⟩:=ab;go_simp;try with_reducible rfl);refine Reg.tl 11 hS ?_ (hy:=by intro w ab;obtain⟨x1,x2,x3,xf⟩:=ab;go_simp;try with_reducible rfl);refine Reg.tl 16 hS ?_ (hy:=by intro w ab;obtain⟨x1,x2,x3,xf⟩:=ab;go_simp;try with_reducible rfl);refine Reg.on 7 ?_;go_simp;refine (fO.o _).mono ?_;exact O.o):P:=h ⟨k⟩
theorem Z110(h:Kq Q->P:=by
 intro O;refine U32 _ (.tmp 24) (.tmp 26) 34 (by rfl) base 9 iK _ 1 16 underlying34 fL.o.1 fL.o.2.1 fL.o.2.2.1 fL.o.2.2.2 (by rfl) (by decide) r.kv r.nd.keys.length (Oh r.nd.keys) (by rfl) bm.o.k _ 1 1 [.string key] (by rfl) (by rfl) (U2e nx.o.blk) (by simp[Value.oneCell']) (by decide) (by unfold maxLen;omega) (by omega) (U1l bS bm.o.size) _ rfl ?_;intro gK aJ V4 ho hg ha hz;have cN:=U10 (bm.o.appK ho hg ha);have dq:=U10 (bN.o.appK (n:=r.nd.keys.length+1) (cap:=aJ) hg ha);revert gK aJ V4 ho hg ha hz cN dq;exact O.o):P:=h ⟨k⟩
theorem Z111(h:Kq Q->P:=by
 intro O;refine Z316 ?_;intro cL oJ;have aD:WB3 w.heap.size (0:Int) (0:Int) (.slice none 0 0) (0:Int) (0:Int) (0:Int) w5.drew/\FX bK (.slice (some ⟨gk,0,none⟩) ws.length ck) (.slice (some ⟨gs,0,none⟩) ws.length cs) w5.drew:=⟨cL.gr (Gr.refl w5).drew,oJ.gr (Gr.refl w5).drew⟩
 have kW:=g5.drew;revert cL oJ aD kW;exact O.o):P:=h ⟨k⟩
theorem Z112(h:Kq Q->P:=by
 intro O;refine Reg.ty 0 ?_;refine Reg.ty 3 ?_;refine Reg.ty 7 ?_;refine Reg.tl 8 mh ?_ (hy:=by intro w ab;obtain⟨q1,q2⟩:=ab;go_simp;try with_reducible rfl);refine Reg.all (rs:=[1,4]) (by kernel_rfl) (by simp) ?_;exact O.o):P:=h ⟨k⟩
theorem Z113(h:Kq Q->P:=by
 intro O;have ay:=aN.o.alloc (.cells #[a,b] 38);have aj:=aN.o.newB #[a,b] 38;have ah:=fX.o.alloc (.cells #[a,b] 38);revert ay aj ah;exact O.o):P:=h ⟨k⟩
theorem Z114(h:Kq Q->P:=by
 intro O;refine Reg.one (i:=15) rfl (by rfl) ?_;exact O.o):P:=h ⟨k⟩
theorem Z115(h:Kq Q->P:=by
 intro O;obtain⟨⟨c0,c1,c2,c3,c4,c5,c6⟩,c7,c8,fz⟩:=h.v.cells;have hR:=h.v.R_lt;have ny:=U10 (λ W (q:Gr w W)=>h.v.look i (by omega) W (q.block h.v.B_lt.2));obtain⟨sh,sof,bR⟩:∃a b,g.srt.getD i (0,0)=(a,b):=⟨_,_,rfl⟩
 have hs:Vd g i=(sh,sof):=bR;rw[bR]at ny;revert ny;revert hs;revert bR;revert sof;revert sh;revert hR;revert fz;revert c8;revert c7;revert c6;revert c5;revert c4;revert c3;revert c2;revert c1;revert c0;exact O.o):P:=h ⟨k⟩
theorem Z116(h:Kq Q->P:=by
 intro O;rintro e w7 ⟨rfl,hc,F',im,Bu⟩;have xO:=U10 ((Bu.set (b:=w.heap.size) (o:=0) (by omega) c).set (b:=w.heap.size) (o:=1) (by omega) p);clear Bu;revert w7 hc F' im xO;exact O.o):P:=h ⟨k⟩
theorem Z117(h:Kq Q->P:=by
 intro O;refine (Ogq _ R s a q out ov (RdQ.auto HS.o) a9 hs ho).mono ?_;exact O.o):P:=h ⟨k⟩
theorem Z118(h:Kq Q->P:=by
 intro O;have bv:=U2w List.length aA;rw[U1b,O0]at bv;simp only[U1d,U1b]at bv;have k4:=(mj.o.use.1 _ _ bl).trans b4;have ku:=(mj.o.use.1 _ _ aW).trans Aj;have GJ:=xP.o.gr (ej.o.trans mj.o);have GK:TxS w.heap.size W.heap.size gu m (.slice (some ⟨gn,0,none⟩) L.length L.length) root r.nd.subs.length uc r.nd.subs[m] wq:=⟨GJ,k4,ku⟩
 have GL:=U10 aA;have GO:=U10 GK;revert bv;revert GO;revert GL;revert GK;revert GJ;revert ku;revert k4;exact O.o):P:=h ⟨k⟩
theorem Z119(h:Kq Q->P:=by
 intro O;have HV:Hid (-9223372036854775808<=v/\v<=9223372036854775807):=⟨oG,me⟩
 revert HV;exact O.o):P:=h ⟨k⟩
theorem Z120(h:Kq Q->P:=by
 intro O;have hF:=Hb.o.set n d';have gF:Gr w _:=((kX.o).setCell (p:=⟨w.heap.size,0,none⟩) (U12 _) n).setCell (p:=⟨w.heap.size,1,none⟩) (U12 _) d';obtain⟨WF,ao⟩:=ExZ (((w2.setCell ⟨w.heap.size,0,none⟩ n).setCell ⟨w.heap.size,1,none⟩ d'))
 rw[ao]at hF gF;rw[ao];clear ao;obtain⟨q0,q1,qf,ql⟩:=hF;revert gF;revert ql;revert qf;revert q1;revert q0;revert WF;exact O.o):P:=h ⟨k⟩
theorem Z121(h:Kq Q->P:=by
 intro O;have fP:=aO.o.gr (((Gr.refl wr).drewN _).trans g1);obtain⟨x0,x1,x2,x3,xz⟩:=fP.cells;have Bv:=xz 1;have vA:=fP.lt;have Bw:¬R=w1.heap.size:=by omega
 have aN:=U10 fP;revert fP x0 x1 x2 x3 xz Bv vA Bw aN;exact O.o):P:=h ⟨k⟩
theorem Z122(h:Kq Q->P:=by
 intro O;have HW:=U10 hw;have pK:=U10 jL;have HR:=U10 hr;have HY:=U10 hY;have HL:=U10 hL;have Ak:=U10 vB;have Am:=U10 vC;have xQ:=U10 vD;revert HW pK HR HY HL Ak Am xQ;exact O.o):P:=h ⟨k⟩
theorem Z123(h:Kq Q->P:=by
 intro O;have gd:=eB.o.st d7 xR;have jl:=U10 (gd.set c p);have gc:=U10 (((k9.o.trans d7).setCell (p:=⟨w.heap.size,0,none⟩) (.inr (U12 _)) c).setCell (p:=⟨w.heap.size,1,none⟩) (.inr (U12 _)) p);have bY:Hid (V9.bad c p=X):=by
  have:=HX.o;rw[<-dD]at this;exact this
 have HC:=U10 hc;obtain⟨a0,a1,af,al⟩:=gd;have lp:¬(c:Int)=0:=by omega
 revert jl gc bY HC a0 a1 af al lp;exact O.o):P:=h ⟨k⟩
theorem Z124(h:Kq Q->P:=by
 intro O;have hF:=h.set c q;have iR:((w2.setCell ⟨z,0,none⟩ c).setCell ⟨z,1,none⟩ q).heap.size=w2.heap.size:=by simp[World.setCell]
 have hs:∀(F F':Nat->Prop)(w:World),St F F' w w2->w.heap.size<=z->St F F' w ((w2.setCell ⟨z,0,none⟩ c).setCell ⟨z,1,none⟩ q):=λ F F' w g l=>(g.setCell (p:=⟨z,0,none⟩) (.inr l) _).setCell (p:=⟨z,1,none⟩) (.inr l) _
 revert hF iR hs;exact O.o):P:=h ⟨k⟩
theorem Z125(h:Kq Q->P:=by
 intro O;have k2:=Oar (x:=.int .i64 0) (y:=.int .i64 0) e0 e1;have k3:∀o,((w1.setCell ⟨w.heap.size,0,none⟩ (0:Int)).setCell ⟨w.heap.size,1,none⟩ (0:Int)).frozen? ⟨w.heap.size,o,none⟩=w1.frozen? ⟨w.heap.size,o,none⟩:=by
  exact J38
 have g2:Gr w ((w1.setCell ⟨w.heap.size,0,none⟩ (0:Int)).setCell ⟨w.heap.size,1,none⟩ (0:Int)):=Gr.auto;revert k2 k3 g2;exact O.o):P:=h ⟨k⟩
theorem Z126(h:Kq Q->P:=by
 intro O;have bB:(0:Int)<=(a:Int)+1:=by omega
 have bX:(a:Int)+1<=(s.size:Int):=by omega
 have fy:((a:Int)+1).toNat=a+1:=by omega
 revert bB bX fy;exact O.o):P:=h ⟨k⟩
theorem Z127(h:Kq Q->P:=by
 intro O;obtain⟨f2,g3,z3⟩:=bx2 w2 (0:Int) (0:Int) 29;revert f2 g3 z3;exact O.o):P:=h ⟨k⟩
theorem Z128(h:Kq Q->P:=by
 intro O;have dQ:w.heap.size<w2.heap.size:=by omega
 have dx:w.heap.size+1<w2.heap.size:=by omega
 revert dQ dx;exact O.o):P:=h ⟨k⟩
theorem Z129(h:Kq Q->P:=by
 intro O;obtain⟨l,hL⟩:∃l,l=t.data.toList:=⟨_,rfl⟩
 have oL:l.length=t.size:=by rw[hL,Lib.size_eq]
 revert l hL oL;exact O.o):P:=h ⟨k⟩
theorem Z130(h:Kq Q->P:=by
 intro O;obtain⟨V3,hV⟩:=ExZ (V2.alloc (.cells #[a,b] 38))
 revert V3 hV;exact O.o):P:=h ⟨k⟩
theorem Z131(h:Kq Q->P:=by
 intro O;have ho:∀(g:Vb)(d i:Nat),GI g->i<g.nds.length->V37 g d i≠.non/\∀n d',V37 g d i=.go n d'->Tb g n/\d'<=d+2:=λ g d i h _=>O8v h d i
 obtain⟨q1,q2,_⟩:=(O6b (2,0) (.inr (.inl rfl)) V37 ho k.dropLast 0 1 g h h.root (by omega)).2 _ _ _ hw;have fQ:=Ohf (2,0) (.inr (.inl rfl)) V37 ho k.dropLast 0 1 g t d g1 h h.root (by omega) hp hw;revert ho q1 q2 fQ;exact O.o):P:=h ⟨k⟩
theorem Z132(h:Kq Q->P:=by
 intro O;have F5:=U10 f5;have F6:=U10 f6;have bG:=U10 aa;have bO:=U10 cE;have kb:=U10 mn;obtain⟨k0,k1,kf,kl⟩:=id f6;have eN:∃wt a b,ws[la]?=some (wt,a,b):=by
  exact J86
 obtain⟨wt,a,b,eT⟩:=eN;revert F5 F6 bG bO kb k0 k1 kf kl wt a b eT;exact O.o):P:=h ⟨k⟩
theorem Z133(h:Kq Q->P:=by
 intro O;refine⟨by first|exact d6|exact λ _=>d6|exact λ _ _=>d6,?_⟩;refine Reg.pt ?_;exact O.o):P:=h ⟨k⟩
theorem Z134(h:Kq Q->P:=by
 intro O;refine (On2 E hE wr R B base s root V HV.o io L2 ac bm.o nz.o hs T d m2 jM hd (by omega) _ hP (by simp)).mono ?_;exact O.o):P:=h ⟨k⟩
theorem Z135(h:Kq Q->P:=by
 intro O;go_simp;have ay:=aO.o.alloc (.cells #[.string key] 9);have ax:=aO.o.newB #[.string key] 9;have ah:=co.o.alloc (.cells #[.string key] 9);revert ay ax ah;exact O.o):P:=h ⟨k⟩
theorem Z136(h:Kq Q->P:=by
 intro O;refine Reg.begin' (W:=λ _=>true) (S:=V9k w w.heap.size d t p z n) (by kernel_rfl) ?_;refine Reg.ty 0 ?_;refine Reg.tl 1 hS ?_ (hy:=by intro w ab;obtain⟨⟨p0,p1,p2,p3,p4,pf,hz⟩,_,_⟩:=ab;go_simp;try with_reducible rfl);refine Reg.ty 2 ?_;refine Reg.on 3 ?_;go_simp;refine (PH.o _).mono ?_;rintro e w3 ⟨rfl,g3⟩;have aD:=hS.gr g3;revert w3 g3 aD;exact O.o):P:=h ⟨k⟩
theorem Z138(h:Kq Q->P:=by
 intro O;have lq:Hid (FX w.heap.size (0:Int) (0:Int) ((w7.setCell ⟨gN,T*7+5,none⟩ (.int .i64 (n:Int))).setCell ⟨gN,T*7+5+1,none⟩ (.int .i64 ((e2:Int)+1)))):=sq.o.st cg.2 xN;obtain⟨wS,fC⟩:=ExZ ((w7.setCell ⟨gN,T*7+5,none⟩ (.int .i64 (n:Int))).setCell ⟨gN,T*7+5+1,none⟩ (.int .i64 ((e2:Int)+1)))
 revert lq wS fC;exact O.o):P:=h ⟨k⟩
theorem Z139(h:Kq Q->P:=by
 intro O;have fD:WF (st++[V16]):=hw.app _ ⟨λ _=>⟨rfl,rfl⟩,List.Pairwise.nil,λ x hx=>(by cases hx),λ h=>absurd rfl h⟩;revert fD;exact O.o):P:=h ⟨k⟩
theorem Z140(h:Kq Q->P:=by
 intro O;obtain⟨W7,pL⟩:=ExZ (w6.alloc (.cells #[a,b] 38))
 obtain⟨cg,g7,z7⟩:=bx2 w6 a b 38;rw[pL]at cg g7 z7;have G7:=U10 (Bx.o.trans g7);revert z7;revert g7;revert cg;revert G7;revert pL;revert W7;exact O.o):P:=h ⟨k⟩
theorem Z141(h:Kq Q->P:=by
 intro O;have pI:(0:Int)<=(i:Int):=by omega
 have fh:(i:Int)<(L.length:Int):=by omega
 revert pI fh;exact O.o):P:=h ⟨k⟩
theorem Z142(h:Kq Q->P:=by
 intro O;refine Reg.ty 6 ?_;refine Reg.ty 7 ?_;refine Reg.tl 8 hS ?_ (hy:=by intro w ab;obtain⟨s1,s2,s3,s4⟩:=ab;go_simp;try with_reducible rfl);refine Reg.ty 9 ?_;refine Reg.tl 10 hS ?_ (hy:=by intro w ab;obtain⟨s1,s2,s3,s4⟩:=ab;go_simp;try with_reducible rfl);refine Reg.ty 11 ?_;refine Reg.ty 12 ?_;exact O.o):P:=h ⟨k⟩
theorem Z143(h:Kq Q->P:=by
 intro O;have hc:=hB k xU;have bZ:l.drop k=l[k]'(by omega)::l.drop (k+1):=U1u (by omega);revert hc bZ;exact O.o):P:=h ⟨k⟩
theorem Z144(h:Kq Q->P:=by
 intro O;refine (O1y _ R s (by rw[((Gr.refl w).alloc _).use.1 _ _ hR.2];exact c2) n n rfl).mono ?_;exact O.o):P:=h ⟨k⟩
theorem Z145(h:Kq Q->P:=by
 intro O;refine U11 (v:=.tuple #[L.length,.int .i64 (n+k:Nat),f0]) (by simp[results,results42,go_sem,p0,p1,pf,pl]) rfl ?_;refine⟨by simp,PI,by simp,nv',_,own',(H3.o.setCell fg _).setCell fg _,by simp[O3f,bs],?_,λ k hk=>(Bm.o k hk).imp id (λ e=>U1l dj.size e)⟩;exact O.o):P:=h ⟨k⟩
theorem Z146(h:Kq Q->P:=by
 intro O;go_simp;refine (jk.o ((W.alloc (.cells #[(0:Int),(0:Int)] 29)).drew) (HG.o.trans (((Gr.refl W).alloc (.cells #[(0:Int),(0:Int)] 29)).drew))).mono ?_;exact O.o):P:=h ⟨k⟩
theorem Z147(h:Kq Q->P:=by
 intro O;go_simp;refine (jk.o ((W.alloc (.cells #[(0:Int),(0:Int)] 67)).drew) (HG.o.trans (((Gr.refl W).alloc (.cells #[(0:Int),(0:Int)] 67)).drew))).mono ?_;exact O.o):P:=h ⟨k⟩
theorem Z148(h:Kq Q->P:=by
 intro O;have aA:=V8 (bs s) (a+1) (by rw[O0];omega);rw[O0]at aA;have bB:(0:Int)<=(a:Int):=by omega
 have bX:(a:Int)<(s.size:Int):=by omega
 have vp:=U10 sm;revert aA;revert vp;revert bX;revert bB;exact O.o):P:=h ⟨k⟩
theorem Z149(h:Kq Q->P:=by
 intro O;obtain⟨W0,aI⟩:=ExZ (w1.alloc (.cells #[.string bg,bb,.string ds] 205))
 revert W0 aI;exact O.o):P:=h ⟨k⟩
theorem Z150(h:Kq Q->P:=by
 intro O;refine Reg.begin' (W:=λ i=>i != 2) (S:=FX w.heap.size c p) (by kernel_rfl) ?_;refine Reg.tl 0 mi ?_ (hy:=by intro w ab;obtain⟨q0,q1,qf,ql⟩:=ab;go_simp;try with_reducible rfl);refine Reg.ty 1 ?_;refine Reg.on 2 ?_;go_simp;rw[O5 ip.1,O5 ip.2.1];exact O.o):P:=h ⟨k⟩
theorem Z151(h:Kq Q->P:=by
 intro O;refine Reg.begin' (W:=λ i=>i != 11) (S:=Oau w) (by kernel_rfl) ?_;obtain⟨VV,EM⟩:=ExZ (w3.drew)
 have tx:=jK.o.gr ((Gr.refl w3).drew);rw[EM]at tx⊢;revert tx;revert EM;revert VV;exact O.o):P:=h ⟨k⟩
theorem Z152(h:Kq Q->P:=by
 intro O;have wd:IntKind.i64.wrap ((d:Int)+1)=(d:Int)+1:=U1k _ ⟨by omega,by omega⟩;revert wd;exact O.o):P:=h ⟨k⟩
theorem Z153(h:Kq Q->P:=by
 intro O;have wj:IntKind.i64.wrap ((j:Int)+1)=(j:Int)+1:=U1k _ ⟨by omega,by omega⟩;revert wj;exact O.o):P:=h ⟨k⟩
theorem Z154(h:Kq Q->P:=by
 intro O;have ay:=aN.o.alloc (.cells #[n] 3);have av:=aN.o.newB #[n] 3;have ah:=fX.o.alloc (.cells #[n] 3);revert ay av ah;exact O.o):P:=h ⟨k⟩
theorem Z155(h:Kq Q->P:=by
 intro O;refine (Ocz _).mono ?_;rintro e w2 ⟨rfl,g2⟩;revert w2 g2;exact O.o):P:=h ⟨k⟩
theorem Z156(h:Kq Q->P:=by
 intro O;have tz:=U10 (λ W=>U47 (P:=prog) W 9 22 5 s (u:=.string) (by kernel_rfl) (by kernel_rfl) (by kernel_rfl));have gB:=O11 w 5 s;have cF:=U10 (O7j Tb (Lib.bytesWorld w 5 s) (bU.gr gB) s hs (some ⟨w.heap.size,0,none⟩) s.size (grownCap w s.size 0 5) (λ W q=>Oa7 w s _ W q) _ hX (by simp));revert tz gB cF;exact O.o):P:=h ⟨k⟩
theorem Z157(h:Kq Q->P:=by
 intro O;refine Reg.one (i:=16) rfl (by rfl) ?_;exact O.o):P:=h ⟨k⟩
theorem Z158(h:Kq Q->P:=by
 intro O;have eR:Gr w w6:=(dw.drew.trans g5).trans g6;revert eR;exact O.o):P:=h ⟨k⟩
theorem Z159(h:Kq Q->P:=by
 intro O;obtain⟨hT,g3,z3⟩:=bx2 w2 c p 29;obtain⟨W3,bH⟩:=ExZ (w2.alloc (.cells #[c,p] 29))
 rw[bH]at hT g3 z3;have nA:=U10 bH;revert z3;revert g3;revert hT;revert nA;revert bH;revert W3;exact O.o):P:=h ⟨k⟩
theorem Z160(h:Kq Q->P:=by
 intro O;have pM:Hid (Gr w w2):=by
  refine Gr.trans ?_ g2;exact ((pN.o.setCell (p:=⟨R,1,none⟩) (by show w.heap.size<=R;omega) _).setCell (p:=⟨w.heap.size+1,0,none⟩) (by show w.heap.size<=w.heap.size+1;omega) _).setCell (p:=⟨w.heap.size+1,1,none⟩) (by show w.heap.size<=w.heap.size+1;omega) _
 revert pM;exact O.o):P:=h ⟨k⟩
theorem Z161(h:Kq Q->P:=by
 intro O;have ke:(((s[n].toNat:Int) != 34)=true/\((s[n].toNat:Int) != 39)=false)\/((s[n].toNat:Int) != 34)=false:=by
  rw[HQ.o];cases lr:(q.toNat==34)
  exact .inl ⟨(V1u _ 34 _ lr).2,(V1u q.toNat 39 true (by have:=Md.o;rw[lr]at this;simpa using this)).2⟩
  exact .inr (V1u _ 34 _ lr).2
 revert ke;exact O.o):P:=h ⟨k⟩
theorem Z162(h:Kq Q->P:=by
 intro O;have hF:FX w.heap.size (0:Int) (0:Int) w2:=((FX.new w (0:Int) (0:Int) 29).gr g1).gr g2;have hG:Gr w w2:=(((Gr.refl w).alloc _).trans g1).trans g2;revert hF hG;exact O.o):P:=h ⟨k⟩
theorem Z163(h:Kq Q->P:=by
 intro O;have HR:=U10 hr;have HT:=U10 aa;revert HR HT;exact O.o):P:=h ⟨k⟩
theorem Z164(h:Kq Q->P:=by
 intro O;have q1:=cA 1 (.string ⟨r.nd.text.toArray⟩) rfl;have q2:=cA 2 (.slice ka r.nd.keys.length kc) (by rw[<-oM];rfl);have q3:=cA 3 (.slice sa r.nd.spots.length sc) (by rw[<-jN];rfl);have q4:=cA 4 (.slice ua r.nd.subs.length uc) (by rw[<-mo];rfl);have q5:=cA 5 r.nd.sp.1 rfl;have q6:=cA 6 r.nd.sp.2 rfl;revert q1 q2 q3 q4 q5 q6;exact O.o):P:=h ⟨k⟩
theorem Z165(h:Kq Q->P:=by
 intro O;refine Reg.begin' (W:=λ i=>i != 12) (S:=FX w.heap.size (0:Int) (0:Int)) (by kernel_rfl) ?_;exact O.o):P:=h ⟨k⟩
theorem Z166(h:Kq Q->P:=by
 intro O;obtain⟨ss,g9,z9⟩:=bx2 W8 n2 d2 67;obtain⟨W9,An⟩:=ExZ (W8.alloc (.cells #[n2,d2] 67))
 rw[An]at ss g9 z9⊢;clear An;rw[z8]at ss z9;have Ao:=pO.gr g9;have Ap:=pP.gr g9;have Aq:=(iQ.of_block (vE (w.heap.size+1+1) (by have:=HZ.o;omega)) (U41 z8.symm)).gr g9;revert z9;revert ss;revert g9;revert Aq;revert Ap;revert Ao;revert W9;exact O.o):P:=h ⟨k⟩
theorem Z167(h:Kq Q->P:=by
 intro O;obtain⟨p0,p1,p2,p3,p4,p5,p6,p7⟩:=tx.cells;have pB:=tx.lt;have Bo:=O17 tx.rows.k;have mi:=O17 tx.rows.s;rw[show (acc++[(t,n,e)]).length=acc.length+1 from by simp]at Bo mi;have GD:=U10 tx;revert mi;revert Bo;revert GD;revert pB;revert p7;revert p6;revert p5;revert p4;revert p3;revert p2;revert p1;revert p0;exact O.o):P:=h ⟨k⟩
theorem Z168(h:Kq Q->P:=by
 intro O;obtain⟨W1,aR⟩:∃W1,W1=Lib.bytesWorld w 5 t:=⟨_,rfl⟩
 revert W1 aR;exact O.o):P:=h ⟨k⟩
theorem Z170(h:Kq Q->P:=by
 intro O;have dQ:w.heap.size<w1.heap.size:=by omega
 have dx:w.heap.size+1<w1.heap.size:=by omega
 revert dQ dx;exact O.o):P:=h ⟨k⟩
theorem Z171(h:Kq Q->P:=by
 intro O;obtain⟨V3,hV⟩:=ExZ (V2.alloc (.cells #[n] 3))
 revert V3 hV;exact O.o):P:=h ⟨k⟩
theorem Z172(h:Kq Q->P:=by
 intro O;have cG:∀k,k<w.heap.size->k≠R->own k≠3->(w1.setCell ⟨R,0,none⟩ (.slice (some ⟨g,0,none⟩) (L.length+1) cap)).heap[k]?=w.heap[k]?:=by
  intro k hk By h3;rw[U15 _ _ _ _ (by simpa using By),hg.block k (by omega) (λ e=>h3 (h.oN k e.symm)),g1.block hk]
 revert cG;exact O.o):P:=h ⟨k⟩
theorem Z173(h:Kq Q->P:=by
 intro O;obtain⟨⟨i0,i1,i2,i3,i4,i5,i6,i7,i8⟩,fd,fe⟩:=O1v nB;have bE:¬I=w.heap.size:=by omega
 have kh:¬w.heap.size=I:=by omega
 obtain⟨q0,q1,qf,ql⟩:=id hF;revert i0 i1 i2 i3 i4 i5 i6 i7 i8 fd fe bE kh q0 q1 qf ql;exact O.o):P:=h ⟨k⟩
theorem Z174(h:Kq Q->P:=by
 intro O;refine Reg.all (rs:=[16,22]) (by kernel_rfl) (by simp) ?_;exact O.o):P:=h ⟨k⟩
theorem Z175(h:Kq Q->P:=by
 intro O;refine U11 (v:=.tuple #[x,.agg #[y,z]]) (by simp[results,results91,go_sem,q0,q1,qf,ql]) rfl ?_;exact O.o):P:=h ⟨k⟩
theorem Z176(h:Kq Q->P:=by
 intro O;refine Reg.on 19 ?_;go_simp;exact O.o):P:=h ⟨k⟩
theorem Z177(h:Kq Q->P:=by
 intro O;refine⟨by simp,.inl ⟨_,_,rfl,run_takeDeferred hK,?_⟩⟩;have oO:=cell_kept kr (grownBy_putObj' _ D (.deferred none)) (λ r e=>by cases e;exact⟨_,hK,rfl⟩);refine⟨.bool false,?_,by rw[HV.o],hB.trans (belowK_b (w:=w) (U12 _) W D _ _ (by omega) hK rfl rfl)⟩;revert oO;exact O.o):P:=h ⟨k⟩
theorem Z178(h:Kq Q->P:=by
 intro O;have HY:Hid (V44 c=true):=U10 (by rw[HX.o,Br,Bz,zC];rfl);revert HY;exact O.o):P:=h ⟨k⟩
theorem Z179(h:Kq Q->P:=by
 intro O;have e1:(d:Int)=(c.toNat:Int)-48:=by omega
 revert e1;exact O.o):P:=h ⟨k⟩
theorem Z180(h:Kq Q->P:=by
 intro O;have e1:(d:Int)=(c.toNat:Int)-55:=by omega
 revert e1;exact O.o):P:=h ⟨k⟩
theorem Z181(h:Kq Q->P:=by
 intro O;have e1:(d:Int)=(c.toNat:Int)-87:=by omega
 revert e1;exact O.o):P:=h ⟨k⟩
theorem Z182(h:Kq Q->P:=by
 intro O;refine (O21 c p (by omega) _).mono ?_;rintro e w5 ⟨rfl,g5⟩;revert w5 g5;exact O.o):P:=h ⟨k⟩
theorem Z183(h:Kq Q->P:=by
 intro O;refine (Oav _ (n+ar) (by omega) _).mono ?_;rintro e w2 ⟨rfl,g2⟩;obtain⟨p0,p1,pf,pl⟩:=(((FX.new w (.int .i64 0) (0:Int) 29).gr (O5a w _ m ad (ar+1))).gr ((Gr.refl _).drewN nq)).gr g2;have bM:Gr w w2:=((((Gr.refl w).alloc _).trans (O5a w _ m ad (ar+1))).drewN nq).trans g2;clear g2;revert w2 p0 p1 pf pl bM;exact O.o):P:=h ⟨k⟩
theorem Z184(h:Kq Q->P:=by
 intro O;have vF:L.size<=D.size:=by
  have h1:=V3o (bs D);rw[O0]at h1;rw[hL];show (Vn (bs D)).toArray.size<=_
  simpa using h1
 revert vF;exact O.o):P:=h ⟨k⟩
theorem Z186(h:Kq Q->P:=by
 intro O;refine Reg.on 17 ?_;go_simp;exact O.o):P:=h ⟨k⟩
theorem Z187(h:Kq Q->P:=by
 intro O;have ay:=iP.o.alloc (.cells #[a,b] 38);have aj:=iP.o.newB #[a,b] 38;have ah:=mX.o.alloc (.cells #[a,b] 38);obtain⟨V1,hV⟩:=ExZ (V0.alloc (.cells #[a,b] 38))
 rw[hV]at ay aj ah⊢;clear hV;revert ah;revert aj;revert ay;revert V1;exact O.o):P:=h ⟨k⟩
theorem Z188(h:Kq Q->P:=by
 intro O;refine Reg.ty 5 ?_;refine Reg.tl 6 hS ?_ (hy:=by intro w ab;obtain⟨q0,q1,q2⟩:=ab;go_simp;try with_reducible rfl);refine Reg.on 7 ?_;go_simp;refine (HI.o _ (HW.o.gr hG)).mono ?_;rintro e w1 ⟨rfl,k1,EN,rfl⟩;have ce:=hS.gr (O4b _ k1 EN);have cB:=hG.trans (O4b _ k1 EN);revert k1 EN ce cB;exact O.o):P:=h ⟨k⟩
theorem Z189(h:Kq Q->P:=by
 intro O;refine Reg.one (i:=8) rfl (by rfl) ?_;go_simp;have ay:=iP.o.alloc (.cells #[.string key] 9);have ax:=iP.o.newB #[.string key] 9;have ah:=mX.o.alloc (.cells #[.string key] 9);obtain⟨V1,hV⟩:=ExZ (V0.alloc (.cells #[.string key] 9))
 rw[hV]at ay ax ah⊢;clear hV;revert ah;revert ax;revert ay;revert V1;exact O.o):P:=h ⟨k⟩
theorem Z190(h:Kq Q->P:=by
 intro O;refine (O1n _).mono ?_;rintro e w5 ⟨rfl,g5⟩;revert w5 g5;exact O.o):P:=h ⟨k⟩
theorem Z191(h:Kq Q->P:=by
 intro O;refine Reg.on 3 ?_;go_simp;exact O.o):P:=h ⟨k⟩
theorem Z192(h:Kq Q->P:=by
 intro O;refine Reg.ty 16 ?_;refine Reg.ty 17 ?_;refine Reg.on 18 ?_;go_simp;exact O.o):P:=h ⟨k⟩
theorem Z193(h:Kq Q->P:=by
 intro O;rw[<-bY.o];refine⟨by simp,by have:=mm.o;omega,by simp,BA,_,fj,(Me.o.setCell xV _).setCell xV _,by simp[O8a],?_,λ k hk=>(pQ.o k hk).imp id (λ e=>U1l (by have:=fB.o;omega) e)⟩;exact O.o):P:=h ⟨k⟩
theorem Z194(h:Kq Q->P:=by
 intro O;have oP:=(F6.o.gr G7.o).st aX (λ e=>e z6);have EO:¬FV own' (w.heap.size+1+1):=λ e=>(kb.o _ e).elim (λ h=>by have:=(H.o.v.lt _ h).2;omega) (λ h=>by have:=HZ.o;omega)
 have iQ:=(HE.o.gr G7.o).st aX EO;obtain⟨k0,k1,kf,kl⟩:=id oP;have jm:b6<w8.heap.size:=oP.2.2.2;revert oP EO iQ k0 k1 kf kl jm;exact O.o):P:=h ⟨k⟩
theorem Z195(h:Kq Q->P:=by
 intro O;have hS:=GO.o.gr (Gr.refl wq).drew;refine Reg.begin' (W:=λ _=>true) (S:=TxS w.heap.size W.heap.size gu m (.slice (some ⟨gn,0,none⟩) L.length L.length) root r.nd.subs.length uc r.nd.subs[m]) (by kernel_rfl) ?_;refine Reg.ty 0 ?_;revert hS;exact O.o):P:=h ⟨k⟩
theorem Z196(h:Kq Q->P:=by
 intro O;obtain⟨f1,g2,z2⟩:=bx2 w (.slice (some ⟨gk,0,none⟩) ws.length ck) (.slice (some ⟨gs,0,none⟩) ws.length cs) 42;obtain⟨w2,h2⟩:=ExZ (w.alloc (.cells #[.slice (some ⟨gk,0,none⟩) ws.length ck,.slice (some ⟨gs,0,none⟩) ws.length cs] 42))
 revert f1 g2 z2 w2 h2;exact O.o):P:=h ⟨k⟩
theorem Z197(h:Kq Q->P:=by
 intro O;have aA:(0:Int)<=(bg.size:Int):=by omega
 have hB:s.extract bg.size s.size=s:=by
  exact J74
 revert aA hB;exact O.o):P:=h ⟨k⟩
theorem Z198(h:Kq Q->P:=by
 intro O;refine (O9k _ R s a q out ov (RdQ.auto HS.o) a9 hs ho).mono ?_;rw[<-HX.o];exact O.o):P:=h ⟨k⟩
theorem Z199(h:Kq Q->P:=by
 intro O;have eS:s.toList.isEmpty=false:=by simpa using a8
 have Ar:(0:Int)<(s.size:Int):=by omega
 have fQ:(1:Int)<=(s.size:Int):=by omega
 revert eS Ar fQ;exact O.o):P:=h ⟨k⟩
theorem Z200(h:Kq Q->P:=by
 intro O;refine Reg.ty 5 ?_;refine Reg.ty 8 ?_;refine Reg.tl 9 hS ?_ (hy:=by intro w ab;obtain⟨q0,q1,qf,ql⟩:=ab;go_simp;try with_reducible rfl);refine Reg.on 2 ?_;go_simp;refine (Oaj fm.o _).mono ?_;exact O.o):P:=h ⟨k⟩
theorem Z201(h:Kq Q->P:=by
 intro O;refine (oQ.o _).mono ?_;rintro e w5 ⟨rfl,g5⟩;have iq:=(g5.block hz).trans dE;have dN:=dw.trans g5;revert w5 g5 iq dN;exact O.o):P:=h ⟨k⟩
theorem Z202(h:Kq Q->P:=by
 intro O;refine (ir.o _).mono ?_;rintro e w6 ⟨rfl,g6⟩;have jm:=(g6.block hz).trans iq;have eR:=dN.trans g6;revert w6 g6 jm eR;exact O.o):P:=h ⟨k⟩
theorem Z203(h:Kq Q->P:=by
 intro O;refine (xL.o _).mono ?_;rintro e w7 ⟨rfl,g7⟩;have jO:=(g7.block hz).trans jm;have oT:=eR.trans g7;revert w7 g7 jO oT;exact O.o):P:=h ⟨k⟩
theorem Z204(h:Kq Q->P:=by
 intro O;have vF:L.size<=s.size:=by
  have h1:=V3o (bs s);rw[O0]at h1;rw[hL];show (Vn (bs s)).toArray.size<=_
  simpa using h1
 have eO:¬ 9223372036854775807<L.size:=by omega
 have nC:¬ 9223372036854775807<(0+L.size):=by omega
 revert vF eO nC;exact O.o):P:=h ⟨k⟩
theorem Z205(h:Kq Q->P:=by
 intro O;refine Reg.ty 18 ?_;refine Reg.ty 19 ?_;refine Reg.on 20 ?_;go_simp;refine Reg.ty 21 ?_;refine Reg.ty 22 ?_;refine Reg.on 23 ?_;go_simp;refine Reg.ty 24 ?_;refine Reg.ty 25 ?_;refine Reg.on 26 ?_;go_simp;exact O.o):P:=h ⟨k⟩
theorem Z206(h:Kq Q->P:=by
 intro O;have hx:=h.rows i r hr;have kp:∀ {e size n v xs t},w.ownsRow base e size v n xs->Ok own v t->t≠0->W.ownsRow base e size v n xs:=λ ho ht h0=>O1 ho λ k e=>g1.block (h.lt k (by rw[ht k e];exact h0)).2
 revert hx kp;exact O.o):P:=h ⟨k⟩
theorem Z207(h:Kq Q->P:=by
 intro O;refine Reg.one (i:=2) rfl (by rfl) ?_;go_simp;refine (O3y gK (acc.length+1) aJ Ag.1 Ag.2 _).mono ?_;exact O.o):P:=h ⟨k⟩
theorem Z208(h:Kq Q->P:=by
 intro O;have ls:W.heap.size<=W7.heap.size:=U1l bG.o.size G7.o.size;revert ls;exact O.o):P:=h ⟨k⟩
theorem Z209(h:Kq Q->P:=by
 intro O;have aN:=U10 lu;have pD:=U10 lw;have BB:=U10 lx;have GQ:=U10 ly;revert aN pD BB GQ;exact O.o):P:=h ⟨k⟩
theorem Z210(h:Kq Q->P:=by
 intro O;refine Reg.ty 6 ?_;refine Reg.on 9 ?_;go_simp;refine⟨Oi0 mh,?_⟩;exact O.o):P:=h ⟨k⟩
theorem Z211(h:Kq Q->P:=by
 intro O;have a9:∀k,own k≠0->k<W.heap.size:=λ k hk=>U13 (H.o.v.lt k hk).2 HG.o.size
 have HZ:=U10 hz;revert a9 HZ;exact O.o):P:=h ⟨k⟩
theorem Z212(h:Kq Q->P:=by
 intro O;obtain⟨c0,c1,c2,a9⟩:W2.cell? ⟨w1.heap.size,0,none⟩=some (.string bg)/\W2.cell? ⟨w1.heap.size,1,none⟩=some (.int .i64 bb)/\W2.cell? ⟨w1.heap.size,2,none⟩=some (.string ds)/\w1.heap.size<W2.heap.size:=⟨k0,k1,k2,kl⟩
 revert c0 c1 c2 a9;exact O.o):P:=h ⟨k⟩
theorem Z213(h:Kq Q->P:=by
 intro O;refine (show Calls prog 24 #[.pointer (some ⟨R,0,none⟩),.int .i64 (m2:Int),.int .i64 ((d:Int)+1)] w3 _ from HV.o w3 io L2 ac bm.o BC.o m2 (d+1) jM (by omega) _ hZ (by simp)).mono ?_;exact O.o):P:=h ⟨k⟩
theorem Z214(h:Kq Q->P:=by
 intro O;have dF:=Oc9 key r.nd.keys 0;rw[show Lib.idxFromS (r.nd.keys.map λ k=>(⟨k.toArray⟩:ByteArray)) key 0=Lib.idxOfS (r.nd.keys.map λ k=>(⟨k.toArray⟩:ByteArray)) key from rfl]at dF;simp only[U1v]at dF;revert dF;exact O.o):P:=h ⟨k⟩
theorem Z215(h:Kq Q->P:=by
 intro O;obtain⟨V2,hV⟩:=ExZ (V1.alloc (.cells #[a,b] 38))
 revert V2 hV;exact O.o):P:=h ⟨k⟩
theorem Z216(h:Kq Q->P:=by
 intro O;have HK:Hid (false=(r7.toList.isEmpty&&(o3.toList.isEmpty==o4.toList.isEmpty)&&(o5.toList.isEmpty==o7.toList.isEmpty))):=U10 (by rw[bV,H3.o,f2];cases o5.toList.isEmpty==o7.toList.isEmpty <;> rfl);rw[fA];revert HK;exact O.o):P:=h ⟨k⟩
theorem Z217(h:Kq Q->P:=by
 intro O;have e0:0<s.size:=by
  rcases Nat.eq_zero_or_pos s.size with h|h
  exfalso;apply h1;rw[U21];exact U31 (by rw[O0];exact h)
  exact h
 have e1:(0:Int)<(s.size:Int):=by omega
 revert e0 e1;exact O.o):P:=h ⟨k⟩
theorem Z218(h:Kq Q->P:=by
 intro O;obtain⟨b1,b2⟩:=V1u _ 92 _ he;have hX:=V81 T (bs s) a (by rw[O0];omega);have bV:=V5g T ((bs s).drop a);obtain⟨sr,cR⟩:∃sr,sr=V3m T ((bs s).drop a):=⟨_,rfl⟩
 rw[<-cR]at hX bV⊢;have HO:=U10 bV;have HX:=U10 hX;revert bV;revert hX;revert HX;revert HO;revert cR;revert sr;revert b2;revert b1;exact O.o):P:=h ⟨k⟩
theorem Z219(h:Kq Q->P:=by
 intro O;have hu:=aa.use (w.heap.size+1) (by simp) (λ hF=>by have:=HS.o.own_lt hF;omega);revert hu;exact O.o):P:=h ⟨k⟩
theorem Z220(h:Kq Q->P:=by
 intro O;refine (show Calls prog 24 #[.pointer (some ⟨R,0,none⟩),.int .i64 (e2:Int),.int .i64 ((d':Int)+1)] w6 _ from HV.o w6 nv' L' own' As xW e2 (d'+1) BD (by omega) _ hZ (by simp)).mono ?_;exact O.o):P:=h ⟨k⟩
theorem Z221(h:Kq Q->P:=by
 intro O;have ay:=iP.o.alloc (.cells #[n] 3);have av:=iP.o.newB #[n] 3;have ah:=mX.o.alloc (.cells #[n] 3);obtain⟨V1,hV⟩:=ExZ (V0.alloc (.cells #[n] 3))
 rw[hV]at ay av ah⊢;clear hV;revert ah;revert av;revert ay;revert V1;exact O.o):P:=h ⟨k⟩
theorem Z222(h:Kq Q->P:=by
 intro O;refine (O9 s n2 n2 rfl oU (by omega) _).mono ?_;rintro e w7 ⟨rfl,g7⟩;rw[BE.o];have ls:z0<=w7.heap.size:=U1l tA g7.size;have lz:=U10 (pR.o.gr g7);have tC:=U10 (lj.o.gr g7);have iu:=U10 (iw.o.gr g7);have At:=tC.o.cells.2.2.1;revert w7 g7 ls lz tC iu At;exact O.o):P:=h ⟨k⟩
theorem Z223(h:Kq Q->P:=by
 intro O;have dR:own g=3:=h.oN g rfl;have aW:=h.lt g (by omega);have hz:=H.size;have hR:=h.R_lt;have hB:=h.B_lt;obtain⟨WF,ao⟩:=ExZ (((W.setCell ⟨g,i*7+2,none⟩ kv).setCell ⟨g,i*7+3,none⟩ sv).setCell ⟨g,i*7+4,none⟩ uv)
 revert dR aW hz hR hB WF ao;exact O.o):P:=h ⟨k⟩
theorem Z224(h:Kq Q->P:=by
 intro O;obtain⟨g0,g1,g2,g3,gz⟩:=d8.cells;have aO:=U10 d8;have dO:(convert 22 9 aH).run prog (w2.alloc (.cells #[(0:Int),(0:Int)] 29)).drew=.ok (V2s (out++t)) (w2.alloc (.cells #[(0:Int),(0:Int)] 29)).drew:=Okg ((d8.alloc _).drew).own;revert g0 g1 g2 g3 gz aO dO;exact O.o):P:=h ⟨k⟩
theorem Z225(h:Kq Q->P:=by
 intro O;obtain⟨hA,gA,zA⟩:=bx2 w2 (.slice (some ⟨gn,0,none⟩) L.length L.length) (0:Int) 26;obtain⟨W0,aI⟩:=ExZ (w2.alloc (.cells #[.slice (some ⟨gn,0,none⟩) L.length L.length,(0:Int)] 26))
 rw[aI]at hA gA zA;revert zA;revert gA;revert hA;revert aI;revert W0;exact O.o):P:=h ⟨k⟩
theorem Z226(h:Kq Q->P:=by
 intro O;go_simp;refine (O55 gS (acc.length+1) cO EG.1 EG.2 _).mono ?_;exact O.o):P:=h ⟨k⟩
theorem Z227(h:Kq Q->P:=by
 intro O;have SY:True:=U3f;clear SY;have be:d=V2d c.toNat:=hd;revert be;exact O.o):P:=h ⟨k⟩
theorem Z228(h:Kq Q->P:=by
 intro O;have bB:(0:Int)<=(n:Int):=by omega
 have bX:(n:Int)<(s.size:Int):=by omega
 revert bB bX;exact O.o):P:=h ⟨k⟩
theorem Z229(h:Kq Q->P:=by
 intro O;have mp:¬T.toList=[]:=by
  rw[U21];intro h;have h2:=U2w List.length h;have h3:=O0 T;unfold bs at h3;rw[h3,sw]at h2;simp at h2
 have GR:T.toList.isEmpty=false:=by simpa using mp
 revert mp GR;exact O.o):P:=h ⟨k⟩
theorem Z230(h:Kq Q->P:=by
 intro O;have d3:(0:Int)<=(j:Int):=by omega
 revert d3;exact O.o):P:=h ⟨k⟩
theorem Z231(h:Kq Q->P:=by
 intro O;refine (O1k c p lp _).mono ?_;rintro e w2 ⟨rfl,g2⟩;revert w2 g2;exact O.o):P:=h ⟨k⟩
theorem Z232(h:Kq Q->P:=by
 intro O;obtain⟨c0,c1,c2,c3,fz⟩:=h.cells;have a9:=h.lt;revert c0 c1 c2 c3 fz a9;exact O.o):P:=h ⟨k⟩
theorem Z233(h:Kq Q->P:=by
 intro O;obtain⟨sr,BF,dX⟩:=V7r _ _ _ _ _ _ ek.o a8 (by rw[U16,O0];omega);rw[U2j,show n+(a-n)=a from by omega]at BF;have tD:=U10 BF;have jo:=U10 dX;clear BF dX;revert jo;revert tD;revert sr;exact O.o):P:=h ⟨k⟩
theorem Z234(h:Kq Q->P:=by
 intro O
 try dsimp only
 refine Reg.ty 18 ?_;refine Reg.ty 19 ?_;refine Reg.ty 20 ?_;refine Reg.ty 21 ?_;exact O.o):P:=h ⟨k⟩
theorem Z235(h:Kq Q->P:=by
 intro O;have h1:=H.2 j (ready_mono hj dY);obtain⟨lA,oj,pS,aT⟩:=mem_ready.1 hj;have nD:l.getD i false=false:=by
  have h0:=(mem_ready.1 hr).1;rcases Nat.lt_or_ge i l.size with h'|h'
  simp[h']at h0⊢;exact h0
  simp[U46 h']at h0
 revert h1 lA oj pS aT nD;exact O.o):P:=h ⟨k⟩
theorem Z236(h:Kq Q->P:=by
 intro O;refine (O9k _ R s a q out ov (RdQ.auto iT.o) a9 hs ho).mono ?_;exact O.o):P:=h ⟨k⟩
theorem Z237(h:Kq Q->P:=by
 intro O;refine⟨_,false,EP,L5,cq,rfl,rfl,rfl,BG,GT.o,?_,BH.o,HG.o.st vG.o (λ k hk=>(H.o.lt k hk).1),vG.o,gh.o,GU⟩;rw[U1c (by simp)];exact O.o):P:=h ⟨k⟩
theorem Z238(h:Kq Q->P:=by
 intro O;have a9:=byteAt_lt dS (by decide);have aA:=V8 s (V7 s e+1) (by omega);revert a9 aA;exact O.o):P:=h ⟨k⟩
theorem Z239(h:Kq Q->P:=by
 intro O;refine⟨by first|exact br|exact λ _=>br|exact λ _ _=>br,?_⟩;refine Reg.pt ?_;exact O.o):P:=h ⟨k⟩
theorem Z240(h:Kq Q->P:=by
 intro O;refine U11 (v:=fv 3 (a+2)) (by simp[results,results244,go_sem,q0,q1]) rfl ?_;rw[HX.o,HU.o,EQ.o];have aa:St (FQ R ov) (FQ R ov) w w2:=(((HG.o.trans g1)).trans g2).st;revert aa;exact O.o):P:=h ⟨k⟩
theorem Z241(h:Kq Q->P:=by
 intro O;have wm:IntKind.i64.wrap ((x.many:Int)+1)=(x.many:Int)+1:=U1k _ ⟨by omega,by omega⟩;revert wm;exact O.o):P:=h ⟨k⟩
theorem Z242(h:Kq Q->P:=by
 intro O;refine (O7l c p (by omega) _).mono ?_;rintro e w3 ⟨rfl,g3⟩;revert w3 g3;exact O.o):P:=h ⟨k⟩
theorem Z243(h:Kq Q->P:=by
 intro O;obtain⟨X,hX⟩:∃X:Pl.SR,X=V33 ((bs s).drop a):=⟨_,rfl⟩
 rw[<-hX];have HX:=U10 hX;revert X hX HX;exact O.o):P:=h ⟨k⟩
theorem Z244(h:Kq Q->P:=by
 intro O;have hd:k.dropLast.length+1=k.length:=by
  exact J49
 revert hd;exact O.o):P:=h ⟨k⟩
theorem Z245(h:Kq Q->P:=by
 intro O;have tE:=U10 (sq.o.gr g9);have pT:=U10 (oV.o.gr g9);have eU:=U10 (nw.o.gr g9);have fm:=U10 (O1 pU.o (λ k e=>g9.block (pU.o.lt k e).2));have Au:z0<=w9.heap.size:=U1l ER.o g9.size;revert tE pT eU fm Au;exact O.o):P:=h ⟨k⟩
theorem Z246(h:Kq Q->P:=by
 intro O;obtain⟨k2,bX⟩:∃k2,V7 s1 (a1+(k1+1))=a1+k2:=⟨V7 s1 (a1+(k1+1))-a1,by omega⟩
 revert k2 bX;exact O.o):P:=h ⟨k⟩
theorem Z247(h:Kq Q->P:=by
 intro O;simp only;obtain⟨k1,bB⟩:∃k1,V7 s1 (a1+k0)=a1+k1:=⟨V7 s1 (a1+k0)-a1,by omega⟩
 revert k1 bB;exact O.o):P:=h ⟨k⟩
theorem Z248(h:Kq Q->P:=by
 intro O;have ki:∀{v:Value} {e size n xs},W.ownsRow base e size v n xs->(∀b,v.ownBlock=some b->FI own i b\/w.heap.size<=b)->∀k,v.ownBlock=some k->k≠g:=by
  intro v e size n xs _ hv k hk e2;subst e2;rcases hv k hk with h1|h1
  unfold FI at h1;omega
  omega
 revert ki;exact O.o):P:=h ⟨k⟩
theorem Z249(h:Kq Q->P:=by
 intro O;have k1:(0:Int)<=(m:Int):=by omega
 have k2:(m:Int)<(r.nd.subs.length:Int):=by omega
 have wm:IntKind.i64.wrap ((m:Int)+1)=(m:Int)+1:=U1k _ ⟨by omega,by omega⟩;revert k1 k2 wm;exact O.o):P:=h ⟨k⟩
theorem Z250(h:Kq Q->P:=by
 intro O;refine U11 (v:=.tuple #[.string ⟨#[]⟩,(0:Int),fv 3 (a+p)]) (by simp[results,results40,go_sem,p0,p1,p2,p3,eN]) rfl ?_;rw[<-jo.o];exact O.o):P:=h ⟨k⟩
theorem Z251(h:Kq Q->P:=by
 intro O;have Av:IntKind.u64.wrap (IntKind.u64.wrap 18446744073709551616-1)=18446744073709551615:=by
  exact J11
 revert Av;exact O.o):P:=h ⟨k⟩
theorem Z252(h:Kq Q->P:=by
 intro O;obtain⟨V2,hV⟩:=ExZ (V1.alloc (.cells #[n] 3))
 revert V2 hV;exact O.o):P:=h ⟨k⟩
theorem Z253(h:Kq Q->P:=by
 intro O;obtain⟨V2,hV⟩:=ExZ (V1.alloc (.cells #[.string key] 9))
 revert V2 hV;exact O.o):P:=h ⟨k⟩
theorem Z254(h:Kq Q->P:=by
 intro O;obtain⟨V3,hV⟩:=ExZ (V2.alloc (.cells #[.string key] 9))
 revert V3 hV;exact O.o):P:=h ⟨k⟩
theorem Z255(h:Kq Q->P:=by
 intro O;have hm:s[V7 s e1]?=some 61/\m=V7 s e1+1:=by
  unfold isF at hi
  split at hi;rename_i hg;simp only[isF,V2x.ok.injEq]at hi;exact⟨hg,hi.symm⟩
  cases hi
 revert hm;exact O.o):P:=h ⟨k⟩
theorem Z256(h:Kq Q->P:=by
 intro O;have cd:=U10 (ei.o.appK (n:=r.nd.keys.length+1) (cap:=aJ) hg ha);revert cd;exact O.o):P:=h ⟨k⟩
theorem Z257(h:Kq Q->P:=by
 intro O;have dC:=U10 (fE.o.appK (n:=r.nd.keys.length+1) (cap:=aJ) hg ha);revert dC;exact O.o):P:=h ⟨k⟩
theorem Z258(h:Kq Q->P:=by
 intro O;obtain⟨q0,q1,qf,ql⟩:=ES.gr (Gr.refl WF).drew;obtain⟨y0,y1,yf,yl⟩:=gO.gr (Gr.refl WF).drew;revert q0 q1 qf ql y0 y1 yf yl;exact O.o):P:=h ⟨k⟩
theorem Z259(h:Kq Q->P:=by
 intro O;refine (O1y w7 R s At e2 e2 rfl).mono ?_;exact O.o):P:=h ⟨k⟩
theorem Z260(h:Kq Q->P:=by
 intro O;have fM:FX (w.heap.size+1) (0:Int) (0:Int) W:=by
  rw[<-hW];have:=FX.new (w.alloc (.cells #[an,d] 67)) (0:Int) (0:Int) 67;exact J5
 revert fM;exact O.o):P:=h ⟨k⟩
theorem Z261(h:Kq Q->P:=by
 intro O;refine U11 (v:=f0) (by simp[results,results243,go_sem,r0,r1]) rfl ?_;exact O.o):P:=h ⟨k⟩
theorem Z262(h:Kq Q->P:=by
 intro O;rw[show (w2.alloc (.cells #[.slice (some ⟨gn,0,none⟩) L.length L.length,(0:Int)] 26)).alloc (.cells #[(0:Int),(0:Int)] 29)=W1 from mq.o];exact O.o):P:=h ⟨k⟩
theorem Z263(h:Kq Q->P:=by
 intro O;have wa:IntKind.i64.wrap ((a:Int)+1)=(a:Int)+1:=U1k _ ⟨by omega,by omega⟩;revert wa;exact O.o):P:=h ⟨k⟩
theorem Z264(h:Kq Q->P:=by
 intro O;have k3:IntKind.i64.wrap ((k:Int)+1)=(k:Int)+1:=U1k _ ⟨by omega,by omega⟩;revert k3;exact O.o):P:=h ⟨k⟩
theorem Z265(h:Kq Q->P:=by
 intro O;have a9:a<s.size:=by
  by_cases h:a<s.size;exact h
  rw[O12 s a h]at jZ;cases jZ
 revert a9;exact O.o):P:=h ⟨k⟩
theorem Z266(h:Kq Q->P:=by
 intro O;have aV:=(oW.o.gr oY.o).st aX bT;have lB:=(fO.o.gr oY.o).st aX (bT _ (by omega) (by omega)) (bT _ (by omega) (by omega)) BI BJ;obtain⟨p0,p1,pf,pl⟩:=id aV.p;obtain⟨v0,v1,vf,vl⟩:=id aV.f;dsimp only;refine Reg.ty 15 ?_;revert aV lB p0 p1 pf pl v0 v1 vf vl;exact O.o):P:=h ⟨k⟩
theorem Z267(h:Kq Q->P:=by
 intro O;refine Reg.ty 4 ?_;refine Reg.tl 5 eQ ?_ (hy:=by intro w ab;obtain⟨BK,BL,U1,U2⟩:=ab;go_simp;try with_reducible rfl);refine Reg.ty 6 ?_;exact O.o):P:=h ⟨k⟩
theorem Z268(h:Kq Q->P:=by
 intro O;refine U11 (v:=fv c' p) (by simp[results,results243,go_sem,r0,r1]) rfl ?_;rw[HX.o,HQ.o];have d9:St (FQ R ov) (FQ R ov) w w1:=HG.o.st.trans bG.o;have aa:=d9;revert d9 aa;exact O.o):P:=h ⟨k⟩
theorem Z269(h:Kq Q->P:=by
 intro O;have hF:FX w.heap.size (0:Int) (0:Int) w2:=(FX.new w (0:Int) (0:Int) 29).gr g2;have hG:Gr w w2:=((Gr.refl w).alloc _).trans g2;have nB:=(hG.block Aw).trans HI.o;revert hF hG nB;exact O.o):P:=h ⟨k⟩
theorem Z270(h:Kq Q->P:=by
 intro O;obtain⟨d,hd⟩:∃d,d=V2d c.toNat:=⟨_,rfl⟩
 revert d hd;exact O.o):P:=h ⟨k⟩
theorem Z271(h:Kq Q->P:=by
 intro O;refine Reg.one (i:=4) rfl (by rfl) ?_;exact O.o):P:=h ⟨k⟩
theorem Z272(h:Kq Q->P:=by
 intro O;have mq:=U10 (show (w2.alloc (.cells #[.slice (some ⟨gn,0,none⟩) L.length L.length,(0:Int)] 26)).alloc (.cells #[(0:Int),(0:Int)] 29)=W1 by rw[aI,aR]);revert mq;exact O.o):P:=h ⟨k⟩
theorem Z273(h:Kq Q->P:=by
 intro O;have hd:∀x∈k.dropLast,x.2.1<=M:=λ x hx=>hM x ((List.dropLast_sublist _).subset hx)
 revert hd;exact O.o):P:=h ⟨k⟩
theorem Z274(h:Kq Q->P:=by
 intro O;have h1:=Om9 N _ _ _ _ _ _ _ _ _ (λ x hx=>hw x ((List.dropLast_sublist _).subset hx)) hp hy;revert h1;exact O.o):P:=h ⟨k⟩
theorem Z275(h:Kq Q->P:=by
 intro O;intro k e;simp only at e;have a1:kv.ownBlock≠some k:=λ e2=>H.ku k e2 e
 have a2:sv.ownBlock≠some k:=λ e2=>H.su k e2 e
 simp only[a1,a2,e,U2o,U2f];revert e;revert a2;revert a1;revert k;exact O.o):P:=h ⟨k⟩
theorem Z276(h:Kq Q->P:=by
 intro O;have k3:(3:Int)<=(t.size:Int):=by omega
 have k5:(5:Int)<=(t.size:Int):=by omega
 have k6:(6:Int)<=(t.size:Int):=by omega
 have iV:=U10 fM;have oQ:=U10 tF;have ir:=U10 cL;revert k3 k5 k6 iV oQ ir;exact O.o):P:=h ⟨k⟩
theorem Z277(h:Kq Q->P:=by
 intro O;have a0:0<=a:=by omega
 have a1:a<=18446744073709551615:=by omega
 revert a0 a1;exact O.o):P:=h ⟨k⟩
theorem Z278(h:Kq Q->P:=by
 intro O;have bv:∀k,k≠g->WF.heap[k]?=W.heap[k]?:=by
  intro k hk;subst ao;rw[U15 _ _ _ _ hk,U15 _ _ _ _ hk,U15 _ _ _ _ hk]
 revert bv;exact O.o):P:=h ⟨k⟩
theorem Z279(h:Kq Q->P:=by
 intro O;refine U11 (v:=.tuple #[.bool false,fv 3 (a+p)]) (by simp[results,results251,go_sem,aF,ag,dQ,dx]) rfl ⟨rfl,FQ R ov,?_⟩;exact O.o):P:=h ⟨k⟩
theorem Z280(h:Kq Q->P:=by
 intro O;have jp:own' (w.heap.size+1)=0:=U1g λ h=>(kb.o _ h).elim (λ h=>by have:=(H.o.v.lt _ h).2;omega) (λ h=>by have:=HZ.o;omega)
 revert jp;exact O.o):P:=h ⟨k⟩
theorem Z281(h:Kq Q->P:=by
 intro O;refine (Omx T E hE s _ n rfl hn hs _ HW.o (by simp) _ (by first|exact sx.o.gr HK.o.below|exact sx.o.gr (HK.o.below.drewN _))).mono ?_;exact O.o):P:=h ⟨k⟩
theorem Z282(h:Kq Q->P:=by
 intro O;refine U11 (v:=.tuple #[V2s (out++t),.int .i64 (a+m:Nat),f0]) (by simp[results,results40,go_sem,p0,p1,p2,p3,eN]) rfl ?_;exact O.o):P:=h ⟨k⟩
theorem Z283(h:Kq Q->P:=by
 intro O;have dT:i<st.length:=by
  unfold V1a at hs
  split at hs;cases hs
  split at hs;cases hs
  split at hs;cases hs
  split at hs
  ·cases hs;assumption
  cases hs
 revert dT;exact O.o):P:=h ⟨k⟩
theorem Z284(h:Kq Q->P:=by
 intro O;refine Reg.all (rs:=[9,15]) (by kernel_rfl) (by simp) ?_;exact O.o):P:=h ⟨k⟩
theorem Z285(h:Kq Q->P:=by
 intro O;refine Reg.all (rs:=[9,22]) (by kernel_rfl) (by simp) ?_;exact O.o):P:=h ⟨k⟩
theorem Z286(h:Kq Q->P:=by
 intro O;refine U11 (v:=.tuple #[(0:Int),fv 3 (n+ar)]) (by simp[results,results122,go_sem,p0,p1,pf,pl]) rfl ⟨?_,Gr.auto⟩;exact O.o):P:=h ⟨k⟩
theorem Z287(h:Kq Q->P:=by
 intro O;obtain⟨hD,gD,zD⟩:=bx2 W5 (0:Int) (0:Int) 29;obtain⟨W6,lm⟩:=ExZ (W5.alloc (.cells #[(0:Int),(0:Int)] 29))
 rw[lm]at hD gD zD;rw[zC]at hD zD;revert zD;revert hD;revert gD;revert lm;revert W6;exact O.o):P:=h ⟨k⟩
theorem Z288(h:Kq Q->P:=by
 intro O;refine (O68 _ R s a q out ov (RdQ.auto HS.o) a9 hs).mono ?_;rw[HF.o];exact O.o):P:=h ⟨k⟩
theorem Z289(h:Kq Q->P:=by
 intro O;obtain⟨gP,ew,fR⟩:=O62 nB hF bE (U12 _) hG.st (.slice (some ⟨gk,0,none⟩) ws.length ck) (.slice (some ⟨gs,0,none⟩) ws.length cs) (0:Int) (0:Int);revert gP ew fR;exact O.o):P:=h ⟨k⟩
theorem Z290(h:Kq Q->P:=by
 intro O;refine (HP.o _ (HG.o.gr cB).int).mono ?_;rintro e w3 ⟨⟨kk,x,cc,rfl,ke⟩,g3⟩;revert g3;revert ke;revert cc;revert x;revert kk;revert w3;exact O.o):P:=h ⟨k⟩
theorem Z291(h:Kq Q->P:=by
 intro O;intro a h;have hc:=h c (by simp);simp only[O2,U1h,U1x]at hc;revert hc;revert h;revert a;exact O.o):P:=h ⟨k⟩
theorem Z292(h:Kq Q->P:=by
 intro O;obtain⟨WF,ao⟩:=ExZ (((W.setCell ⟨w.heap.size+1,0,none⟩ i).setCell ⟨w.heap.size+1,1,none⟩ (.int .i64 ((d:Int)+1))))
 revert WF ao;exact O.o):P:=h ⟨k⟩
theorem Z293(h:Kq Q->P:=by
 intro O;rintro e w1 ⟨rfl,g1⟩;have bJ:=(g1.block hz).trans kj;have cB:=eV.trans g1;revert w1 g1 bJ cB;exact O.o):P:=h ⟨k⟩
theorem Z294(h:Kq Q->P:=by
 intro O;refine U11 (v:=.tuple #[(0:Int),fv c p]) (by simp[results,results121,go_sem,q0,q1,qf,ql]) rfl ?_;rw[<-HX.o];exact O.o):P:=h ⟨k⟩
theorem Z295(h:Kq Q->P:=by
 intro O;go_simp;refine (jk.o (W.drew) (HG.o.trans ((Gr.refl W).drew))).mono ?_;exact O.o):P:=h ⟨k⟩
theorem Z296(h:Kq Q->P:=by
 intro O;refine (Mf.o _ (HW.o.gr Gr.auto)).mono ?_;rintro e w5 ⟨rfl,g5⟩;revert w5 g5;exact O.o):P:=h ⟨k⟩
theorem Z297(h:Kq Q->P:=by
 intro O;intro V1 ay av ah;refine Z49 ?_;intro aN fX;have tG:=U10 av;clear ay av ah;have ce:=O18 aN.o fX.o HC.o;refine Z99 ?_;revert V1 aN fX tG ce;exact O.o):P:=h ⟨k⟩
theorem Z298(h:Kq Q->P:=by
 intro O;go_simp;refine Z2 ?_;refine Z12 ?_;exact O.o):P:=h ⟨k⟩
theorem Z299(h:Kq Q->P:=by
 intro O;refine Z6 ?_;intro gK aJ V3 ho hg ha hz bm bN;refine Z256 ?_;intro cd;clear ho hg ha hz;refine Z104 ?_;intro aD;refine Z174 ?_;refine Z14 ?_;intro j hj;revert gK aJ V3 bm bN cd aD j hj;exact O.o):P:=h ⟨k⟩
theorem Z300(h:Kq Q->P:=by
 intro O;refine Z76 ?_;refine Z113 ?_;intro ay aj ah;have ax:=n7.o.alloc (.cells #[a,b] 38);refine Z215 ?_;intro V2 hV;rw[hV]at ay aj ah ax⊢;clear hV;refine Z49 ?_;intro aO co;have cZ:=U10 ax;have ei:=U10 aj;clear ay aj ah ax;refine Z33 ?_;intro br;refine Z285 ?_;refine Z14 ?_;intro j hj;revert hj;revert j;revert br;revert ei;revert cZ;revert co;revert aO;revert V2;exact O.o):P:=h ⟨k⟩
theorem Z301(h:Kq Q->P:=by
 intro O;refine Z66 ?_;refine Z154 ?_;intro ay av ah;have ax:=n7.o.alloc (.cells #[n] 3);refine Z252 ?_;intro V2 hV;rw[hV]at ay av ah ax⊢;clear hV;refine Z49 ?_;intro aO co;have cZ:=U10 ax;have fE:=U10 av;clear ay av ah ax;refine Z33 ?_;intro br;refine Z284 ?_;refine Z14 ?_;intro j hj;revert hj;revert j;revert br;revert fE;revert cZ;revert co;revert aO;revert V2;exact O.o):P:=h ⟨k⟩
theorem Z302(h:Kq Q->P:=by
 intro O;refine Reg.sk 8 ?_;refine Reg.sk 9 ?_;refine Reg.sk 10 ?_;refine Reg.sk 11 ?_;refine Reg.sk 12 ?_;refine Reg.sk 13 ?_;exact O.o):P:=h ⟨k⟩
theorem Z303(h:Kq Q->P:=by
 intro O;refine Z6 ?_;intro gK aJ V3 ho hg ha hz bm bN;refine Z257 ?_;intro dC;clear ho hg ha hz;refine Z104 ?_;intro aD;refine Reg.on 15 ?_;revert gK aJ V3 bm bN dC aD;exact O.o):P:=h ⟨k⟩
theorem Z304(h:Kq Q->P:=by
 intro O;refine Z32 ?_;refine Z41 ?_;refine Reg.ty 5 ?_;refine Z42 ?_;refine Z109 ?_;refine Z27 ?_;refine Reg.on 12 ?_;go_simp;refine (Mg.o _).mono ?_;refine Z27 ?_;refine Z186 ?_;refine (Mh.o _).mono ?_;refine Z27 ?_;exact O.o):P:=h ⟨k⟩
theorem Z305(h:Kq Q->P:=by
 intro O;refine Z108 ?_;intro ay ax ah;have aj:=tH.o.alloc (.cells #[.string key] 9);refine Z253 ?_;intro V2 hV;rw[hV]at ay ax ah aj⊢;clear hV;refine Z49 ?_;intro aO co;have ei:=U10 aj;have cZ:=U10 ax;clear ay ax ah aj;refine Z33 ?_;intro br;refine Z285 ?_;refine Z14 ?_;intro j hj;revert hj;revert j;revert br;revert cZ;revert ei;revert co;revert aO;revert V2;exact O.o):P:=h ⟨k⟩
theorem Z306(h:Kq Q->P:=by
 intro O;refine Z108 ?_;intro ay ax ah;have av:=tG.o.alloc (.cells #[.string key] 9);refine Z253 ?_;intro V2 hV;rw[hV]at ay ax ah av⊢;clear hV;refine Z49 ?_;intro aO co;have fE:=U10 av;have cZ:=U10 ax;clear ay ax ah av;refine Z33 ?_;intro br;refine Z284 ?_;refine Z14 ?_;intro j hj;revert hj;revert j;revert br;revert cZ;revert fE;revert co;revert aO;revert V2;exact O.o):P:=h ⟨k⟩
theorem Z307(h:Kq Q->P:=by
 intro O;refine Z32 ?_;refine Reg.tl 3 hS ?_ (hy:=by intro w ab;obtain s0:=ab;go_simp;try with_reducible rfl);refine Z83 ?_;refine Reg.tl 7 hS ?_ (hy:=by intro w ab;obtain s0:=ab;go_simp;try with_reducible rfl);exact O.o):P:=h ⟨k⟩
theorem Z308(h:Kq Q->P:=by
 intro O;obtain⟨xX,xY,xZ,y8⟩:=id fK;obtain⟨sy,sA,sB,sC⟩:=iV.o.f.gr gA;refine Reg.on 23 ?_;go_simp;refine Z2 ?_;refine Reg.on 24 ?_;go_simp;refine Reg.on 25 ?_;revert xX xY xZ y8 sy sA sB sC;exact O.o):P:=h ⟨k⟩
theorem Z309(h:Kq Q->P:=by
 intro O;refine Z117 ?_;rw[HC.o];refine Z86 ?_;intro w1 g1 ag au az;have hg:Hid (Gr w w1):=by
  exact J42
 have iT:Hid (RdQ w1 R s a q out ov):=HS.o.gr hg.o;revert w1 g1 ag au az hg iT;exact O.o):P:=h ⟨k⟩
theorem Z310(h:Kq Q->P:=by
 intro O;have hS:FX w.heap.size (0:Int) (0:Int) w9.drew:=tE.o.gr (Gr.refl _).drew;refine Z165 ?_;refine Z56 ?_;refine Z41 ?_;refine Z200 ?_;refine Z27 ?_;refine Reg.ty 6 ?_;refine Reg.on 7 ?_;go_simp;revert hS;exact O.o):P:=h ⟨k⟩
theorem Z311(h:Kq Q->P:=by
 intro O;refine Z186 ?_;refine Z2 ?_;refine Reg.on 18 ?_;exact O.o):P:=h ⟨k⟩
theorem Z312(h:Kq Q->P:=by
 intro O;refine Reg.tl 5 aD ?_ (hy:=by intro w ab;obtain⟨⟨q0,q1,q2⟩,ql⟩:=ab;go_simp;try with_reducible rfl);refine Reg.on 6 ?_;go_simp;refine (O8o _).mono ?_;rintro e w4 ⟨rfl,g4⟩;have cm:=aD.gr g4;revert w4 g4 cm;exact O.o):P:=h ⟨k⟩
theorem Z313(h:Kq Q->P:=by
 intro O;refine Reg.ty 8 ?_;refine Reg.ty 9 ?_;exact O.o):P:=h ⟨k⟩
theorem Z314(h:Kq Q->P:=by
 intro O;refine Reg.begin' (W:=λ i=>i != 10) (S:=FX b5 n d) (by kernel_rfl) ?_;refine Z32 ?_;refine Z267 ?_;refine Z191 ?_;refine vH.o.mono ?_;exact O.o):P:=h ⟨k⟩
theorem Z315(h:Kq Q->P:=by
 intro O;refine (Ogo _ R s a q out ov (RdQ.auto HS.o) a9 hs HM.o).mono ?_;refine Z86 ?_;exact O.o):P:=h ⟨k⟩
theorem Z316(h:Kq Q->P:=by
 intro O;have cL:WB3 w.heap.size (0:Int) (0:Int) (.slice none 0 0) (0:Int) (0:Int) (0:Int) w5:=⟨oQ.o.1.gr g5,oQ.o.2.gr g5,HF.o.gr g5⟩
 have oJ:=HK.o.gr g5;revert cL oJ;exact O.o):P:=h ⟨k⟩
theorem Z317(h:Kq Q->P:=by
 intro O;have br:Ou bg bb ds w1.heap.size w2.drew:=⟨⟨c0,c1,c2⟩,a9⟩
 refine Z25 ?_;intro w3 g3 aD;refine Z16 ?_;revert br w3 g3 aD;exact O.o):P:=h ⟨k⟩
theorem Z318(h:Kq Q->P:=by
 intro O;refine Z176 ?_;refine Z2 ?_;refine Reg.on 20 ?_;exact O.o):P:=h ⟨k⟩
theorem Z319(h:Kq Q->P:=by
 intro O;refine Reg.ty 0 ?_;refine Reg.tl 1 ip ?_ (hy:=by intro w ab;obtain⟨q0,q1,qf,ql⟩:=ab;go_simp;try with_reducible rfl);refine Reg.ty 2 ?_;exact O.o):P:=h ⟨k⟩
theorem Z320(h:Kq Q->P:=by
 intro O;refine Z36 ?_;intro ay aj ah;refine Z130 ?_;intro V3 hV;rw[hV]at ay aj ah⊢;clear hV;refine Z49 ?_;intro bm bN;have cd:=U10 aj;clear ay aj ah;refine Z107 ?_;intro aD;refine Z174 ?_;refine Z14 ?_;revert aD;revert cd;revert bN;revert bm;revert V3;exact O.o):P:=h ⟨k⟩
theorem Z322(h:Kq Q->P:=by
 intro O;refine Z56 ?_;refine Reg.tl 2 hS ?_ (hy:=by intro w ab;obtain⟨s1,s2,s3,s4⟩:=ab;go_simp;try with_reducible rfl);refine Z41 ?_;exact O.o):P:=h ⟨k⟩
theorem Z323(h:Kq Q->P:=by
 intro O;refine Z57 ?_;intro ay av ah;refine Z171 ?_;intro V3 hV;rw[hV]at ay av ah⊢;clear hV;refine Z49 ?_;intro bm bN;have dC:=U10 av;clear ay av ah;refine Z107 ?_;intro aD;refine Reg.on 15 ?_;revert aD;revert dC;revert bN;revert bm;revert V3;exact O.o):P:=h ⟨k⟩
theorem Z324(h:Kq Q->P:=by
 intro O;refine Reg.tl 0 hS ?_ (hy:=by intro w ab;obtain⟨⟨s0,s1,sf,sl⟩,⟨s2,s3,Ma,Mb⟩⟩:=ab;go_simp;try with_reducible rfl);exact O.o):P:=h ⟨k⟩
