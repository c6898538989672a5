/-
 Short forms of steps and of ends of walks that come again and again: what they run stands as each one's default argument.
-/
import Derived.WalkSpells
import Derived.WalkLawsBesides
import Derived.BigQuiet
import Derived.Deep.AppendLies
import Derived.Deep.RegionLaw
import Derived.Deep.RegionHeld3
import Derived.StillTailTactics
import Derived.OwnWalkIn
import Derived.TacticsInMore
import Derived.LoopNIn
import Derived.LoopIn
import Derived.Deep.DeepCutAuto
import Derived.Lib.AtoiAll
import Derived.Lib.ConvBytes
import Derived.Lib.Hide
import Derived.Lib.Strings
set_option linter.all false
namespace Go.Proofs.YtnkgknbdaiakgaaGreatDoor.Pl
end Go.Proofs.YtnkgknbdaiakgaaGreatDoor.Pl
namespace Go.Proofs.YtnkgknbdaiakgaaGreatDoor
instance:Coe World Nat:=⟨λ w=>w.heap.size⟩
instance:Coe Nat Addr:=⟨λ g=>⟨g,0,none⟩⟩
theorem _root_.Ya{p:Prop}(h:p:=by omega):p:=h
theorem _root_.Yb{p:Prop}(h:p:=by simp):p:=h
theorem _root_.Yc{p:Prop}(h:p:=by kernel_rfl):p:=h
theorem _root_.Yd{p:Prop}(h:p:=by decide):p:=h
theorem _root_.Ye{p:Prop}(h:p:=by simp;omega):p:=h
theorem _root_.Yf{p:Prop}(h:p:=by first|(simp;done)|(simp;omega)):p:=h
theorem _root_.Yg{p:Prop}(h:p:=by simp[go_sem]):p:=h
theorem _root_.Yh{p:Prop}(h:p:=by rfl):p:=h
theorem _root_.Yi{p:Prop}(h:p:=by decide +kernel):p:=h
theorem _root_.Yj{p:Prop}(h:p:=by simp[Value.oneCell']):p:=h
theorem _root_.Yk{p:Prop}(h:p:=by simp only;omega):p:=h
theorem _root_.Yl{p:Prop}(h:p:=by unfold maxLen;omega):p:=h
theorem _root_.Ym{p:Prop}(h:p:=by assumption):p:=h
theorem _root_.Yn{p:Prop}(h:p:=by simp[Rows.ttreesDottedRow]):p:=h
theorem _root_.Yo{p:Prop}(h:p:=by simp[V3n]):p:=h
instance:Coe Int Value:=⟨λ x=>.int .i64 x⟩
instance:Coe Nat Value:=⟨λ x=>.int .i64 x⟩
instance:Coe Int Lit:=⟨λ x=>.int .i64 x⟩
instance:Coe Nat Lit:=⟨λ x=>.int .i64 x⟩
abbrev U10:=@Go.Lib.hid
abbrev U11:=@Go.bodyPost_ret
abbrev U12:=@Nat.le_refl
abbrev U13:=@Nat.lt_of_lt_of_le
abbrev U14:=@Go.RowKit.Below.heap_setCell
abbrev U15:=@List.length_drop
abbrev U16:=@List.getElem?_eq_some_iff
abbrev U17:=@List.length_cons
abbrev U18:=@if_pos
abbrev U19:=@Prod.mk.injEq
abbrev U1a:=@Array.getElem?_eq_some_iff
abbrev U1b:=@if_neg
abbrev U1c:=@List.length_append
abbrev U1d:=@List.getElem?_append_left
abbrev U1e:=@Decidable.byContradiction
abbrev U1f:=@Option.some.injEq
abbrev U1g:=@Bool.and_eq_true
abbrev U1h:=@List.getElem?_eq_getElem
abbrev U1i:=@Go.IntWalk.i64_in
abbrev U1j:=@List.getD_eq_getElem?_getD
abbrev U1k:=@Nat.le_trans
abbrev U1l:=@List.cons_append
abbrev U1m:=@List.getElem?_map
abbrev U1n:=@List.length_map
abbrev U1o:=@List.takeWhile_cons
abbrev U1p:=@Go.World.cell?_setCell_other
abbrev U1q:=@Nat.zero_add
abbrev U1r:=@Go.World.cell?_of_block
abbrev U1s:=@Go.World.size_alloc
abbrev U1t:=@List.length_nil
abbrev U1u:=@List.drop_eq_getElem_cons
abbrev U1v:=@Bool.false_eq_true
abbrev U1w:=@List.drop_eq_nil_of_le
abbrev U1x:=@decide_eq_true_eq
abbrev U1y:=@Go.Lib.toList_data
abbrev U1z:=@Go.heap_alloc_new
abbrev U20:=@UInt8.toNat_inj
abbrev U21:=@List.getElem?_append_right
abbrev U22:=@List.mem_singleton
abbrev U23:=@List.nil_append
abbrev U24:=@List.cons.injEq
abbrev U25:=@List.length_singleton
abbrev U26:=@List.mem_cons_of_mem
abbrev U27:=@List.drop_drop
abbrev U28:=@Go.Oper.semAt_some
abbrev U29:=@Option.map_some
abbrev U2a:=@Nat.add_assoc
abbrev U2b:=@congrArg
abbrev U2c:=@if_false
abbrev U2d:=@List.length_take
abbrev U2e:=@List.getElem?_cons_zero
abbrev U2f:=@Go.World.news_of_block
abbrev U2g:=@List.mem_of_getElem?
abbrev U2h:=@List.all_eq_true
abbrev U2i:=@if_true
abbrev U2j:=@List.drop_zero
abbrev U2k:=@List.length_set
abbrev U2l:=@List.getElem?_drop
abbrev U2m:=@ByteArray.data_append
abbrev U2n:=@List.getElem?_set
abbrev U2o:=@List.map_append
abbrev U2p:=@List.eq_nil_of_length_eq_zero
abbrev U2q:=@List.take_append_of_le_length
abbrev U2r:=@ByteArray.size_append
abbrev U2s:=@List.mem_append
abbrev U2t:=@List.getElem?_eq_none
abbrev U2u:=@Option.some.inj
abbrev U2v:=@Go.World.cell?_setCell_same'
abbrev U2w:=@beq_iff_eq
abbrev U2x:=@Nat.le_succ
abbrev U2y:=@Nat.zero_le
abbrev U2z:=@Go.wp_append_lies
abbrev U30:=@List.length_pos_iff
abbrev U31:=@ByteArray.ext
abbrev U32:=@Array.toList_inj
abbrev U33:=@Go.World.frozen?_of_block
abbrev U34:=@List.set_cons_zero
abbrev U35:=@List.map_cons
abbrev U36:=@List.mem_cons
abbrev U37:=@List.flatMap_cons
abbrev U38:=@List.setIfInBounds_toArray
abbrev U39:=@List.dropWhile_sublist
abbrev U3a:=@Nat.lt_of_not_le
abbrev U3b:=@Go.Lib.extract_data
abbrev U3c:=@List.drop_append
abbrev U3d:=@List.dropWhile_cons
abbrev U3e:=@Go.Lib.bytesWorld_cell
abbrev U3f:=@List.append_assoc
abbrev U3g:=@Go.Lib.run_convert_string_bytes
abbrev U3h:=@List.set_cons_succ
abbrev U3i:=@trivial
abbrev U3j:=@Bool.eq_iff_iff
abbrev U3k:=@List.append_nil
abbrev U3l:=@beq_eq_false_iff_ne
abbrev U3m:=@List.getLast?_eq_getElem?
abbrev U3n:=@List.mem_map
abbrev U3o:=@List.getElem?_take
abbrev U3p:=@Ne.symm
abbrev U3q:=@List.isEmpty_iff
abbrev U3r:=@List.getElem?_append
abbrev U3s:=@List.getElem?_modify
abbrev U3t:=@List.prefix_iff_eq_take
abbrev U3u:=@Go.info_parts
abbrev U3v:=@Go.Value.slice.injEq
abbrev U3w:=@List.getElem_cons_succ
abbrev U3x:=@List.take_of_length_le
abbrev U3y:=@Nat.sub_self
abbrev U3z:=@Go.wpList_append_lies
abbrev U40:=@Go.callsIn_wide
abbrev U41:=@List.takeWhile_prefix
abbrev U42:=@Nat.add_zero
abbrev U43:=@List.getLast?_eq_none_iff
abbrev U44:=@Nat.mul_le_mul_right
abbrev U45:=@List.takeWhile_append_dropWhile
abbrev U46:=@List.ext_getElem?
abbrev U47:=@List.map_map
abbrev U48:=@List.map_congr_left
abbrev U49:=@List.take_succ_cons
abbrev U4a:=@List.getElem_mem
abbrev U4b:=@Option.ite_none_right_eq_some
abbrev U4c:=@List.getElem_cons_zero
abbrev U4d:=@Array.getElem?_eq_none
abbrev U4e:=@Nat.le_of_eq
abbrev U4f:=@decide_eq_false
abbrev U4g:=@Go.Addr.add_lit
abbrev U4h:=@Bool.or_eq_true
abbrev U4i:=@List.set_append_right
abbrev U4j:=@List.singleton_append
abbrev U4k:=@Go.Maps.keyOf_int_mk
abbrev U4l:=@Bool.not_eq_true'
abbrev U4m:=@List.take_add_one
abbrev U4n:=@List.getElem_toArray
abbrev U4o:=@List.length_dropLast
abbrev U4p:=@List.replicate_succ'
abbrev U4q:=@Nat.pow_le_pow_right
abbrev U4r:=@List.mem_of_mem_take
abbrev U4s:=@List.getElem?_of_mem
abbrev U4t:=@List.mem_of_getLast?
abbrev U4u:=@Go.run_next_ascii
abbrev U4v:=@UInt8.toNat_lt
abbrev U4w:=@Bool.false_and
abbrev U4x:=@List.isEmpty_nil
abbrev U4y:=@Go.Lib.NumEnd.ok.injEq
abbrev U4z:=@List.length_reverse
abbrev U50:=@Nat.lt_or_ge
abbrev U51:=@Bool.false_or
open Pl 
theorem ExZ{α:Type}(a:α):∃x,a=x:=⟨_,rfl⟩
variable {P Q:Prop}
structure Kq(Q:Prop):Prop where
 o:Q
theorem _root_.Go.RowKit.Hid.o{p:Prop}(h:Go.RowKit.Hid p):p:=h
theorem J1(h:P:=by
 cases h;omega):P:=h
theorem J2(h:P:=by
 go_wp2
 all_goals go_ret
 all_goals (refine⟨O3r ?_,rfl⟩;rw[U3j];simp[V2r,V63];try omega)):P:=h
theorem J3(h:P:=by
 go_wp2_with fail
 go_ret
 exact⟨rfl,Gr.auto⟩):P:=h
theorem J4(h:P:=by
 simpa using this):P:=h
theorem J5(h:P:=by
 go_roundw
 case rel=>exact⟨1,rfl,.inr (.inl rfl),hg.alloc _⟩
 case measure=>simp[intOf]):P:=h
theorem J6(h:P:=by
 exfalso;rw[U1b cr]at aU;omega):P:=h
theorem J7(h:P:=by
 refine⟨⟨k+1,_,_,rfl,(by first|rfl|(congr 1;omega)),(by first|rfl|(congr 1;omega)),by omega,hR⟩,by simp[intOf];omega⟩):P:=h
theorem J8(h:P:=by
 rw[IntKind.wrap_u64,IntKind.wrap_u64];decide):P:=h
theorem J9(h:P:=by
 rw[<-decide_eq_emptyBytes];exact U4f (λ h=>a8 (by rw[h];rfl))):P:=h
theorem J10(h:P:=by
 go_wp2_with fail
 go_ret
 exact⟨rfl,rfl⟩):P:=h
theorem J11(h:P:=by
 rcases U50 2 w.heap.size with h'|h'
 exact h'
 rw[U4d h']at hp;cases hp):P:=h
theorem J12(h:P:=by
 simp only[U1s]at this;exact this):P:=h
theorem J13(h:P:=by
 rw[U17,Nat.pow_succ,Nat.mul_comm (16 ^ l.length) 16,<-Nat.mul_assoc];exact U44 _ (by omega)):P:=h
theorem J14(h:P:=by
 (repeat (first|refine Gr.setCell ?_ (by simp) _|refine Gr.drew ?_));exact (Gr.refl w).alloc _):P:=h
theorem J15(h:P:=by
 go_enter func127,ntmps127;go_wp2_with fail
 go_ret
 exact⟨by (rw[HX.o];try rfl),rfl⟩):P:=h
theorem J16(h:P:=by
 unfold V28
 split;simp
 split;simp
 split;rw[U2d];omega
 simp):P:=h
theorem J17(h:P:=by
 have:=U2b List.length hu;rw[U15]at this;simp only[U17]at this;omega):P:=h
theorem J18(h:P:=by
 exact O7l (d:=D) (t:=⟨#[]⟩) (p:=⟨#[]⟩) (z:=⟨#[]⟩) (n:=10) rfl rfl (O3t (O88 (O4p (O4o (O4n (O3t (O4n bz _) _) _) _) _) _) _) ⟨⟨D,⟨#[]⟩,⟨#[]⟩,⟨#[]⟩,by (rw[HY.o];try rfl),by (rw[HY.o];try rfl),by (rw[HY.o];try rfl),by (rw[HY.o];try rfl),by (rw[HY.o];try rfl),Gm.o,U2y _,U2y _,U2y _⟩,by (repeat refine Gr.setCell ?_ (U12 _) _);exact cx⟩):P:=h
theorem J19(h:P:=by
 exact⟨λ t e h=>by (simp only[Va.ok.injEq,U19]at h;omega),λ c p h=>by (simp at h),by simp⟩):P:=h
theorem J20(h:P:=by
 exact⟨λ e st' h=>by (simp at h),λ c' p' h=>by (cases h;exact⟨hb.2,by decide⟩)⟩):P:=h
theorem J21(h:P:=by
 exact⟨λ e' st' h=>by (simp only[Va.ok.injEq,U19]at h;omega),λ c' p' h=>by (simp at h)⟩):P:=h
theorem J22(h:P:=by
 exact⟨λ i e st' h=>by (simp at h),λ c' p' h=>by (simp at h)⟩):P:=h
theorem J23(h:P:=by
 exact⟨λ i e st' h=>by (simp at h),λ c' p' h=>by (cases h;exact⟨by omega,by decide⟩)⟩):P:=h
theorem J24(h:P:=by
 exact⟨by simp,λ l e st' h=>by simp at h⟩):P:=h
theorem J25(h:P:=by
 rw[U1l,U1o,U1o]
 split
 rename_i ha
 rw[U18 ha]at h;rw[ih (by simpa using h)]
 rfl):P:=h
theorem J26(h:P:=by
 rename_i e;simp only[U24]at e;exact absurd e.1 fC):P:=h
theorem J27(h:P:=by
 rename_i e;simp only[U24]at e;exact absurd e.1 de):P:=h
theorem J28(h:P:=by
 split at h;exact J26;exact J27;cases h
 split;exact J26;exact J27;exact J26
 exact h):P:=h
theorem J29(h:P:=by
 rename_i x1 x2 x3;exact absurd rfl (x3 _)):P:=h
theorem J30(h:P:=by
 simp only[Va.ok.injEq,U19]at h;omega):P:=h
theorem J31(h:P:=by
 have a9:=HT.o;exact St.auto):P:=h
theorem J32(h:P:=by
 rw[U2v _ _ _ (by rw[U1p _ _ _ _ (by simp),h1];rfl)]):P:=h
theorem J33(h:P:=by
 rw[U1p _ _ _ _ (by simp),U2v _ _ _ (by rw[h0];rfl)]):P:=h
theorem J34(h:P:=by
 intro o;rw[World.frozen?_setCell,World.frozen?_setCell]):P:=h
theorem J35(h:P:=by
 rename_i h;simp only[U24]at h;obtain⟨rfl,rfl,rfl,_⟩:=h;simp[Pl.pre]):P:=h
theorem J36(h:P:=by
 have:=h ⟨c.toNat,c.toNat_lt⟩;exact J4):P:=h
theorem J37(h:P:=by
 simp only[U2j]at e1;rw[e1,e2]at hb;simp only[U24]at hb;exact hb.1):P:=h
theorem J38(h:P:=by
 have h1:Gr w ((w.alloc (.cells #[.pointer (some ⟨R,0,none⟩)] 172)).alloc (.cells #[(0:Int),(0:Int)] 29)):=Gr.auto;exact h1.trans g1):P:=h
theorem J39(h:P:=by
 have a9:=HT.o;have ei:=hg.o;exact St.auto):P:=h
theorem J40(h:P:=by
 refine (O8e _ R s a q out ov (RdQ.auto iE.o) (HQ.o.es.gr Gr.auto) T (HQ.o.sh.gr Gr.auto) aa hs (by omega)).mono ?_;rw[HX.o];cases sr with
 |bad p =>
  exact J173
 |go n t over =>
  obtain rfl:=HO.o n t over rfl;rintro e w2 ⟨rfl,aG,hr,a9⟩;refine Z18 ?_;intro aE dj aL;refine Z161 ?_;intro HR HT;have eX:¬FQ R aG (w.heap.size+1):=λ hF=>by
   rcases HT.o.own _ hF with hF|hF
   have:=HS.o.own_lt hF;omega
   simp at hF;omega
  clear hr a9;go_wp2_with fail;refine U11 (v:=.tuple #[.bool false,f0]) (by simp[results,results251,go_sem,aE,ah,dG,dl]) rfl ⟨rfl,aG,RdQ.auto HR.o,?_⟩;exact J39):P:=h
theorem J41(h:P:=by
 obtain⟨es,ph,h1,F,hs,hD⟩:=h;exact⟨es,ph,hb.trans h1,F,hs,hD⟩):P:=h
theorem J42(h:P:=by
 rcases h.nodes.2 with⟨_,h0⟩|⟨g,cap,cur,hv,cn,xt,h1,h2,h3,h4⟩
 omega
 have ho:own g=3:=h.oN g (by rw[hv];rfl);refine⟨g,cap,cur,hv,cn,(h.lt g (by omega)).2,ho,λ e=>?_,λ e=>?_,xt,h3,h1,h2,h4⟩;subst e;rw[h.oR]at ho;omega
 subst e;rw[h.oB]at ho;omega):P:=h
theorem J43(h:P:=by
 have q:∀(f n:Nat)(out:Bs),V2p step (u++r) f n out=.ok (t,k)->n<k:=by
  intro f
  induction f with
  |zero=>intro n out h;simp[V2p]at h
  |succ f ih =>
   intro n out h;unfold V2p at h
   split at h;cases h
   split at h;cases h
   cases h
   rename_i m t' over hs
   have:=ad _ _ _ _ hs
   split at h;exact J30
   have:=ih _ _ h;omega
 exact q _ _ _ h):P:=h
theorem J44(h:P:=by
 exact⟨h1,λ t k h=>by (have:=h2 t k h;omega),λ c' p h=>by (have:=h4 c' p h;omega)⟩):P:=h
theorem J45(h:P:=by
 exact absurd rfl a8):P:=h
theorem J46(h:P:=by
 have:=U30.2 hk;rw[U4o];omega):P:=h
theorem J47(h:P:=by
 unfold V3p at h
 split at h;cases h
 cases h
 split at h;cases h
 cases h;rfl):P:=h
theorem J48(h:P:=by
 simp only[Va.ok.injEq,U19]at h;rw[<-h.2];exact⟨h.1,ha,by simp[h0]⟩):P:=h
theorem J49(h:P:=by
 split at he;cases he
 cases he
 simp only[Va.ok.injEq,U19]at he;rw[<-he.2.2];exact hp):P:=h
theorem J50(h:P:=by
 simp[O40]at this;omega):P:=h
theorem J51(h:P:=by
 rw[show 0+(Vb (i0++[u])).length+2=0+1+(Vb (i0++[u])).length+1 by omega];refine O1k (c:=93) ?_;rw[<-U27,O1k kB];simp):P:=h
theorem J52(h:P:=by
 exact Od bZ (λ k hk=>by simp[Value.ownBlock]at hk;subst hk;exact nY) _):P:=h
theorem J53(h:P:=by
 simpa using block_setCell (i:=0) hb (.slice (some ⟨g,0,none⟩) (L.length+1) cap)):P:=h
theorem J54(h:P:=by
 rw[hg.block R (by omega) (λ e=>by have:=h.oN R e.symm;rw[h.oR]at this;omega),g1.block hR.2];exact h.blk):P:=h
theorem J55(h:P:=by
 rcases cR with ha|ha
 exact .inl (h.oN g ha)
 by_cases e:own g=0;exact .inr ⟨e,by omega⟩
 have:=(h.lt g e).2;omega):P:=h
theorem J56(h:P:=by
 refine⟨?_,?_,?_,by omega,?_,?_⟩;subst am;exact H.st.os;subst am;exact H.st.tape;subst am;exact H.st.output
 intro k hk hn;refine jx k hk (λ e=>hn ?_) (λ e=>hn ?_);subst e;unfold FV;omega
 unfold FI at e;unfold FV;omega
 intro k hk
 replace hk:(if kv.ownBlock=some k then 4+3*i else if sv.ownBlock=some k then 5+3*i else if uv.ownBlock=some k then 6+3*i else own k)≠0:=hk
 have fi:∀b,FI own i b\/w.heap.size<=b->FV own b\/w.heap.size<=b:=λ b e=>e.imp (λ e=>by unfold FI at e;unfold FV;omega) id
 exact J206):P:=h
theorem J58(h:P:=by
 refine Z106 ?_;intro aC;refine Reg.on 9 ?_;skip;refine Z109 ?_;intro gK aJ V4 ho hg ha hz cG db;have jC:=U10 (dq.o.appK (n:=r.nd.keys.length+1) (cap:=aJ) hg ha);have jB:=U10 (cb.o.appK (n:=r.nd.keys.length+1) (cap:=aJ) hg ha);exact J200):P:=h
theorem J59(h:P:=by
 refine Z106 ?_;intro aC;refine Reg.on 9 ?_;skip;refine Z109 ?_;intro gK aJ V4 ho hg ha hz cG db;have jB:=U10 (cb.o.appK (n:=r.nd.keys.length+1) (cap:=aJ) hg ha);have jC:=U10 (dq.o.appK (n:=r.nd.keys.length+1) (cap:=aJ) hg ha);exact J200):P:=h
theorem J60(h:P:=by
 have e1:(V12 r.nd (bs key) (a,b) n).keys.length=r.nd.keys.length+1:=by simp[V12]
 have e2:(V12 r.nd (bs key) (a,b) n).spots.length=r.nd.spots.length+1:=by simp[V12]
 have e3:(V12 r.nd (bs key) (a,b) n).subs.length=r.nd.subs.length+1:=by simp[V12]
 have e4:Oj (V12 r.nd (bs key) (a,b) n).keys=Oj r.nd.keys++[.string key]:=by simp only[V12,Oj,U2o,U35,List.map_nil,Ono]
 have e5:Oc (V12 r.nd (bs key) (a,b) n).spots=Oc r.nd.spots++[.int .i64 a,.int .i64 b]:=by simp[V12,Oc]
 have e6:O8 (V12 r.nd (bs key) (a,b) n).subs=O8 r.nd.subs++[.int .i64 n]:=by simp[V12,O8]
 rw[e1,e2,e3,e4,e5,e6];exact H):P:=h
theorem J61(h:P:=by
 go_wp2_with (go_at_call 63;refine (O1i _ s.size rfl _).mono ?_;rintro e w3 ⟨rfl,g3⟩;obtain⟨kC,A2,j9⟩:=g3.use;have p0:w3.cell? ⟨w.heap.size,0,none⟩=some (.int .i64 0):=(kC _ _ (by omega)).trans m0;have p1:w3.cell? ⟨w.heap.size,1,none⟩=some (.int .i64 0):=(kC _ _ (by omega)).trans m1;have p2:w3.frozen? ⟨w.heap.size,0,none⟩=false:=(A2 _ _ (by omega)).trans m2;have p3:w3.frozen? ⟨w.heap.size,1,none⟩=false:=(A2 _ _ (by omega)).trans m3;clear kC A2);refine U11 (v:=.tuple #[.string ⟨#[]⟩,(0:Int),fv 3 s.size]) (by simp[results,results40,go_sem,p0,p1,p2,p3]) rfl ?_;rw[<-V8x _ _ _ _ _ _ dU.o a8 (by rw[U15,O0];omega)];refine⟨by rw[U15,O0,show n+(s.size-n)=s.size from by omega],by omega,Gr.auto⟩):P:=h
theorem J62(h:P:=by
 obtain⟨k,a,out,ov,hr,hx,LM,Pi,Bi,hg,hz,m0,m1,m2,m3⟩:=hrel;obtain⟨e0,e1,e2,e3,ez⟩:=hr.cells;have eQ:=O9f hr;have HP:=U10 eQ;have HR:=U10 hr;have dU:=U10 hx;clear hr hx d0 d1 d2 d3 dz e3 eQ;by_cases aa:a<s.size
 ·obtain⟨k,rfl⟩:∃k',k=k'+1:=by
   cases k with
   |zero=>exact absurd dU.o.symm a8
   |succ k=>exact⟨k,rfl⟩
  refine Z233 ?_;intro sr sS kA;go_wp2_with fail;cases sr with
  |bad p =>
   refine (O6s true q _ _ s a out ov HR.o aa hs Bi T (rI.o.gr hg) _ sS.o).mono ?_;exact J116
  |go m t over =>
   have jL:=V46 _ _ _ _ _ _ _ sS.o;rw[U15,O0]at jL;refine (O6s true q _ _ s a out ov HR.o aa hs Bi T (rI.o.gr hg) _ sS.o).mono ?_;exact J103
 exact J61):P:=h
theorem J63(h:P:=by
 go_simp;refine Z2 ?_;refine Reg.on 2 ?_;skip;go_simp;refine (O46 gK (acc.length+1) aJ zE.1 zE.2 _).mono ?_;refine Z44 ?_;refine Z83 ?_;exact J195):P:=h
theorem J64(h:P:=by
 exact .inr (by omega)):P:=h
theorem J65(h:P:=by
 have:=Er.o;rw[<-bX]at this;exact this):P:=h
theorem J66(h:P:=by
 rintro (hf|hf)
 rcases d8.o _ hf with e|e
 exact bO e
 have:=fy.o;omega
 have:=(ej.o _ hf).2;have:=fy.o;omega):P:=h
theorem J67(h:P:=by
 go_wp2_with (refine (O1x _ _ az _).mono ?_;rintro e w' ⟨rfl,rfl⟩)
 all_goals go_ret2
 all_goals exact⟨by rw[hR.o];rfl,rfl⟩):P:=h
theorem J68(h:P:=by
 clear aU dJ e1
 go_wp2
 all_goals go_ret2
 all_goals exact⟨by rw[hR.o];rfl,rfl⟩):P:=h
theorem J69(h:P:=by
 rw[jy,show (⟨#[]⟩:ByteArray).size=0 from rfl];have h5:bs (s.extract 0 s.size)=bs s:=by rw[O3];rfl
 exact U31 (U32.1 h5)):P:=h
theorem J70(h:P:=by
 simp only[U1g,U1x]at h2;unfold V2g;rw[U18 (by omega)];omega):P:=h
theorem J71(h:P:=by
 exact Oj1 HX.o _ _ _ _ _ _ _ _ HK.o rfl rfl rfl rfl rfl):P:=h
theorem J72(h:P:=by
 refine Z44 ?_;clear hV;cases V with
 |false =>
  have HV:Hid (V25 (bs s)=.bad 3 0):=U10 (by rw[HX.o,U1b (λ h=>by have h2:=h.symm.trans Bj.o;cases h2)]);clear HX;go_wp2_with fail;exact U11 (v:=.tuple #[.string ⟨#[]⟩,(3:Int)]) (by simp[results,results100,go_sem]) rfl ⟨O1t HV.o,Gr.auto⟩
 |true =>
  have HV:Hid (V25 (bs s)=V17 (Lib.trimPrefix (Vo (bs s)) [43])):=U10 (HX.o.trans (U18 Bj.o));clear HX;go_wp2_with fail;refine (O1j s hs _ (HW.o.gr Gr.auto)).mono ?_;rintro e w8 ⟨rfl,g8⟩;obtain⟨L1,Bk⟩:∃L1:ByteArray,⟨(Lib.replaceAll (bs s) [95] []).toArray⟩=L1:=⟨_,rfl⟩
  have Bl:bs L1=Vo (bs s):=by rw[<-Bk,O1w];rfl
  rw[Bk];have HL:=U10 Bl;clear Bk Bl;go_wp2_with fail;refine (strings_TrimPrefix L1 ⟨#[43]⟩ _).mono ?_;refine Z44 ?_;obtain⟨L2,u'⟩:∃L2:ByteArray,⟨(Lib.trimPrefix L1.data.toList (ByteArray.mk #[43]).data.toList).toArray⟩=L2:=⟨_,rfl⟩
  have xv:bs L2=Lib.trimPrefix (Vo (bs s)) [43]:=by rw[<-u',O1w,<-HL.o]
  have Gn:L2.size<=20000000:=by
   rw[<-O0,xv];have h1:=V45 (bs s);rw[O0]at h1;unfold Lib.trimPrefix
   split;rw[U15];omega
   omega
  rw[u'];have Pj:=U10 xv;clear u' xv;go_wp2_with fail;refine (Oo2 L2 Gn _ (HW.o.gr Gr.auto)).mono ?_;rintro e ca ⟨hp,eR⟩;rw[Pj.o,<-HV.o]at hp;have HP:=U10 hp;clear hp;unfold Op at HP;cases hX:V25 (bs s) with
  |ok x =>
   rw[hX]at HP;have he:=HP.o;subst he;clear HV;go_wp2_with fail;exact U11 (v:=.tuple #[.string ⟨x.toArray⟩,(0:Int)]) (by simp[results,results100,go_sem]) rfl ⟨(by rw[hX];rfl),Gr.auto⟩
  |bad c p =>
   rw[hX]at HP;have he:=HP.o;subst he;go_wp2_with fail;exact U11 (v:=.tuple #[.string ⟨#[]⟩,c]) (by simp[results,results100,go_sem]) rfl ⟨(by rw[hX];rfl),Gr.auto⟩):P:=h
theorem J73(h:P:=by
 go_enter func163,ntmps163;go_wp2_with fail
 go_ret
 exact⟨by (rw[HY.o];try rfl),rfl⟩):P:=h
theorem J74(h:P:=by
 obtain⟨p0,p1,p2,p3,p4,pf,hz⟩:=Ob xj;cases v1 with
 |false =>
  have HY:Hid (V4j c=false):=U10 (by rw[HX.o,AW,B5,zC];rfl);go_wp2_with fail
  go_ret
  exact⟨by (rw[HY.o];try rfl),nT⟩
 |true =>
  have HY:Hid (V4j c=v2):=U10 (by rw[HX.o,AW,B5,zC];rfl);go_wp2_with fail;refine (AV.o _).mono ?_;rintro e w8 ⟨rfl,g8⟩;have Bm:=nT.trans g8;go_wp2_with fail
  go_ret
  exact⟨by (rw[HY.o];try rfl),Bm⟩):P:=h
theorem J75(h:P:=by
 have hj:j<7:=by have:=(U16.1 hv).1;rw[O1f]at this;exact this
 have:=h1.cells (g:=g) rfl (i*7+j) v (by rw[O7m _ _ _ hj,hi];exact hv);rw[U4g,U1q]at this;exact (U1r (w:=wr) (a:=⟨g,i*7+j,none⟩) (hb g (by omega) (by omega))).trans this):P:=h
theorem J76(h:P:=by
 rw[O4b,U14 _ _ _ _ br,U14 _ _ _ _ br];exact gM):P:=h
theorem J77(h:P:=by
 rw[O4b,U14 _ _ _ _ br,U14 _ _ _ _ br];exact gL):P:=h
theorem J78(h:P:=by
 exact⟨none,0,by rw[e,e2]⟩):P:=h
theorem J79(h:P:=by
 rw[U1b cS]at ag;exact absurd ag.symm a8):P:=h
theorem J80(h:P:=by
 rw[U1j,U1d (by omega),<-U1j]):P:=h
theorem J81(h:P:=by
 have h1:la<ws.length:=by have:=eC.o;omega
 exact⟨ws[la].1,ws[la].2.1,ws[la].2.2,U1h h1⟩):P:=h
theorem J82(h:P:=by
 refine Z87 ?_;exact (g5.use.1 _ _ (U13 dR.o.rl dP.o.size)).trans eM):P:=h
theorem J83(h:P:=by
 refine Z300 ?_;go_wp2_with fail
 go_meet
 exact O4z ao ((((Gr.refl W).alloc (.cells #[(0:Int),(0:Int)] 29)).alloc (.cells #[(0:Int),(0:Int)] 67)).drew) (Gr.refl _) aa dR.o.rl (by omega) (by omega) (by omega) (.inl (by show _<((W.alloc _).alloc _).heap.size;rw[zb];omega)) (.inl (by show _<((W.alloc _).alloc _).heap.size;rw[zb];omega)) f5 f6):P:=h
theorem J84(h:P:=by
 refine Z300 ?_;go_wp2_with fail
 go_meet
 exact O4z ao (((Gr.refl W).alloc (.cells #[(0:Int),(0:Int)] 29)).drew) (gb) aa dR.o.rl (by omega) (by omega) (by omega) (.inr (U12 _)) (.inl (by show _<(W.alloc _).heap.size;rw[za];omega)) f5 f6):P:=h
theorem J85(h:P:=by
 refine Z300 ?_;go_wp2_with fail
 go_meet
 exact O4z ao ((((Gr.refl W).alloc (.cells #[(0:Int),(0:Int)] 67)).alloc (.cells #[(0:Int),(0:Int)] 29)).drew) (Gr.refl _) aa dR.o.rl (by omega) (by omega) (by omega) (.inl (by show _<((W.alloc _).alloc _).heap.size;rw[zb];omega)) (.inl (by show _<((W.alloc _).alloc _).heap.size;rw[zb];omega)) f5 f6):P:=h
theorem J86(h:P:=by
 refine Z300 ?_;go_wp2_with fail
 go_meet
 exact O4z ao (((Gr.refl W).alloc (.cells #[(0:Int),(0:Int)] 67)).drew) (gb) aa dR.o.rl (by omega) (by omega) (by omega) (.inl (by show _<(W.alloc _).heap.size;rw[za];omega)) (.inr (U12 _)) f5 f6):P:=h
theorem J87(h:P:=by
 refine Z300 ?_;go_wp2_with fail
 go_meet
 exact O4z ao ((Gr.refl W).drew) (g3) aa dR.o.rl (by omega) (by omega) (by omega) (.inr (by omega)) (.inr (by omega)) f5 f6):P:=h
theorem J88(h:P:=by
 refine Z87 ?_;exact gc.o.v.cells.1.2.2.1):P:=h
theorem J89(h:P:=by
 obtain⟨W,hW⟩:=ExZ (w.alloc (.cells #[(0:Int),(0:Int)] 29))
 have fM:St (λ k=>k=I) (λ k=>k=I) w W:=by rw[<-hW];exact (St.refl _ w).alloc _
 rw[hW]at Gp Es⊢;have ie:FX w.heap.size (0:Int) (0:Int) W.drew:=Gp.gr (Gr.refl _).drew;clear hW;refine Z94 ?_;obtain⟨q0,q1,qf,ql⟩:=Gp;refine Z189 ?_;refine Z12 ?_;go_wp2_with fail;refine U11 (v:=.tuple #[n,f0]) (by simp[results,results91,go_sem,q0,q1,qf,ql]) rfl ?_;rw[<-HX.o];refine⟨rfl,hn,St.auto,Vp,Vp,Vp,?_,?_⟩;rw[O4b,U14 _ _ _ _ br,U14 _ _ _ _ br];exact Es
 exact⟨O16 (Or _ _ _ _),O16 (Or _ _ _ _),.inl ⟨rfl,rfl⟩⟩):P:=h
theorem J90(h:P:=by
 go_upto_region 3 with (go_at_call 85;refine (Oq ⟨#[35,13,10]⟩ _ true Gq.o _).mono ?_;rintro e w3 ⟨⟨i,rfl,hi⟩,rfl⟩;have eY:decide (i<0)=false:=by (simp at hi⊢;omega))
 try clear aF
 have cE:=iF.o;have aC:=cE.gr (Gr.refl w1).drew;clear p0 p1 pf pl p2 p3 fD fE p4 p5 df cX;obtain⟨⟨p0,p1,pf,pl⟩,⟨p2,p3,fD,fE⟩,⟨p4,p5,df,cX⟩⟩:=id cE;refine Reg.begin' (W:=λ _=>true) (S:=WB3 w.heap.size (0:Int) (0:Int) (.slice none 0 0) (0:Int) (0:Int) (0:Int)) (by kernel_rfl) ?_;refine Z4 ?_;go_wp2_with fail;obtain⟨⟨q0,q1,qf,ql⟩,⟨y0,y1,yf,yl⟩,⟨mC,mD,mF,mG⟩⟩:=aC;have gE:=dn.o.drew;rw[<-ag];exact U11 (v:=.tuple #[.agg #[(0:Int),(0:Int)],.agg #[.slice none 0 0,(0:Int)],f0]) (by simp[results,results58,go_sem,q0,q1,qf,ql,y0,y1,yf,yl,mC,mD,mF,mG]) rfl ⟨0,_,[],w1.drew.heap.size,nv,L,own,x,rfl,rfl,rfl,H.o.gr gE,(St.refl (FV own) w).gr gE,λ k hk => .inl hk,.inl ⟨rfl,rfl⟩,rfl,gE.size,λ k hk=>U1e λ h=>by have:=(H.o.v.lt k h).2;have:=gE.size;omega⟩):P:=h
theorem J91(h:P:=by
 (intro w;go_simp;refine (U1b (by first|omega|(simp[U2r];omega))).trans ?_;try with_reducible rfl)):P:=h
theorem J92(h:P:=by
 refine⟨⟨k+1,by simp,by omega,HM.o⟩,by simp[intOf];omega⟩):P:=h
theorem J93(h:P:=by
 by_cases hj:j<i;rw[U18 hj,U18 (by omega)]
 rw[U1b hj,U1b (by omega)]):P:=h
theorem J94(h:P:=by
 refine Z99 ?_;refine Z12 ?_;have dk:Gr w w4:=(dc.drew.trans g3).trans g4;clear g3 g4 dc c0 c1 c2 aa bi aC;obtain⟨⟨c0,c1,c2⟩,aa⟩:=ci;go_wp2_with fail;obtain⟨bH,lZ,m7⟩:=HY.o (by simp);cases Y with
 |ok v =>
  obtain⟨nN,lP⟩:=lZ v rfl;have HP:Hid (∀W,V4d W->Calls prog 134 #[.string T,bb,(64:Int)] W λ e w'=>e=.returned (.tuple #[v,.nilIface])/\Gr W w'):=λ W hW=>by
   obtain⟨ep,he⟩:=hW.err;exact m7 W ep he
  refine Z119 ?_;intro HV;clear m7 lZ bH HY nN lP
  go_region_held3 (O_s bg bb ds w1.heap.size) (first|exact⟨⟨c0,c1,c2⟩,aa⟩|assumption|exact O_s.gr (by assumption) (by assumption)|go_keep) (first|(go_at_call 135;refine (O1j D (by omega) _ (HW.o.gr Gr.auto)).mono ?_;rw[<-HL.o];rintro e w5 ⟨rfl,g5⟩)|(go_at_call 134;refine (HP.o _ (HW.o.gr Gr.auto)).mono ?_;rintro e w6 ⟨rfl,g6⟩))
  exact J194
 |range =>
  have HP:Hid (∀W,V4d W->Calls prog 134 #[.string T,bb,(64:Int)] W λ e w'=>(∃(k:Int)(N:Nat)(ep:Addr),e=.returned (.tuple #[k,.iface 260 (.pointer (some ⟨N,0,none⟩))])/\w'.cell? ⟨N,2,none⟩=some (.iface 288 (.pointer (some ep)))/\w'.cell? ⟨1,0,none⟩=some (.iface 288 (.pointer (some ep))))/\Gr W w'):=λ W hW=>by
   obtain⟨ep,he⟩:=hW.err;refine (m7 W ep he).mono ?_;rintro e w' ⟨⟨k,N,rfl,hN⟩,g⟩;exact⟨⟨k,N,ep,rfl,hN,(g.use.1 _ _ (Lib.lt_of_cell he)).trans he⟩,g⟩
  clear m7 lZ bH HY
  go_region_held3 (O_s bg bb ds w1.heap.size) (first|exact⟨⟨c0,c1,c2⟩,aa⟩|assumption|exact O_s.gr (by assumption) (by assumption)|go_keep) (first|(go_at_call 135;refine (O1j D (by omega) _ (HW.o.gr Gr.auto)).mono ?_;rw[<-HL.o];rintro e w5 ⟨rfl,g5⟩)|(go_at_call 134;refine (HP.o _ (HW.o.gr Gr.auto)).mono ?_;rintro e w6 ⟨⟨k,N,ep,rfl,hN,hE⟩,g6⟩))
  exact J196
 |_=>exact absurd rfl bH):P:=h
theorem J95(h:P:=by
 simp only at dt;refine Z133 ?_;rintro e w5 ⟨rfl,l0,Em,L5,cm,uP,rfl,cW,en⟩;have xg:¬FV ac w.heap.size:=λ hf=>by
  rcases jM.o _ hf with e|e
  exact bO e
  have:=fy.o;omega
 have fZ:Hid (∀k,cm k≠0->own k≠0\/z0<=k):=λ k hk=>by
  rcases en k hk with e|e
  exact jM.o k e
  exact .inr (U1k Bn.o e)
 have uQ:¬FV cm w.heap.size:=λ hf=>by
  rcases fZ.o _ hf with e|e
  exact bO e
  have:=fy.o;omega
 have fV:=e9.o.st cW xg;have j7:=U10 (fV.set (0:Int) (0:Int));refine Z74 ?_;intro iA fU;have vd:z0<=w5.heap.size:=U1k Bn.o cW.size;obtain⟨a0,a1,af,al⟩:=fV;obtain⟨e2,mP⟩:=ExZ (V7 (bs s) n2)
 have B9:e2<=s.size:=by have:=V8 (bs s) n2 (by rw[O0];omega);rw[O0]at this;omega
 rw[mP]at dt;have Gs:=U10 dt;have Ba:=U10 mP;clear dt cW hP uP en mP Bo Gt aW e9 mL jH jM;go_wp2_with fail;refine Z153 ?_;intro w6 g6;have sQ:z0<=w6.heap.size:=by have:=g6.size;simp[World.setCell]at this;omega
 have oY:=U10 (j7.o.gr g6);have kP:=U10 (iA.o.gr g6);have ik:=U10 (fU.o.gr g6);have gO:=kP.o.cells.2.2.1;clear g6 a0 a1 af al j7 iA fU;go_wp2_with fail;refine Z223 ?_;intro w7 g7 fY l8 sR ij zZ;clear g7 gO oY kP ik;go_wp2_with fail;refine Z262 ?_;refine Z44 ?_;have dt:=Gs.o;by_cases hb:V9 (bs s) e2=125
 ·rw[U18 hb]at dt;have bz:(((V9 (bs s) e2:Nat):Int)==125)=true:=by simp;omega
  have lT:Hid (e2<s.size):=U3a λ aQ=>by rw[O13 s e2 (by omega)]at hb;omega
  have ag:=HX.o;rw[<-dt]at ag;simp only at ag;cases aX:Pl.kind8 (L5.map (·.nd)) T with
  |false=>rw[aX,U1b (by simp)]at ag;exact absurd ag.symm HN.o
  |true =>
  rw[aX,U18 rfl]at ag;have bV:=U10 ag;have uO:=U10 aX;have nU:=sR;have rE:=l8;have mI:=ij;have d8:=fZ;clear ag aX dt hb zZ;have jx:IntKind.i64.wrap ((e2:Int)+1)=(e2:Int)+1:=U1i _ ⟨by have:=lT.o;omega,by have:=lT.o;omega⟩;obtain⟨rT,sX⟩:∃r,(L5)[T]?=some r:=by
   have hk:=uO.o;unfold Pl.kind8 at hk;rw[U1g,U1m]at hk
   replace hk:=hk.2
   cases hl:(L5)[T]? with
   |none=>rw[hl]at hk;cases hk
   |some x=>exact⟨x,rfl⟩
  have rC:T<(L5).length:=(U16.1 sX).1;obtain⟨gN,i9,Gu,ld,Gv,Gw,Gx,Gy,Gz,pi,xw,GA,GB,xx⟩:=nU.o.form (by omega);have bN:=nU.o.cells;rw[ld]at bN;obtain⟨a0,a1,a2,a3,af⟩:=bN;have xy:∀o,w7.frozen? ⟨gN,o,none⟩=false:=λ o=>unfrozen_of_block pi o
  have nQ:(0:Int)<=(T:Int):=by omega
  have eY:(T:Int)<((L5).length:Int):=by omega
  have oL:Hid (RdV w7 R B base s root (.slice (some ⟨gN,0,none⟩) (L5).length i9) L5 cm):=by rw[<-ld];exact nU.o
  obtain⟨p0,p1,pf,pl⟩:=rE.o;obtain⟨_,_,_,_,_,n5,n6,_⟩:=oL.o.ndCells rfl T rT sX;have GC:w7.cell? ⟨gN,T*7+5+1,none⟩=some (.int .i64 rT.nd.sp.2):=n6;clear n6;have Pk:w.heap.size≠gN:=λ e=>by
   have:own gN≠0\/z0<=gN:=d8.o gN (by omega);rcases this with e2|e2
   exact bO (by unfold FV;rw[e];exact e2)
   have:=fy.o;omega
  have AX:=U10 sX;clear sX pi xx xw ld;go_wp2_with fail;refine Z102 ?_;intro dm ia cJ;have xb:¬FV cm w.heap.size:=λ hf=>by
   rcases d8.o _ hf with e|e
   exact bO e
   have:=fy.o;omega
  refine Z137 ?_;intro kS wS fA;rw[fA]at ia cJ kS⊢;clear fA dm p0 p1 pf pl n5 GC xy a0 a1 a2 a3 af;obtain⟨p0,p1,pf,pl⟩:=kS.o
  go_region
  all_goals go_wp2_with fail
  refine Z104 ?_;rfl
 rw[U1b hb]at dt;have bz:(((V9 (bs s) e2:Nat):Int)==125)=false:=by simp;omega
 obtain⟨q0,q1,qf,ql⟩:=l8.o;by_cases dH:V9 (bs s) e2=44
 ·rw[U18 dH]at dt;have ay:(((V9 (bs s) e2:Nat):Int) != 44)=false:=by simp;omega
  have Pm:e2<s.size:=U3a λ aQ=>by rw[O13 s e2 (by omega)]at dH;omega
  have TW:IntKind.i64.wrap ((e2:Int)+1)=(e2:Int)+1:=U1i _ ⟨by omega,by omega⟩;have GD:=U10 dt;clear dt hb dH;go_wp2_with fail;refine Z262 ?_;refine Z44 ?_;go_wp2_with fail;refine (Oa s _ (e2+1) (by simp) (by omega) (by omega) _).mono ?_;rintro e ca ⟨rfl,eR⟩;have Bc:V7 (bs s) (e2+1)<=s.size:=by have:=V8 (bs s) (e2+1) (by rw[O0];omega);rw[O0]at this;omega
  have iH:=ij.o.gr eR;have uY:=U10 iH;have Bd:=U10 (l8.o.gr eR);have Gk:=U10 (sR.o.gr eR);have Gl:z0<=ca.heap.size:=U1k fY eR.size;clear iH eR zZ q0 q1 qf ql l8 sR ij;go_wp2_with fail
  go_roundg gk
  case measure=>omega
  case rel =>
   refine Z237 ?_;exact GD.o
 rw[U1b dH]at dt;have ay:(((V9 (bs s) e2:Nat):Int) != 44)=true:=by simp;omega
 have bV:Hid (Va.bad 3 e2=X):=by
  have:=HX.o;rw[<-dt]at this;exact this
 clear dt hb dH;go_wp2_with fail;refine Z262 ?_;refine Z44 ?_;go_wp2_with fail;refine (O3s e2 e2 rfl _).mono ?_;rintro e ca ⟨rfl,eR⟩;obtain⟨u0,u1,uf,ul⟩:=l8.o.gr eR;have iH:=ij.o.gr eR;clear q0 q1 qf ql zZ;go_wp2_with fail;rw[<-bV.o];exact U11 (v:=.tuple #[(0:Int),(0:Int),fv 3 e2]) (by simp[results,results46,go_sem,u0,u1,uf,ul]) rfl ⟨rfl,by omega,_,(iH.setCell (.inr (U12 _)) _).setCell (.inr (U12 _)) _,((sR.o.rk.gr eR).set (by omega) _).set (by omega) _⟩):P:=h
theorem J96(h:P:=by
 refine Z1 ?_;intro gU ow V6 kP wK kx wL wM wN AP;go_wp2_with fail
 go_end0
 exact⟨rfl,mQ.o V6 (.slice (some ⟨gK,0,none⟩) (r.nd.keys.length+1) aJ) (.slice (some ⟨gS,0,none⟩) (r.nd.spots.length+1) cH) (.slice (some ⟨gU,0,none⟩) (r.nd.subs.length+1) ow) kP.o⟩):P:=h
theorem J97(h:P:=by
 refine Z17 ?_;intro gS cH V4 cG mw wO ci wP wQ wR wT;refine Z2 ?_;refine Reg.ty 15 ?_;refine Reg.on 16 ?_;go_simp;refine Z2 ?_;refine Reg.ty 17 ?_;refine Z12 ?_;refine Z91 ?_;intro xa VE Eg oJ;clear xa wP wQ wR wT;rw[Eg]at oJ⊢;clear Eg;have HK:=U10 oJ;clear oJ;go_wp2_with fail;refine Z58 ?_;intro w3 g3 p0 p1 p2 p3 p4 p5 p6 p7 uN oF a HA nO rA;by_cases jG:V9 (bs s) a=46
 ·rw[U18 jG]at rA;refine Z268 ?_;intro aa;rw[byteAt_lt s a aa]at jG;have sY:((a:Int)==(s.size:Int))=false:=by simp;omega
  have sZ:((s[a].toNat:Int) != 46)=false:=by simp;omega
  refine Z146 ?_;intro bx cd uK ay;clear rA jG;go_wp2_with (go_at_call 20;refine (Oa s _ (a+1) (by omega) (by omega) (by omega) _).mono ?_;rintro e5 w5 ⟨rfl,g5⟩)
  go_roundw
  case rel =>
   have aR:V7 (bs s) (a+1)<=s.size:=ay.2
   first
    |exact⟨V7 (bs s) (a+1),eS,e,_,_,_,rfl,rfl,aR,uK.o,oF.o.gr g5,by simp;omega⟩
    |((repeat apply Exists.intro);exact⟨⟨V7 (bs s) (a+1),eS,e,_,_,_,rfl,rfl,aR,uK.o,oF.o.gr g5,by simp;omega⟩,rfl⟩)
  case measure =>
   have aR:a+1<=V7 (bs s) (a+1):=ay.1;simp[intOf];omega
 rw[U1b jG]at rA;refine Z69 ?_;intro oH uK bx;clear rA jG;obtain⟨kq,TX⟩:∃kq,kq=1:=⟨_,rfl⟩
 rcases oH with sY|⟨aa,sY,sZ⟩
 all_goals
  go_wp2_with fail;refine Z150 ?_;intro VV Ej sM;clear Ej p0 p1 p2 p3 p4 p5 p6 p7;refine Z165 ?_;intro p0 p1 p2 p3 p4 p5 p6 p7 oA G9 AU lS;clear sM;refine Z70 ?_;intro zD zE Ed;clear AU lS;refine Z111 ?_;refine Z14 ?_;intro j hj;rcases hj with rfl|rfl
  ·refine Reg.one (i:=1) rfl (by rfl) ?_;go_simp;refine Z2 ?_;refine Reg.all (rs:=[2,4]) (by kernel_rfl) (by simp) ?_;refine Z14 ?_;intro j hj;rcases hj with rfl|rfl
   ·refine Z208 ?_;refine Z44 ?_;refine Z83 ?_;refine Reg.on 4 ?_;skip;go_simp;refine Z2 ?_;exact J195
   refine Z274 ?_;exact J63
  refine Z274 ?_;go_simp;refine Z2 ?_;refine Reg.on 1 ?_;skip;exact J63):P:=h
theorem J98(h:P:=by
 rintro e w1 ao;cases X with
 |non=>exact absurd rfl HN.o
 |bad c p =>
  obtain⟨rfl,hc,F',a9,jN⟩:=ao;have rN:=U10 jN;clear jN;refine Z23 ?_;intro a0 a1 af al fR;have HC:=U10 hc;clear a9 hc;go_wp2_with fail;exact U11 (v:=.tuple #[(0:Int),(0:Int),fv c p]) (by simp[results,results24,go_sem,a0,a1,af,al]) rfl ⟨rfl,HC.o,F',(fR.o.setCell (.inr (U12 _)) _).setCell (.inr (U12 _)) _,(rN.o.set (by omega) _).set (by omega) _⟩
 |ok r =>
  obtain⟨iv,m,st'⟩:=r;obtain⟨rfl,hm,hi,nv',L',own',eD,LG,a9,bB⟩:=ao;refine Z23 ?_;intro a0 a1 af al fR;refine Z80 ?_;intro av cl Gc;have A3:¬FV own' w.heap.size:=λ hf=>by
   rcases cl.o _ hf with e|e
   exact bO e
   omega
  clear a9 eD bB LG;go_wp2_with fail;exact U11 (v:=.tuple #[iv,m,f0]) (by simp[results,results24,go_sem,a0,a1,af,al]) rfl ⟨rfl,hm,hi,nv',L',own',(av.o.setCell A3 _).setCell A3 _,Gc.o,(fR.o.setCell (.inr (U12 _)) _).setCell (.inr (U12 _)) _,λ k hk=>(cl.o k hk).imp id (λ e=>by omega)⟩):P:=h
theorem J99(h:P:=by
 obtain⟨p0,p1,p2,p3,p4,pf,hz⟩:=Ob dH;cases b1 with
 |false =>
  refine Z89 ?_;intro HY;go_wp2_with fail
  go_ret
  exact⟨by (rw[HY.o];try rfl),dk⟩
 |true =>
  go_wp2_with fail;refine Z200 ?_;intro w5 g5 ig dc;clear g5 dH dk p0 p1 p2 p3 p4 pf hz;obtain⟨p0,p1,p2,p3,p4,pf,hz⟩:=Ob ig;cases b2 with
  |false =>
   refine Z89 ?_;intro HY;go_wp2_with fail
   go_ret
   exact⟨by (rw[HY.o];try rfl),dc⟩
  |true =>
   go_wp2_with fail;refine Z201 ?_;intro w6 g6 kU eI;clear g6 ig dc p0 p1 p2 p3 p4 pf hz;obtain⟨p0,p1,p2,p3,p4,pf,hz⟩:=Ob kU;cases b3 with
   |false =>
    refine Z89 ?_;intro HY;go_wp2_with fail
    go_ret
    exact⟨by (rw[HY.o];try rfl),eI⟩
   |true =>
    have B5:B=true:=tB;rcases HC.o with⟨z1,zC⟩|⟨z1,z2,v1,v2,zC,zL,zM⟩
    ·refine Z176 ?_;intro HY;go_wp2_with fail
     go_ret
     exact⟨by (rw[HY.o];try rfl),eI⟩
    refine Z88 ?_;intro k1 k4 x9 AV;clear zL zM;go_wp2_with fail;refine Z202 ?_;intro w7 g7 xj nT;clear g7 kU eI p0 p1 p2 p3 p4 pf hz;exact J74):P:=h
theorem J100(h:P:=by
 refine Z99 ?_;refine Z12 ?_;have dk:Gr w w4:=(bC.drew.trans g3).trans g4;clear g3 g4 bC c0 c1 c2 aa bi aC;obtain⟨⟨c0,c1,c2⟩,aa⟩:=ci;go_wp2_with fail;obtain⟨bH,lZ,m7⟩:=HY.o (by simp);cases Y with
 |ok v =>
  obtain⟨nN,lP⟩:=lZ v rfl;have HP:Hid (∀W,V4d W->Calls prog 134 #[.string T,bb,(64:Int)] W λ e w'=>e=.returned (.tuple #[v,.nilIface])/\Gr W w'):=λ W hW=>by
   obtain⟨ep,he⟩:=hW.err;exact m7 W ep he
  refine Z119 ?_;intro HV;clear m7 lZ bH HY nN lP
  go_region_held3 (O_s bg bb ds w1.heap.size) (first|exact⟨⟨c0,c1,c2⟩,aa⟩|assumption|exact O_s.gr (by assumption) (by assumption)|go_keep) (first|(go_at_call 135;refine (O1j s (by omega) _ (HW.o.gr Gr.auto)).mono ?_;rw[<-HL.o];rintro e w5 ⟨rfl,g5⟩)|(go_at_call 134;refine (HP.o _ (HW.o.gr Gr.auto)).mono ?_;rintro e w6 ⟨rfl,g6⟩))
  exact J194
 |range =>
  have HP:Hid (∀W,V4d W->Calls prog 134 #[.string T,bb,(64:Int)] W λ e w'=>(∃(k:Int)(N:Nat)(ep:Addr),e=.returned (.tuple #[k,.iface 260 (.pointer (some ⟨N,0,none⟩))])/\w'.cell? ⟨N,2,none⟩=some (.iface 288 (.pointer (some ep)))/\w'.cell? ⟨1,0,none⟩=some (.iface 288 (.pointer (some ep))))/\Gr W w'):=λ W hW=>by
   obtain⟨ep,he⟩:=hW.err;refine (m7 W ep he).mono ?_;rintro e w' ⟨⟨k,N,rfl,hN⟩,g⟩;exact⟨⟨k,N,ep,rfl,hN,(g.use.1 _ _ (Lib.lt_of_cell he)).trans he⟩,g⟩
  clear m7 lZ bH HY
  go_region_held3 (O_s bg bb ds w1.heap.size) (first|exact⟨⟨c0,c1,c2⟩,aa⟩|assumption|exact O_s.gr (by assumption) (by assumption)|go_keep) (first|(go_at_call 135;refine (O1j s (by omega) _ (HW.o.gr Gr.auto)).mono ?_;rw[<-HL.o];rintro e w5 ⟨rfl,g5⟩)|(go_at_call 134;refine (HP.o _ (HW.o.gr Gr.auto)).mono ?_;rintro e w6 ⟨⟨k,N,ep,rfl,hN,hE⟩,g6⟩))
  exact J196
 |_=>exact absurd rfl bH):P:=h
theorem J101(h:P:=by
 have hR:=SY dJ;clear SY RG NX;unfold V2g at hd;by_cases bS:48<=c.toNat/\c.toNat<=57
 ·obtain⟨h1,h2⟩:=bS;rw[U18 ⟨h1,h2⟩]at hd
  first
  |(exfalso;omega)
  | (subst hd
     go_wp2
     go_ret2
     exact⟨by rw[hR.o];rfl,rfl⟩)
 rw[U1b bS]at hd;by_cases aY:97<=c.toNat/\c.toNat<=122;have az:=O2b c aY;rw[U18 aY]at hd;obtain⟨h1,h2⟩:=aY;clear bS;exact J208
 rw[U1b aY]at hd;by_cases cr:65<=c.toNat/\c.toNat<=90;have az:=O2a c cr;rw[U18 cr]at hd;obtain⟨h1,h2⟩:=cr;clear bS aY;exact J208
 clear hd;by_cases Et:c.toNat=95
 ·rw[Et]at hc;clear bS aY cr;go_wp2_with (refine (O1x 95 127 (by decide +kernel) _).mono ?_;rintro e w' ⟨rfl,rfl⟩)
  go_ret2
  exact⟨by rw[hR.o];rfl,rfl⟩
 exact J199):P:=h
theorem J102(h:P:=by
 refine Reg.all (rs:=[11,15,16]) (by kernel_rfl) (by simp) ?_;refine Z14 ?_;intro j hj;rcases hj with rfl|rfl|rfl
 skip;refine Reg.one (i:=11) rfl (by rfl) ?_;refine Z297 ?_;rintro e w2 ao;obtain⟨n,d,c,q,rfl,ac,a9⟩:=ao.open bH;dsimp only;refine Z47 ?_;refine Reg.all (rs:=[15,16]) (by kernel_rfl) (by simp) ?_;refine Z14 ?_;intro j hj;rcases hj with rfl|rfl
 skip;refine Z113 ?_;refine Z7 ?_;refine Reg.on 16 ?_;refine Z7 ?_;refine Z38 ?_;intro hv fa ga W3 g3 r0 r1 rf rl k0 k1 kf kl f5 f6 gb;refine Z314 ?_;exact J87
 skip;refine Z155 ?_;refine Z7 ?_;refine Reg.on 15 ?_;refine Z7 ?_;refine Z37 ?_;intro hv fa ga W3 g3 r0 r1 rf rl k0 k1 kf kl f5 f6 gb;refine Z314 ?_;exact J87
 skip;refine Z113 ?_;refine Z72 ?_;refine Reg.all (rs:=[11,16]) (by kernel_rfl) (by simp) ?_;refine Z14 ?_;intro j hj;rcases hj with rfl|rfl
 skip;refine Reg.one (i:=11) rfl (by rfl) ?_;refine Z145 ?_;rintro e w2 ao;obtain⟨n,d,c,q,rfl,ac,a9⟩:=ao.open bH;dsimp only;refine Z47 ?_;refine Reg.on 16 ?_;refine Z7 ?_;refine Z30 ?_;intro hv fa ga za oC ry W3 r0 r1 rf rl k0 k1 kf kl f5 f6 gb;refine Z314 ?_;exact J86
 skip;refine Z155 ?_;refine Z53 ?_;refine Reg.on 11 ?_;refine Z93 ?_;rintro e w2 ao;obtain⟨n,d,c,q,rfl,ac,a9⟩:=ao.open bH;dsimp only;refine Z47 ?_;refine Z28 ?_;intro hv fa ga za gb f5 f6 r0 r1 rf rl k0 k1 kf kl fb zb;refine Z314 ?_;exact J85
 skip;refine Z155 ?_;refine Z71 ?_;refine Reg.all (rs:=[11,15]) (by kernel_rfl) (by simp) ?_;refine Z14 ?_;intro j hj;rcases hj with rfl|rfl
 skip;refine Reg.one (i:=11) rfl (by rfl) ?_;refine Z144 ?_;rintro e w2 ao;obtain⟨n,d,c,q,rfl,ac,a9⟩:=ao.open bH;dsimp only;refine Z47 ?_;refine Reg.on 15 ?_;refine Z7 ?_;refine Z29 ?_;intro hv fa ga za oC ry W3 r0 r1 rf rl k0 k1 kf kl f5 f6 gb;refine Z314 ?_;exact J84
 skip;refine Z113 ?_;refine Z52 ?_;refine Reg.on 11 ?_;refine Z92 ?_;rintro e w2 ao;obtain⟨n,d,c,q,rfl,ac,a9⟩:=ao.open bH;dsimp only;refine Z47 ?_;refine Z27 ?_;intro hv fa ga za gb f6 f5 r0 r1 rf rl k0 k1 kf kl fb zb;refine Z314 ?_;exact J83):P:=h
theorem J103(h:P:=by
 rintro e w2 ⟨rfl,aG,cL,a9⟩;refine Z105 ?_;intro hu aL cw;have p0:w2.cell? ⟨w.heap.size,0,none⟩=some (.int .i64 0):=(hu.1 0).trans m0;have p1:w2.cell? ⟨w.heap.size,1,none⟩=some (.int .i64 0):=(hu.1 1).trans m1;have p2:w2.frozen? ⟨w.heap.size,0,none⟩=false:=(hu.2 0).trans m2;have p3:w2.frozen? ⟨w.heap.size,1,none⟩=false:=(hu.2 1).trans m3;refine Z127 ?_;intro eE Pn;have td:∀k,FQ (w.heap.size+1) aG k->w.heap.size+1<=k:=λ k hF=>by
  rcases a9.own k hF with hF|hF
  exact (HR.o.own_lt hF).1
  omega
 refine Z225 ?_;intro g0 g1 g2 g3 gz aP dE;clear a9 hu aL m0 m1 m2 m3 cL e0 e1 e2 ez;cases over with
 |false =>
  go_wp2_with fail
  go_roundw
  case rel =>
   refine⟨k,a+m,out++t,aG,aP.o.alloc _,?_,by omega,by omega,by simp;omega,cw.alloc _,by simp;omega,?_,?_,?_,?_⟩
   ·have:=kA.o;simp only[U1v,U2c]at this;rw[show a+m-n=a-n+m from by omega];exact this
   all_goals (simp[go_sem,eE];try assumption)
  case measure =>
   rw[O9f (aP.o.alloc _),HP.o];omega
 |true =>
  go_wp2_with fail
  go_region
  all_goals go_wp2_with fail
  all_goals
   refine Z285 ?_;have:=kA.o;simp only[U2i]at this;rw[<-this];refine⟨by rw[show n+(a-n+m)=a+m from by omega],by omega,by omega,Gr.auto⟩):P:=h
theorem J104(h:P:=by
 go_wp2_with (refine (O1x _ _ az _).mono ?_;rintro e w' ⟨rfl,rfl⟩)
 go_ret2
 exact⟨by rw[hR.o];rfl,rfl⟩):P:=h
theorem J105(h:P:=by
 have hR:=SY dJ;clear SY RG NX;unfold V2g at hd;by_cases bS:48<=c.toNat/\c.toNat<=57
 ·obtain⟨h1,h2⟩:=bS;rw[U18 ⟨h1,h2⟩]at hd
  first
  |(exfalso;omega)
  | (subst hd
     go_wp2
     all_goals go_ret2
     exact⟨by rw[hR.o];rfl,rfl⟩)
 rw[U1b bS]at hd;by_cases aY:97<=c.toNat/\c.toNat<=122;have az:=O2b c aY;rw[U18 aY]at hd;obtain⟨h1,h2⟩:=aY;clear bS;subst hd;exact J67
 rw[U1b aY]at hd;by_cases cr:65<=c.toNat/\c.toNat<=90;have az:=O2a c cr;rw[U18 cr]at hd;obtain⟨h1,h2⟩:=cr;clear bS aY;subst hd;exact J67
 clear hd;by_cases Et:c.toNat=95
 ·rw[Et]at hc;clear bS aY cr;go_wp2_with (refine (O1x 95 127 (by decide +kernel) _).mono ?_;rintro e w' ⟨rfl,rfl⟩)
  all_goals go_ret2
  all_goals exact⟨by rw[hR.o];rfl,rfl⟩
 exact J199):P:=h
theorem J106(h:P:=by
 clear bR dw ha;by_cases bS:48<=c.toNat/\c.toNat<=57
 ·obtain⟨h1,h2⟩:=bS;rw[U18 ⟨h1,h2⟩]at aU;refine Z177 ?_;intro e1;rw[e1]at dK;try rw[e1]at hR
  have gP:(c.toNat:Int)-48<16:=by omega
  clear aU dJ e1
  go_wp2
  exact J7
 rw[U1b bS]at aU;by_cases aY:97<=c.toNat/\c.toNat<=122
 ·have az:=O2b c aY;rw[U18 aY]at aU;obtain⟨h1,h2⟩:=aY;clear bS;refine Z179 ?_;intro e1;rw[e1]at dK;try rw[e1]at hR
  have gP:(c.toNat:Int)-87<16:=by omega
  clear aU dJ e1;exact J205
 rw[U1b aY]at aU;by_cases cr:65<=c.toNat/\c.toNat<=90
 ·have az:=O2a c cr;rw[U18 cr]at aU;obtain⟨h1,h2⟩:=cr;clear bS aY;refine Z178 ?_;intro e1;rw[e1]at dK;try rw[e1]at hR
  have gP:(c.toNat:Int)-55<16:=by omega
  clear aU dJ e1;exact J205
 exact J6):P:=h
theorem J107(h:P:=by
 have dc:=ja.o.trans kz;clear p0 p1 pf pl p2 p3 fD fE v0 v1 vf vl hF;refine Z42 ?_;rintro e w6 ao;obtain⟨ec,eq,rfl,ac,aM⟩:=ao.open lf;have fc:∀k,w.heap.size<=k->¬FV own k:=λ k hk e=>by have:=(H.o.v.lt k e).2;omega
 have fJ:=aC.1.st aM (λ k h1 _=>fc k h1);have kx:=And.intro fJ (aC.2.st aM (fc bK (by omega)));refine Z76 ?_;obtain⟨⟨p0,p1,pf,pl⟩,⟨p2,p3,fD,fE⟩,⟨p4,p5,df,cX⟩⟩:=id fJ;refine Reg.on 5 ?_;go_simp;rw[O5 fJ.i.1,O5 fJ.i.2.1];refine Z76 ?_;refine Reg.on 6 ?_;go_simp;rw[O5 fJ.t.1,O5 fJ.t.2.1];refine Z76 ?_;refine Reg.on 7 ?_;refine Z300 ?_;go_wp2_with fail;refine Z67 ?_;intro WF am q0 q1 qf ql y0 y1 yf yl mC mD mF mG Ec;exact U11 (v:=.tuple #[.agg #[(0:Int),(0:Int)],.agg #[.slice none 0 0,(0:Int)],.agg #[ec,eq]]) (by simp[results,results58,go_sem,q0,q1,qf,ql,y0,y1,yf,yl,mC,mD,mF,mG]) rfl Ec):P:=h
theorem J108(h:P:=by
 refine Z118 ?_;intro k4 ku Ge Gf Gg Gh aO;clear ay
 go_upto_region 10 with fail
 refine Z193 ?_;intro hS;refine Reg.takeY (i:=1) (v:=?_) rfl (by kernel_rfl) (by kernel_rfl) (by kernel_rfl) (λ _ _ _ h=>h) (by rfl) ?_ ?_;rotate_left;exact J91
 refine Z49 ?_;refine Z84 ?_;intro w4 q4 wY g4 ci wZ;refine Z33 ?_;refine Reg.takeY (i:=9) (v:=?_) rfl (by kernel_rfl) (by kernel_rfl) (by kernel_rfl) (λ _ _ _ h=>h) (by rfl) ?_ ?_;rotate_left;exact J91
 refine Z49 ?_;refine Reg.takeY (i:=10) (v:=?_) rfl (by kernel_rfl) (by kernel_rfl) (by kernel_rfl) (λ _ _ _ h=>h) (by rfl) ?_ ?_;rotate_left;exact J91
 refine Z49 ?_;refine Reg.on 11 ?_;refine Z300 ?_;go_wp2_with fail
 go_roundw
 case rel=>exact⟨m+1,_,ub,rfl,rfl,by omega,Po.o,by rw[<-Gg.o,Og,Og,Og,wY];simp[bs],(zJ.o.trans (Gr.refl wq).drew).trans g4⟩
 case measure=>simp[intOf];omega):P:=h
theorem J109(h:P:=by
 rw[hq]at hp HF;obtain⟨rfl,aG,hr,a9⟩:=hp;obtain⟨ah,ap⟩:=a9.use w.heap.size (by omega) iJ;have ax:=a9.size;have r0:w1.cell? ⟨w.heap.size,0,none⟩=some (.int .i64 0):=(ah _).trans m0;have r1:w1.cell? ⟨w.heap.size,1,none⟩=some (.int .i64 0):=(ah _).trans m1;have r2:w1.frozen? ⟨w.heap.size,0,none⟩=false:=(ap _).trans m2;have r3:w1.frozen? ⟨w.heap.size,1,none⟩=false:=(ap _).trans m3;refine Z161 ?_;intro aN bv;have HQ:=U10 HF;clear hr a9 ah ap m0 m1 m2 m3 hq HF;go_wp2_with fail;refine Z264 ?_;rw[HX.o,HQ.o];refine⟨rfl,aG,?_,?_⟩
 have eX:¬FQ R aG w.heap.size:=λ hF=>by
  rcases bv.o.own _ hF with hF|hF
  exact iJ hF
  omega
 have fd:=aN.o;exact RdQ.auto fd
 have eh:St (FQ R ov) (FQ R aG) w w1:=HG.o.st.trans bv.o;have a9:=eh;exact St.auto):P:=h
theorem J110(h:P:=by
 obtain⟨y0,y1,yf,yl⟩:=eo.gr g4;have jt:=(g4.block (U1a.1 vg).1).trans vg;refine Z54 ?_;intro eB dc i0 i1 i2 i3 i4 i5 i6 i7 i8 eV eW v0 v1 vf vl WF am oE zI zF zG;clear vg eo cV dk g4 am
 try clear q0 q1 qf ql
 go_wp2_with fail
 go_region
 all_goals rw[oE.o]
 all_goals clear oE i0 i1 i2 i3 i4 i5 i6 i7 i8 eV eW v0 v1 vf vl jt eB dc
 all_goals obtain⟨⟨i0,i1,i2,i3,i4,i5,i6,i7,i8⟩,eV,eW⟩:=O50 zI
 all_goals obtain⟨v0,v1,vf,vl⟩:=id zF
 all_goals go_wp2_with fail
 all_goals refine U11 (v:=.tuple #[itZ,fv c p]) (by simp[results,results59,go_sem,i0,i1,i2,i3,i4,i5,i6,i7,i8,v0,v1]) rfl ?_
 all_goals (rw[<-HX.o];first|exact⟨rfl,hc,zG⟩|exact⟨rfl,hc,zG.drew⟩|exact⟨rfl,hc,zG.drew.drew⟩)):P:=h
theorem J111(h:P:=by
 rw[hP]at dt;simp only at dt;refine Z133 ?_;refine Z116 ?_;intro w5 hc F5 cW xA;have xg:¬FV ac w.heap.size:=λ hf=>by
  rcases jM.o _ hf with e|e
  exact bO e
  have:=fy.o;omega
 refine Z123 ?_;intro j7 fU bV HC a0 a1 af al kR;clear dt cW hP hc;go_wp2_with fail;refine Z231 ?_;intro w6 g6;obtain⟨u0,u1,uf,ul⟩:=j7.o.gr g6;have dx:=fU.o.gr g6;have GE:=xA.o.gr g6;clear g6 a0 a1 af al;go_wp2_with fail
 go_region
 all_goals go_wp2_with fail
 rw[<-bV.o];exact U11 (v:=.tuple #[(0:Int),(0:Int),fv c p]) (by simp[results,results46,go_sem,u0,u1,uf,ul]) rfl ⟨rfl,HC.o,F5,((dx.setCell (.inr (U12 _)) _).setCell (.inr (U12 _)) _).drew,((GE.set (by omega) _).set (by omega) _).drew⟩):P:=h
theorem J112(h:P:=by
 clear aU dJ e1;go_wp2_with (refine (O1x _ _ az _).mono ?_;rintro e w' ⟨rfl,rfl⟩)
 all_goals refine⟨⟨k+1,_,_,rfl,(by first|rfl|(congr 1;omega)),(by first|rfl|(congr 1;omega)),by omega,hR⟩,by simp[intOf];omega⟩):P:=h
theorem J113(h:P:=by
 refine Z34 ?_;intro gN i9 V4 cG;refine Z2 ?_;have A4:=rN.o V4 cG.o.st;obtain⟨k7,k8,kf⟩:=A4;refine Z190 ?_;refine Z2 ?_;refine Reg.ty 19 ?_;refine Reg.ty 20 ?_;refine Reg.on 21 ?_;refine Z300 ?_;go_wp2_with fail
 go_meet
 exact Ooi pk.o xB.o cG.o (by simp) (Pp.o.add it _ _ _) (by rw[<-Pq.o];simp)):P:=h
theorem J114(h:P:=by
 refine Z75 ?_;refine Z112 ?_;intro av ak aj;have aq:=sV.o.alloc (.cells #[a,b] 38);refine Z216 ?_;intro V2 hV;rw[hV]at av ak aj aq⊢;clear hV;refine Z48 ?_;intro aP cj;have fB:=U10 aq;have dS:=U10 ak;clear av ak aj aq;refine Z32 ?_;intro bi;refine Reg.on 8 ?_;skip;refine Z134 ?_;intro av au aj;have aq:=fB.o.alloc (.cells #[.string key] 9);have ak:=dS.o.alloc (.cells #[.string key] 9);refine Z255 ?_;intro V3 hV;rw[hV]at av au aj aq ak⊢;clear hV;refine Z48 ?_;intro aW bE;have dq:=U10 aq;have cb:=U10 ak;have mJ:=U10 au;clear av au aj aq ak;exact J58):P:=h
theorem J115(h:P:=by
 refine Z66 ?_;refine Z152 ?_;intro av aq aj;have ak:=sW.o.alloc (.cells #[n] 3);refine Z253 ?_;intro V2 hV;rw[hV]at av aq aj ak⊢;clear hV;refine Z48 ?_;intro aP cj;have dS:=U10 ak;have fB:=U10 aq;clear av aq aj ak;refine Z32 ?_;intro bi;refine Reg.on 8 ?_;skip;refine Z134 ?_;intro av au aj;have ak:=dS.o.alloc (.cells #[.string key] 9);have aq:=fB.o.alloc (.cells #[.string key] 9);refine Z255 ?_;intro V3 hV;rw[hV]at av au aj ak aq⊢;clear hV;refine Z48 ?_;intro aW bE;have cb:=U10 ak;have dq:=U10 aq;have mJ:=U10 au;clear av au aj ak aq;exact J59):P:=h
theorem J116(h:P:=by
 rintro e w2 ⟨rfl,F',a9⟩;refine Z105 ?_;intro hu aL cw;have p0:w2.cell? ⟨w.heap.size,0,none⟩=some (.int .i64 0):=(hu.1 0).trans m0;have p1:w2.cell? ⟨w.heap.size,1,none⟩=some (.int .i64 0):=(hu.1 1).trans m1;have p2:w2.frozen? ⟨w.heap.size,0,none⟩=false:=(hu.2 0).trans m2;have p3:w2.frozen? ⟨w.heap.size,1,none⟩=false:=(hu.2 1).trans m3;have eE:w.heap.size<w2.heap.size:=by omega
 clear a9 hu aL m0 m1 m2 m3;go_wp2_with fail
 go_region
 all_goals go_wp2_with fail
 all_goals
  refine Z251 ?_;refine⟨by rw[show n+(a-n+p)=a+p from by omega],by omega,Gr.auto⟩):P:=h
theorem J117(h:P:=by
 rw[hq]at hp HF;obtain⟨rfl,a9⟩:=hp;obtain⟨ah,ap⟩:=a9.use w.heap.size (by omega) iJ;have ax:=a9.size;have r0:w1.cell? ⟨w.heap.size,0,none⟩=some (.int .i64 0):=(ah _).trans m0;have r1:w1.cell? ⟨w.heap.size,1,none⟩=some (.int .i64 0):=(ah _).trans m1;have r2:w1.frozen? ⟨w.heap.size,0,none⟩=false:=(ap _).trans m2;have r3:w1.frozen? ⟨w.heap.size,1,none⟩=false:=(ap _).trans m3;have bv:=U10 a9;have HQ:=U10 HF;clear a9 ah ap m0 m1 m2 m3 hq HF;go_wp2_with fail;refine Z271 ?_;intro eh a9;exact⟨rfl,St.auto⟩):P:=h
theorem J118(h:P:=by
 go_wp2_with fail;refine (O1i _ (a+2) (by omega) _).mono ?_;rintro e w2 ⟨rfl,g2⟩;obtain⟨ah,ap,aL⟩:=g2.use;have q0:w2.cell? ⟨w.heap.size,0,none⟩=some (.int .i64 0):=(ah _ _ (by omega)).trans n0;have q1:w2.cell? ⟨w.heap.size,1,none⟩=some (.int .i64 0):=(ah _ _ (by omega)).trans n1;have q2:w2.frozen? ⟨w.heap.size,0,none⟩=false:=(ap _ _ (by omega)).trans n2;have q3:w2.frozen? ⟨w.heap.size,1,none⟩=false:=(ap _ _ (by omega)).trans n3;clear ah ap n0 n1 n2 n3;go_wp2_with fail;refine Z241 ?_;intro a9;exact⟨rfl,St.auto⟩):P:=h
theorem J119(h:P:=by
 obtain⟨z1,z2⟩:=V1q _ 48 _ hz;have HZ:Hid ((bs D)[0]?=some 48):=U10 (by
  have h2:=O9 D 0 e0;simp only[U2j]at h2;rw[h2];simp only[U2e,U1f,<-U20]
  simpa using hz)
 clear hz;refine Z5 ?_;intro w4 g4 ci;refine Z73 ?_;refine Z99 ?_;refine Z12 ?_;have dk:Gr w w4:=(dc.drew.trans g3).trans g4;exact J203):P:=h
theorem J120(h:P:=by
 exact⟨λ i e st' h=>by (simp only[Va.ok.injEq,U19]at h;omega),λ c' p' h=>by (simp at h)⟩):P:=h
theorem J121(h:P:=by
 rintro e w4 hp;obtain⟨x,y,z,rfl⟩:=hp.form mS.o;obtain⟨q0,q1,qf,ql⟩:=vh.st (hp.st mS.o) (by simpa using U3p br);clear i0 i1 i2 i3 i4 i5 i6 i7 i8 eV eW;go_wp2_with fail;refine Z173 ?_;exact hp.setF2 A5 (U12 _) Bp br _ _):P:=h
theorem J122(h:P:=by
 go_wp2_with fail;refine Z292 ?_;intro w3 kk x cc jJ g3;obtain⟨cT,hx,dF⟩:=jJ;have hF:=d9.gr g3;have d7:Gr w w3:=cx.trans g3;clear g3 cx d9;subst dF hx cT;go_wp2_with fail;have hS:FX w.heap.size (0:Int) (0:Int) w3.drew:=hF.gr (Gr.refl _).drew;refine Z163 ?_;refine Z31 ?_;refine Z40 ?_;refine Z60 ?_;intro w4 nv' own' p0 p1 pf pl eX H3 AR AS;refine Z12 ?_;go_wp2_with fail;refine Z143 ?_;exact (AR.o.setCell (.inr (U12 _)) _).setCell (.inr (U12 _)) _):P:=h
theorem J123(h:P:=by
 clear g3;go_wp2_with fail;exact U11 (v:=.tuple #[.string ⟨#[]⟩,(3:Int)]) (by simp[results,results99,go_sem]) rfl ⟨O1t (zO.o (by simp)),d7⟩):P:=h
theorem J124(h:P:=by
 clear aU dJ e1;exact J205):P:=h
theorem J125(h:P:=by
 intro k hk
 replace hk:(if kv.ownBlock=some k then 4+3*i else if sv.ownBlock=some k then 5+3*i else if uv.ownBlock=some k then 6+3*i else own k)≠0:=hk
 have fi:∀b,FI own i b\/w.heap.size<=b->own b≠0\/w.heap.size<=b:=λ b e=>e.imp (λ e=>by unfold FI at e;omega) id
 exact J206):P:=h
theorem J126(h:P:=by
 obtain⟨rfl,rfl⟩:=hrel;go_wp2_with fail
 go_step3
 go_wp2_with fail
 go_quiet (fail)
 go_wp2_with fail
 go_quiet ((go_at_call 85;first|exact O5z (Of9 _ _ c hl _) ⟨_,rfl⟩|exact O3d (Of9 _ _ c hl _) ⟨_,rfl⟩))
 exact J202):P:=h
theorem J127(h:P:=by
 go_wp2_with fail
 go_region
 all_goals go_wp2_with fail
 have A6:X=.bad 5 a:=by have:=HX.o;rw[<-vj.o]at this;exact this.symm
 rw[A6];exact U11 (v:=.tuple #[(0:Int),fv 5 a]) (by simp[results,results76,go_sem,q0,q1,qf,ql]) rfl ⟨rfl,by omega,FV own',((bv.o.setCell (.inr (U12 _)) _).setCell (.inr (U12 _)) _).drew,((av.o.rk.set (by omega) _).set (by omega) _).drew⟩):P:=h
theorem J128(h:P:=by
 go_wp2_with fail;refine Z292 ?_;intro w3 kk x cc jJ g3;obtain⟨rfl,hc⟩:=jJ;obtain⟨q0,q1,qf,ql⟩:=d9.gr g3;have TY:((cc:Int) != 0)=true:=by simp;omega
 have d7:Gr w w3:=cx.trans g3;clear g3 cx d9;go_wp2_with fail;exact U11 (v:=.tuple #[(0:Int),(0:Int),fv cc n]) (by simp[results,results42,go_sem,q0,q1,qf,ql]) rfl ⟨rfl,hc,FV own,St.auto,H.o.rk.gr Gr.auto⟩):P:=h
theorem J129(h:P:=by
 have s2:decide ((256:Int)<(d:Int)+2)=true:=by simp;omega
 rw[U18 gQ]at ag;have iB:=(HE.o.gr G7.o)
 obtain⟨r0,r1,rf,rl⟩:=id iB;go_wp2_with fail;refine Z68 ?_;intro AT WF q0 q1 qf ql sF aE;exact U11 (v:=fv 4 a) (by simp[results,results87,go_sem,q0,q1,qf,ql]) rfl ⟨rfl,by decide,own',sF,aE,λ k hk=>(jI.o k hk).imp id (λ h=>by have:=HG.o.size;omega)⟩):P:=h
theorem J130(h:P:=by
 refine Z35 ?_;intro av ak aj;have au:=cU.o.alloc (.cells #[a,b] 38);have aq:=fB.o.alloc (.cells #[a,b] 38);refine Z129 ?_;intro V3 hV;rw[hV]at av ak aj au aq⊢;clear hV;refine Z48 ?_;intro aW bE;have mJ:=U10 au;have dq:=U10 aq;have cb:=U10 ak;clear av ak aj au aq;exact J58):P:=h
theorem J131(h:P:=by
 refine Z35 ?_;intro av ak aj;have aq:=fB.o.alloc (.cells #[a,b] 38);have au:=cU.o.alloc (.cells #[a,b] 38);refine Z129 ?_;intro V3 hV;rw[hV]at av ak aj aq au⊢;clear hV;refine Z48 ?_;intro aW bE;have dq:=U10 aq;have mJ:=U10 au;have cb:=U10 ak;clear av ak aj aq au;exact J58):P:=h
theorem J132(h:P:=by
 refine Z55 ?_;refine Reg.tl 2 hS ?_ (hy:=by intro w ab;obtain⟨q0,q1,q2⟩:=ab;go_simp;try with_reducible rfl);refine Z40 ?_;refine Z186 ?_;intro k1 Ek cF cx;refine Z64 ?_;refine Z316 ?_;refine Z12 ?_;go_wp2_with fail;exact U11 (v:=.string R) (by simp[results,results178,go_sem]) rfl ⟨⟨R,rfl,HR.o⟩,cx⟩):P:=h
theorem J133(h:P:=by
 refine Z56 ?_;intro av aq aj;have au:=cU.o.alloc (.cells #[n] 3);have ak:=dS.o.alloc (.cells #[n] 3);refine Z169 ?_;intro V3 hV;rw[hV]at av aq aj au ak⊢;clear hV;refine Z48 ?_;intro aW bE;have mJ:=U10 au;have cb:=U10 ak;have dq:=U10 aq;clear av aq aj au ak;exact J59):P:=h
theorem J134(h:P:=by
 refine Z56 ?_;intro av aq aj;have ak:=dS.o.alloc (.cells #[n] 3);have au:=cU.o.alloc (.cells #[n] 3);refine Z169 ?_;intro V3 hV;rw[hV]at av aq aj ak au⊢;clear hV;refine Z48 ?_;intro aW bE;have cb:=U10 ak;have mJ:=U10 au;have dq:=U10 aq;clear av aq aj ak au;exact J59):P:=h
theorem J135(h:P:=by
 rw[hv];refine (slices_Index_string b 0 r.nd.keys.length c (r.nd.keys.map λ k=>(⟨k.toArray⟩:ByteArray)) key w (by simp) (by unfold maxLen at eF;omega) ?_).mono ?_;intro j hj;rw[U1n]at hj;rw[U1q];refine bN j _ ?_;simp[Oj,hj,List.getD]
 refine Z44 ?_;rw[U3x (by simp),du];exact⟨rfl,rfl⟩):P:=h
theorem J136(h:P:=by
 go_enter func162,ntmps162;go_wp2_with fail
 try rw[hU]
 refine (HA.o _).mono ?_;rintro e w1 ⟨rfl,g1⟩;go_wp2_with fail
 go_ret
 exact⟨by (rw[HY.o];try rfl),g1⟩):P:=h
theorem J137(h:P:=by
 intro n hn h1 h2;subst hn;exact U10 ⟨by omega,by omega,by rw[be];simp[h1,h2]⟩):P:=h
theorem J138(h:P:=by
 go_enter func40,ntmps40;go_wp2_with (go_at_call 63;refine (O1i _ n rfl _).mono ?_;rintro e w1 ⟨rfl,g1⟩;obtain⟨ah,ap,ax⟩:=g1.use;simp at ax);exact U11 (v:=.tuple #[.string ⟨#[]⟩,(0:Int),fv 3 n]) (by simp[results,results40,go_sem,ah,ap]) rfl ⟨rfl,Gr.auto⟩):P:=h
theorem J139(h:P:=by
 rw[U1m]at hi;cases hx:L[i]? with
 |none=>rw[hx]at hi;cases hi
 |some x =>
  rw[hx]at hi;cases hi;have hR:=hr.rows i x hx;exact⟨λ k e=>hR.tk k (by rw[<-O31];exact e),λ k e=>hR.ts k (by rw[<-O31];exact e),λ k e=>hR.tu k (by rw[<-O31];exact e)⟩):P:=h
theorem J140(h:P:=by
 have q:=t2 g1 ht;refine⟨by simp,λ into root nds g1 he=>?_⟩;simp only[Va.ok.injEq,U19]at he;obtain⟨rfl,rfl,rfl,rfl⟩:=he;exact⟨q.gi,by have:=q.le;omega,q.ge,q.its,q.ns,by rw[q.many];omega,.inr (by have:=q.dep;omega),λ hp=>by rw[iL.2.2 (by omega)]at hp;cases hp⟩):P:=h
theorem J141(h:P:=by
 intro k hk;rw[bY];by_cases h0:own k=0
 split at hk;rename_i e;have:=H.k.lt k e;exact this
 split at hk;rename_i e;have:=H.s.lt k e;exact this
 split at hk;rename_i e;have:=H.u.lt k e;exact this
 exact absurd h0 hk
 have:=h.lt k h0;exact⟨this.1,by omega⟩):P:=h
theorem J142(h:P:=by
 rw[U1y];show (bs x=[]/\(bs x).isEmpty=true/\(bs x).isEmpty=true)\/_;cases h:bs x with
 |nil=>exact .inl ⟨rfl,rfl,rfl⟩
 |cons c l =>
  right;refine⟨?_,?_,rfl⟩;show ¬bs x=[];rw[h];simp
  show (bs x).isEmpty=false;rw[h];rfl):P:=h
theorem J143(h:P:=by
 have hL:0<L.length:=by cases L with|nil=>simp at hr|cons=>simp
 have hc:=h.nodes.cells (g:=g) (by rw[hv];rfl);have hj:∀j u,j<7->(ndV r)[j]?=some u->w.cell? ⟨g,i*7+j,none⟩=some u:=by
  intro j u hj hu;have:=hc (i*7+j) u (by rw[O7m _ _ _ hj,hr];exact hu)
  rwa [U4g,U1q]at this
 obtain⟨g',pm,cur,Eu,_,_,_,_,_,xt,_⟩:=h.form hL;rw[hv]at Eu;cases Eu;exact⟨hj 0 _ (by omega) rfl,hj 1 _ (by omega) rfl,hj 2 _ (by omega) rfl,hj 3 _ (by omega) rfl,hj 4 _ (by omega) rfl,hj 5 _ (by omega) rfl,hj 6 _ (by omega) rfl,λ o=>unfrozen_of_block xt o⟩):P:=h
theorem J144(h:P:=by
 rintro e w1 ⟨rfl,g1⟩;go_wp2_with fail
 go_ret
 exact⟨by (rw[HX.o];try rfl),g1⟩):P:=h
theorem J145(h:P:=by
 go_enter func73,ntmps73;go_wp2_with fail;exact U11 (v:=.tuple #[.int .u8 1,.string t,(0:Int)]) (by simp[results,results73,go_sem]) rfl ⟨⟨1,t,0,rfl,by rw[HX.o];exact⟨rfl,rfl,rfl⟩⟩,Gr.refl _⟩):P:=h
theorem J146(h:P:=by
 rw[hF]at be;subst ha;clear dw hF a0 a1
 go_wp2
 go_ret2
 first|exact⟨rfl,rfl⟩|exact⟨by rw[be];rfl,rfl⟩):P:=h
theorem J147(h:P:=by
 go_wp2_with fail;refine (HL.o _ ((dn.o.alloc _).alloc _)).mono ?_;rintro e w2 ⟨rfl,g2⟩;go_wp2_with fail;exact U11 (v:=.bool true) (by simp[results,results5,go_sem]) rfl ⟨rfl,((dn.o.alloc _).alloc _).trans g2⟩):P:=h
theorem J148(h:P:=by
 obtain⟨h1,h2⟩:=bS;rw[U18 ⟨h1,h2⟩]at aU;refine Z177 ?_;intro e1;rw[e1]at dK;try rw[e1]at hR
 exact J210):P:=h
theorem J149(h:P:=by
 exact⟨by simp,λ aw d' st' h=>by simp at h⟩):P:=h
theorem J150(h:P:=by
 rw[hs]at a8;simp only at a8⊢
 split at a8
 rename_i aB
 rw[U18 aB,U18 (hr.room aB),hl,show k+n+m=k+(n+m) by omega];exact .ok _ _ _ _ (hr.app ⟨rfl,rfl,rfl,rfl,rfl,rfl⟩)
 exact J45):P:=h
theorem J151(h:P:=by
 refine⟨by simp,λ e g' he=>?_⟩;simp only[Va.ok.injEq,U19]at he;obtain⟨rfl,rfl⟩:=he;exact⟨q.gi.more _ _,k.lt,k.le,by simp only;omega,qg,by simp[q.its],by simp[q.ns],q.many,q.dep⟩):P:=h
theorem J152(h:P:=by
 go_wp2
 go_ret
 exact⟨rfl,(Gr.refl _).alloc _⟩):P:=h
theorem J153(h:P:=by
 split at hk
 rename_i e
 subst e;refine⟨?_,aa⟩;rcases bZ.2 with⟨h6,_⟩|⟨g5,c5,u5,h6,h7,_⟩
 cases h6
 cases h6;exact h7
 have:=h.lt k hk;exact⟨this.1,by omega⟩):P:=h
theorem J154(h:P:=by
 intro k hk;by_cases h1:k=w.heap.size+1;subst h1;simp;omega
 rw[U1b h1]at hk;by_cases h2:k=w.heap.size;subst h2;simp;omega
 rw[U1b h2]at hk;exact absurd rfl hk):P:=h
theorem J155(h:P:=by
 intro h1 h2;exact U10 (by rw[be];simp[h1,h2])):P:=h
theorem J156(h:P:=by
 rw[hX];exact U11 (v:=.tuple #[.agg #[i,.int .i64 ((d:Int)+1)],.bool false]) (by simp[results,results119,go_sem,q0,q1,qf,ql]) rfl ⟨⟨_,_,rfl⟩,gE⟩):P:=h
theorem J157(h:P:=by
 rw[hs]at a8;simp only at a8⊢
 split at a8
 rename_i aB
 rw[U18 aB,U18 (hr.room aB),hl];exact .ok _ _ _ _ (hr.app ⟨rfl,rfl,rfl,rfl,rfl,rfl⟩)
 exact J45):P:=h
theorem J158(h:P:=by
 clear aU dJ e1
 go_wp2
 all_goals refine⟨⟨k+1,_,_,rfl,(by first|rfl|(congr 1;omega)),(by first|rfl|(congr 1;omega)),by omega,hR⟩,by simp[intOf];omega⟩):P:=h
theorem J159(h:P:=by
 show (nd.subs++[i]).Pairwise _;rw[List.pairwise_append];exact⟨h0.up,List.pairwise_singleton _ _,λ a ha b hb=>by rw[U22]at hb;subst hb;exact hi a ha⟩):P:=h
theorem J160(h:P:=by
 go_wp2_with fail;refine H.o.mono ?_;rintro e w1 ⟨rfl,g1⟩;go_wp2_with fail;exact U11 (v:=.bool true) (by simp[results,results5,go_sem]) rfl ⟨rfl,g1⟩):P:=h
theorem J161(h:P:=by
 go_wp2_with fail
 go_region
 all_goals go_wp2_with fail
 exact U11 (v:=.tuple #[i,f0]) (by simp[results,results101,go_sem]) rfl ⟨rfl,Gr.auto⟩):P:=h
theorem J162(h:P:=by
 intro ai h1 h2;have:¬ai<s.size:=by omega
 rw[Lib.idxFuncFrom,U1b (by omega)]):P:=h
theorem J163(h:P:=by
 intro h1;exact U10 (by rw[be];simp[h1])):P:=h
theorem J164(h:P:=by
 split at h;cases h
 cases h
 split at h;simp only[Va.ok.injEq,U19]at h;obtain⟨rfl,_,rfl⟩:=h;exact On7 hw hp _ _ _ _
 cases h):P:=h
theorem J165(h:P:=by
 go_wp2_with fail;exact U11 (v:=.tuple #[.string ⟨#[]⟩,(3:Int)]) (by simp[results,results98,go_sem]) rfl ⟨O1t HY.o,Gr.auto⟩):P:=h
theorem J166(h:P:=by
 rw[Oc2,U4h]at pn;rcases pn with h|h
 all_goals
  have:=V1w _ _ h;rw[U15,O0]at this;simp at this;omega):P:=h
theorem J167(h:P:=by
 refine Z205 ?_;refine Z12 ?_;go_wp2_with fail
 go_roundw
 case rel=>exact⟨j+1,by go_num,by omega,jO.o⟩
 case measure=>simp[intOf];omega):P:=h
theorem J168(h:P:=by
 go_wp2_with fail
 go_quiet (fail)
 go_wp2_with fail;refine Z181 ?_;intro w2 p0 p1 pf pl bC;go_wp2_with fail;refine Z289 ?_;rw[<-nZ.o];exact rfl):P:=h
theorem J169(h:P:=by
 intro r sign ds h;unfold V1t at h
 split at h;cases h;exact .inl rfl
 split at h;cases h
 cases h;exact .inr rfl
 cases h;exact .inl rfl):P:=h
theorem J170(h:P:=by
 go_enter func39,ntmps39
 go_wp2
 all_goals go_ret
 all_goals (refine⟨O3r ?_,rfl⟩;rw[U3j];simp[Vq];try omega)):P:=h
theorem J171(h:P:=by
 split at hk
 rename_i e
 subst e;rcases ei with h5|h5
 exact .inl (.inl (by unfold FV;omega))
 exact .inr h5.2
 exact .inl (.inl hk)):P:=h
theorem J172(h:P:=by
 go_enter func128,ntmps128;go_wp2_with fail
 go_ret
 exact⟨⟨_,rfl,by (rw[HX.o];try rfl),by (simp;try omega)⟩,Gr.auto⟩):P:=h
theorem J173(h:P:=by
 rintro e w2 ⟨rfl,a9⟩;refine Z18 ?_;intro aE dj aL;have HT:=U10 a9;clear a9;go_wp2_with fail;refine Z281 ?_;exact J39):P:=h
theorem J174(h:P:=by
 rw[hF]at be;subst ha;clear dw hF a0 a1
 go_wp2
 all_goals go_ret2
 first|exact⟨rfl,rfl⟩|exact⟨by rw[be];rfl,rfl⟩):P:=h
theorem J175(h:P:=by
 go_enter func128,ntmps128;go_wp2_with fail
 go_ret
 exact⟨⟨_,rfl,by (rw[HX.o];try rfl),U2y _⟩,Gr.auto⟩):P:=h
theorem J176(h:P:=by
 intro k hk hn;refine cC k hk (λ e=>hn (.inl ?_)) (λ e=>hn (.inl ?_));subst e;unfold FV;rw[h.oR];omega
 unfold FV;omega):P:=h
theorem J177(h:P:=by
 intro k e;simp[Value.ownBlock]at e;subst e;show (if _ then _ else _)=3;rw[tg g (by omega) (nF g 3 dI (by omega))];exact dI):P:=h
theorem J178(h:P:=by
 rw[b3]at r3;simp only[Va.ok.injEq,U19]at r3;obtain⟨rfl,rfl⟩:=r3;exact⟨by omega,λ hk=>by omega⟩):P:=h
theorem J179(h:P:=by
 unfold feed at h⊢
 split at h;exact J27;exact J26;cases h
 split;exact J27;exact J26;exact J26
 exact h):P:=h
theorem J180(h:P:=by
 split at hk
 rename_i e
 subst e;rcases ei with h5|h5
 exact .inl (by omega)
 exact .inr (.inr h5.2)
 exact .inl hk):P:=h
theorem J181(h:P:=by
 intro k e;simp only at e;have a1:kv.ownBlock≠some k:=λ e2=>H.ks k e2 e
 simp only[a1,e,U2i,U2c]):P:=h
theorem J182(h:P:=by
 go_wp2_with fail;exact U11 (v:=.bool true) (by simp[results,results50,go_sem]) rfl ⟨rfl,rfl⟩):P:=h
theorem J184(h:P:=by
 intro hv fa ga W3 g3 r0 r1 rf rl k0 k1 kf kl f5 f6 gb;refine Z321 ?_;exact J87):P:=h
theorem J185(h:P:=by
 rw[hv];refine (slices_Index_string_empty a c key w).mono ?_;refine Z44 ?_;rw[h0];exact⟨rfl,rfl⟩):P:=h
theorem J186(h:P:=by
 intro y hy;rcases U2s.1 hy with hy|hy
 exact h0.lt y hy
 rw[U22]at hy;omega):P:=h
theorem J187(h:P:=by
 subst hn;intro j u hu;rw[U4g,U1q,cell_of_block (U1z W _)]
 simpa using hu):P:=h
theorem J188(h:P:=by
 exfalso;rcases b2 with⟨c1,_⟩|⟨_,c1,_⟩
 rw[r0]at c1;cases c1
 rw[r1]at c1;cases c1):P:=h
theorem J189(h:P:=by
 refine Z191 ?_;exact (cJ.o.setCell (.inr (U12 _)) _).setCell (.inr (U12 _)) _):P:=h
theorem J190(h:P:=by
 rw[HX.o,<-HE.o];have a9:=HT.o;have aM:=gd.o;exact⟨rfl,St.auto⟩):P:=h
theorem J191(h:P:=by
 go_wp2_with fail;refine Z20 ?_;intro V0 gH my bh;refine Z14 ?_;intro j hj;rcases hj with rfl|rfl|rfl
 refine Z187 ?_;refine Z299 ?_;intro V1 aN fS mB cF;refine Reg.all (rs:=[9,15,22]) (by kernel_rfl) (by simp) ?_;refine Z14 ?_;intro j hj;rcases hj with rfl|rfl|rfl
 refine Z62 ?_;intro gK aJ V2 aP cj bi;refine Z14 ?_;intro j hj;rcases hj with rfl|rfl
 refine Z323 ?_;intro V3 aW bE cb aC;intro j hj;exact J213
 refine Z326 ?_;intro V3 aW bE dq aC;skip;refine Z10 ?_;exact J214
 refine Z303 ?_;intro V2 aP cj cU dS bi j hj;rcases hj with rfl|rfl
 refine Z301 ?_;intro gK aJ V3 aW bE cb aC j hj;exact J213
 exact J133
 refine Z304 ?_;intro V2 aP cj cU fB bi j hj;rcases hj with rfl|rfl
 refine Z306 ?_;intro gK aJ V3 aW bE dq aC;skip;refine Z10 ?_;exact J214
 exact J130
 refine Z75 ?_;refine Z184 ?_;refine Z299 ?_;intro V1 aN fS sW cF;refine Reg.all (rs:=[8,22]) (by kernel_rfl) (by simp) ?_;refine Z14 ?_;intro j hj;rcases hj with rfl|rfl
 refine Z307 ?_;intro V2 aP cj dS cU bi j hj;rcases hj with rfl|rfl
 refine Z301 ?_;intro gK aJ V3 aW bE cb aC j hj;exact J213
 exact J134
 exact J115
 refine Z66 ?_;refine Z222 ?_;refine Z299 ?_;intro V1 aN fS sV cF;refine Reg.all (rs:=[8,15]) (by kernel_rfl) (by simp) ?_;refine Z14 ?_;intro j hj;rcases hj with rfl|rfl
 refine Z308 ?_;intro V2 aP cj fB cU bi j hj;rcases hj with rfl|rfl
 refine Z306 ?_;intro gK aJ V3 aW bE dq aC;skip;refine Z10 ?_;exact J214
 exact J131
 exact J114):P:=h
theorem J192(h:P:=by
 refine Z12 ?_;have bC:Gr w w2:=o8.drew.trans g2;clear g2 eP o8 c0 c1 c2 aa bh;obtain⟨⟨c0,c1,c2⟩,aa⟩:=cF;go_wp2_with fail
 go_quiet (fail)
 obtain⟨W2,dQ⟩:=ExZ (w2.drewN nq)
 have dc:Gr w W2:=by rw[<-dQ];exact bC.drewN _
 have k0:W2.cell? ⟨w1.heap.size,0,none⟩=some (.string bg):=by rw[<-dQ];exact c0
 have k1:W2.cell? ⟨w1.heap.size,1,none⟩=some (.int .i64 bb):=by rw[<-dQ];exact c1
 have k2:W2.cell? ⟨w1.heap.size,2,none⟩=some (.string ds):=by rw[<-dQ];exact c2
 have kl:w1.heap.size<W2.heap.size:=by rw[<-dQ];exact aa
 rw[dQ];clear c0 c1 c2 aa bC dQ;refine Z213 ?_;intro c0 c1 c2 aa;clear k0 k1 k2 kl;go_wp2_with fail;have bi:O_s bg bb ds w1.heap.size W2.drew:=⟨⟨c0,c1,c2⟩,aa⟩
 refine Z25 ?_;intro w3 g3 aC;refine Z16 ?_;cases r with
 |false =>
  refine Z21 ?_;refine Z12 ?_;have d7:Gr w w3:=dc.drew.trans g3;exact J123
 |true =>
  by_cases h1:1<D.size
  have e1:decide ((1:Int)<(D.size:Int))=true:=by simp;omega
  have H1:=U10 h1;have e0:0<D.size:=by omega
  have e2:(0:Int)<(D.size:Int):=by omega
  cases hz:((D[0]'e0).toNat==48) with
  |true =>
   exact J119
  |false =>
   obtain⟨z1,z2⟩:=V1q _ 48 _ hz;have Bq:Hid (¬(1<D.size/\(bs D)[0]?=some 48)):=U10 (by
    rintro⟨_,h3⟩;have h2:=O9 D 0 e0;simp only[U2j]at h2;rw[h2]at h3;simp only[U2e,U1f]at h3;rw[h3]at hz;simp at hz)
   clear hz;refine Z5 ?_;intro w4 g4 ci;refine Z73 ?_;exact J94
  have e1:decide ((1:Int)<(D.size:Int))=false:=by simp;omega
  have Bq:Hid (¬(1<D.size/\(bs D)[0]?=some 48)):=U10 (λ h3=>h1 h3.1);refine Z5 ?_;intro w4 g4 ci;refine Z90 ?_;exact J94):P:=h
theorem J193(h:P:=by
 clear bR dw ha;by_cases bS:48<=c.toNat/\c.toNat<=57;exact J148
 rw[U1b bS]at aU;by_cases aY:97<=c.toNat/\c.toNat<=122
 ·have az:=O2b c aY;rw[U18 aY]at aU;obtain⟨h1,h2⟩:=aY;clear bS;refine Z179 ?_;intro e1;rw[e1]at dK;try rw[e1]at hR
  have gP:(c.toNat:Int)-87<16:=by omega
  clear aU dJ e1;exact J104
 rw[U1b aY]at aU;by_cases cr:65<=c.toNat/\c.toNat<=90
 ·have az:=O2a c cr;rw[U18 cr]at aU;obtain⟨h1,h2⟩:=cr;clear bS aY;refine Z178 ?_;intro e1;rw[e1]at dK;try rw[e1]at hR
  have gP:(c.toNat:Int)-55<16:=by omega
  clear aU dJ e1;exact J104
 exact J6):P:=h
theorem J194(h:P:=by
 refine Z39 ?_;intro eI rz ep he HF;clear g5 g6 dk;go_wp2_with (first|(go_at_call 136;refine (O77 _ _ _).mono ?_;rintro e w7 ⟨rfl,g7⟩)|(go_at_call 137;refine (HF.o _ (rz.gr Gr.auto)).mono ?_;rintro e w8 ⟨rfl,k8,Pr,rfl⟩));exact U11 (v:=.tuple #[.string ⟨(Lib.itoa v).toArray⟩,(0:Int)]) (by simp[results,results99,go_sem]) rfl ⟨Ony (xe.o (by simp) Bq.o),(eI.trans g7).trans (O4m _ _ _)⟩):P:=h
theorem J195(h:P:=by
 refine Reg.on 5 ?_;skip;refine Z227 ?_;refine Z44 ?_;refine Z83 ?_;refine Z211 ?_;refine Z2 ?_;refine Reg.ty 10 ?_;refine Reg.on 11 ?_;refine Z300 ?_;go_wp2_with fail;refine Z22 ?_;intro sI wU e1;refine⟨_,_,rfl,Ga,?_,?_,by rw[e1];omega,by rw[e1];omega,wU.2.2⟩;rw[e1];rw[e1]at wU;exact wU.1
 rw[e1];rw[e1]at wU;exact wU.2.1):P:=h
theorem J196(h:P:=by
 refine Z156 ?_;intro eI;clear g5 g6 dk;go_wp2_with (go_at_call 136;refine (Od8 N ep _ hN).mono ?_;rintro e w7 ⟨rfl,rfl⟩);exact U11 (v:=.tuple #[.string ⟨#[]⟩,(8:Int)]) (by simp[results,results99,go_sem]) rfl ⟨O1t (xe.o (by simp) Bq.o),eI⟩):P:=h
theorem J197(h:P:=by
 clear h1 dT;go_enter func24,ntmps24;go_wp2_with fail;refine Z142 ?_;refine Z44 ?_;rw[HC.o];go_wp2_with fail;refine (Ons E hE _ R B base s root nv L own aN.o dn.o hs n d n rfl hn X HX.o HN.o).mono ?_;exact J98):P:=h
theorem J198(h:P:=by
 have dt:=Bo.o;cases hP:V1g E V (bs s) T m2 d (L2.map (·.nd)) with
 |non=>rw[hP]at dt;exact absurd dt.symm th.o
 |bad c p =>
  exact J111
 |ok r =>
  obtain⟨n2,st2⟩:=r;rw[hP]at dt;exact J95):P:=h
theorem J199(h:P:=by
 refine Z26 ?_;intro v hv Lu Lv mz nN lP;clear bS aY cr Et;go_wp2_with (refine (O1x _ _ hv _).mono ?_;rintro e w' ⟨rfl,rfl⟩)
 all_goals go_ret2
 all_goals exact⟨by rw[hR.o];rfl,rfl⟩):P:=h
theorem J200(h:P:=by
 clear ho hg ha hz;have ci:=O18 cG.o db.o HC.o;refine⟨λ _ _=>ci,?_⟩;refine Reg.pt ?_;refine Reg.on 16 ?_;skip;refine Z3 ?_;intro gS cH V5 iA gZ jA eH;skip;exact J96):P:=h
theorem J201(h:P:=by
 have bi:=O2m mA.o;refine⟨by first|exact bi|exact λ _=>bi,?_⟩;refine Reg.pt ?_;refine Reg.on 4 ?_;skip;refine Z61 ?_;intro gK aJ V3 aW mx sH cb aC;skip;exact J97):P:=h
theorem J202(h:P:=by
 go_wp2_with fail;simp +zetaDelta only [Exit.inBlock,Exit.noGoto,Exit.then];exact U11 (v:=.int .i64 (-1)) (by simp[results,results124,go_sem]) rfl ⟨rfl,(Gr.refl wr).drewN _⟩):P:=h
theorem J203(h:P:=by
 clear g3 g4;go_wp2_with fail;exact U11 (v:=.tuple #[.string ⟨#[]⟩,(3:Int)]) (by simp[results,results99,go_sem]) rfl ⟨O1t (zP.o ⟨H1.o,HZ.o⟩),dk⟩):P:=h
theorem J204(h:P:=by
 go_wp2_with fail;refine (iF.o _).mono ?_;rintro e w4 ⟨rfl,g4⟩;have dH:=(g4.block hz).trans aR;have dk:=d7.trans g4;clear g4 aR d7 p0 p1 p2 p3 p4 pf hz;exact J99):P:=h
theorem J205(h:P:=by
 go_wp2_with (refine (O1x _ _ az _).mono ?_;rintro e w' ⟨rfl,rfl⟩);exact J7):P:=h
theorem J206(h:P:=by
 split at hk;rename_i e;exact fi k (H.fk k e)
 split at hk;rename_i e;exact fi k (H.fs k e)
 split at hk;rename_i e;exact fi k (H.fu k e)
 exact .inl hk):P:=h
theorem J207(h:P:=by
 clear ho hg ha hz;have aC:=dX.o V3 aW.o.st;refine⟨λ _ _=>aC,?_⟩;refine Reg.pt ?_;clear oD;have oD:=Br;exact J113):P:=h
theorem J208(h:P:=by
 subst hd;go_wp2_with (refine (O1x _ _ az _).mono ?_;rintro e w' ⟨rfl,rfl⟩)
 go_ret2
 exact⟨by rw[hR.o];rfl,rfl⟩):P:=h
theorem J209(h:P:=by
 go_wp2_with fail;refine (iF.o _).mono ?_;refine Z295 ?_;intro w4 g4 dH dk;clear g4 iG eP p0 p1 p2 p3 p4 pf hz;exact J99):P:=h
theorem J210(h:P:=by
 have gP:(c.toNat:Int)-48<16:=by omega
 clear aU dJ e1
 go_wp2
 go_ret2
 exact⟨by rw[hR.o];rfl,rfl⟩):P:=h
theorem J211(h:P:=by
 go_enter func143,ntmps143;go_wp2_with fail
 try rw[hr]
 refine (HR.o _).mono ?_;exact J144):P:=h
theorem J212(h:P:=by
 go_enter func143,ntmps143;go_wp2_with fail;refine (HD.o _).mono ?_;exact J144):P:=h
theorem J213(h:P:=by
 rcases hj with rfl|rfl
 refine Z8 ?_;intro gS cH V4 cG db ci;skip;refine Z13 ?_;intro V5 iA gZ jA eH;skip;exact J96
 refine Z11 ?_;intro V4 cG db jB jC ci;skip;refine Z3 ?_;intro gS cH V5 iA gZ jA eH;skip;exact J96):P:=h
theorem J214(h:P:=by
 intro V4 cG db jC jB ci;skip;refine Z3 ?_;intro gS cH V5 iA gZ jA eH;skip;exact J96):P:=h
variable (k:Q)
include k
theorem Z1(h:Kq Q->P:=by
 intro O;refine U2z _ (.tmp 38) (.tmp 40) 36 (by rfl) base 3 iU _ 1 8 underlying36 cQ.o.1 cQ.o.2.1 cQ.o.2.2.1 cQ.o.2.2.2 (by rfl) (by decide) r.uv r.nd.subs.length (O8 r.nd.subs) (by rfl) iA.o.u _ 1 1 [.int .i64 n] (by rfl) (by rfl) (U2f jA.o.blk) (by simp[Value.oneCell']) (by decide) (by unfold maxLen;omega) (by omega) (U1k bA iA.o.size) _ rfl ?_;intro gU ow V6 ho hg ha hz;have kP:=U10 (iA.o.appU ho hg ha);have wK:=U10 (gZ.o.appU (n:=r.nd.subs.length+1) (cap:=ow) hg ha);clear ho hg ha hz;have kx:=O18 kP.o wK.o HC.o;refine⟨λ _ _=>kx,?_⟩;refine Reg.pt ?_;refine Reg.ty 24 ?_;refine Reg.ty 25 ?_;obtain⟨wL,wM,wN,AP⟩:=O4u kP.o HC.o;refine Reg.on 26 ?_;go_simp;refine Z2 ?_;refine Reg.ty 27 ?_;refine Reg.ty 28 ?_;refine Reg.on 29 ?_;go_simp;refine Z2 ?_;refine Reg.ty 30 ?_;refine Reg.ty 31 ?_;refine Reg.on 32 ?_;go_simp;refine Z2 ?_;refine Reg.done (by kernel_rfl) ?_ _;revert gU ow V6 kP wK kx wL wM wN AP;exact O.o):P:=h ⟨k⟩
theorem Z2(h:Kq Q->P:=by
 intro O
 try simp only[Act.put,U38,U34,U3h]
 exact O.o):P:=h ⟨k⟩
theorem Z3(h:Kq Q->P:=by
 intro O;refine U2z _ (.tmp 31) (.tmp 33) 35 (by rfl) base 38 iS _ 2 16 underlying35 dX.o.1 dX.o.2.1 dX.o.2.2.1 dX.o.2.2.2 (by rfl) (by decide) r.sv r.nd.spots.length (Oc r.nd.spots) (by rfl) cG.o.s _ 1 1 [.int .i64 a,.int .i64 b] (by rfl) (by rfl) (U2f jB.o.blk) (by simp[Value.oneCell']) (by decide) (by unfold maxLen;omega) (by omega) (U1k bA cG.o.size) _ rfl ?_;intro gS cH V5 ho hg ha hz;have iA:=U10 (cG.o.appS ho hg ha);have gZ:=U10 (db.o.appS (n:=r.nd.spots.length+1) (cap:=cH) hg ha);have jA:=U10 (jC.o.appS (n:=r.nd.spots.length+1) (cap:=cH) hg ha);clear ho hg ha hz;have eH:=O18 iA.o gZ.o HC.o;refine⟨λ _ _=>eH,?_⟩;refine Reg.pt ?_;refine Reg.on 23 ?_;revert gS cH V5 iA gZ jA eH;exact O.o):P:=h ⟨k⟩
theorem Z4(h:Kq Q->P:=by
 intro O;refine Reg.tl 0 aC ?_ (hy:=by intro w ab;obtain⟨⟨s0,s1,s2,s3⟩,⟨s4,s5,s6,s7⟩,⟨s8,s9,ky,ox⟩⟩:=ab;go_simp;try with_reducible rfl);refine Reg.tl 1 aC ?_ (hy:=by intro w ab;obtain⟨⟨s0,s1,s2,s3⟩,⟨s4,s5,s6,s7⟩,⟨s8,s9,ky,ox⟩⟩:=ab;go_simp;try with_reducible rfl);refine Reg.tl 2 aC ?_ (hy:=by intro w ab;obtain⟨⟨s0,s1,s2,s3⟩,⟨s4,s5,s6,s7⟩,⟨s8,s9,ky,ox⟩⟩:=ab;go_simp;try with_reducible rfl);refine Reg.on 3 ?_;go_simp;rw[O5 cE.i.1,O5 cE.i.2.1];refine Z16 ?_;refine Reg.on 4 ?_;go_simp;rw[O5 cE.t.1,O5 cE.t.2.1];refine Z16 ?_;refine Reg.on 5 ?_;go_simp;rw[O5 cE.f.1,O5 cE.f.2.1];refine Z16 ?_;refine Reg.done (by kernel_rfl) ?_ _;exact O.o):P:=h ⟨k⟩
theorem Z5(h:Kq Q->P:=by
 intro O;refine Reg.ty 3 ?_;refine Reg.ty 4 ?_;refine Z315 ?_;intro w4 g4 ci;refine⟨by first|exact ci|exact λ _=>ci|exact λ _ _=>ci,?_⟩;refine Reg.pt ?_;refine Reg.ty 7 ?_;refine Z316 ?_;refine Reg.ty 10 ?_;refine Reg.ty 11 ?_;refine Reg.ty 12 ?_;refine Reg.ty 13 ?_;revert w4 g4 ci;exact O.o):P:=h ⟨k⟩
theorem Z6(h:Kq Q->P:=by
 intro O;refine Reg.one (i:=9) rfl (by rfl) ?_;refine U2z _ (.tmp 24) (.tmp 26) 34 (by rfl) base 9 iK _ 1 16 underlying34 fH.o.1 fH.o.2.1 fH.o.2.2.1 fH.o.2.2.2 (by rfl) (by decide) r.kv r.nd.keys.length (Oj r.nd.keys) (by rfl) aP.o.k _ 1 1 [.string key] (by rfl) (by rfl) (U2f cU.o.blk) (by simp[Value.oneCell']) (by decide) (by unfold maxLen;omega) (by omega) (U1k bA aP.o.size) _ rfl ?_;intro gK aJ V3 ho hg ha hz;have aW:=U10 (aP.o.appK ho hg ha);have bE:=U10 (cj.o.appK (n:=r.nd.keys.length+1) (cap:=aJ) hg ha);revert gK aJ V3 ho hg ha hz aW bE;exact O.o):P:=h ⟨k⟩
theorem Z7(h:Kq Q->P:=by
 intro O;go_simp;refine⟨by first|exact (dR.o.gr ((Gr.refl W).drew))|exact λ _=>(dR.o.gr ((Gr.refl W).drew))|exact λ h=>h.gr ((Gr.refl _).alloc _)|exact λ _ h=>h.gr ((Gr.refl _).alloc _),?_⟩;refine Reg.pt ?_;exact O.o):P:=h ⟨k⟩
theorem Z8(h:Kq Q->P:=by
 intro O;refine Reg.one (i:=16) rfl (by rfl) ?_;refine U2z _ (.tmp 31) (.tmp 33) 35 (by rfl) base 38 iS _ 2 16 underlying35 dX.o.1 dX.o.2.1 dX.o.2.2.1 dX.o.2.2.2 (by rfl) (by decide) r.sv r.nd.spots.length (Oc r.nd.spots) (by rfl) aW.o.s _ 1 1 [.int .i64 a,.int .i64 b] (by rfl) (by rfl) (U2f cb.o.blk) (by simp[Value.oneCell']) (by decide) (by unfold maxLen;omega) (by omega) (U1k bA aW.o.size) _ rfl ?_;intro gS cH V4 ho hg ha hz;have cG:=U10 (aW.o.appS ho hg ha);have db:=U10 (bE.o.appS (n:=r.nd.spots.length+1) (cap:=cH) hg ha);clear ho hg ha hz;have ci:=O18 cG.o db.o HC.o;refine⟨λ _ _=>ci,?_⟩;refine Reg.pt ?_;refine Reg.on 22 ?_;revert gS cH V4 cG db ci;exact O.o):P:=h ⟨k⟩
theorem Z9(h:Kq Q->P:=by
 intro O;refine Reg.ty 12 ?_;refine Reg.tl 13 eU ?_ (hy:=by intro w ab;obtain⟨⟨q0,q1,q2,q3,q4,q5,q6,qf,ql⟩,qc⟩:=ab;go_simp;try with_reducible rfl);refine Reg.ty 14 ?_;refine Reg.tl 15 eU ?_ (hy:=by intro w ab;obtain⟨⟨q0,q1,q2,q3,q4,q5,q6,qf,ql⟩,qc⟩:=ab;go_simp;try with_reducible rfl);refine Reg.ty 16 ?_;refine Reg.ty 17 ?_;refine Reg.ty 18 ?_;refine Reg.on 19 ?_;go_simp;refine Reg.ty 20 ?_;refine Reg.done (by kernel_rfl) ?_ _;exact O.o):P:=h ⟨k⟩
theorem Z10(h:Kq Q->P:=by
 intro O;go_simp;have av:=aW.o.alloc (.cells #[a,b] 38);have ak:=aW.o.newB #[a,b] 38;have aj:=bE.o.alloc (.cells #[a,b] 38);have aq:=dq.o.alloc (.cells #[a,b] 38);obtain⟨V4,hV⟩:=ExZ (V3.alloc (.cells #[a,b] 38))
 rw[hV]at av ak aj aq⊢;clear hV;have cG:=U10 av;have db:=U10 aj;have jC:=U10 aq;have jB:=U10 ak;clear av ak aj aq;have ci:=O18 cG.o db.o HC.o;refine⟨by first|exact ci|exact λ _=>ci,?_⟩;refine Reg.pt ?_;refine Reg.on 16 ?_;revert ci;revert jB;revert jC;revert db;revert cG;revert V4;exact O.o):P:=h ⟨k⟩
theorem Z11(h:Kq Q->P:=by
 intro O;refine Reg.one (i:=22) rfl (by rfl) ?_;go_simp;have av:=aW.o.alloc (.cells #[n] 3);have aq:=aW.o.newB #[n] 3;have aj:=bE.o.alloc (.cells #[n] 3);have ak:=cb.o.alloc (.cells #[n] 3);obtain⟨V4,hV⟩:=ExZ (V3.alloc (.cells #[n] 3))
 rw[hV]at av aq aj ak⊢;clear hV;have cG:=U10 av;have db:=U10 aj;have jB:=U10 ak;have jC:=U10 aq;clear av aq aj ak;have ci:=O18 cG.o db.o HC.o;refine⟨by first|exact ci|exact λ _=>ci,?_⟩;refine Reg.pt ?_;refine Reg.on 16 ?_;revert ci;revert jC;revert jB;revert db;revert cG;revert V4;exact O.o):P:=h ⟨k⟩
theorem Z12(h:Kq Q->P:=by
 intro O;refine Reg.done (by kernel_rfl) ?_ _;exact O.o):P:=h ⟨k⟩
theorem Z13(h:Kq Q->P:=by
 intro O;go_simp;have av:=cG.o.alloc (.cells #[n] 3);have aq:=cG.o.newB #[n] 3;have aj:=db.o.alloc (.cells #[n] 3);obtain⟨V5,hV⟩:=ExZ (V4.alloc (.cells #[n] 3))
 rw[hV]at av aq aj⊢;clear hV;have iA:=U10 av;have gZ:=U10 aj;have jA:=U10 aq;clear av aq aj;have eH:=O18 iA.o gZ.o HC.o;refine⟨by first|exact eH|exact λ _=>eH,?_⟩;refine Reg.pt ?_;refine Reg.on 23 ?_;revert eH;revert jA;revert gZ;revert iA;revert V5;exact O.o):P:=h ⟨k⟩
theorem Z14(h:Kq Q->P:=by
 intro O;intro j hj;simp only[U36,List.not_mem_nil,or_false]at hj;revert hj;revert j;exact O.o):P:=h ⟨k⟩
theorem Z15(h:Kq Q->P:=by
 intro O;have bh:O_s bg bb ds w1.heap.size (W0.drewN nq).drew:=⟨⟨c0,c1,c2⟩,aa⟩
 refine Reg.begin' (W:=λ _=>true) (S:=O_s bg bb ds w1.heap.size) (by kernel_rfl) ?_;refine Reg.tl 0 bh ?_ (hy:=by intro w ab;obtain⟨⟨q0,q1,q2⟩,ql⟩:=ab;go_simp;try with_reducible rfl);refine Reg.on 1 ?_;go_simp;refine (O99 _).mono ?_;rintro e w2 ⟨rfl,g2⟩;have cF:=bh.gr g2;refine⟨by first|exact cF|exact λ _=>cF|exact λ _ _=>cF,?_⟩;refine Reg.pt ?_;refine Reg.ty 2 ?_;refine Reg.ty 3 ?_;revert bh w2 g2 cF;exact O.o):P:=h ⟨k⟩
theorem Z16(h:Kq Q->P:=by
 intro O;refine⟨by first|exact aC|exact λ _=>aC|exact λ _ _=>aC,?_⟩;refine Reg.pt ?_;exact O.o):P:=h ⟨k⟩
theorem Z17(h:Kq Q->P:=by
 intro O;refine U2z _ (.tmp 38) (.tmp 42) 35 (by rfl) w.heap.size 38 iS _ 2 16 underlying35 dX.o.1 dX.o.2.1 dX.o.2.2.1 dX.o.2.2.2 (by rfl) (by decide) sv acc.length _ (by rfl) aW.o.s _ 1 1 [.int .i64 n,.int .i64 e] (by rfl) (by rfl) (U2f cb.o.blk) (by simp[Value.oneCell']) (by decide) (by unfold maxLen;omega) (by omega) aW.o.size _ rfl ?_;intro gS cH V4 ho hg ha hz;have cG:=U10 (aW.o.appS ho hg ha);have mw:=U10 (mx.o.appS (n:=acc.length+1) (cap:=cH) hg ha);have wO:=U10 (sH.o.appS (n:=acc.length+1) (cap:=cH) hg ha);clear ho hg ha hz;have ci:=O2m mw.o;refine⟨λ _ _=>ci,?_⟩;refine Reg.pt ?_;obtain⟨wP,wQ⟩:=mw.o.cell (i:=0) rfl;obtain⟨wR,wT⟩:=mw.o.cell (i:=1) rfl;refine Reg.on 14 ?_;go_simp;revert gS cH V4 cG mw wO ci wP wQ wR wT;exact O.o):P:=h ⟨k⟩
theorem Z18(h:Kq Q->P:=by
 intro O;have hu:=a9.use (w.heap.size+1) (by simp;omega) (λ hF=>by have:=HS.o.own_lt hF;omega);have aL:=a9.size;simp at aL;obtain⟨aE,dj⟩:=hu;revert aL;revert dj;revert aE;exact O.o):P:=h ⟨k⟩
theorem Z19(h:Kq Q->P:=by
 intro O;refine Reg.ty 7 ?_;refine Z316 ?_;refine Reg.ty 10 ?_;refine Reg.ty 11 ?_;refine Reg.ty 12 ?_;refine Reg.ty 13 ?_;refine Reg.ty 14 ?_;refine Reg.ty 15 ?_;refine Reg.ty 16 ?_;exact O.o):P:=h ⟨k⟩
theorem Z20(h:Kq Q->P:=by
 intro O;have jD:=bv.o _ ((Gr.refl w).alloc (.cells #[a,b] 38)).drew;have aj:=(bv.o w (Gr.refl w)).newB #[a,b] 38;refine Reg.begin' (W:=λ i=>i != 26&&i != 29&&i != 32) (S:=Vdh g i w.heap.size r a b) (by kernel_rfl) ?_;obtain⟨V0,hV⟩:=ExZ ((w.alloc (.cells #[a,b] 38)).drew)
 have oy:=aj.drew;rw[hV]at jD oy⊢;clear hV aj;have gH:=U10 jD;have my:=U10 oy;clear jD oy;have bh:=O18 gH.o my.o HC.o;refine Reg.ty 0 ?_;refine Reg.ty 1 ?_;refine Reg.ty 2 ?_;refine Reg.ty 3 ?_;refine Reg.ty 4 ?_;refine Reg.ty 5 ?_;refine Reg.ty 7 ?_;refine Reg.ty 10 ?_;refine Reg.ty 11 ?_;refine Reg.ty 12 ?_;refine Reg.ty 17 ?_;refine Reg.ty 18 ?_;refine Reg.ty 19 ?_;refine Reg.ty 21 ?_;refine Reg.tl 6 bh ?_ (hy:=by intro w ab;obtain⟨q1,q2,q3,q4,q5⟩:=ab;go_simp;try with_reducible rfl);refine Reg.tl 13 bh ?_ (hy:=by intro w ab;obtain⟨q1,q2,q3,q4,q5⟩:=ab;go_simp;try with_reducible rfl);refine Reg.tl 14 bh ?_ (hy:=by intro w ab;obtain⟨q1,q2,q3,q4,q5⟩:=ab;go_simp;try with_reducible rfl);refine Reg.tl 20 bh ?_ (hy:=by intro w ab;obtain⟨q1,q2,q3,q4,q5⟩:=ab;go_simp;try with_reducible rfl);refine Reg.all (rs:=[8,15,22]) (by kernel_rfl) (by simp) ?_;revert bh;revert my;revert gH;revert V0;exact O.o):P:=h ⟨k⟩
theorem Z21(h:Kq Q->P:=by
 intro O;refine Reg.ty 3 ?_;refine Reg.ty 4 ?_;refine Reg.sk 5 ?_;refine Reg.sk 6 ?_;refine Reg.sk 7 ?_;refine Z305 ?_;refine Reg.sk 14 ?_;refine Reg.sk 15 ?_;refine Reg.sk 16 ?_;refine Reg.sk 17 ?_;refine Reg.ty 18 ?_;exact O.o):P:=h ⟨k⟩
theorem Z22(h:Kq Q->P:=by
 intro O;rw[Exit.noGoto_ret];have sI:w.heap.size<VV.heap.size:=by omega
 refine U11 (v:=.tuple #[.agg #[.slice (some ⟨gK,0,none⟩) (acc.length+1) (acc.length+1),.slice (some ⟨gS,0,none⟩) (acc.length+1) (acc.length+1)],e,f0]) (by simp[results,results9,go_sem,p0,p1,p2,p3,p4,p5,p6,p7,sI,oA]) rfl ?_;rw[<-uK.o];have wU:=Ont G9.o;have e1:(acc++[(t,n,e)]).length=acc.length+1:=by simp
 revert sI wU e1;exact O.o):P:=h ⟨k⟩
theorem Z23(h:Kq Q->P:=by
 intro O;obtain⟨a0,a1,af,al⟩:=(FX.new w (0:Int) (0:Int) 29).st a9 bO;have fR:=U10 (((St.refl (FV own) w).alloc (.cells #[(0:Int),(0:Int)] 29)).trans a9);revert a0 a1 af al fR;exact O.o):P:=h ⟨k⟩
theorem Z24(h:Kq Q->P:=by
 intro O;refine Reg.ty 3 ?_;refine Reg.ty 4 ?_;refine Reg.tl 5 eU ?_ (hy:=by intro w ab;obtain⟨⟨q0,q1,q2,q3,q4,q5,q6,qf,ql⟩,qc⟩:=ab;go_simp;try with_reducible rfl);refine Reg.ty 6 ?_;refine Reg.tl 7 eU ?_ (hy:=by intro w ab;obtain⟨⟨q0,q1,q2,q3,q4,q5,q6,qf,ql⟩,qc⟩:=ab;go_simp;try with_reducible rfl);refine Z316 ?_;refine Reg.ty 10 ?_;refine Reg.ty 11 ?_;exact O.o):P:=h ⟨k⟩
theorem Z25(h:Kq Q->P:=by
 intro O;refine Reg.begin' (W:=λ _=>true) (S:=O_s bg bb ds w1.heap.size) (by kernel_rfl) ?_;refine Reg.tl 0 bi ?_ (hy:=by intro w ab;obtain⟨⟨q0,q1,q2⟩,ql⟩:=ab;go_simp;try with_reducible rfl);refine Reg.ty 1 ?_;refine Reg.on 2 ?_;go_simp;refine (HR.o _).mono ?_;rintro e w3 ⟨rfl,g3⟩;have aC:=bi.gr g3;revert w3 g3 aC;exact O.o):P:=h ⟨k⟩
theorem Z26(h:Kq Q->P:=by
 intro O;have mz:=Oow c cr aY;have nN:=bits_lo_u8 .or (c.toNat:Int) 32;have lP:=bits_hi_u8 .or (c.toNat:Int) 32;obtain⟨v,hv⟩:=ExZ (bits .or .u8 (c.toNat:Int) 32)
 rw[hv]at mz nN lP;have Lu:¬((48:Int)<=c.toNat/\(c.toNat:Int)<=57):=by omega
 have Lv:¬(c.toNat:Int)=95:=by omega
 revert lP;revert nN;revert mz;revert Lv;revert Lu;revert hv;revert v;exact O.o):P:=h ⟨k⟩
theorem Z27(h:Kq Q->P:=by
 intro O;have hv:W.heap.size<=w2.heap.size:=U1k ((((Gr.refl W).alloc (.cells #[(0:Int),(0:Int)] 29)).alloc (.cells #[(0:Int),(0:Int)] 67)).drew).size a9.size;obtain⟨fa,ga,za⟩:=bx2 W (0:Int) (0:Int) 29;obtain⟨fb,gb,zb⟩:=bx2 (W.alloc (.cells #[(0:Int),(0:Int)] 29)) (0:Int) (0:Int) 67;have f6:=((fa.gr gb).gr ((Gr.refl _).drew)).st a9 (λ e=>by have:=aa _ e;omega);rw[za]at fb;have f5:=(fb.gr ((Gr.refl _).drew)).st a9 (λ e=>by have:=aa _ e;omega);rw[za]at zb;obtain⟨r0,r1,rf,rl⟩:=id f5;obtain⟨k0,k1,kf,kl⟩:=id f6;revert zb;revert fb;revert kl;revert kf;revert k1;revert k0;revert rl;revert rf;revert r1;revert r0;revert f5;revert f6;revert gb;revert za;revert ga;revert fa;revert hv;exact O.o):P:=h ⟨k⟩
theorem Z28(h:Kq Q->P:=by
 intro O;have hv:W.heap.size<=w2.heap.size:=U1k ((((Gr.refl W).alloc (.cells #[(0:Int),(0:Int)] 67)).alloc (.cells #[(0:Int),(0:Int)] 29)).drew).size a9.size;obtain⟨fa,ga,za⟩:=bx2 W (0:Int) (0:Int) 67;obtain⟨fb,gb,zb⟩:=bx2 (W.alloc (.cells #[(0:Int),(0:Int)] 67)) (0:Int) (0:Int) 29;have f5:=((fa.gr gb).gr ((Gr.refl _).drew)).st a9 (λ e=>by have:=aa _ e;omega);rw[za]at fb;have f6:=(fb.gr ((Gr.refl _).drew)).st a9 (λ e=>by have:=aa _ e;omega);rw[za]at zb;obtain⟨r0,r1,rf,rl⟩:=id f5;obtain⟨k0,k1,kf,kl⟩:=id f6;revert zb;revert fb;revert kl;revert kf;revert k1;revert k0;revert rl;revert rf;revert r1;revert r0;revert f6;revert f5;revert gb;revert za;revert ga;revert fa;revert hv;exact O.o):P:=h ⟨k⟩
theorem Z29(h:Kq Q->P:=by
 intro O;have hv:W.heap.size<=w2.heap.size:=U1k (((Gr.refl W).alloc (.cells #[(0:Int),(0:Int)] 29)).drew).size a9.size;obtain⟨fa,ga,za⟩:=bx2 W (0:Int) (0:Int) 29;have oC:=(fa.gr ((Gr.refl _).drew)).st a9 (λ e=>by have:=aa _ e;omega);obtain⟨f5,gb,zb⟩:=bx2 w2 (0:Int) (0:Int) 67;have f6:=oC.gr gb;have ry:W.heap.size<w2.heap.size:=oC.2.2.2;obtain⟨W3,bM⟩:=ExZ (w2.alloc (.cells #[(0:Int),(0:Int)] 67))
 rw[bM]at f5 f6 gb;rw[bM];clear bM zb;obtain⟨r0,r1,rf,rl⟩:=id f5;obtain⟨k0,k1,kf,kl⟩:=id f6;revert gb;revert f6;revert f5;revert kl;revert kf;revert k1;revert k0;revert rl;revert rf;revert r1;revert r0;revert W3;revert ry;revert oC;revert za;revert ga;revert fa;revert hv;exact O.o):P:=h ⟨k⟩
theorem Z30(h:Kq Q->P:=by
 intro O;have hv:W.heap.size<=w2.heap.size:=U1k (((Gr.refl W).alloc (.cells #[(0:Int),(0:Int)] 67)).drew).size a9.size;obtain⟨fa,ga,za⟩:=bx2 W (0:Int) (0:Int) 67;have oC:=(fa.gr ((Gr.refl _).drew)).st a9 (λ e=>by have:=aa _ e;omega);refine Z313 ?_;intro f6 gb zb;have f5:=oC.gr gb;have ry:W.heap.size<w2.heap.size:=oC.2.2.2;obtain⟨W3,bM⟩:=ExZ (w2.alloc (.cells #[(0:Int),(0:Int)] 29))
 rw[bM]at f5 f6 gb;rw[bM];clear bM zb;obtain⟨r0,r1,rf,rl⟩:=id f5;obtain⟨k0,k1,kf,kl⟩:=id f6;revert gb;revert f6;revert f5;revert kl;revert kf;revert k1;revert k0;revert rl;revert rf;revert r1;revert r0;revert W3;revert ry;revert oC;revert za;revert ga;revert fa;revert hv;exact O.o):P:=h ⟨k⟩
theorem Z31(h:Kq Q->P:=by
 intro O;refine Reg.ty 0 ?_;refine Reg.ty 1 ?_;refine Reg.ty 2 ?_;exact O.o):P:=h ⟨k⟩
theorem Z32(h:Kq Q->P:=by
 intro O;have bi:=O18 aP.o cj.o HC.o;refine⟨by first|exact bi|exact λ _=>bi,?_⟩;refine Reg.pt ?_;revert bi;exact O.o):P:=h ⟨k⟩
theorem Z33(h:Kq Q->P:=by
 intro O;refine⟨by first|exact ci|exact λ _=>ci|exact λ _ _=>ci,?_⟩;refine Reg.pt ?_;exact O.o):P:=h ⟨k⟩
theorem Z34(h:Kq Q->P:=by
 intro O;refine Reg.on 15 ?_;refine U2z _ (.tmp 75) (.tmp 77) 36 (by rfl) base 3 iU _ 1 8 underlying36 cQ.o.1 cQ.o.2.1 cQ.o.2.2.1 cQ.o.2.2.2 (by rfl) (by decide) x1.nsv g.its.length xn (by rfl) aW.o.n _ 1 1 [.int .i64 (nI)] (by rfl) (by rfl) (U2f oD.o) (by simp[Value.oneCell']) (by decide) (by unfold maxLen;omega) (by omega) (U1k bA aW.o.st.size) _ rfl ?_;intro gN i9 V4 ho hg ha hz;have cG:=U10 (aW.o.appN ho hg ha);clear ho hg ha hz;refine⟨λ h=>absurd h (by decide),?_⟩;revert gN i9 V4 cG;exact O.o):P:=h ⟨k⟩
theorem Z35(h:Kq Q->P:=by
 intro O;refine Reg.one (i:=15) rfl (by rfl) ?_;go_simp;have av:=aP.o.alloc (.cells #[a,b] 38);have ak:=aP.o.newB #[a,b] 38;have aj:=cj.o.alloc (.cells #[a,b] 38);revert av ak aj;exact O.o):P:=h ⟨k⟩
theorem Z36(h:Kq Q->P:=by
 intro O;go_simp;refine⟨by first|exact⟨((wV.other (by omega) _).other (by omega) _).gr (Gr.refl _).drew,((uL.other (by omega) _).other (by omega) _).gr (Gr.refl _).drew⟩|exact λ _=>⟨((wV.other (by omega) _).other (by omega) _).gr (Gr.refl _).drew,((uL.other (by omega) _).other (by omega) _).gr (Gr.refl _).drew⟩|exact λ _ _=>⟨((wV.other (by omega) _).other (by omega) _).gr (Gr.refl _).drew,((uL.other (by omega) _).other (by omega) _).gr (Gr.refl _).drew⟩,?_⟩;refine Reg.pt ?_;exact O.o):P:=h ⟨k⟩
theorem Z37(h:Kq Q->P:=by
 intro O;have hv:W.heap.size<=w2.heap.size:=U1k ((Gr.refl W).drew).size a9.size;refine Z313 ?_;intro fa ga za;obtain⟨f5,gb,zb⟩:=bx2 (w2.alloc (.cells #[(0:Int),(0:Int)] 29)) (0:Int) (0:Int) 67;have f6:=fa.gr gb;rw[za]at f5;obtain⟨W3,bM⟩:=ExZ ((w2.alloc (.cells #[(0:Int),(0:Int)] 29)).alloc (.cells #[(0:Int),(0:Int)] 67))
 rw[bM]at f5 f6 gb;rw[bM];have g3:=ga.trans gb;clear bM za zb;obtain⟨r0,r1,rf,rl⟩:=id f5;obtain⟨k0,k1,kf,kl⟩:=id f6;revert gb;revert f6;revert f5;revert kl;revert kf;revert k1;revert k0;revert rl;revert rf;revert r1;revert r0;revert g3;revert W3;revert ga;revert fa;revert hv;exact O.o):P:=h ⟨k⟩
theorem Z38(h:Kq Q->P:=by
 intro O;have hv:W.heap.size<=w2.heap.size:=U1k ((Gr.refl W).drew).size a9.size;obtain⟨fa,ga,za⟩:=bx2 w2 (0:Int) (0:Int) 67;obtain⟨f6,gb,zb⟩:=bx2 (w2.alloc (.cells #[(0:Int),(0:Int)] 67)) (0:Int) (0:Int) 29;have f5:=fa.gr gb;rw[za]at f6;obtain⟨W3,bM⟩:=ExZ ((w2.alloc (.cells #[(0:Int),(0:Int)] 67)).alloc (.cells #[(0:Int),(0:Int)] 29))
 rw[bM]at f5 f6 gb;rw[bM];have g3:=ga.trans gb;clear bM za zb;obtain⟨r0,r1,rf,rl⟩:=id f5;obtain⟨k0,k1,kf,kl⟩:=id f6;revert gb;revert f6;revert f5;revert kl;revert kf;revert k1;revert k0;revert rl;revert rf;revert r1;revert r0;revert g3;revert W3;revert ga;revert fa;revert hv;exact O.o):P:=h ⟨k⟩
theorem Z39(h:Kq Q->P:=by
 intro O;have eI:Gr w w6:=(dk.drew.trans g5).trans g6;have rz:=HW.o.gr eI;obtain⟨ep,he⟩:=rz.err;have HF:=U10 (λ W (hW:V4d W)=>(strconv_FormatInt_10 v HV.o.1 HV.o.2 W hW.pow));revert eI rz ep he HF;exact O.o):P:=h ⟨k⟩
theorem Z40(h:Kq Q->P:=by
 intro O;refine Reg.ty 3 ?_;refine Reg.ty 4 ?_;exact O.o):P:=h ⟨k⟩
theorem Z41(h:Kq Q->P:=by
 intro O;refine Reg.begin' (W:=λ _=>true) (S:=FX (w.heap.size+1) a b) (by kernel_rfl) ?_;refine Reg.ty 0 ?_;refine Reg.ty 1 ?_;refine Reg.tl 2 hS ?_ (hy:=by intro w ab;obtain⟨s0,s1,sf,sl⟩:=ab;go_simp;try with_reducible rfl);refine Reg.ty 3 ?_;refine Reg.on 4 ?_;go_simp;refine⟨by first|exact ((fI.other (by omega) _).other (by omega) _).gr (Gr.refl _).drew|exact λ _ _=>((fI.other (by omega) _).other (by omega) _).gr (Gr.refl _).drew,?_⟩;refine Reg.pt ?_;refine Reg.on 5 ?_;go_simp;refine⟨by first|exact ((((fI.other (by omega) _).other (by omega) _).other (by omega) _).other (by omega) _).gr (Gr.refl _).drew|exact λ _=>((((fI.other (by omega) _).other (by omega) _).other (by omega) _).other (by omega) _).gr (Gr.refl _).drew|exact λ _ _=>((((fI.other (by omega) _).other (by omega) _).other (by omega) _).other (by omega) _).gr (Gr.refl _).drew,?_⟩;refine Reg.pt ?_;exact O.o):P:=h ⟨k⟩
theorem Z42(h:Kq Q->P:=by
 intro O;refine Reg.begin' (W:=λ i=>i != 7) (S:=λ W=>WB3 w.heap.size (0:Int) (0:Int) (.slice none 0 0) (0:Int) (0:Int) (0:Int) W/\FX bK (.slice (some ⟨gk,0,none⟩) ws.length ck) (.slice (some ⟨gs,0,none⟩) ws.length cs) W) (by kernel_rfl) ?_;refine Reg.tl 0 aC ?_ (hy:=by intro w ab;obtain⟨⟨⟨s0,s1,s2,s3⟩,⟨s4,s5,s6,s7⟩,⟨s8,s9,ky,ox⟩⟩,⟨uM,Lw,Lx,Ly⟩⟩:=ab;go_simp;try with_reducible rfl);refine Reg.tl 1 aC ?_ (hy:=by intro w ab;obtain⟨⟨⟨s0,s1,s2,s3⟩,⟨s4,s5,s6,s7⟩,⟨s8,s9,ky,ox⟩⟩,⟨uM,Lw,Lx,Ly⟩⟩:=ab;go_simp;try with_reducible rfl);refine Reg.ty 2 ?_;refine Reg.tl 3 aC ?_ (hy:=by intro w ab;obtain⟨⟨⟨s0,s1,s2,s3⟩,⟨s4,s5,s6,s7⟩,⟨s8,s9,ky,ox⟩⟩,⟨uM,Lw,Lx,Ly⟩⟩:=ab;go_simp;try with_reducible rfl);refine Reg.on 4 ?_;go_simp;refine jE.o.mono ?_;exact O.o):P:=h ⟨k⟩
theorem Z43(h:Kq Q->P:=by
 intro O;refine Reg.sk 12 ?_;refine Reg.sk 13 ?_;refine Reg.sk 14 ?_;refine Reg.sk 15 ?_;refine Reg.sk 16 ?_;refine Reg.sk 17 ?_;refine Reg.ty 18 ?_;exact O.o):P:=h ⟨k⟩
theorem Z44(h:Kq Q->P:=by
 intro O;rintro e w' ⟨rfl,rfl⟩;exact O.o):P:=h ⟨k⟩
theorem Z45(h:Kq Q->P:=by
 intro O;refine Z305 ?_;refine Reg.sk 14 ?_;refine Reg.sk 15 ?_;exact O.o):P:=h ⟨k⟩
theorem Z46(h:Kq Q->P:=by
 intro O;refine Z316 ?_;refine Reg.ty 10 ?_;exact O.o):P:=h ⟨k⟩
theorem Z47(h:Kq Q->P:=by
 intro O;refine Reg.ty 12 ?_;refine Reg.ty 13 ?_;refine Reg.ty 14 ?_;exact O.o):P:=h ⟨k⟩
theorem Z48(h:Kq Q->P:=by
 intro O;have aN:=U10 av;have fS:=U10 aj;revert aN fS;exact O.o):P:=h ⟨k⟩
theorem Z49(h:Kq Q->P:=by
 intro O
 try simp only[Act.put,U4n,U3w,U4c,U38,U34,U3h]
 exact O.o):P:=h ⟨k⟩
theorem Z50(h:Kq Q->P:=by
 intro O;have ad:(V3a L).length=L.length*7:=O4f L;have bO:WF.ownsRow base 40 7 (.slice (some ⟨g,0,none⟩) L.length cap) L.length (V3a (L.set i ⟨nd,kv,sv,uv⟩)):=by
  subst am;have e1:=Ox Lz (i*7+2) (by omega) kv;have e2:=Ox e1 (i*7+3) (by rw[U2k];omega) sv;have e3:=Ox e2 (i*7+4) (by rw[U2k,U2k];omega) uv;have f1:=O1y L i 2 (by omega) kv r ⟨r.nd,kv,r.sv,r.uv⟩ hr rfl;have f2:=O1y (L.set i ⟨r.nd,kv,r.sv,r.uv⟩) i 3 (by omega) sv ⟨r.nd,kv,r.sv,r.uv⟩ ⟨r.nd,kv,sv,r.uv⟩ (by simp[hi]) rfl;have f3:=O1y ((L.set i ⟨r.nd,kv,r.sv,r.uv⟩).set i ⟨r.nd,kv,sv,r.uv⟩) i 4 (by omega) uv ⟨r.nd,kv,sv,r.uv⟩ ⟨nd,kv,sv,uv⟩ (by simp[hi]) (by simp[ndV,bx,cd,fw]);rw[f1,f2,f3]at e3
  simpa using e3
 rw[am];revert ad bO;exact O.o):P:=h ⟨k⟩
theorem Z51(h:Kq Q->P:=by
 intro O;have i0:∀W,(Instr.index 229 (.agg V5g) (0:Int)).run prog W=.ok (V44 ⟨#[48,120]⟩ 16 V6y) W:=λ _=>by kernel_rfl
 have i1:∀W,(Instr.index 229 (.agg V5g) (1:Int)).run prog W=.ok (V44 ⟨#[48,111]⟩ 8 V6z) W:=λ _=>by kernel_rfl
 have i2:∀W,(Instr.index 229 (.agg V5g) (2:Int)).run prog W=.ok (V44 ⟨#[48,98]⟩ 2 V70) W:=λ _=>by kernel_rfl
 unfold V5g at i0 i1 i2;revert i2;revert i1;revert i0;exact O.o):P:=h ⟨k⟩
theorem Z52(h:Kq Q->P:=by
 intro O;go_simp;refine⟨by first|exact (dR.o.gr ((((Gr.refl W).alloc (.cells #[(0:Int),(0:Int)] 29)).alloc (.cells #[(0:Int),(0:Int)] 67)).drew))|exact λ _=>(dR.o.gr ((((Gr.refl W).alloc (.cells #[(0:Int),(0:Int)] 29)).alloc (.cells #[(0:Int),(0:Int)] 67)).drew))|exact λ h=>h.gr ((Gr.refl _).alloc _)|exact λ _ h=>h.gr ((Gr.refl _).alloc _),?_⟩;refine Reg.pt ?_;exact O.o):P:=h ⟨k⟩
theorem Z53(h:Kq Q->P:=by
 intro O;go_simp;refine⟨by first|exact (dR.o.gr ((((Gr.refl W).alloc (.cells #[(0:Int),(0:Int)] 67)).alloc (.cells #[(0:Int),(0:Int)] 29)).drew))|exact λ _=>(dR.o.gr ((((Gr.refl W).alloc (.cells #[(0:Int),(0:Int)] 67)).alloc (.cells #[(0:Int),(0:Int)] 29)).drew))|exact λ h=>h.gr ((Gr.refl _).alloc _)|exact λ _ h=>h.gr ((Gr.refl _).alloc _),?_⟩;refine Reg.pt ?_;exact O.o):P:=h ⟨k⟩
theorem Z54(h:Kq Q->P:=by
 intro O;have eB:=cV.gr g4;have dc:=dk.trans g4;obtain⟨⟨i0,i1,i2,i3,i4,i5,i6,i7,i8⟩,eV,eW⟩:=O22 jt;obtain⟨v0,v1,vf,vl⟩:=id eB;obtain⟨zI,zF,zG,_⟩:=O94 jt eB (Nat.ne_of_lt (Nat.lt_succ_self _)) dc (U12 _) (U2x _) (.int .u8 0) (0:Int) (0:Int) Vp Vp (0:Int) (0:Int) Vp (0:Int) c p;obtain⟨WF,am⟩:=ExZ ((((((((((((w4.setCell ⟨w.heap.size,0,none⟩ (.int .u8 0)).setCell ⟨w.heap.size,1,none⟩ (0:Int)).setCell ⟨w.heap.size,2,none⟩ (0:Int)).setCell ⟨w.heap.size,3,none⟩ Vp).setCell ⟨w.heap.size,4,none⟩ Vp).setCell ⟨w.heap.size,5,none⟩ (0:Int)).setCell ⟨w.heap.size,6,none⟩ (0:Int)).setCell ⟨w.heap.size,7,none⟩ Vp).setCell ⟨w.heap.size,8,none⟩ (0:Int)).setCell ⟨w.heap.size+1,0,none⟩ c).setCell ⟨w.heap.size+1,1,none⟩ p))
 rw[am]at zI zF zG;have oE:=U10 am;revert zG;revert zF;revert zI;revert oE;revert am;revert WF;revert vl;revert vf;revert v1;revert v0;revert eW;revert eV;revert i8;revert i7;revert i6;revert i5;revert i4;revert i3;revert i2;revert i1;revert i0;revert dc;revert eB;exact O.o):P:=h ⟨k⟩
theorem Z55(h:Kq Q->P:=by
 intro O;refine Reg.ty 0 ?_;refine Reg.ty 1 ?_;exact O.o):P:=h ⟨k⟩
theorem Z56(h:Kq Q->P:=by
 intro O;refine Reg.one (i:=22) rfl (by rfl) ?_;go_simp;have av:=aP.o.alloc (.cells #[n] 3);have aq:=aP.o.newB #[n] 3;have aj:=cj.o.alloc (.cells #[n] 3);revert av aq aj;exact O.o):P:=h ⟨k⟩
theorem Z57(h:Kq Q->P:=by
 intro O;refine⟨by first|exact hS|exact λ _=>hS|exact λ _ _=>hS,?_⟩;refine Reg.pt ?_;exact O.o):P:=h ⟨k⟩
theorem Z58(h:Kq Q->P:=by
 intro O;refine (Oa s _ e rfl Ga (by omega) _).mono ?_;rintro e3 w3 ⟨rfl,g3⟩;have nO:=V8 (bs s) e (by rw[O0];exact Ga);rw[O0]at nO;have sJ:=HK.o.gr g3;obtain⟨p0,p1,p2,p3,p4,p5,p6,p7⟩:=sJ.cells;have uN:=sJ.lt;have oF:=U10 sJ;have rA:=bV.o
 try dsimp only at rA
 obtain⟨a,ha⟩:=ExZ (V7 (bs s) e)
 rw[ha]at nO rA⊢;have HA:=U10 ha;clear ha sJ;revert rA;revert nO;revert HA;revert a;revert oF;revert uN;revert p7;revert p6;revert p5;revert p4;revert p3;revert p2;revert p1;revert p0;revert g3;revert w3;exact O.o):P:=h ⟨k⟩
theorem Z59(h:Kq Q->P:=by
 intro O;refine Reg.ty 7 ?_;refine Z316 ?_;exact O.o):P:=h ⟨k⟩
theorem Z60(h:Kq Q->P:=by
 intro O;refine Reg.ty 5 ?_;refine Reg.ty 6 ?_;refine Reg.ty 8 ?_;refine Reg.tl 9 hS ?_ (hy:=by intro w ab;obtain⟨q0,q1,qf,ql⟩:=ab;go_simp;try with_reducible rfl);refine Reg.on 7 ?_;go_simp;refine (Oal w w3.drew R B base s root nv L own H.o d7.drew HR.o kk uO.o x n (n+k) _ rfl _ (by simp)).mono ?_;rintro e w4 ⟨rfl,nv',own',oG,kQ,fT,jF⟩;have cV:=hS.st jF AQ.o;refine⟨by first|exact cV|exact λ _=>cV|exact λ _ _=>cV,?_⟩;refine Reg.pt ?_;refine Reg.ty 10 ?_;refine Reg.ty 11 ?_;obtain⟨p0,p1,pf,pl⟩:=cV;have eX:¬FV own' w.heap.size:=by
  intro hf;rcases fT _ hf with e|e
  exact AQ.o e
  have:=hS.2.2.2;omega
 have H3:=U10 oG;have AR:=U10 kQ;have AS:=U10 fT;clear oG kQ fT jF;refine Reg.on 12 ?_;go_simp;revert w4 nv' own' p0 p1 pf pl eX H3 AR AS;exact O.o):P:=h ⟨k⟩
theorem Z61(h:Kq Q->P:=by
 intro O;refine U2z _ (.tmp 33) (.tmp 35) 34 (by rfl) w.heap.size 9 iK _ 1 16 underlying34 fH.o.1 fH.o.2.1 fH.o.2.2.1 fH.o.2.2.2 (by rfl) (by decide) kv acc.length _ (by rfl) aP.o.k _ 1 1 [V3h t] (by rfl) (by rfl) (U2f cU.o.blk) (by simp[Value.oneCell']) (by decide) (by unfold maxLen;omega) (by omega) aP.o.size _ rfl ?_;intro gK aJ V3 ho hg ha hz;have aW:=U10 (aP.o.appK ho hg ha);have mx:=U10 (mA.o.appK (n:=acc.length+1) (cap:=aJ) hg ha);have sH:=U10 (sK.o.appK (n:=acc.length+1) (cap:=aJ) hg ha);have cb:=U10 (dS.o.appK (n:=acc.length+1) (cap:=aJ) hg ha);clear ho hg ha hz;have aC:=O2m mx.o;refine⟨λ _ _=>aC,?_⟩;refine Reg.pt ?_;refine Reg.ty 13 ?_;refine Reg.on 11 ?_;revert gK aJ V3 aW mx sH cb aC;exact O.o):P:=h ⟨k⟩
theorem Z62(h:Kq Q->P:=by
 intro O;refine Reg.one (i:=9) rfl (by rfl) ?_;refine U2z _ (.tmp 24) (.tmp 26) 34 (by rfl) base 9 iK _ 1 16 underlying34 fH.o.1 fH.o.2.1 fH.o.2.2.1 fH.o.2.2.2 (by rfl) (by decide) r.kv r.nd.keys.length (Oj r.nd.keys) (by rfl) aN.o.k _ 1 1 [.string key] (by rfl) (by rfl) (U2f mB.o.blk) (by simp[Value.oneCell']) (by decide) (by unfold maxLen;omega) (by omega) (U1k bA aN.o.size) _ rfl ?_;intro gK aJ V2 ho hg ha hz;have aP:=U10 (aN.o.appK ho hg ha);have cj:=U10 (fS.o.appK (n:=r.nd.keys.length+1) (cap:=aJ) hg ha);clear ho hg ha hz;have bi:=O18 aP.o cj.o HC.o;refine⟨λ _ _=>bi,?_⟩;refine Reg.pt ?_;refine Reg.all (rs:=[15,22]) (by kernel_rfl) (by simp) ?_;revert gK aJ V2 aP cj bi;exact O.o):P:=h ⟨k⟩
theorem Z63(h:Kq Q->P:=by
 intro O;obtain⟨r1,r2,r3⟩:=lQ.o la wt a b Gb.o;have cI:=Ofi w5 gk gs la ck cs ⟨wt.toArray⟩ a b (by omega) (U13 (U13 iY bv.o.size) g5.size) (U13 (U13 iZ bv.o.size) g5.size) ((V3m _).trans r1) ((wW _).trans r2) ((wW _).trans r3);rw[<-eC.o]at cI;refine cI.mono ?_;rintro e w6 ⟨rfl,g6⟩;have lR:=g5.trans g6;revert cI;revert lR;revert g6;revert w6;revert r3;revert r2;revert r1;exact O.o):P:=h ⟨k⟩
theorem Z64(h:Kq Q->P:=by
 intro O;refine⟨by first|exact cF|exact λ _=>cF|exact λ _ _=>cF,?_⟩;refine Reg.pt ?_;exact O.o):P:=h ⟨k⟩
theorem Z65(h:Kq Q->P:=by
 intro O;refine Reg.ty 10 ?_;refine Reg.ty 11 ?_;exact O.o):P:=h ⟨k⟩
theorem Z66(h:Kq Q->P:=by
 intro O;refine Reg.one (i:=22) rfl (by rfl) ?_;go_simp;exact O.o):P:=h ⟨k⟩
theorem Z67(h:Kq Q->P:=by
 intro O;have LB:=(fJ.i.other (b2:=w.heap.size+1+1) (o:=0) (by omega) ec).other (b2:=w.heap.size+1+1) (o:=1) (by omega) eq;have LC:=(fJ.t.other (b2:=w.heap.size+1+1) (o:=0) (by omega) ec).other (b2:=w.heap.size+1+1) (o:=1) (by omega) eq;have wX:=fJ.f.set ec eq;have Ec:=Ogu dc (show w.heap.size+1+1<w5.heap.size from cE.f.2.2.2) (λ k hk=>(H.o.v.lt k hk).2) rB.2 ao;obtain⟨WF,am⟩:=ExZ (((w6.setCell ⟨w.heap.size+1+1,0,none⟩ ec).setCell ⟨w.heap.size+1+1,1,none⟩ eq))
 rw[am]at LB LC wX Ec;rw[am];obtain⟨q0,q1,qf,ql⟩:=LB;obtain⟨y0,y1,yf,yl⟩:=LC;obtain⟨mC,mD,mF,mG⟩:=wX;rw[<-mH];revert Ec;revert mG;revert mF;revert mD;revert mC;revert yl;revert yf;revert y1;revert y0;revert ql;revert qf;revert q1;revert q0;revert am;revert WF;exact O.o):P:=h ⟨k⟩
theorem Z68(h:Kq Q->P:=by
 intro O;have hF:=iB.set (4:Int) a;have AT:=(((HG.o.st).trans bv.o).gr G7.o)
 have sF:St (FV own) (FV own') w _:=(AT.setCell (p:=⟨w.heap.size+1,0,none⟩) (.inr (by simp only;omega)) (4:Int)).setCell (p:=⟨w.heap.size+1,1,none⟩) (.inr (by simp only;omega)) a;have aE:((W7.setCell ⟨w.heap.size+1,0,none⟩ (4:Int)).setCell ⟨w.heap.size+1,1,none⟩ a).cell? ⟨R,2,none⟩=some (.string s):=by
  exact J88
 obtain⟨WF,am⟩:=ExZ (((W7.setCell ⟨w.heap.size+1,0,none⟩ (4:Int)).setCell ⟨w.heap.size+1,1,none⟩ a))
 rw[am]at hF sF aE;rw[am];clear am;obtain⟨q0,q1,qf,ql⟩:=hF;rw[<-ag];revert aE;revert sF;revert ql;revert qf;revert q1;revert q0;revert WF;revert AT;exact O.o):P:=h ⟨k⟩
theorem Z69(h:Kq Q->P:=by
 intro O;have oH:(((a:Int)==(s.size:Int))=true)\/(∃aa:a<s.size,((a:Int)==(s.size:Int))=false/\((s[a].toNat:Int) != 46)=true):=by
  by_cases h:a<s.size;refine .inr ⟨h,by simp;omega,?_⟩;rw[byteAt_lt s a h]at jG;simp;omega
  exact .inl (by simp;omega)
 have uK:=U10 rA;have bx:(0:Int)<=(a:Int):=by omega
 revert oH uK bx;exact O.o):P:=h ⟨k⟩
theorem Z70(h:Kq Q->P:=by
 intro O;have zD:Obk w VV:=⟨p4,p5⟩
 have zE:acc.length+1<=aJ/\aJ<=9223372036854775807:=by
  rcases AU with⟨h,_⟩|⟨g,c,h,h1,h2⟩
  cases h
  cases h;exact⟨h1,h2⟩
 have Ed:acc.length+1<=cH/\cH<=9223372036854775807:=by
  rcases lS with⟨h,_⟩|⟨g,c,h,h1,h2⟩
  cases h
  cases h;exact⟨h1,h2⟩
 revert zD zE Ed;exact O.o):P:=h ⟨k⟩
theorem Z71(h:Kq Q->P:=by
 intro O;go_simp;refine⟨by first|exact (dR.o.gr (((Gr.refl W).alloc (.cells #[(0:Int),(0:Int)] 29)).drew))|exact λ _=>(dR.o.gr (((Gr.refl W).alloc (.cells #[(0:Int),(0:Int)] 29)).drew))|exact λ h=>h.gr ((Gr.refl _).alloc _)|exact λ _ h=>h.gr ((Gr.refl _).alloc _),?_⟩;refine Reg.pt ?_;exact O.o):P:=h ⟨k⟩
theorem Z72(h:Kq Q->P:=by
 intro O;go_simp;refine⟨by first|exact (dR.o.gr (((Gr.refl W).alloc (.cells #[(0:Int),(0:Int)] 67)).drew))|exact λ _=>(dR.o.gr (((Gr.refl W).alloc (.cells #[(0:Int),(0:Int)] 67)).drew))|exact λ h=>h.gr ((Gr.refl _).alloc _)|exact λ _ h=>h.gr ((Gr.refl _).alloc _),?_⟩;refine Reg.pt ?_;exact O.o):P:=h ⟨k⟩
theorem Z73(h:Kq Q->P:=by
 intro O;refine Reg.ty 14 ?_;refine Reg.ty 15 ?_;refine Reg.ty 16 ?_;exact O.o):P:=h ⟨k⟩
theorem Z74(h:Kq Q->P:=by
 intro O;have iA:=U10 ((uP.setCell (p:=⟨w.heap.size,0,none⟩) uQ (0:Int)).setCell (p:=⟨w.heap.size,1,none⟩) uQ (0:Int));have fU:=U10 (((jH.o.trans cW).setCell (p:=⟨w.heap.size,0,none⟩) (.inr (U12 _)) (0:Int)).setCell (p:=⟨w.heap.size,1,none⟩) (.inr (U12 _)) (0:Int));revert iA fU;exact O.o):P:=h ⟨k⟩
theorem Z75(h:Kq Q->P:=by
 intro O;refine Reg.one (i:=15) rfl (by rfl) ?_;go_simp;exact O.o):P:=h ⟨k⟩
theorem Z76(h:Kq Q->P:=by
 intro O;refine⟨by first|exact kx|exact λ _=>kx|exact λ _ _=>kx,?_⟩;refine Reg.pt ?_;exact O.o):P:=h ⟨k⟩
theorem Z77(h:Kq Q->P:=by
 intro O;refine (O6q _ R s m q out ov (RdQ.auto aP.o) hm hs).mono ?_;rw[zH.o];rintro e w1 ⟨rfl,g1⟩;obtain⟨ah,ap,ax⟩:=g1.use;simp at ax;have dl:w.heap.size<w1.heap.size:=by omega
 have nP:¬w.heap.size=w1.heap.size:=by omega
 revert ax;revert nP;revert dl;revert ap;revert ah;revert g1;revert w1;exact O.o):P:=h ⟨k⟩
theorem Z78(h:Kq Q->P:=by
 intro O;refine Z327 ?_;refine Reg.tl 1 hS ?_ (hy:=by intro w ab;obtain⟨⟨s0,s1,sf,sl⟩,⟨s2,s3,LD,LF⟩⟩:=ab;go_simp;try with_reducible rfl);refine Reg.on 2 ?_;exact O.o):P:=h ⟨k⟩
theorem Z79(h:Kq Q->P:=by
 intro O;have eJ:t.toList.isEmpty=false:=by
  exact J9
 have dE:=U3g (P:=prog) w 9 22 5 t (u:=.string) (by kernel_rfl) (by kernel_rfl) (by kernel_rfl);revert eJ dE;exact O.o):P:=h ⟨k⟩
theorem Z80(h:Kq Q->P:=by
 intro O;have av:=U10 eD;have cl:Hid (∀k,own' k≠0->own k≠0\/w.heap.size+1<=k):=λ k hk=>(bB k hk).imp id (λ e=>by simpa using e)
 have Gc:=U10 LG;revert av cl Gc;exact O.o):P:=h ⟨k⟩
theorem Z82(h:Kq Q->P:=by
 intro O;refine Reg.ty 4 ?_;refine Reg.ty 5 ?_;refine Reg.ty 6 ?_;exact O.o):P:=h ⟨k⟩
theorem Z83(h:Kq Q->P:=by
 intro O;refine⟨by first|exact zD|exact λ _=>zD|exact λ _ h=>h,?_⟩;refine Reg.pt ?_;exact O.o):P:=h ⟨k⟩
theorem Z84(h:Kq Q->P:=by
 intro O;refine Reg.ty 3 ?_;refine Reg.tl 2 hS ?_ (hy:=by intro w ab;obtain⟨⟨s0,s1,s2,s3⟩,s4,s5⟩:=ab;go_simp;try with_reducible rfl);refine Reg.tl 4 hS ?_ (hy:=by intro w ab;obtain⟨⟨s0,s1,s2,s3⟩,s4,s5⟩:=ab;go_simp;try with_reducible rfl);refine Reg.ty 5 ?_;refine Reg.ty 6 ?_;refine Reg.tl 7 hS ?_ (hy:=by intro w ab;obtain⟨⟨s0,s1,s2,s3⟩,s4,s5⟩:=ab;go_simp;try with_reducible rfl);refine Reg.on 8 ?_;go_simp;refine (Gd.o wq.drew (zJ.o.trans (Gr.refl wq).drew)).mono ?_;rintro e w4 ⟨q4,rfl,wY,g4⟩;have ci:=hS.gr g4;have wZ:q4.size=a.length:=by rw[<-wY,O0]
 revert w4 q4 wY g4 ci wZ;exact O.o):P:=h ⟨k⟩
theorem Z85(h:Kq Q->P:=by
 intro O;rintro e w1 ⟨rfl,g1⟩;obtain⟨ah,ap,ax⟩:=g1.use;simp at ax;revert ax;revert ap;revert ah;revert g1;revert w1;exact O.o):P:=h ⟨k⟩
theorem Z86(h:Kq Q->P:=by
 intro O;refine Reg.one (i:=8) rfl (by rfl) ?_;refine U2z _ (.tmp 68) (.tmp 70) 48 (by rfl) base 53 iI _ 9 120 underlying48 uR.o.1 uR.o.2.1 uR.o.2.2.1 uR.o.2.2.2 (by rfl) (by decide) x1.iv g.its.length xi (by rfl) aP.o.i _ 1 1 [.int .u8 it.kind,.int .i64 it.a,.int .i64 it.b,.slice ka kn kc,.slice sa sn sc,.int .i64 it.va,.int .i64 it.vb,.slice ta tn tc,.int .i64 it.root] (by rfl) (by rfl) (U2f x8.o) (by simp[Value.oneCell']) (by decide) (by unfold maxLen;omega) (by omega) (U1k bA aP.o.st.size) _ rfl ?_;intro gI sL V3 ho hg ha hz;have aW:=U10 (aP.o.appI ho hg ha);have Ee:=U1k Ef hg.size;revert gI sL V3 ho hg ha hz aW Ee;exact O.o):P:=h ⟨k⟩
theorem Z87(h:Kq Q->P:=by
 intro O;rw[U1p _ _ _ _ (by first|(simp;done)|(simp;omega)),U1p _ _ _ _ (by first|(simp;done)|(simp;omega))];exact O.o):P:=h ⟨k⟩
theorem Z88(h:Kq Q->P:=by
 intro O;have k1:(1:Int)<=(z.size:Int):=by omega
 have k4:(4:Int)<=(z.size:Int):=by omega
 have x9:=U10 zL;have AV:=U10 zM;revert k1 k4 x9 AV;exact O.o):P:=h ⟨k⟩
theorem Z89(h:Kq Q->P:=by
 intro O;have HY:Hid (V4j c=false):=U10 (by rw[HX.o,AW,tB];rfl);revert HY;exact O.o):P:=h ⟨k⟩
theorem Z90(h:Kq Q->P:=by
 intro O;refine Reg.sk 14 ?_;refine Reg.sk 15 ?_;refine Reg.sk 16 ?_;exact O.o):P:=h ⟨k⟩
theorem Z91(h:Kq Q->P:=by
 intro O;have xa:=U10 (Op8 cG.o mw.o wO.o);obtain⟨VE,Eg⟩:=ExZ ((V4.setCell ⟨w.heap.size,0,none⟩ (.slice (some ⟨gK,0,none⟩) (acc.length+1) aJ)).setCell ⟨w.heap.size,1,none⟩ (.slice (some ⟨gS,0,none⟩) (acc.length+1) cH))
 have oJ:=xa.o;revert xa VE Eg oJ;exact O.o):P:=h ⟨k⟩
theorem Z92(h:Kq Q->P:=by
 intro O;go_simp;refine (j0.o (((W.alloc (.cells #[(0:Int),(0:Int)] 29)).alloc (.cells #[(0:Int),(0:Int)] 67)).drew) (HG.o.trans ((((Gr.refl W).alloc (.cells #[(0:Int),(0:Int)] 29)).alloc (.cells #[(0:Int),(0:Int)] 67)).drew))).mono ?_;exact O.o):P:=h ⟨k⟩
theorem Z93(h:Kq Q->P:=by
 intro O;go_simp;refine (j0.o (((W.alloc (.cells #[(0:Int),(0:Int)] 67)).alloc (.cells #[(0:Int),(0:Int)] 29)).drew) (HG.o.trans ((((Gr.refl W).alloc (.cells #[(0:Int),(0:Int)] 67)).alloc (.cells #[(0:Int),(0:Int)] 29)).drew))).mono ?_;exact O.o):P:=h ⟨k⟩
theorem Z94(h:Kq Q->P:=by
 intro O;refine Reg.begin' (W:=λ i=>i != 3) (S:=FX w.heap.size (0:Int) (0:Int)) (by kernel_rfl) ?_;refine Z322 ?_;exact O.o):P:=h ⟨k⟩
theorem Z95(h:Kq Q->P:=by
 intro O;have HK:Hid (false=(r7.toList.isEmpty&&(o3.toList.isEmpty==o4.toList.isEmpty)&&(o5.toList.isEmpty==o7.toList.isEmpty))):=U10 (by rw[bR,H3.o,f2,H5.o,g2];rfl);rw[fx];revert HK;exact O.o):P:=h ⟨k⟩
theorem Z96(h:Kq Q->P:=by
 intro O;have HK:Hid (true=(r7.toList.isEmpty&&(o3.toList.isEmpty==o4.toList.isEmpty)&&(o5.toList.isEmpty==o7.toList.isEmpty))):=U10 (by rw[bR,H3.o,f2,H5.o,g2];rfl);rw[fx];revert HK;exact O.o):P:=h ⟨k⟩
theorem Z97(h:Kq Q->P:=by
 intro O;have tg:∀k,own k≠0->¬FI own i k->(if kv.ownBlock=some k then 4+3*i else if sv.ownBlock=some k then 5+3*i else if uv.ownBlock=some k then 6+3*i else own k)=own k:=by
  intro k h0 hF;have hk:=(h.lt k h0).2;have a1:kv.ownBlock≠some k:=λ e=>(H.fk k e).elim hF (λ e=>by omega)
  have a2:sv.ownBlock≠some k:=λ e=>(H.fs k e).elim hF (λ e=>by omega)
  have a3:uv.ownBlock≠some k:=λ e=>(H.fu k e).elim hF (λ e=>by omega)
  simp only[a1,a2,a3,U2c]
 revert tg;exact O.o):P:=h ⟨k⟩
theorem Z98(h:Kq Q->P:=by
 intro O;refine⟨by first|exact cF|exact λ _=>cF,?_⟩;refine Reg.pt ?_;exact O.o):P:=h ⟨k⟩
theorem Z99(h:Kq Q->P:=by
 intro O;refine Reg.ty 17 ?_;refine Reg.ty 18 ?_;exact O.o):P:=h ⟨k⟩
theorem Z100(h:Kq Q->P:=by
 intro O;have bv:Hid (∀V,Gr w V->V24 w V base (FI own i) r.kv r.sv r.uv r.nd.keys.length r.nd.spots.length r.nd.subs.length (Oj r.nd.keys) (Oc r.nd.spots) (O8 r.nd.subs)):=λ V g1=>h.start3 g1 i r hr h8
 obtain⟨iK,k1,k2,k3,k4⟩:=U3u Of8;obtain⟨iS,s1,s2,s3,s4⟩:=U3u Ocv;obtain⟨iU,u1,u2,u3,u4⟩:=U3u O6y;have fH:=U10 (And.intro k1 (And.intro k2 (And.intro k3 k4)));have dX:=U10 (And.intro s1 (And.intro s2 (And.intro s3 s4)));have cQ:=U10 (And.intro u1 (And.intro u2 (And.intro u3 u4)));have nQ:(0:Int)<=(i:Int):=by omega
 have eY:(i:Int)<(L.length:Int):=by omega
 revert bv iK k1 k2 k3 k4 iS s1 s2 s3 s4 iU u1 u2 u3 u4 fH dX cQ nQ eY;exact O.o):P:=h ⟨k⟩
theorem Z101(h:Kq Q->P:=by
 intro O;obtain⟨hB,gB,zB⟩:=bx2 W0 (0:Int) (0:Int) 29;obtain⟨W1,aK⟩:=ExZ (W0.alloc (.cells #[(0:Int),(0:Int)] 29))
 rw[aK]at hB gB zB;rw[zA]at hB zB;revert zB;revert hB;revert gB;revert aK;revert W1;exact O.o):P:=h ⟨k⟩
theorem Z102(h:Kq Q->P:=by
 intro O;have dm:=oL.o.span T rT AX.o (n:Int) ((e2:Int)+1);have ia:Hid (RdV ((w7.setCell ⟨gN,T*7+5,none⟩ (.int .i64 (n:Int))).setCell ⟨gN,T*7+5+1,none⟩ (.int .i64 ((e2:Int)+1))) R B base s root (.slice (some ⟨gN,0,none⟩) (L5).length i9) ((L5).set T (O2s rT (n:Int) ((e2:Int)+1))) cm):=dm.1;have cJ:Hid (St (FV own) (FV cm) w ((w7.setCell ⟨gN,T*7+5,none⟩ (.int .i64 (n:Int))).setCell ⟨gN,T*7+5+1,none⟩ (.int .i64 ((e2:Int)+1)))):=mI.o.trans dm.2;revert dm ia cJ;exact O.o):P:=h ⟨k⟩
theorem Z103(h:Kq Q->P:=by
 intro O;have aC:=O18 aW.o bE.o HC.o;refine⟨λ _ _=>aC,?_⟩;refine Reg.pt ?_;revert aC;exact O.o):P:=h ⟨k⟩
theorem Z104(h:Kq Q->P:=by
 intro O;rw[<-bV.o];refine U11 (v:=.tuple #[T,.int .i64 (e2+1:Nat),f0]) (by simp[results,results46,go_sem,p0,p1,pf,pl]) rfl ⟨rfl,by have:=lT.o;omega,by simpa using rC,_,_,cm,((ia.o.setCell xb _).setCell xb _).drew,?_,((cJ.o.setCell (.inr (U12 _)) _).setCell (.inr (U12 _)) _).drew,λ k hk=>(d8.o k hk).imp id (λ e=>by have:=fy.o;omega)⟩;rw[O6f _ T rT _ _ AX.o];exact O.o):P:=h ⟨k⟩
theorem Z105(h:Kq Q->P:=by
 intro O;have hu:=a9.use w.heap.size (by omega) (λ hF=>by have:=HR.o.own_lt hF;omega);have aL:=a9.size;have cw:Gr w w2:=a9.below hg (λ k hF=>by have:=HR.o.own_lt hF;omega);revert hu aL cw;exact O.o):P:=h ⟨k⟩
theorem Z106(h:Kq Q->P:=by
 intro O;have aC:=O18 aW.o bE.o HC.o;refine⟨by first|exact aC|exact λ _=>aC,?_⟩;refine Reg.pt ?_;revert aC;exact O.o):P:=h ⟨k⟩
theorem Z107(h:Kq Q->P:=by
 intro O;refine Reg.one (i:=8) rfl (by rfl) ?_;go_simp;have av:=aN.o.alloc (.cells #[.string key] 9);have au:=aN.o.newB #[.string key] 9;have aj:=fS.o.alloc (.cells #[.string key] 9);revert av au aj;exact O.o):P:=h ⟨k⟩
theorem Z108(h:Kq Q->P:=by
 intro O;refine Reg.ty 13 ?_;refine Reg.ty 14 ?_;refine Reg.ty 15 ?_;refine Reg.tl 6 hS ?_ (hy:=by intro w ab;obtain⟨x1,x2,x3,xf⟩:=ab;go_simp;try with_reducible rfl);refine Reg.tl 11 hS ?_ (hy:=by intro w ab;obtain⟨x1,x2,x3,xf⟩:=ab;go_simp;try with_reducible rfl);refine Reg.tl 16 hS ?_ (hy:=by intro w ab;obtain⟨x1,x2,x3,xf⟩:=ab;go_simp;try with_reducible rfl);refine Reg.on 7 ?_;go_simp;refine (iC.o _).mono ?_;exact O.o):P:=h ⟨k⟩
theorem Z109(h:Kq Q->P:=by
 intro O;refine U2z _ (.tmp 24) (.tmp 26) 34 (by rfl) base 9 iK _ 1 16 underlying34 fH.o.1 fH.o.2.1 fH.o.2.2.1 fH.o.2.2.2 (by rfl) (by decide) r.kv r.nd.keys.length (Oj r.nd.keys) (by rfl) aW.o.k _ 1 1 [.string key] (by rfl) (by rfl) (U2f mJ.o.blk) (by simp[Value.oneCell']) (by decide) (by unfold maxLen;omega) (by omega) (U1k bA aW.o.size) _ rfl ?_;intro gK aJ V4 ho hg ha hz;have cG:=U10 (aW.o.appK ho hg ha);have db:=U10 (bE.o.appK (n:=r.nd.keys.length+1) (cap:=aJ) hg ha);revert gK aJ V4 ho hg ha hz cG db;exact O.o):P:=h ⟨k⟩
theorem Z110(h:Kq Q->P:=by
 intro O;refine Z319 ?_;intro cE nR;have aC:WB3 w.heap.size (0:Int) (0:Int) (.slice none 0 0) (0:Int) (0:Int) (0:Int) w5.drew/\FX bK (.slice (some ⟨gk,0,none⟩) ws.length ck) (.slice (some ⟨gs,0,none⟩) ws.length cs) w5.drew:=⟨cE.gr (Gr.refl w5).drew,nR.gr (Gr.refl w5).drew⟩
 have kz:=g5.drew;revert cE nR aC kz;exact O.o):P:=h ⟨k⟩
theorem Z111(h:Kq Q->P:=by
 intro O;refine Reg.ty 0 ?_;refine Reg.ty 3 ?_;refine Reg.ty 7 ?_;refine Reg.tl 8 zD ?_ (hy:=by intro w ab;obtain⟨q1,q2⟩:=ab;go_simp;try with_reducible rfl);refine Reg.all (rs:=[1,4]) (by kernel_rfl) (by simp) ?_;exact O.o):P:=h ⟨k⟩
theorem Z112(h:Kq Q->P:=by
 intro O;have av:=aN.o.alloc (.cells #[a,b] 38);have ak:=aN.o.newB #[a,b] 38;have aj:=fS.o.alloc (.cells #[a,b] 38);revert av ak aj;exact O.o):P:=h ⟨k⟩
theorem Z113(h:Kq Q->P:=by
 intro O;refine Reg.one (i:=15) rfl (by rfl) ?_;exact O.o):P:=h ⟨k⟩
theorem Z114(h:Kq Q->P:=by
 intro O;have e0:∀xs:List UInt8,strOfNums (xs.map λ x=>(x.toNat:Int))=⟨xs.toArray⟩:=by
  intro xs;unfold strOfNums;rw[U47];congr 2
  conv=>rhs;rw[<-List.map_id xs]
  exact U48 (λ x _=>by simp)
 revert e0;exact O.o):P:=h ⟨k⟩
theorem Z115(h:Kq Q->P:=by
 intro O;obtain⟨⟨c0,c1,c2,c3,c4,c5,c6⟩,c7,c8,fz⟩:=h.v.cells;have hR:=h.v.R_lt;have mK:=U10 (λ W (q:Gr w W)=>h.v.look i (by omega) W (q.block h.v.B_lt.2));obtain⟨sh,sof,cz⟩:∃a b,g.srt.getD i (0,0)=(a,b):=⟨_,_,rfl⟩
 have hs:Vf g i=(sh,sof):=cz;rw[cz]at mK;revert mK;revert hs;revert cz;revert sof;revert sh;revert hR;revert fz;revert c8;revert c7;revert c6;revert c5;revert c4;revert c3;revert c2;revert c1;revert c0;exact O.o):P:=h ⟨k⟩
theorem Z116(h:Kq Q->P:=by
 intro O;rintro e w7 ⟨rfl,hc,F',ib,AY⟩;have xd:=U10 ((AY.set (b:=w.heap.size) (o:=0) (by omega) c).set (b:=w.heap.size) (o:=1) (by omega) p);clear AY;revert w7 hc F' ib xd;exact O.o):P:=h ⟨k⟩
theorem Z117(h:Kq Q->P:=by
 intro O;refine (Ohp _ R s a q out ov (RdQ.auto HS.o) aa hs ho).mono ?_;exact O.o):P:=h ⟨k⟩
theorem Z118(h:Kq Q->P:=by
 intro O;have aO:=U2b List.length ay;rw[U1c,O0]at aO;simp only[U17,U1c]at aO;have k4:=(zJ.o.use.1 _ _ bl).trans b4;have ku:=(zJ.o.use.1 _ _ aZ).trans zN;have Ge:=rD.o.gr (dn.o.trans zJ.o);have Gf:TxS w.heap.size W.heap.size gu m (.slice (some ⟨gn,0,none⟩) L.length L.length) root r.nd.subs.length uc r.nd.subs[m] wq:=⟨Ge,k4,ku⟩
 have Gg:=U10 ay;have Gh:=U10 Gf;revert aO;revert Gh;revert Gg;revert Gf;revert Ge;revert ku;revert k4;exact O.o):P:=h ⟨k⟩
theorem Z119(h:Kq Q->P:=by
 intro O;have HV:Hid (-9223372036854775808<=v/\v<=9223372036854775807):=⟨nN,lP⟩
 revert HV;exact O.o):P:=h ⟨k⟩
theorem Z120(h:Kq Q->P:=by
 intro O;have hF:=Hb.o.set n d';have gF:Gr w _:=((Eh.o).setCell (p:=⟨w.heap.size,0,none⟩) (U12 _) n).setCell (p:=⟨w.heap.size,1,none⟩) (U12 _) d';obtain⟨WF,am⟩:=ExZ (((w2.setCell ⟨w.heap.size,0,none⟩ n).setCell ⟨w.heap.size,1,none⟩ d'))
 rw[am]at hF gF;rw[am];clear am;obtain⟨q0,q1,qf,ql⟩:=hF;revert gF;revert ql;revert qf;revert q1;revert q0;revert WF;exact O.o):P:=h ⟨k⟩
theorem Z121(h:Kq Q->P:=by
 intro O;have fL:=aP.o.gr (((Gr.refl wr).drewN _).trans g1);obtain⟨x0,x1,x2,x3,xz⟩:=fL.cells;have AZ:=xz 1;have lU:=fL.lt;have A':¬R=w1.heap.size:=by omega
 have aN:=U10 fL;revert fL x0 x1 x2 x3 xz AZ lU A' aN;exact O.o):P:=h ⟨k⟩
theorem Z122(h:Kq Q->P:=by
 intro O;have HW:=U10 hw;have oM:=U10 ju;have HR:=U10 hr;have HY:=U10 hY;have HL:=U10 hL;have zO:=U10 uS;have zP:=U10 uT;have xe:=U10 uU;revert HW oM HR HY HL zO zP xe;exact O.o):P:=h ⟨k⟩
theorem Z123(h:Kq Q->P:=by
 intro O;have fV:=e9.o.st cW xg;have j7:=U10 (fV.set c p);have fU:=U10 (((jH.o.trans cW).setCell (p:=⟨w.heap.size,0,none⟩) (.inr (U12 _)) c).setCell (p:=⟨w.heap.size,1,none⟩) (.inr (U12 _)) p);have bV:Hid (Va.bad c p=X):=by
  have:=HX.o;rw[<-dt]at this;exact this
 have HC:=U10 hc;obtain⟨a0,a1,af,al⟩:=fV;have kR:¬(c:Int)=0:=by omega
 revert j7 fU bV HC a0 a1 af al kR;exact O.o):P:=h ⟨k⟩
theorem Z124(h:Kq Q->P:=by
 intro O;have hF:=h.set c q;have iD:((w2.setCell ⟨z,0,none⟩ c).setCell ⟨z,1,none⟩ q).heap.size=w2.heap.size:=by simp[World.setCell]
 have hs:∀(F F':Nat->Prop)(w:World),St F F' w w2->w.heap.size<=z->St F F' w ((w2.setCell ⟨z,0,none⟩ c).setCell ⟨z,1,none⟩ q):=λ F F' w g l=>(g.setCell (p:=⟨z,0,none⟩) (.inr l) _).setCell (p:=⟨z,1,none⟩) (.inr l) _
 revert hF iD hs;exact O.o):P:=h ⟨k⟩
theorem Z125(h:Kq Q->P:=by
 intro O;have k2:=Obh (x:=.int .i64 0) (y:=.int .i64 0) e0 e1;have k3:∀o,((w1.setCell ⟨w.heap.size,0,none⟩ (0:Int)).setCell ⟨w.heap.size,1,none⟩ (0:Int)).frozen? ⟨w.heap.size,o,none⟩=w1.frozen? ⟨w.heap.size,o,none⟩:=by
  exact J34
 have g2:Gr w ((w1.setCell ⟨w.heap.size,0,none⟩ (0:Int)).setCell ⟨w.heap.size,1,none⟩ (0:Int)):=Gr.auto;revert k2 k3 g2;exact O.o):P:=h ⟨k⟩
theorem Z126(h:Kq Q->P:=by
 intro O;have bx:(0:Int)<=(a:Int)+1:=by omega
 have cd:(a:Int)+1<=(s.size:Int):=by omega
 have fw:((a:Int)+1).toNat=a+1:=by omega
 revert bx cd fw;exact O.o):P:=h ⟨k⟩
theorem Z127(h:Kq Q->P:=by
 intro O;have dG:w.heap.size<w2.heap.size:=by omega
 have dl:w.heap.size+1<w2.heap.size:=by omega
 revert dG dl;exact O.o):P:=h ⟨k⟩
theorem Z128(h:Kq Q->P:=by
 intro O;obtain⟨l,hL⟩:∃l,l=t.data.toList:=⟨_,rfl⟩
 have zQ:l.length=t.size:=by rw[hL,Lib.size_eq]
 revert l hL zQ;exact O.o):P:=h ⟨k⟩
theorem Z129(h:Kq Q->P:=by
 intro O;obtain⟨V3,hV⟩:=ExZ (V2.alloc (.cells #[a,b] 38))
 revert V3 hV;exact O.o):P:=h ⟨k⟩
theorem Z130(h:Kq Q->P:=by
 intro O;have ho:∀(g:Vc)(d i:Nat),GI g->i<g.nds.length->V39 g d i≠.non/\∀n d',V39 g d i=.go n d'->Tb g n/\d'<=d+2:=λ g d i h _=>O9h h d i
 obtain⟨q1,q2,_⟩:=(O6t (2,0) (.inr (.inl rfl)) V39 ho k.dropLast 0 1 g h h.root (by omega)).2 _ _ _ hw;have fW:=Oi8 (2,0) (.inr (.inl rfl)) V39 ho k.dropLast 0 1 g t d g1 h h.root (by omega) hp hw;revert ho q1 q2 fW;exact O.o):P:=h ⟨k⟩
theorem Z131(h:Kq Q->P:=by
 intro O;have F5:=U10 f5;have F6:=U10 f6;have bv:=U10 a9;have bG:=U10 cA;have jI:=U10 lV;obtain⟨k0,k1,kf,kl⟩:=id f6;have eE:∃wt a b,ws[la]?=some (wt,a,b):=by
  exact J81
 obtain⟨wt,a,b,ed⟩:=eE;revert F5 F6 bv bG jI k0 k1 kf kl wt a b ed;exact O.o):P:=h ⟨k⟩
theorem Z132(h:Kq Q->P:=by
 intro O;refine⟨by first|exact cV|exact λ _=>cV|exact λ _ _=>cV,?_⟩;refine Reg.pt ?_;exact O.o):P:=h ⟨k⟩
theorem Z133(h:Kq Q->P:=by
 intro O;refine (Onu E hE wr R B base s root V HV.o ic L2 ac aW.o mL.o hs T d m2 jw hd (by omega) _ hP (by simp)).mono ?_;exact O.o):P:=h ⟨k⟩
theorem Z134(h:Kq Q->P:=by
 intro O;go_simp;have av:=aP.o.alloc (.cells #[.string key] 9);have au:=aP.o.newB #[.string key] 9;have aj:=cj.o.alloc (.cells #[.string key] 9);revert av au aj;exact O.o):P:=h ⟨k⟩
theorem Z135(h:Kq Q->P:=by
 intro O;refine Reg.begin' (W:=λ _=>true) (S:=Vaa w w.heap.size d t p z n) (by kernel_rfl) ?_;refine Reg.ty 0 ?_;refine Reg.tl 1 hS ?_ (hy:=by intro w ab;obtain⟨⟨p0,p1,p2,p3,p4,pf,hz⟩,_,_⟩:=ab;go_simp;try with_reducible rfl);refine Reg.ty 2 ?_;refine Reg.on 3 ?_;go_simp;refine (Ph.o _).mono ?_;rintro e w3 ⟨rfl,g3⟩;have aC:=hS.gr g3;revert w3 g3 aC;exact O.o):P:=h ⟨k⟩
theorem Z137(h:Kq Q->P:=by
 intro O;have kS:Hid (FX w.heap.size (0:Int) (0:Int) ((w7.setCell ⟨gN,T*7+5,none⟩ (.int .i64 (n:Int))).setCell ⟨gN,T*7+5+1,none⟩ (.int .i64 ((e2:Int)+1)))):=rE.o.st dm.2 xb;obtain⟨wS,fA⟩:=ExZ ((w7.setCell ⟨gN,T*7+5,none⟩ (.int .i64 (n:Int))).setCell ⟨gN,T*7+5+1,none⟩ (.int .i64 ((e2:Int)+1)))
 revert kS wS fA;exact O.o):P:=h ⟨k⟩
theorem Z138(h:Kq Q->P:=by
 intro O;obtain⟨W7,oO⟩:=ExZ (w6.alloc (.cells #[a,b] 38))
 obtain⟨dm,g7,z7⟩:=bx2 w6 a b 38;rw[oO]at dm g7 z7;have G7:=U10 (B0.o.trans g7);revert z7;revert g7;revert dm;revert G7;revert oO;revert W7;exact O.o):P:=h ⟨k⟩
theorem Z139(h:Kq Q->P:=by
 intro O;have nQ:(0:Int)<=(i:Int):=by omega
 have eY:(i:Int)<(L.length:Int):=by omega
 revert nQ eY;exact O.o):P:=h ⟨k⟩
theorem Z140(h:Kq Q->P:=by
 intro O;refine Reg.ty 6 ?_;refine Reg.ty 7 ?_;refine Reg.tl 8 hS ?_ (hy:=by intro w ab;obtain⟨s1,s2,s3,s4⟩:=ab;go_simp;try with_reducible rfl);refine Reg.ty 9 ?_;refine Reg.tl 10 hS ?_ (hy:=by intro w ab;obtain⟨s1,s2,s3,s4⟩:=ab;go_simp;try with_reducible rfl);refine Reg.ty 11 ?_;refine Reg.ty 12 ?_;exact O.o):P:=h ⟨k⟩
theorem Z141(h:Kq Q->P:=by
 intro O;have hc:=hB k rF;have bj:l.drop k=l[k]'(by omega)::l.drop (k+1):=U1u (by omega);revert hc bj;exact O.o):P:=h ⟨k⟩
theorem Z142(h:Kq Q->P:=by
 intro O;refine (O25 _ R s (by rw[((Gr.refl w).alloc _).use.1 _ _ hR.2];exact c2) n n rfl).mono ?_;exact O.o):P:=h ⟨k⟩
theorem Z143(h:Kq Q->P:=by
 intro O;refine U11 (v:=.tuple #[L.length,.int .i64 (n+k:Nat),f0]) (by simp[results,results42,go_sem,p0,p1,pf,pl]) rfl ?_;refine⟨by simp,Ei,by simp,nv',_,own',(H3.o.setCell eX _).setCell eX _,by simp[O3n,bs],?_,λ k hk=>(AS.o k hk).imp id (λ e=>U1k d7.size e)⟩;exact O.o):P:=h ⟨k⟩
theorem Z144(h:Kq Q->P:=by
 intro O;go_simp;refine (j0.o ((W.alloc (.cells #[(0:Int),(0:Int)] 29)).drew) (HG.o.trans (((Gr.refl W).alloc (.cells #[(0:Int),(0:Int)] 29)).drew))).mono ?_;exact O.o):P:=h ⟨k⟩
theorem Z145(h:Kq Q->P:=by
 intro O;go_simp;refine (j0.o ((W.alloc (.cells #[(0:Int),(0:Int)] 67)).drew) (HG.o.trans (((Gr.refl W).alloc (.cells #[(0:Int),(0:Int)] 67)).drew))).mono ?_;exact O.o):P:=h ⟨k⟩
theorem Z146(h:Kq Q->P:=by
 intro O;have ay:=V8 (bs s) (a+1) (by rw[O0];omega);rw[O0]at ay;have bx:(0:Int)<=(a:Int):=by omega
 have cd:(a:Int)<(s.size:Int):=by omega
 have uK:=U10 rA;revert ay;revert uK;revert cd;revert bx;exact O.o):P:=h ⟨k⟩
theorem Z147(h:Kq Q->P:=by
 intro O;obtain⟨W0,aI⟩:=ExZ (w1.alloc (.cells #[.string bg,bb,.string ds] 205))
 revert W0 aI;exact O.o):P:=h ⟨k⟩
theorem Z148(h:Kq Q->P:=by
 intro O;refine Reg.begin' (W:=λ i=>i != 2) (S:=FX w.heap.size c p) (by kernel_rfl) ?_;refine Reg.tl 0 lS ?_ (hy:=by intro w ab;obtain⟨q0,q1,qf,ql⟩:=ab;go_simp;try with_reducible rfl);refine Reg.ty 1 ?_;refine Reg.on 2 ?_;go_simp;rw[O5 ie.1,O5 ie.2.1];exact O.o):P:=h ⟨k⟩
theorem Z149(h:Kq Q->P:=by
 intro O;have i1:(0:Int)<=(i:Int):=by omega
 have i2:(i:Int)<(n:Int):=by omega
 have wi:IntKind.i64.wrap ((i:Int)+1)=(i:Int)+1:=U1i _ ⟨by omega,by omega⟩;revert i1 i2 wi;exact O.o):P:=h ⟨k⟩
theorem Z150(h:Kq Q->P:=by
 intro O;refine Reg.begin' (W:=λ i=>i != 11) (S:=Obk w) (by kernel_rfl) ?_;obtain⟨VV,Ej⟩:=ExZ (w3.drew)
 have sM:=oF.o.gr ((Gr.refl w3).drew);rw[Ej]at sM⊢;revert sM;revert Ej;revert VV;exact O.o):P:=h ⟨k⟩
theorem Z151(h:Kq Q->P:=by
 intro O;have wd:IntKind.i64.wrap ((d:Int)+1)=(d:Int)+1:=U1i _ ⟨by omega,by omega⟩;revert wd;exact O.o):P:=h ⟨k⟩
theorem Z152(h:Kq Q->P:=by
 intro O;have av:=aN.o.alloc (.cells #[n] 3);have aq:=aN.o.newB #[n] 3;have aj:=fS.o.alloc (.cells #[n] 3);revert av aq aj;exact O.o):P:=h ⟨k⟩
theorem Z153(h:Kq Q->P:=by
 intro O;refine (Odw _).mono ?_;rintro e w2 ⟨rfl,g2⟩;revert w2 g2;exact O.o):P:=h ⟨k⟩
theorem Z154(h:Kq Q->P:=by
 intro O;have zR:=U10 (λ W=>U3g (P:=prog) W 9 22 5 s (u:=.string) (by kernel_rfl) (by kernel_rfl) (by kernel_rfl));have gB:=Oi w 5 s;have cB:=U10 (O7z Tb (Lib.bytesWorld w 5 s) (bW.gr gB) s hs (some ⟨w.heap.size,0,none⟩) s.size (grownCap w s.size 0 5) (λ W q=>O6l w s _ W q) _ hX (by simp));revert zR gB cB;exact O.o):P:=h ⟨k⟩
theorem Z155(h:Kq Q->P:=by
 intro O;refine Reg.one (i:=16) rfl (by rfl) ?_;exact O.o):P:=h ⟨k⟩
theorem Z156(h:Kq Q->P:=by
 intro O;have eI:Gr w w6:=(dk.drew.trans g5).trans g6;revert eI;exact O.o):P:=h ⟨k⟩
theorem Z157(h:Kq Q->P:=by
 intro O;obtain⟨hT,g3,z3⟩:=bx2 w2 c p 29;obtain⟨W3,bM⟩:=ExZ (w2.alloc (.cells #[c,p] 29))
 rw[bM]at hT g3 z3;have oP:=U10 bM;revert z3;revert g3;revert hT;revert oP;revert bM;revert W3;exact O.o):P:=h ⟨k⟩
theorem Z158(h:Kq Q->P:=by
 intro O;have oQ:Hid (Gr w w2):=by
  refine Gr.trans ?_ g2;exact ((oT.o.setCell (p:=⟨R,1,none⟩) (by show w.heap.size<=R;omega) _).setCell (p:=⟨w.heap.size+1,0,none⟩) (by show w.heap.size<=w.heap.size+1;omega) _).setCell (p:=⟨w.heap.size+1,1,none⟩) (by show w.heap.size<=w.heap.size+1;omega) _
 revert oQ;exact O.o):P:=h ⟨k⟩
theorem Z159(h:Kq Q->P:=by
 intro O;have jJ:(((s[n].toNat:Int) != 34)=true/\((s[n].toNat:Int) != 39)=false)\/((s[n].toNat:Int) != 34)=false:=by
  rw[HQ.o];cases dT:(q.toNat==34)
  exact .inl ⟨(V1q _ 34 _ dT).2,(V1q q.toNat 39 true (by have:=sN.o;rw[dT]at this;simpa using this)).2⟩
  exact .inr (V1q _ 34 _ dT).2
 revert jJ;exact O.o):P:=h ⟨k⟩
theorem Z160(h:Kq Q->P:=by
 intro O;have hF:FX w.heap.size (0:Int) (0:Int) w2:=((FX.new w (0:Int) (0:Int) 29).gr g1).gr g2;have hG:Gr w w2:=(((Gr.refl w).alloc _).trans g1).trans g2;revert hF hG;exact O.o):P:=h ⟨k⟩
theorem Z161(h:Kq Q->P:=by
 intro O;have HR:=U10 hr;have HT:=U10 a9;revert HR HT;exact O.o):P:=h ⟨k⟩
theorem Z162(h:Kq Q->P:=by
 intro O;have q1:=bN 1 (.string ⟨r.nd.text.toArray⟩) rfl;have q2:=bN 2 (.slice ka r.nd.keys.length kc) (by rw[<-sO];rfl);have q3:=bN 3 (.slice sa r.nd.spots.length sc) (by rw[<-kT];rfl);have q4:=bN 4 (.slice ua r.nd.subs.length uc) (by rw[<-lW];rfl);have q5:=bN 5 r.nd.sp.1 rfl;have q6:=bN 6 r.nd.sp.2 rfl;revert q1 q2 q3 q4 q5 q6;exact O.o):P:=h ⟨k⟩
theorem Z163(h:Kq Q->P:=by
 intro O;refine Reg.begin' (W:=λ i=>i != 12) (S:=FX w.heap.size (0:Int) (0:Int)) (by kernel_rfl) ?_;exact O.o):P:=h ⟨k⟩
theorem Z164(h:Kq Q->P:=by
 intro O;obtain⟨rG,g9,z9⟩:=bx2 W8 n2 d2 67;obtain⟨W9,zS⟩:=ExZ (W8.alloc (.cells #[n2,d2] 67))
 rw[zS]at rG g9 z9⊢;clear zS;rw[z8]at rG z9;have zT:=oU.gr g9;have zU:=oV.gr g9;have zV:=(iB.of_block (uV (w.heap.size+1+1) (by have:=HZ.o;omega)) (U4e z8.symm)).gr g9;revert z9;revert rG;revert g9;revert zV;revert zU;revert zT;revert W9;exact O.o):P:=h ⟨k⟩
theorem Z165(h:Kq Q->P:=by
 intro O;obtain⟨p0,p1,p2,p3,p4,p5,p6,p7⟩:=sM.cells;have oA:=sM.lt;have AU:=O1b sM.rows.k;have lS:=O1b sM.rows.s;rw[show (acc++[(t,n,e)]).length=acc.length+1 from by simp]at AU lS;have G9:=U10 sM;revert lS;revert AU;revert G9;revert oA;revert p7;revert p6;revert p5;revert p4;revert p3;revert p2;revert p1;revert p0;exact O.o):P:=h ⟨k⟩
theorem Z166(h:Kq Q->P:=by
 intro O;obtain⟨W1,aK⟩:∃W1,W1=Lib.bytesWorld w 5 t:=⟨_,rfl⟩
 revert W1 aK;exact O.o):P:=h ⟨k⟩
theorem Z168(h:Kq Q->P:=by
 intro O;have dG:w.heap.size<w1.heap.size:=by omega
 have dl:w.heap.size+1<w1.heap.size:=by omega
 revert dG dl;exact O.o):P:=h ⟨k⟩
theorem Z169(h:Kq Q->P:=by
 intro O;obtain⟨V3,hV⟩:=ExZ (V2.alloc (.cells #[n] 3))
 revert V3 hV;exact O.o):P:=h ⟨k⟩
theorem Z170(h:Kq Q->P:=by
 intro O;have cC:∀k,k<w.heap.size->k≠R->own k≠3->(w1.setCell ⟨R,0,none⟩ (.slice (some ⟨g,0,none⟩) (L.length+1) cap)).heap[k]?=w.heap[k]?:=by
  intro k hk B4 h3;rw[U14 _ _ _ _ (by simpa using B4),hg.block k (by omega) (λ e=>h3 (h.oN k e.symm)),g1.block hk]
 revert cC;exact O.o):P:=h ⟨k⟩
theorem Z171(h:Kq Q->P:=by
 intro O;obtain⟨⟨i0,i1,i2,i3,i4,i5,i6,i7,i8⟩,eV,eW⟩:=O22 mM;have br:¬I=w.heap.size:=by omega
 have jK:¬w.heap.size=I:=by omega
 obtain⟨q0,q1,qf,ql⟩:=id hF;revert i0 i1 i2 i3 i4 i5 i6 i7 i8 eV eW br jK q0 q1 qf ql;exact O.o):P:=h ⟨k⟩
theorem Z172(h:Kq Q->P:=by
 intro O;refine Reg.all (rs:=[16,22]) (by kernel_rfl) (by simp) ?_;exact O.o):P:=h ⟨k⟩
theorem Z173(h:Kq Q->P:=by
 intro O;refine U11 (v:=.tuple #[x,.agg #[y,z]]) (by simp[results,results91,go_sem,q0,q1,qf,ql]) rfl ?_;exact O.o):P:=h ⟨k⟩
theorem Z174(h:Kq Q->P:=by
 intro O;refine Reg.on 19 ?_;go_simp;exact O.o):P:=h ⟨k⟩
theorem Z175(h:Kq Q->P:=by
 intro O;refine⟨by simp,.inl ⟨_,_,rfl,run_takeDeferred hK,?_⟩⟩;have sP:=cell_kept kr (grownBy_putObj' _ D (.deferred none)) (λ r e=>by cases e;exact⟨_,hK,rfl⟩);refine⟨.bool false,?_,by rw[HV.o],hB.trans (belowK_b (w:=w) (U12 _) W D _ _ (by omega) hK rfl rfl)⟩;revert sP;exact O.o):P:=h ⟨k⟩
theorem Z176(h:Kq Q->P:=by
 intro O;have HY:Hid (V4j c=true):=U10 (by rw[HX.o,AW,B5,zC];rfl);revert HY;exact O.o):P:=h ⟨k⟩
theorem Z177(h:Kq Q->P:=by
 intro O;have e1:(d:Int)=(c.toNat:Int)-48:=by omega
 revert e1;exact O.o):P:=h ⟨k⟩
theorem Z178(h:Kq Q->P:=by
 intro O;have e1:(d:Int)=(c.toNat:Int)-55:=by omega
 revert e1;exact O.o):P:=h ⟨k⟩
theorem Z179(h:Kq Q->P:=by
 intro O;have e1:(d:Int)=(c.toNat:Int)-87:=by omega
 revert e1;exact O.o):P:=h ⟨k⟩
theorem Z180(h:Kq Q->P:=by
 intro O;refine (O28 c p (by omega) _).mono ?_;rintro e w5 ⟨rfl,g5⟩;revert w5 g5;exact O.o):P:=h ⟨k⟩
theorem Z181(h:Kq Q->P:=by
 intro O;refine (Obl _ (n+ai) (by omega) _).mono ?_;rintro e w2 ⟨rfl,g2⟩;obtain⟨p0,p1,pf,pl⟩:=(((FX.new w (.int .i64 0) (0:Int) 29).gr (O5p w _ m ae (ai+1))).gr ((Gr.refl _).drewN nq)).gr g2;have bC:Gr w w2:=((((Gr.refl w).alloc _).trans (O5p w _ m ae (ai+1))).drewN nq).trans g2;clear g2;revert w2 p0 p1 pf pl bC;exact O.o):P:=h ⟨k⟩
theorem Z182(h:Kq Q->P:=by
 intro O;have uX:L.size<=D.size:=by
  have h1:=V45 (bs D);rw[O0]at h1;rw[hL];show (Vo (bs D)).toArray.size<=_
  simpa using h1
 revert uX;exact O.o):P:=h ⟨k⟩
theorem Z184(h:Kq Q->P:=by
 intro O;have av:=gH.o.alloc (.cells #[a,b] 38);have ak:=gH.o.newB #[a,b] 38;have aj:=my.o.alloc (.cells #[a,b] 38);obtain⟨V1,hV⟩:=ExZ (V0.alloc (.cells #[a,b] 38))
 rw[hV]at av ak aj⊢;clear hV;revert aj;revert ak;revert av;revert V1;exact O.o):P:=h ⟨k⟩
theorem Z185(h:Kq Q->P:=by
 intro O;rw[hs];unfold V1f;rw[O24 (by omega) Vak q1,show s.length=(s.length-1)+1 by omega];refine O7e (by omega) (Ogf (by omega) (by rw[q2.many];simp[V3n]) (by rw[q2.dep];simp[V3n]) (by rw[q2.its];simp[V3n])) (O8r ?_);exact O.o):P:=h ⟨k⟩
theorem Z186(h:Kq Q->P:=by
 intro O;refine Reg.ty 5 ?_;refine Reg.tl 6 hS ?_ (hy:=by intro w ab;obtain⟨q0,q1,q2⟩:=ab;go_simp;try with_reducible rfl);refine Reg.on 7 ?_;go_simp;refine (HI.o _ (HW.o.gr hG)).mono ?_;rintro e w1 ⟨rfl,k1,Ek,rfl⟩;have cF:=hS.gr (O4m _ k1 Ek);have cx:=hG.trans (O4m _ k1 Ek);revert k1 Ek cF cx;exact O.o):P:=h ⟨k⟩
theorem Z187(h:Kq Q->P:=by
 intro O;refine Reg.one (i:=8) rfl (by rfl) ?_;go_simp;have av:=gH.o.alloc (.cells #[.string key] 9);have au:=gH.o.newB #[.string key] 9;have aj:=my.o.alloc (.cells #[.string key] 9);obtain⟨V1,hV⟩:=ExZ (V0.alloc (.cells #[.string key] 9))
 rw[hV]at av au aj⊢;clear hV;revert aj;revert au;revert av;revert V1;exact O.o):P:=h ⟨k⟩
theorem Z188(h:Kq Q->P:=by
 intro O;refine Reg.on 17 ?_;go_simp;exact O.o):P:=h ⟨k⟩
theorem Z189(h:Kq Q->P:=by
 intro O;refine Reg.on 3 ?_;go_simp;exact O.o):P:=h ⟨k⟩
theorem Z190(h:Kq Q->P:=by
 intro O;refine Reg.ty 16 ?_;refine Reg.ty 17 ?_;refine Reg.on 18 ?_;go_simp;exact O.o):P:=h ⟨k⟩
theorem Z191(h:Kq Q->P:=by
 intro O;rw[<-bV.o];refine⟨by simp,by have:=lT.o;omega,by simp,B6,_,eZ,(LH.o.setCell xh _).setCell xh _,by simp[O8x],?_,λ k hk=>(oW.o k hk).imp id (λ e=>U1k (by have:=fy.o;omega) e)⟩;exact O.o):P:=h ⟨k⟩
theorem Z192(h:Kq Q->P:=by
 intro O;have nS:=(F6.o.gr G7.o).st aM (λ e=>e z6);have El:¬FV own' (w.heap.size+1+1):=λ e=>(jI.o _ e).elim (λ h=>by have:=(H.o.v.lt _ h).2;omega) (λ h=>by have:=HZ.o;omega)
 have iB:=(HE.o.gr G7.o).st aM El;obtain⟨k0,k1,kf,kl⟩:=id nS;have kU:b6<w8.heap.size:=nS.2.2.2;revert nS El iB k0 k1 kf kl kU;exact O.o):P:=h ⟨k⟩
theorem Z193(h:Kq Q->P:=by
 intro O;have hS:=Gh.o.gr (Gr.refl wq).drew;refine Reg.begin' (W:=λ _=>true) (S:=TxS w.heap.size W.heap.size gu m (.slice (some ⟨gn,0,none⟩) L.length L.length) root r.nd.subs.length uc r.nd.subs[m]) (by kernel_rfl) ?_;refine Reg.ty 0 ?_;revert hS;exact O.o):P:=h ⟨k⟩
theorem Z194(h:Kq Q->P:=by
 intro O;have wj:IntKind.i64.wrap ((j:Int)+1)=(j:Int)+1:=U1i _ ⟨by omega,by omega⟩;revert wj;exact O.o):P:=h ⟨k⟩
theorem Z195(h:Kq Q->P:=by
 intro O;obtain⟨f1,g2,z2⟩:=bx2 w (.slice (some ⟨gk,0,none⟩) ws.length ck) (.slice (some ⟨gs,0,none⟩) ws.length cs) 42;obtain⟨w2,h2⟩:=ExZ (w.alloc (.cells #[.slice (some ⟨gk,0,none⟩) ws.length ck,.slice (some ⟨gs,0,none⟩) ws.length cs] 42))
 revert f1 g2 z2 w2 h2;exact O.o):P:=h ⟨k⟩
theorem Z196(h:Kq Q->P:=by
 intro O;have ay:(0:Int)<=(bg.size:Int):=by omega
 have hB:s.extract bg.size s.size=s:=by
  exact J69
 revert ay hB;exact O.o):P:=h ⟨k⟩
theorem Z197(h:Kq Q->P:=by
 intro O;refine (Oa8 _ R s a q out ov (RdQ.auto HS.o) aa hs ho).mono ?_;rw[<-HX.o];exact O.o):P:=h ⟨k⟩
theorem Z198(h:Kq Q->P:=by
 intro O;have eJ:s.toList.isEmpty=false:=by simpa using a8
 have zX:(0:Int)<(s.size:Int):=by omega
 have fW:(1:Int)<=(s.size:Int):=by omega
 revert eJ zX fW;exact O.o):P:=h ⟨k⟩
theorem Z199(h:Kq Q->P:=by
 intro O;refine Reg.ty 5 ?_;refine Reg.ty 8 ?_;refine Reg.tl 9 hS ?_ (hy:=by intro w ab;obtain⟨q0,q1,qf,ql⟩:=ab;go_simp;try with_reducible rfl);refine Reg.on 2 ?_;go_simp;refine (Ob9 f9.o _).mono ?_;exact O.o):P:=h ⟨k⟩
theorem Z200(h:Kq Q->P:=by
 intro O;refine (kV.o _).mono ?_;rintro e w5 ⟨rfl,g5⟩;have ig:=(g5.block hz).trans dH;have dc:=dk.trans g5;revert w5 g5 ig dc;exact O.o):P:=h ⟨k⟩
theorem Z201(h:Kq Q->P:=by
 intro O;refine (ii.o _).mono ?_;rintro e w6 ⟨rfl,g6⟩;have kU:=(g6.block hz).trans ig;have eI:=dc.trans g6;revert w6 g6 kU eI;exact O.o):P:=h ⟨k⟩
theorem Z202(h:Kq Q->P:=by
 intro O;refine (x9.o _).mono ?_;rintro e w7 ⟨rfl,g7⟩;have xj:=(g7.block hz).trans kU;have nT:=eI.trans g7;revert w7 g7 xj nT;exact O.o):P:=h ⟨k⟩
theorem Z203(h:Kq Q->P:=by
 intro O;have fX:WF (st++[Vt]):=hw.app _ ⟨λ _=>⟨rfl,rfl⟩,List.Pairwise.nil,λ x hx=>(by cases hx),λ h=>absurd rfl h⟩;revert fX;exact O.o):P:=h ⟨k⟩
theorem Z204(h:Kq Q->P:=by
 intro O;have uX:L.size<=s.size:=by
  have h1:=V45 (bs s);rw[O0]at h1;rw[hL];show (Vo (bs s)).toArray.size<=_
  simpa using h1
 have fc:¬ 9223372036854775807<L.size:=by omega
 have mN:¬ 9223372036854775807<(0+L.size):=by omega
 revert uX fc mN;exact O.o):P:=h ⟨k⟩
theorem Z205(h:Kq Q->P:=by
 intro O;refine Reg.ty 18 ?_;refine Reg.ty 19 ?_;refine Reg.on 20 ?_;go_simp;refine Reg.ty 21 ?_;refine Reg.ty 22 ?_;refine Reg.on 23 ?_;go_simp;refine Reg.ty 24 ?_;refine Reg.ty 25 ?_;refine Reg.on 26 ?_;go_simp;exact O.o):P:=h ⟨k⟩
theorem Z206(h:Kq Q->P:=by
 intro O;refine (O1v _).mono ?_;rintro e w5 ⟨rfl,g5⟩;revert w5 g5;exact O.o):P:=h ⟨k⟩
theorem Z207(h:Kq Q->P:=by
 intro O;have hx:=h.rows i r hr;have kp:∀ {e size n v xs t},w.ownsRow base e size v n xs->Ok own v t->t≠0->W.ownsRow base e size v n xs:=λ ho ht h0=>O1 ho λ k e=>g1.block (h.lt k (by rw[ht k e];exact h0)).2
 revert hx kp;exact O.o):P:=h ⟨k⟩
theorem Z208(h:Kq Q->P:=by
 intro O;refine Reg.one (i:=2) rfl (by rfl) ?_;go_simp;refine (O46 gK (acc.length+1) aJ zE.1 zE.2 _).mono ?_;exact O.o):P:=h ⟨k⟩
theorem Z209(h:Kq Q->P:=by
 intro O;have fY:W.heap.size<=W7.heap.size:=U1k bv.o.size G7.o.size;revert fY;exact O.o):P:=h ⟨k⟩
theorem Z210(h:Kq Q->P:=by
 intro O;have aN:=U10 kW;have oD:=U10 kX;have B7:=U10 kY;have Gi:=U10 kZ;revert aN oD B7 Gi;exact O.o):P:=h ⟨k⟩
theorem Z211(h:Kq Q->P:=by
 intro O;refine Reg.ty 6 ?_;refine Reg.on 9 ?_;go_simp;refine⟨Oiv zD,?_⟩;exact O.o):P:=h ⟨k⟩
theorem Z212(h:Kq Q->P:=by
 intro O;have aa:∀k,own k≠0->k<W.heap.size:=λ k hk=>U13 (H.o.v.lt k hk).2 HG.o.size
 have HZ:=U10 hz;revert aa HZ;exact O.o):P:=h ⟨k⟩
theorem Z213(h:Kq Q->P:=by
 intro O;obtain⟨c0,c1,c2,aa⟩:W2.cell? ⟨w1.heap.size,0,none⟩=some (.string bg)/\W2.cell? ⟨w1.heap.size,1,none⟩=some (.int .i64 bb)/\W2.cell? ⟨w1.heap.size,2,none⟩=some (.string ds)/\w1.heap.size<W2.heap.size:=⟨k0,k1,k2,kl⟩
 revert c0 c1 c2 aa;exact O.o):P:=h ⟨k⟩
theorem Z214(h:Kq Q->P:=by
 intro O;refine (show Calls prog 24 #[.pointer (some ⟨R,0,none⟩),.int .i64 (m2:Int),.int .i64 ((d:Int)+1)] w3 _ from HV.o w3 ic L2 ac aW.o B8.o m2 (d+1) jw (by omega) _ hZ (by simp)).mono ?_;exact O.o):P:=h ⟨k⟩
theorem Z215(h:Kq Q->P:=by
 intro O;have du:=Od3 key r.nd.keys 0;rw[show Lib.idxFromS (r.nd.keys.map λ k=>(⟨k.toArray⟩:ByteArray)) key 0=Lib.idxOfS (r.nd.keys.map λ k=>(⟨k.toArray⟩:ByteArray)) key from rfl]at du;simp only[U1q]at du;revert du;exact O.o):P:=h ⟨k⟩
theorem Z216(h:Kq Q->P:=by
 intro O;obtain⟨V2,hV⟩:=ExZ (V1.alloc (.cells #[a,b] 38))
 revert V2 hV;exact O.o):P:=h ⟨k⟩
theorem Z217(h:Kq Q->P:=by
 intro O;have HK:Hid (false=(r7.toList.isEmpty&&(o3.toList.isEmpty==o4.toList.isEmpty)&&(o5.toList.isEmpty==o7.toList.isEmpty))):=U10 (by rw[bR,H3.o,f2];cases o5.toList.isEmpty==o7.toList.isEmpty <;> rfl);rw[fx];revert HK;exact O.o):P:=h ⟨k⟩
theorem Z218(h:Kq Q->P:=by
 intro O;have e0:0<s.size:=by
  rcases Nat.eq_zero_or_pos s.size with h|h
  exfalso;apply h1;rw[U1y];exact U2p (by rw[O0];exact h)
  exact h
 have e1:(0:Int)<(s.size:Int):=by omega
 revert e0 e1;exact O.o):P:=h ⟨k⟩
theorem Z219(h:Kq Q->P:=by
 intro O;obtain⟨b1,b2⟩:=V1q _ 92 _ he;have hX:=V8r T (bs s) a (by rw[O0];omega);have bR:=V61 T ((bs s).drop a);obtain⟨sr,cK⟩:∃sr,sr=V43 T ((bs s).drop a):=⟨_,rfl⟩
 rw[<-cK]at hX bR⊢;have HO:=U10 bR;have HX:=U10 hX;revert bR;revert hX;revert HX;revert HO;revert cK;revert sr;revert b2;revert b1;exact O.o):P:=h ⟨k⟩
theorem Z220(h:Kq Q->P:=by
 intro O;have hu:=a9.use (w.heap.size+1) (by simp) (λ hF=>by have:=HS.o.own_lt hF;omega);revert hu;exact O.o):P:=h ⟨k⟩
theorem Z221(h:Kq Q->P:=by
 intro O;refine (show Calls prog 24 #[.pointer (some ⟨R,0,none⟩),.int .i64 (e2:Int),.int .i64 ((d':Int)+1)] w6 _ from HV.o w6 nv' L' own' zY xm e2 (d'+1) B9 (by omega) _ hZ (by simp)).mono ?_;exact O.o):P:=h ⟨k⟩
theorem Z222(h:Kq Q->P:=by
 intro O;have av:=gH.o.alloc (.cells #[n] 3);have aq:=gH.o.newB #[n] 3;have aj:=my.o.alloc (.cells #[n] 3);obtain⟨V1,hV⟩:=ExZ (V0.alloc (.cells #[n] 3))
 rw[hV]at av aq aj⊢;clear hV;revert aj;revert aq;revert av;revert V1;exact O.o):P:=h ⟨k⟩
theorem Z223(h:Kq Q->P:=by
 intro O;refine (Oa s n2 n2 rfl l0 (by omega) _).mono ?_;rintro e w7 ⟨rfl,g7⟩;rw[Ba.o];have fY:z0<=w7.heap.size:=U1k sQ g7.size;have l8:=U10 (oY.o.gr g7);have sR:=U10 (kP.o.gr g7);have ij:=U10 (ik.o.gr g7);have zZ:=sR.o.cells.2.2.1;revert w7 g7 fY l8 sR ij zZ;exact O.o):P:=h ⟨k⟩
theorem Z224(h:Kq Q->P:=by
 intro O;have dI:own g=3:=h.oN g rfl;have aZ:=h.lt g (by omega);have hz:=H.size;have hR:=h.R_lt;have hB:=h.B_lt;obtain⟨WF,am⟩:=ExZ (((W.setCell ⟨g,i*7+2,none⟩ kv).setCell ⟨g,i*7+3,none⟩ sv).setCell ⟨g,i*7+4,none⟩ uv)
 revert dI aZ hz hR hB WF am;exact O.o):P:=h ⟨k⟩
theorem Z225(h:Kq Q->P:=by
 intro O;obtain⟨g0,g1,g2,g3,gz⟩:=cL.cells;have aP:=U10 cL;have dE:(convert 22 9 aG).run prog (w2.alloc (.cells #[(0:Int),(0:Int)] 29)).drew=.ok (V3h (out++t)) (w2.alloc (.cells #[(0:Int),(0:Int)] 29)).drew:=Ol8 ((cL.alloc _).drew).own;revert g0 g1 g2 g3 gz aP dE;exact O.o):P:=h ⟨k⟩
theorem Z226(h:Kq Q->P:=by
 intro O;obtain⟨hA,gA,zA⟩:=bx2 w2 (.slice (some ⟨gn,0,none⟩) L.length L.length) (0:Int) 26;obtain⟨W0,aI⟩:=ExZ (w2.alloc (.cells #[.slice (some ⟨gn,0,none⟩) L.length L.length,(0:Int)] 26))
 rw[aI]at hA gA zA;revert zA;revert gA;revert hA;revert aI;revert W0;exact O.o):P:=h ⟨k⟩
theorem Z227(h:Kq Q->P:=by
 intro O;go_simp;refine (O5k gS (acc.length+1) cH Ed.1 Ed.2 _).mono ?_;exact O.o):P:=h ⟨k⟩
theorem Z228(h:Kq Q->P:=by
 intro O;have SY:True:=U3i;clear SY;have aU:d=V2g c.toNat:=hd;revert aU;exact O.o):P:=h ⟨k⟩
theorem Z229(h:Kq Q->P:=by
 intro O;have bx:(0:Int)<=(n:Int):=by omega
 have cd:(n:Int)<(s.size:Int):=by omega
 revert bx cd;exact O.o):P:=h ⟨k⟩
theorem Z230(h:Kq Q->P:=by
 intro O;have lX:¬T.toList=[]:=by
  rw[U1y];intro h;have h2:=U2b List.length h;have h3:=O0 T;unfold bs at h3;rw[h3,rH]at h2;simp at h2
 have Gj:T.toList.isEmpty=false:=by simpa using lX
 revert lX Gj;exact O.o):P:=h ⟨k⟩
theorem Z231(h:Kq Q->P:=by
 intro O;refine (O1s c p kR _).mono ?_;rintro e w2 ⟨rfl,g2⟩;revert w2 g2;exact O.o):P:=h ⟨k⟩
theorem Z232(h:Kq Q->P:=by
 intro O;obtain⟨c0,c1,c2,c3,fz⟩:=h.cells;have aa:=h.lt;revert c0 c1 c2 c3 fz aa;exact O.o):P:=h ⟨k⟩
theorem Z233(h:Kq Q->P:=by
 intro O;obtain⟨sr,Bb,eM⟩:=V8h _ _ _ _ _ _ dU.o a8 (by rw[U15,O0];omega);rw[U27,show n+(a-n)=a from by omega]at Bb;have sS:=U10 Bb;have kA:=U10 eM;clear Bb eM;revert kA;revert sS;revert sr;exact O.o):P:=h ⟨k⟩
theorem Z234(h:Kq Q->P:=by
 intro O
 try dsimp only
 refine Reg.ty 18 ?_;refine Reg.ty 19 ?_;refine Reg.ty 20 ?_;refine Reg.ty 21 ?_;exact O.o):P:=h ⟨k⟩
theorem Z235(h:Kq Q->P:=by
 intro O;have h1:=H.2 j (ready_mono hj dv);obtain⟨l9,oj,oZ,aH⟩:=mem_ready.1 hj;have mO:l.getD i false=false:=by
  have h0:=(mem_ready.1 hr).1;rcases U50 i l.size with h'|h'
  simp[h']at h0⊢;exact h0
  simp[U4d h']at h0
 revert h1 l9 oj oZ aH mO;exact O.o):P:=h ⟨k⟩
theorem Z236(h:Kq Q->P:=by
 intro O;refine (Oa8 _ R s a q out ov (RdQ.auto iE.o) aa hs ho).mono ?_;exact O.o):P:=h ⟨k⟩
theorem Z237(h:Kq Q->P:=by
 intro O;refine⟨_,false,Em,L5,cm,rfl,rfl,rfl,Bc,Gk.o,?_,Bd.o,HG.o.st uY.o (λ k hk=>(H.o.lt k hk).1),uY.o,fZ.o,Gl⟩;rw[U1b (by simp)];exact O.o):P:=h ⟨k⟩
theorem Z238(h:Kq Q->P:=by
 intro O;have aa:=byteAt_lt eN (by decide);have ay:=V8 s (V7 s e+1) (by omega);revert aa ay;exact O.o):P:=h ⟨k⟩
theorem Z239(h:Kq Q->P:=by
 intro O;refine⟨by first|exact bi|exact λ _=>bi|exact λ _ _=>bi,?_⟩;refine Reg.pt ?_;exact O.o):P:=h ⟨k⟩
theorem Z241(h:Kq Q->P:=by
 intro O;refine U11 (v:=fv 3 (a+2)) (by simp[results,results244,go_sem,q0,q1]) rfl ?_;rw[HX.o,HU.o,En.o];have a9:St (FQ R ov) (FQ R ov) w w2:=(((HG.o.trans g1)).trans g2).st;revert a9;exact O.o):P:=h ⟨k⟩
theorem Z242(h:Kq Q->P:=by
 intro O;have wm:IntKind.i64.wrap ((x.many:Int)+1)=(x.many:Int)+1:=U1i _ ⟨by omega,by omega⟩;revert wm;exact O.o):P:=h ⟨k⟩
theorem Z243(h:Kq Q->P:=by
 intro O;refine (O81 c p (by omega) _).mono ?_;rintro e w3 ⟨rfl,g3⟩;revert w3 g3;exact O.o):P:=h ⟨k⟩
theorem Z244(h:Kq Q->P:=by
 intro O;obtain⟨X,hX⟩:∃X:Pl.SR,X=V32 ((bs s).drop a):=⟨_,rfl⟩
 rw[<-hX];have HX:=U10 hX;revert X hX HX;exact O.o):P:=h ⟨k⟩
theorem Z245(h:Kq Q->P:=by
 intro O;have hd:k.dropLast.length+1=k.length:=by
  exact J46
 revert hd;exact O.o):P:=h ⟨k⟩
theorem Z246(h:Kq Q->P:=by
 intro O;have sT:=U10 (rE.o.gr g9);have pa:=U10 (nU.o.gr g9);have eO:=U10 (mI.o.gr g9);have f9:=U10 (O1 pd.o (λ k e=>g9.block (pd.o.lt k e).2));have z':z0<=w9.heap.size:=U1k Eo.o g9.size;revert sT pa eO f9 z';exact O.o):P:=h ⟨k⟩
theorem Z247(h:Kq Q->P:=by
 intro O;obtain⟨k2,cd⟩:∃k2,V7 s1 (a1+(k1+1))=a1+k2:=⟨V7 s1 (a1+(k1+1))-a1,by omega⟩
 revert k2 cd;exact O.o):P:=h ⟨k⟩
theorem Z248(h:Kq Q->P:=by
 intro O;simp only;obtain⟨k1,bx⟩:∃k1,V7 s1 (a1+k0)=a1+k1:=⟨V7 s1 (a1+k0)-a1,by omega⟩
 revert k1 bx;exact O.o):P:=h ⟨k⟩
theorem Z250(h:Kq Q->P:=by
 intro O;have k1:(0:Int)<=(m:Int):=by omega
 have k2:(m:Int)<(r.nd.subs.length:Int):=by omega
 have wm:IntKind.i64.wrap ((m:Int)+1)=(m:Int)+1:=U1i _ ⟨by omega,by omega⟩;revert k1 k2 wm;exact O.o):P:=h ⟨k⟩
theorem Z251(h:Kq Q->P:=by
 intro O;refine U11 (v:=.tuple #[.string ⟨#[]⟩,(0:Int),fv 3 (a+p)]) (by simp[results,results40,go_sem,p0,p1,p2,p3,eE]) rfl ?_;rw[<-kA.o];exact O.o):P:=h ⟨k⟩
theorem Z252(h:Kq Q->P:=by
 intro O;have d3:(0:Int)<=(j:Int):=by omega
 revert d3;exact O.o):P:=h ⟨k⟩
theorem Z253(h:Kq Q->P:=by
 intro O;obtain⟨V2,hV⟩:=ExZ (V1.alloc (.cells #[n] 3))
 revert V2 hV;exact O.o):P:=h ⟨k⟩
theorem Z254(h:Kq Q->P:=by
 intro O;obtain⟨V2,hV⟩:=ExZ (V1.alloc (.cells #[.string key] 9))
 revert V2 hV;exact O.o):P:=h ⟨k⟩
theorem Z255(h:Kq Q->P:=by
 intro O;obtain⟨V3,hV⟩:=ExZ (V2.alloc (.cells #[.string key] 9))
 revert V3 hV;exact O.o):P:=h ⟨k⟩
theorem Z256(h:Kq Q->P:=by
 intro O;have A0:IntKind.u64.wrap (IntKind.u64.wrap 18446744073709551616-1)=18446744073709551615:=by
  exact J8
 revert A0;exact O.o):P:=h ⟨k⟩
theorem Z258(h:Kq Q->P:=by
 intro O;have hm:s[V7 s e1]?=some 61/\m=V7 s e1+1:=by
  unfold isF at hi
  split at hi;rename_i hg;simp only[isF,V35.ok.injEq]at hi;exact⟨hg,hi.symm⟩
  cases hi
 revert hm;exact O.o):P:=h ⟨k⟩
theorem Z259(h:Kq Q->P:=by
 intro O;have cb:=U10 (dS.o.appK (n:=r.nd.keys.length+1) (cap:=aJ) hg ha);revert cb;exact O.o):P:=h ⟨k⟩
theorem Z260(h:Kq Q->P:=by
 intro O;have dq:=U10 (fB.o.appK (n:=r.nd.keys.length+1) (cap:=aJ) hg ha);revert dq;exact O.o):P:=h ⟨k⟩
theorem Z261(h:Kq Q->P:=by
 intro O;obtain⟨q0,q1,qf,ql⟩:=Ep.gr (Gr.refl WF).drew;obtain⟨y0,y1,yf,yl⟩:=gJ.gr (Gr.refl WF).drew;revert q0 q1 qf ql y0 y1 yf yl;exact O.o):P:=h ⟨k⟩
theorem Z262(h:Kq Q->P:=by
 intro O;refine (O25 w7 R s zZ e2 e2 rfl).mono ?_;exact O.o):P:=h ⟨k⟩
theorem Z263(h:Kq Q->P:=by
 intro O;have fI:FX (w.heap.size+1) (0:Int) (0:Int) W:=by
  rw[<-hW];have:=FX.new (w.alloc (.cells #[an,d] 67)) (0:Int) (0:Int) 67;exact J4
 revert fI;exact O.o):P:=h ⟨k⟩
theorem Z264(h:Kq Q->P:=by
 intro O;refine U11 (v:=f0) (by simp[results,results243,go_sem,r0,r1]) rfl ?_;exact O.o):P:=h ⟨k⟩
theorem Z265(h:Kq Q->P:=by
 intro O;rw[show (w2.alloc (.cells #[.slice (some ⟨gn,0,none⟩) L.length L.length,(0:Int)] 26)).alloc (.cells #[(0:Int),(0:Int)] 29)=W1 from lY.o];exact O.o):P:=h ⟨k⟩
theorem Z266(h:Kq Q->P:=by
 intro O;have wa:IntKind.i64.wrap ((a:Int)+1)=(a:Int)+1:=U1i _ ⟨by omega,by omega⟩;revert wa;exact O.o):P:=h ⟨k⟩
theorem Z267(h:Kq Q->P:=by
 intro O;have k3:IntKind.i64.wrap ((k:Int)+1)=(k:Int)+1:=U1i _ ⟨by omega,by omega⟩;revert k3;exact O.o):P:=h ⟨k⟩
theorem Z268(h:Kq Q->P:=by
 intro O;have aa:a<s.size:=by
  by_cases h:a<s.size;exact h
  rw[O13 s a h]at jG;cases jG
 revert aa;exact O.o):P:=h ⟨k⟩
theorem Z269(h:Kq Q->P:=by
 intro O;have aR:=(nV.o.gr nX.o).st aM bO;have lc:=(iC.o.gr nX.o).st aM (bO _ (by omega) (by omega)) (bO _ (by omega) (by omega)) Be Bf;obtain⟨p0,p1,pf,pl⟩:=id aR.p;obtain⟨v0,v1,vf,vl⟩:=id aR.f;dsimp only;refine Reg.ty 15 ?_;revert aR lc p0 p1 pf pl v0 v1 vf vl;exact O.o):P:=h ⟨k⟩
theorem Z270(h:Kq Q->P:=by
 intro O;refine Reg.ty 4 ?_;refine Reg.tl 5 eH ?_ (hy:=by intro w ab;obtain⟨Bg,Bh,TU,TV⟩:=ab;go_simp;try with_reducible rfl);refine Reg.ty 6 ?_;exact O.o):P:=h ⟨k⟩
theorem Z271(h:Kq Q->P:=by
 intro O;refine U11 (v:=fv c' p) (by simp[results,results243,go_sem,r0,r1]) rfl ?_;rw[HX.o,HQ.o];have eh:St (FQ R ov) (FQ R ov) w w1:=HG.o.st.trans bv.o;have a9:=eh;revert eh a9;exact O.o):P:=h ⟨k⟩
theorem Z272(h:Kq Q->P:=by
 intro O;have hF:FX w.heap.size (0:Int) (0:Int) w2:=(FX.new w (0:Int) (0:Int) 29).gr g2;have hG:Gr w w2:=((Gr.refl w).alloc _).trans g2;have mM:=(hG.block A1).trans HI.o;revert hF hG mM;exact O.o):P:=h ⟨k⟩
theorem Z273(h:Kq Q->P:=by
 intro O;obtain⟨d,hd⟩:∃d,d=V2g c.toNat:=⟨_,rfl⟩
 revert d hd;exact O.o):P:=h ⟨k⟩
theorem Z274(h:Kq Q->P:=by
 intro O;refine Reg.one (i:=4) rfl (by rfl) ?_;exact O.o):P:=h ⟨k⟩
theorem Z275(h:Kq Q->P:=by
 intro O;have lY:=U10 (show (w2.alloc (.cells #[.slice (some ⟨gn,0,none⟩) L.length L.length,(0:Int)] 26)).alloc (.cells #[(0:Int),(0:Int)] 29)=W1 by rw[aI,aK]);revert lY;exact O.o):P:=h ⟨k⟩
theorem Z276(h:Kq Q->P:=by
 intro O;intro k e;simp only at e;have a1:kv.ownBlock≠some k:=λ e2=>H.ku k e2 e
 have a2:sv.ownBlock≠some k:=λ e2=>H.su k e2 e
 simp only[a1,a2,e,U2i,U2c];revert e;revert a2;revert a1;revert k;exact O.o):P:=h ⟨k⟩
theorem Z277(h:Kq Q->P:=by
 intro O;have k3:(3:Int)<=(t.size:Int):=by omega
 have k5:(5:Int)<=(t.size:Int):=by omega
 have k6:(6:Int)<=(t.size:Int):=by omega
 have iF:=U10 fI;have kV:=U10 sU;have ii:=U10 cE;revert k3 k5 k6 iF kV ii;exact O.o):P:=h ⟨k⟩
theorem Z278(h:Kq Q->P:=by
 intro O;have a0:0<=a:=by omega
 have a1:a<=18446744073709551615:=by omega
 revert a0 a1;exact O.o):P:=h ⟨k⟩
theorem Z279(h:Kq Q->P:=by
 intro O;have aO:∀k,k≠g->WF.heap[k]?=W.heap[k]?:=by
  intro k hk;subst am;rw[U14 _ _ _ _ hk,U14 _ _ _ _ hk,U14 _ _ _ _ hk]
 revert aO;exact O.o):P:=h ⟨k⟩
theorem Z281(h:Kq Q->P:=by
 intro O;refine U11 (v:=.tuple #[.bool false,fv 3 (a+p)]) (by simp[results,results251,go_sem,aE,ah,dG,dl]) rfl ⟨rfl,FQ R ov,?_⟩;exact O.o):P:=h ⟨k⟩
theorem Z282(h:Kq Q->P:=by
 intro O;have j8:own' (w.heap.size+1)=0:=U1e λ h=>(jI.o _ h).elim (λ h=>by have:=(H.o.v.lt _ h).2;omega) (λ h=>by have:=HZ.o;omega)
 revert j8;exact O.o):P:=h ⟨k⟩
theorem Z283(h:Kq Q->P:=by
 intro O;have h1:=Ond _ _ _ _ _ _ _ _ _ (λ x hx=>hw x ((List.dropLast_sublist _).subset hx)) hp hy;revert h1;exact O.o):P:=h ⟨k⟩
theorem Z284(h:Kq Q->P:=by
 intro O;refine (Onp T E hE s _ n rfl hn hs _ HW.o (by simp) _ (by first|exact rI.o.gr HK.o.below|exact rI.o.gr (HK.o.below.drewN _))).mono ?_;exact O.o):P:=h ⟨k⟩
theorem Z285(h:Kq Q->P:=by
 intro O;refine U11 (v:=.tuple #[V3h (out++t),.int .i64 (a+m:Nat),f0]) (by simp[results,results40,go_sem,p0,p1,p2,p3,eE]) rfl ?_;exact O.o):P:=h ⟨k⟩
theorem Z286(h:Kq Q->P:=by
 intro O;have dO:i<st.length:=by
  unfold V16 at hs
  split at hs;cases hs
  split at hs;cases hs
  split at hs;cases hs
  split at hs
  ·cases hs;assumption
  cases hs
 revert dO;exact O.o):P:=h ⟨k⟩
theorem Z287(h:Kq Q->P:=by
 intro O;refine Reg.all (rs:=[9,15]) (by kernel_rfl) (by simp) ?_;exact O.o):P:=h ⟨k⟩
theorem Z288(h:Kq Q->P:=by
 intro O;refine Reg.all (rs:=[9,22]) (by kernel_rfl) (by simp) ?_;exact O.o):P:=h ⟨k⟩
theorem Z289(h:Kq Q->P:=by
 intro O;refine U11 (v:=.tuple #[(0:Int),fv 3 (n+ai)]) (by simp[results,results122,go_sem,p0,p1,pf,pl]) rfl ⟨?_,Gr.auto⟩;exact O.o):P:=h ⟨k⟩
theorem Z290(h:Kq Q->P:=by
 intro O;refine (O6q _ R s a q out ov (RdQ.auto HS.o) aa hs).mono ?_;rw[HF.o];exact O.o):P:=h ⟨k⟩
theorem Z291(h:Kq Q->P:=by
 intro O;obtain⟨gL,dY,fM⟩:=O6j mM hF br (U12 _) hG.st (.slice (some ⟨gk,0,none⟩) ws.length ck) (.slice (some ⟨gs,0,none⟩) ws.length cs) (0:Int) (0:Int);revert gL dY fM;exact O.o):P:=h ⟨k⟩
theorem Z292(h:Kq Q->P:=by
 intro O;refine (HP.o _ (HG.o.gr cx).int).mono ?_;rintro e w3 ⟨⟨kk,x,cc,rfl,jJ⟩,g3⟩;revert g3;revert jJ;revert cc;revert x;revert kk;revert w3;exact O.o):P:=h ⟨k⟩
theorem Z293(h:Kq Q->P:=by
 intro O;intro a h;have hc:=h c (by simp);simp only[O2,U1g,U1x]at hc;revert hc;revert h;revert a;exact O.o):P:=h ⟨k⟩
theorem Z294(h:Kq Q->P:=by
 intro O;obtain⟨WF,am⟩:=ExZ (((W.setCell ⟨w.heap.size+1,0,none⟩ i).setCell ⟨w.heap.size+1,1,none⟩ (.int .i64 ((d:Int)+1))))
 revert WF am;exact O.o):P:=h ⟨k⟩
theorem Z295(h:Kq Q->P:=by
 intro O;rintro e w1 ⟨rfl,g1⟩;have bz:=(g1.block hz).trans iG;have cx:=eP.trans g1;revert w1 g1 bz cx;exact O.o):P:=h ⟨k⟩
theorem Z296(h:Kq Q->P:=by
 intro O;refine U11 (v:=.tuple #[(0:Int),fv c p]) (by simp[results,results121,go_sem,q0,q1,qf,ql]) rfl ?_;rw[<-HX.o];exact O.o):P:=h ⟨k⟩
theorem Z297(h:Kq Q->P:=by
 intro O;go_simp;refine (j0.o (W.drew) (HG.o.trans ((Gr.refl W).drew))).mono ?_;exact O.o):P:=h ⟨k⟩
theorem Z298(h:Kq Q->P:=by
 intro O;refine (LI.o _ (HW.o.gr Gr.auto)).mono ?_;rintro e w5 ⟨rfl,g5⟩;revert w5 g5;exact O.o):P:=h ⟨k⟩
theorem Z299(h:Kq Q->P:=by
 intro O;intro V1 av aq aj;refine Z48 ?_;intro aN fS;have sV:=U10 aq;clear av aq aj;have cF:=O18 aN.o fS.o HC.o;refine Z98 ?_;revert V1 aN fS sV cF;exact O.o):P:=h ⟨k⟩
theorem Z300(h:Kq Q->P:=by
 intro O;go_simp;refine Z2 ?_;refine Z12 ?_;exact O.o):P:=h ⟨k⟩
theorem Z301(h:Kq Q->P:=by
 intro O;refine Z6 ?_;intro gK aJ V3 ho hg ha hz aW bE;refine Z259 ?_;intro cb;clear ho hg ha hz;refine Z103 ?_;intro aC;refine Z172 ?_;refine Z14 ?_;intro j hj;revert gK aJ V3 aW bE cb aC j hj;exact O.o):P:=h ⟨k⟩
theorem Z302(h:Kq Q->P:=by
 intro O;refine Z31 ?_;refine Z40 ?_;refine Reg.ty 5 ?_;refine Z46 ?_;refine Z108 ?_;refine Z44 ?_;refine Z57 ?_;refine Reg.on 12 ?_;go_simp;refine (LJ.o _).mono ?_;refine Z44 ?_;refine Z57 ?_;refine Z188 ?_;refine (LK.o _).mono ?_;refine Z44 ?_;refine Z57 ?_;exact O.o):P:=h ⟨k⟩
theorem Z303(h:Kq Q->P:=by
 intro O;refine Z75 ?_;refine Z112 ?_;intro av ak aj;have au:=mB.o.alloc (.cells #[a,b] 38);refine Z216 ?_;intro V2 hV;rw[hV]at av ak aj au⊢;clear hV;refine Z48 ?_;intro aP cj;have cU:=U10 au;have dS:=U10 ak;clear av ak aj au;refine Z32 ?_;intro bi;refine Z288 ?_;refine Z14 ?_;intro j hj;revert hj;revert j;revert bi;revert dS;revert cU;revert cj;revert aP;revert V2;exact O.o):P:=h ⟨k⟩
theorem Z304(h:Kq Q->P:=by
 intro O;refine Z66 ?_;refine Z152 ?_;intro av aq aj;have au:=mB.o.alloc (.cells #[n] 3);refine Z253 ?_;intro V2 hV;rw[hV]at av aq aj au⊢;clear hV;refine Z48 ?_;intro aP cj;have cU:=U10 au;have fB:=U10 aq;clear av aq aj au;refine Z32 ?_;intro bi;refine Z287 ?_;refine Z14 ?_;intro j hj;revert hj;revert j;revert bi;revert fB;revert cU;revert cj;revert aP;revert V2;exact O.o):P:=h ⟨k⟩
theorem Z305(h:Kq Q->P:=by
 intro O;refine Reg.sk 8 ?_;refine Reg.sk 9 ?_;refine Reg.sk 10 ?_;refine Reg.sk 11 ?_;refine Reg.sk 12 ?_;refine Reg.sk 13 ?_;exact O.o):P:=h ⟨k⟩
theorem Z306(h:Kq Q->P:=by
 intro O;refine Z6 ?_;intro gK aJ V3 ho hg ha hz aW bE;refine Z260 ?_;intro dq;clear ho hg ha hz;refine Z103 ?_;intro aC;refine Reg.on 15 ?_;revert gK aJ V3 aW bE dq aC;exact O.o):P:=h ⟨k⟩
theorem Z307(h:Kq Q->P:=by
 intro O;refine Z107 ?_;intro av au aj;have ak:=sW.o.alloc (.cells #[.string key] 9);refine Z254 ?_;intro V2 hV;rw[hV]at av au aj ak⊢;clear hV;refine Z48 ?_;intro aP cj;have dS:=U10 ak;have cU:=U10 au;clear av au aj ak;refine Z32 ?_;intro bi;refine Z288 ?_;refine Z14 ?_;intro j hj;revert hj;revert j;revert bi;revert cU;revert dS;revert cj;revert aP;revert V2;exact O.o):P:=h ⟨k⟩
theorem Z308(h:Kq Q->P:=by
 intro O;refine Z107 ?_;intro av au aj;have aq:=sV.o.alloc (.cells #[.string key] 9);refine Z254 ?_;intro V2 hV;rw[hV]at av au aj aq⊢;clear hV;refine Z48 ?_;intro aP cj;have fB:=U10 aq;have cU:=U10 au;clear av au aj aq;refine Z32 ?_;intro bi;refine Z287 ?_;refine Z14 ?_;intro j hj;revert hj;revert j;revert bi;revert cU;revert fB;revert cj;revert aP;revert V2;exact O.o):P:=h ⟨k⟩
theorem Z309(h:Kq Q->P:=by
 intro O;refine Z31 ?_;refine Reg.tl 3 hS ?_ (hy:=by intro w ab;obtain s0:=ab;go_simp;try with_reducible rfl);refine Z82 ?_;refine Reg.tl 7 hS ?_ (hy:=by intro w ab;obtain s0:=ab;go_simp;try with_reducible rfl);exact O.o):P:=h ⟨k⟩
theorem Z310(h:Kq Q->P:=by
 intro O;have hS:FX w.heap.size (0:Int) (0:Int) w9.drew:=sT.o.gr (Gr.refl _).drew;refine Z163 ?_;refine Z55 ?_;refine Z40 ?_;refine Z199 ?_;refine Z44 ?_;refine Z57 ?_;refine Reg.ty 6 ?_;refine Reg.on 7 ?_;go_simp;revert hS;exact O.o):P:=h ⟨k⟩
theorem Z311(h:Kq Q->P:=by
 intro O;obtain⟨xo,xp,xq,xr⟩:=id fK;obtain⟨rJ,rK,rL,rM⟩:=iF.o.f.gr gA;refine Reg.on 23 ?_;go_simp;refine Z2 ?_;refine Reg.on 24 ?_;go_simp;refine Reg.on 25 ?_;revert xo xp xq xr rJ rK rL rM;exact O.o):P:=h ⟨k⟩
theorem Z312(h:Kq Q->P:=by
 intro O;refine Z117 ?_;rw[HC.o];refine Z85 ?_;intro w1 g1 ah ap ax;have hg:Hid (Gr w w1):=by
  exact J38
 have iE:Hid (RdQ w1 R s a q out ov):=HS.o.gr hg.o;revert w1 g1 ah ap ax hg iE;exact O.o):P:=h ⟨k⟩
theorem Z313(h:Kq Q->P:=by
 intro O;obtain⟨f2,g3,z3⟩:=bx2 w2 (0:Int) (0:Int) 29;revert f2 g3 z3;exact O.o):P:=h ⟨k⟩
theorem Z314(h:Kq Q->P:=by
 intro O;refine Z188 ?_;refine Z2 ?_;refine Reg.on 18 ?_;exact O.o):P:=h ⟨k⟩
theorem Z315(h:Kq Q->P:=by
 intro O;refine Reg.tl 5 aC ?_ (hy:=by intro w ab;obtain⟨⟨q0,q1,q2⟩,ql⟩:=ab;go_simp;try with_reducible rfl);refine Reg.on 6 ?_;go_simp;refine (O99 _).mono ?_;rintro e w4 ⟨rfl,g4⟩;have ci:=aC.gr g4;revert w4 g4 ci;exact O.o):P:=h ⟨k⟩
theorem Z316(h:Kq Q->P:=by
 intro O;refine Reg.ty 8 ?_;refine Reg.ty 9 ?_;exact O.o):P:=h ⟨k⟩
theorem Z317(h:Kq Q->P:=by
 intro O;refine Reg.begin' (W:=λ i=>i != 10) (S:=FX b5 n d) (by kernel_rfl) ?_;refine Z31 ?_;refine Z270 ?_;refine Z189 ?_;refine uZ.o.mono ?_;exact O.o):P:=h ⟨k⟩
theorem Z318(h:Kq Q->P:=by
 intro O;refine (Ohn _ R s a q out ov (RdQ.auto HS.o) aa hs HM.o).mono ?_;refine Z85 ?_;exact O.o):P:=h ⟨k⟩
theorem Z319(h:Kq Q->P:=by
 intro O;have cE:WB3 w.heap.size (0:Int) (0:Int) (.slice none 0 0) (0:Int) (0:Int) (0:Int) w5:=⟨kV.o.1.gr g5,kV.o.2.gr g5,HF.o.gr g5⟩
 have nR:=HK.o.gr g5;revert cE nR;exact O.o):P:=h ⟨k⟩
theorem Z320(h:Kq Q->P:=by
 intro O;have bi:O_s bg bb ds w1.heap.size w2.drew:=⟨⟨c0,c1,c2⟩,aa⟩
 refine Z25 ?_;intro w3 g3 aC;refine Z16 ?_;revert bi w3 g3 aC;exact O.o):P:=h ⟨k⟩
theorem Z321(h:Kq Q->P:=by
 intro O;refine Z174 ?_;refine Z2 ?_;refine Reg.on 20 ?_;exact O.o):P:=h ⟨k⟩
theorem Z322(h:Kq Q->P:=by
 intro O;refine Reg.ty 0 ?_;refine Reg.tl 1 ie ?_ (hy:=by intro w ab;obtain⟨q0,q1,qf,ql⟩:=ab;go_simp;try with_reducible rfl);refine Reg.ty 2 ?_;exact O.o):P:=h ⟨k⟩
theorem Z323(h:Kq Q->P:=by
 intro O;refine Z35 ?_;intro av ak aj;refine Z129 ?_;intro V3 hV;rw[hV]at av ak aj⊢;clear hV;refine Z48 ?_;intro aW bE;have cb:=U10 ak;clear av ak aj;refine Z106 ?_;intro aC;refine Z172 ?_;refine Z14 ?_;revert aC;revert cb;revert bE;revert aW;revert V3;exact O.o):P:=h ⟨k⟩
theorem Z325(h:Kq Q->P:=by
 intro O;refine Z55 ?_;refine Reg.tl 2 hS ?_ (hy:=by intro w ab;obtain⟨s1,s2,s3,s4⟩:=ab;go_simp;try with_reducible rfl);refine Z40 ?_;exact O.o):P:=h ⟨k⟩
theorem Z326(h:Kq Q->P:=by
 intro O;refine Z56 ?_;intro av aq aj;refine Z169 ?_;intro V3 hV;rw[hV]at av aq aj⊢;clear hV;refine Z48 ?_;intro aW bE;have dq:=U10 aq;clear av aq aj;refine Z106 ?_;intro aC;refine Reg.on 15 ?_;revert aC;revert dq;revert bE;revert aW;revert V3;exact O.o):P:=h ⟨k⟩
theorem Z327(h:Kq Q->P:=by
 intro O;refine Reg.tl 0 hS ?_ (hy:=by intro w ab;obtain⟨⟨s0,s1,sf,sl⟩,⟨s2,s3,LD,LF⟩⟩:=ab;go_simp;try with_reducible rfl);exact O.o):P:=h ⟨k⟩
