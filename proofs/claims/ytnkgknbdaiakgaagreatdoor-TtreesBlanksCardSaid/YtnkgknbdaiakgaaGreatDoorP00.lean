/-
 Short forms of steps and of ends of walks that come again and again: what they run stands as each one's default argument.
-/
import Derived.WalkSpells
import Derived.WalkLawsBesides
import Derived.BigQuiet
import Derived.Deep.AppendLies
import Derived.Deep.RegionLaw
import Derived.Deep.RegionHeld3
import Derived.OwnWalkIn
import Derived.TacticsInMore
import Derived.LoopNIn
import Derived.LoopIn
import Derived.StillTailTactics
import Derived.Deep.DeepCutAuto
import Derived.Lib.AtoiAll
import Derived.Lib.ConvBytes
import Derived.Lib.Hide
import Derived.Lib.Strings
set_option linter.all false
namespace Go.Proofs.YtnkgknbdaiakgaaGreatDoor.Pl
end Go.Proofs.YtnkgknbdaiakgaaGreatDoor.Pl
namespace Go.Proofs.YtnkgknbdaiakgaaGreatDoor
instance:Coe Int Value:=⟨λ x=>.int .i64 x⟩
instance:Coe Nat Value:=⟨λ x=>.int .i64 x⟩
instance:Coe Int Lit:=⟨λ x=>.int .i64 x⟩
instance:Coe Nat Lit:=⟨λ x=>.int .i64 x⟩
abbrev U0:=@Go.Lib.hid
abbrev U1:=@Go.bodyPost_ret
abbrev U2:=@Nat.le_refl
abbrev U3:=@List.length_drop
abbrev U4:=@Nat.lt_of_lt_of_le
abbrev U5:=@Go.RowKit.Below.heap_setCell
abbrev U6:=@Prod.mk.injEq
abbrev U7:=@List.getElem?_eq_some_iff
abbrev U8:=@Array.getElem?_eq_some_iff
abbrev U9:=@List.getElem?_append_left
abbrev Ua:=@if_pos
abbrev Ub:=@List.length_cons
abbrev Uc:=@Option.some.injEq
abbrev Ud:=@if_neg
abbrev Ue:=@Decidable.byContradiction
abbrev Uf:=@Bool.and_eq_true
abbrev Ug:=@List.length_append
abbrev Uh:=@List.getElem?_eq_getElem
abbrev Ui:=@List.getD_eq_getElem?_getD
abbrev Uj:=@Nat.le_trans
abbrev Uk:=@Go.IntWalk.i64_in
abbrev Ul:=@List.length_map
abbrev Um:=@Go.World.cell?_setCell_other
abbrev Un:=@List.cons_append
abbrev Uo:=@List.takeWhile_cons
abbrev Uq:=@List.getElem?_map
abbrev Ur:=@List.length_nil
abbrev Us:=@Go.World.cell?_of_block
abbrev Ut:=@List.drop_eq_nil_of_le
abbrev Uu:=@Nat.zero_add
abbrev Uv:=@Go.World.size_alloc
abbrev Uw:=@List.drop_eq_getElem_cons
abbrev Ux:=@decide_eq_true_eq
abbrev Uy:=@Go.Oper.semAt_some
abbrev Uz:=@Go.Lib.toList_data
abbrev U10:=@Go.heap_alloc_new
abbrev U11:=@Bool.false_eq_true
abbrev U12:=@Nat.add_assoc
abbrev U13:=@List.mem_singleton
abbrev U14:=@List.getElem?_append_right
abbrev U15:=@List.mem_cons_of_mem
abbrev U16:=@List.drop_drop
abbrev U17:=@List.length_take
abbrev U18:=@Option.map_some
abbrev U19:=@List.length_singleton
abbrev U1a:=@List.cons.injEq
abbrev U1b:=@UInt8.toNat_inj
abbrev U1c:=@List.nil_append
abbrev U1d:=@if_false
abbrev U1e:=@Go.World.news_of_block
abbrev U1f:=@List.getElem?_drop
abbrev U1g:=@List.all_eq_true
abbrev U1h:=@List.getElem?_cons_zero
abbrev U1i:=@List.length_set
abbrev U1j:=@if_true
abbrev U1k:=@List.mem_cons
abbrev U1l:=@List.drop_zero
abbrev U1m:=@List.getElem?_eq_none
abbrev U1n:=@ByteArray.data_append
abbrev U1o:=@List.getElem?_set
abbrev U1p:=@Nat.zero_le
abbrev U1q:=@congrArg
abbrev U1r:=@List.mem_of_getElem?
abbrev U1s:=@List.take_append_of_le_length
abbrev U1t:=@List.mem_append
abbrev U1u:=@Go.World.cell?_setCell_same'
abbrev U1v:=@beq_iff_eq
abbrev U1w:=@Nat.le_succ
abbrev U1x:=@Option.some.inj
abbrev U1y:=@ByteArray.ext
abbrev U1z:=@List.eq_nil_of_length_eq_zero
abbrev U20:=@List.map_append
abbrev U21:=@Array.toList_inj
abbrev U22:=@List.drop_append
abbrev U23:=@Go.wp_append_lies
abbrev U24:=@List.take_of_length_le
abbrev U25:=@Go.World.frozen?_of_block
abbrev U26:=@List.set_cons_zero
abbrev U27:=@Go.Lib.extract_data
abbrev U28:=@List.setIfInBounds_toArray
abbrev U29:=@List.dropWhile_sublist
abbrev U2a:=@Nat.lt_of_not_le
abbrev U2b:=@List.length_pos_iff
abbrev U2c:=@List.dropWhile_cons
abbrev U2d:=@trivial
abbrev U2e:=@List.set_cons_succ
abbrev U2f:=@Bool.eq_iff_iff
abbrev U2g:=@List.append_nil
abbrev U2h:=@Go.Lib.bytesWorld_cell
abbrev U2i:=@List.map_cons
abbrev U2j:=@List.getLast?_eq_getElem?
abbrev U2k:=@Ne.symm
abbrev U2l:=@List.isEmpty_iff
abbrev U2m:=@List.getElem?_append
abbrev U2n:=@List.getElem?_modify
abbrev U2o:=@List.prefix_iff_eq_take
abbrev U2p:=@List.append_assoc
abbrev U2q:=@List.take_succ_cons
abbrev U2r:=@beq_eq_false_iff_ne
abbrev U2s:=@List.getElem_cons_succ
abbrev U2t:=@Int.tmod_eq_emod_of_nonneg
abbrev U2u:=@Go.info_parts
abbrev U2v:=@List.getElem_mem
abbrev U2w:=@Nat.add_sub_cancel
abbrev U2x:=@Go.callsIn_wide
abbrev U2y:=@List.takeWhile_prefix
abbrev U2z:=@Nat.add_zero
abbrev U30:=@List.mem_map
abbrev U31:=@List.getLast?_eq_none_iff
abbrev U32:=@List.takeWhile_append_dropWhile
abbrev U33:=@Go.Value.slice.injEq
abbrev U34:=@Nat.sub_self
abbrev U35:=@Option.ite_none_right_eq_some
abbrev U36:=@List.getElem_cons_zero
abbrev U37:=@Array.getElem?_eq_none
abbrev U38:=@Go.Lib.run_convert_string_bytes
abbrev U39:=@Nat.le_of_eq
abbrev U3a:=@decide_eq_false
abbrev U3b:=@Go.Addr.add_lit
abbrev U3c:=@List.set_append_right
abbrev U3d:=@List.singleton_append
abbrev U3e:=@Go.run_convert_bytes_arg
abbrev U3f:=@Go.Maps.keyOf_int_mk
abbrev U3g:=@List.ext_getElem?
abbrev U3h:=@List.getElem_toArray
abbrev U3i:=@Nat.mul_le_mul_right
abbrev U3j:=@List.length_dropLast
abbrev U3k:=@Nat.pow_le_pow_right
abbrev U3l:=@List.getElem?_of_mem
abbrev U3m:=@List.mem_of_getLast?
abbrev U3n:=@Go.run_next_ascii
abbrev U3o:=@Bool.false_and
abbrev U3p:=@Go.Lib.NumEnd.ok.injEq
abbrev U3q:=@List.length_reverse
abbrev U3r:=@Bool.false_or
open Pl 
theorem ExZ{α:Type}(a:α):∃x,a=x:=⟨_,rfl⟩
variable {P Q:Prop}
structure Kq(Q:Prop):Prop where
 o:Q
theorem _root_.Go.RowKit.Hid.o{p:Prop}(h:Go.RowKit.Hid p):p:=h
theorem Z1(k:Q)(h:Kq Q->P:=by
 intro zz;refine U23 _ (.tmp 38) (.tmp 40) 36 (by rfl) base 3 iU _ 1 8 underlying36 fS.o.1 fS.o.2.1 fS.o.2.2.1 fS.o.2.2.2 (by rfl) (by decide) r.uv r.nd.subs.length (O7 r.nd.subs) (by rfl) ix.o.u _ 1 1 [.int .i64 n] (by rfl) (by rfl) (U1e jz.o.blk) (by simp[Value.oneCell']) (by decide) (by unfold maxLen;omega) (by omega) (Uj bM ix.o.size) _ rfl ?_;intro gU oo V6 ho hg ha hz;have kJ:=U0 (ix.o.appU ho hg ha);have vR:=U0 (gY.o.appU (n:=r.nd.subs.length+1) (cap:=oo) hg ha);clear ho hg ha hz;have kh:=O17 kJ.o vR.o HC.o;refine⟨λ _ _=>kh,?_⟩;refine Reg.pt ?_;refine Reg.ty 24 ?_;refine Reg.ty 25 ?_;obtain⟨vS,vT,vU,Aq⟩:=O48 kJ.o HC.o;refine Reg.on 26 ?_;go_simp;refine Z2 ?_;refine Reg.ty 27 ?_;refine Reg.ty 28 ?_;refine Reg.on 29 ?_;go_simp;refine Z2 ?_;refine Reg.ty 30 ?_;refine Reg.ty 31 ?_;refine Reg.on 32 ?_;go_simp;refine Z2 ?_;refine Reg.done (by kernel_rfl) ?_ _;revert gU oo V6 kJ vR kh vS vT vU Aq;exact zz.o):P:=h ⟨k⟩
theorem Z2(k:Q)(h:Kq Q->P:=by
 intro zz
 try simp only[Act.put,U28,U26,U2e]
 exact zz.o):P:=h ⟨k⟩
theorem Z3(k:Q)(h:Kq Q->P:=by
 intro zz;refine U23 _ (.tmp 31) (.tmp 33) 35 (by rfl) base 38 iS _ 2 16 underlying35 eh.o.1 eh.o.2.1 eh.o.2.2.1 eh.o.2.2.2 (by rfl) (by decide) r.sv r.nd.spots.length (Oc r.nd.spots) (by rfl) cL.o.s _ 1 1 [.int .i64 a,.int .i64 b] (by rfl) (by rfl) (U1e jA.o.blk) (by simp[Value.oneCell']) (by decide) (by unfold maxLen;omega) (by omega) (Uj bM cL.o.size) _ rfl ?_;intro gS cM V5 ho hg ha hz;have ix:=U0 (cL.o.appS ho hg ha);have gY:=U0 (dn.o.appS (n:=r.nd.spots.length+1) (cap:=cM) hg ha);have jz:=U0 (jB.o.appS (n:=r.nd.spots.length+1) (cap:=cM) hg ha);clear ho hg ha hz;have eM:=O17 ix.o gY.o HC.o;refine⟨λ _ _=>eM,?_⟩;refine Reg.pt ?_;refine Reg.on 23 ?_;revert gS cM V5 ix gY jz eM;exact zz.o):P:=h ⟨k⟩
theorem Z4(k:Q)(h:Kq Q->P:=by
 intro zz;refine Reg.tl 0 aD ?_ (hy:=by intro w ab;obtain⟨⟨s0,s1,s2,s3⟩,⟨s4,s5,s6,s7⟩,⟨s8,s9,ki,oq⟩⟩:=ab;go_simp;try with_reducible rfl);refine Reg.tl 1 aD ?_ (hy:=by intro w ab;obtain⟨⟨s0,s1,s2,s3⟩,⟨s4,s5,s6,s7⟩,⟨s8,s9,ki,oq⟩⟩:=ab;go_simp;try with_reducible rfl);refine Reg.tl 2 aD ?_ (hy:=by intro w ab;obtain⟨⟨s0,s1,s2,s3⟩,⟨s4,s5,s6,s7⟩,⟨s8,s9,ki,oq⟩⟩:=ab;go_simp;try with_reducible rfl);refine Reg.on 3 ?_;go_simp;rw[O5 cK.i.1,O5 cK.i.2.1];refine Z16 ?_;refine Reg.on 4 ?_;go_simp;rw[O5 cK.t.1,O5 cK.t.2.1];refine Z16 ?_;refine Reg.on 5 ?_;go_simp;rw[O5 cK.f.1,O5 cK.f.2.1];refine Z16 ?_;refine Reg.done (by kernel_rfl) ?_ _;exact zz.o):P:=h ⟨k⟩
theorem Z5(k:Q)(h:Kq Q->P:=by
 intro zz;refine Reg.ty 3 ?_;refine Reg.ty 4 ?_;refine Z308 ?_;intro w4 g4 ce;refine⟨by first|exact ce|exact λ _=>ce|exact λ _ _=>ce,?_⟩;refine Reg.pt ?_;refine Reg.ty 7 ?_;refine Z310 ?_;refine Reg.ty 10 ?_;refine Reg.ty 11 ?_;refine Reg.ty 12 ?_;refine Reg.ty 13 ?_;revert w4 g4 ce;exact zz.o):P:=h ⟨k⟩
theorem Z6(k:Q)(h:Kq Q->P:=by
 intro zz;refine Reg.one (i:=9) rfl (by rfl) ?_;refine U23 _ (.tmp 24) (.tmp 26) 34 (by rfl) base 9 iK _ 1 16 underlying34 fG.o.1 fG.o.2.1 fG.o.2.2.1 fG.o.2.2.2 (by rfl) (by decide) r.kv r.nd.keys.length (Oh r.nd.keys) (by rfl) aP.o.k _ 1 1 [.string key] (by rfl) (by rfl) (U1e d6.o.blk) (by simp[Value.oneCell']) (by decide) (by unfold maxLen;omega) (by omega) (Uj bM aP.o.size) _ rfl ?_;intro gK aI V3 ho hg ha hz;have aW:=U0 (aP.o.appK ho hg ha);have bE:=U0 (cl.o.appK (n:=r.nd.keys.length+1) (cap:=aI) hg ha);revert gK aI V3 ho hg ha hz aW bE;exact zz.o):P:=h ⟨k⟩
theorem Z7(k:Q)(h:Kq Q->P:=by
 intro zz;go_simp;refine⟨by first|exact (eE.o.gr ((Gr.refl W).drew))|exact λ _=>(eE.o.gr ((Gr.refl W).drew))|exact λ h=>h.gr ((Gr.refl _).alloc _)|exact λ _ h=>h.gr ((Gr.refl _).alloc _),?_⟩;refine Reg.pt ?_;exact zz.o):P:=h ⟨k⟩
theorem Z8(k:Q)(h:Kq Q->P:=by
 intro zz;refine Reg.one (i:=16) rfl (by rfl) ?_;refine U23 _ (.tmp 31) (.tmp 33) 35 (by rfl) base 38 iS _ 2 16 underlying35 eh.o.1 eh.o.2.1 eh.o.2.2.1 eh.o.2.2.2 (by rfl) (by decide) r.sv r.nd.spots.length (Oc r.nd.spots) (by rfl) aW.o.s _ 1 1 [.int .i64 a,.int .i64 b] (by rfl) (by rfl) (U1e ca.o.blk) (by simp[Value.oneCell']) (by decide) (by unfold maxLen;omega) (by omega) (Uj bM aW.o.size) _ rfl ?_;intro gS cM V4 ho hg ha hz;have cL:=U0 (aW.o.appS ho hg ha);have dn:=U0 (bE.o.appS (n:=r.nd.spots.length+1) (cap:=cM) hg ha);clear ho hg ha hz;have ce:=O17 cL.o dn.o HC.o;refine⟨λ _ _=>ce,?_⟩;refine Reg.pt ?_;refine Reg.on 22 ?_;revert gS cM V4 cL dn ce;exact zz.o):P:=h ⟨k⟩
theorem Z9(k:Q)(h:Kq Q->P:=by
 intro zz;refine Reg.ty 12 ?_;refine Reg.tl 13 eY ?_ (hy:=by intro w ab;obtain⟨⟨q0,q1,q2,q3,q4,q5,q6,qf,ql⟩,qc⟩:=ab;go_simp;try with_reducible rfl);refine Reg.ty 14 ?_;refine Reg.tl 15 eY ?_ (hy:=by intro w ab;obtain⟨⟨q0,q1,q2,q3,q4,q5,q6,qf,ql⟩,qc⟩:=ab;go_simp;try with_reducible rfl);refine Reg.ty 16 ?_;refine Reg.ty 17 ?_;refine Reg.ty 18 ?_;refine Reg.on 19 ?_;go_simp;refine Reg.ty 20 ?_;refine Reg.done (by kernel_rfl) ?_ _;exact zz.o):P:=h ⟨k⟩
theorem Z10(k:Q)(h:Kq Q->P:=by
 intro zz;go_simp;have aw:=aW.o.alloc (.cells #[a,b] 38);have ak:=aW.o.newB #[a,b] 38;have aj:=bE.o.alloc (.cells #[a,b] 38);have as:=dx.o.alloc (.cells #[a,b] 38);obtain⟨V4,hV⟩:=ExZ (V3.alloc (.cells #[a,b] 38))
 rw[hV]at aw ak aj as⊢;clear hV;have cL:=U0 aw;have dn:=U0 aj;have jB:=U0 as;have jA:=U0 ak;clear aw ak aj as;have ce:=O17 cL.o dn.o HC.o;refine⟨by first|exact ce|exact λ _=>ce,?_⟩;refine Reg.pt ?_;refine Reg.on 16 ?_;revert ce;revert jA;revert jB;revert dn;revert cL;revert V4;exact zz.o):P:=h ⟨k⟩
theorem Z11(k:Q)(h:Kq Q->P:=by
 intro zz;refine Reg.one (i:=22) rfl (by rfl) ?_;go_simp;have aw:=aW.o.alloc (.cells #[n] 3);have as:=aW.o.newB #[n] 3;have aj:=bE.o.alloc (.cells #[n] 3);have ak:=ca.o.alloc (.cells #[n] 3);obtain⟨V4,hV⟩:=ExZ (V3.alloc (.cells #[n] 3))
 rw[hV]at aw as aj ak⊢;clear hV;have cL:=U0 aw;have dn:=U0 aj;have jA:=U0 ak;have jB:=U0 as;clear aw as aj ak;have ce:=O17 cL.o dn.o HC.o;refine⟨by first|exact ce|exact λ _=>ce,?_⟩;refine Reg.pt ?_;refine Reg.on 16 ?_;revert ce;revert jB;revert jA;revert dn;revert cL;revert V4;exact zz.o):P:=h ⟨k⟩
theorem Z12(k:Q)(h:Kq Q->P:=by
 intro zz;refine Reg.done (by kernel_rfl) ?_ _;exact zz.o):P:=h ⟨k⟩
theorem Z13(k:Q)(h:Kq Q->P:=by
 intro zz;go_simp;have aw:=cL.o.alloc (.cells #[n] 3);have as:=cL.o.newB #[n] 3;have aj:=dn.o.alloc (.cells #[n] 3);obtain⟨V5,hV⟩:=ExZ (V4.alloc (.cells #[n] 3))
 rw[hV]at aw as aj⊢;clear hV;have ix:=U0 aw;have gY:=U0 aj;have jz:=U0 as;clear aw as aj;have eM:=O17 ix.o gY.o HC.o;refine⟨by first|exact eM|exact λ _=>eM,?_⟩;refine Reg.pt ?_;refine Reg.on 23 ?_;revert eM;revert jz;revert gY;revert ix;revert V5;exact zz.o):P:=h ⟨k⟩
theorem Z14(k:Q)(h:Kq Q->P:=by
 intro zz;intro j hj;simp only[U1k,List.not_mem_nil,or_false]at hj;revert hj;revert j;exact zz.o):P:=h ⟨k⟩
theorem Z15(k:Q)(h:Kq Q->P:=by
 intro zz;have bi:Op bg bb ds w1.heap.size (W0.drewN nq).drew:=⟨⟨c0,c1,c2⟩,aa⟩
 refine Reg.begin' (W:=λ _=>true) (S:=Op bg bb ds w1.heap.size) (by kernel_rfl) ?_;refine Reg.tl 0 bi ?_ (hy:=by intro w ab;obtain⟨⟨q0,q1,q2⟩,ql⟩:=ab;go_simp;try with_reducible rfl);refine Reg.on 1 ?_;go_simp;refine (O92 _).mono ?_;rintro e w2 ⟨rfl,g2⟩;have cm:=bi.gr g2;refine⟨by first|exact cm|exact λ _=>cm|exact λ _ _=>cm,?_⟩;refine Reg.pt ?_;refine Reg.ty 2 ?_;refine Reg.ty 3 ?_;revert bi w2 g2 cm;exact zz.o):P:=h ⟨k⟩
theorem Z16(k:Q)(h:Kq Q->P:=by
 intro zz;refine⟨by first|exact aD|exact λ _=>aD|exact λ _ _=>aD,?_⟩;refine Reg.pt ?_;exact zz.o):P:=h ⟨k⟩
theorem Z17(k:Q)(h:Kq Q->P:=by
 intro zz;refine U23 _ (.tmp 38) (.tmp 42) 35 (by rfl) w.heap.size 38 iS _ 2 16 underlying35 eh.o.1 eh.o.2.1 eh.o.2.2.1 eh.o.2.2.2 (by rfl) (by decide) sv acc.length _ (by rfl) aW.o.s _ 1 1 [.int .i64 n,.int .i64 e] (by rfl) (by rfl) (U1e ca.o.blk) (by simp[Value.oneCell']) (by decide) (by unfold maxLen;omega) (by omega) aW.o.size _ rfl ?_;intro gS cM V4 ho hg ha hz;have cL:=U0 (aW.o.appS ho hg ha);have mu:=U0 (mv.o.appS (n:=acc.length+1) (cap:=cM) hg ha);have vV:=U0 (rQ.o.appS (n:=acc.length+1) (cap:=cM) hg ha);clear ho hg ha hz;have ce:=O2d mu.o;refine⟨λ _ _=>ce,?_⟩;refine Reg.pt ?_;obtain⟨vW,vX⟩:=mu.o.cell (i:=0) rfl;obtain⟨vY,vZ⟩:=mu.o.cell (i:=1) rfl;refine Reg.on 14 ?_;go_simp;revert gS cM V4 cL mu vV ce vW vX vY vZ;exact zz.o):P:=h ⟨k⟩
theorem Z18(k:Q)(h:Kq Q->P:=by
 intro zz;have hu:=a9.use (w.heap.size+1) (by simp;omega) (λ hF=>by have:=HS.o.own_lt hF;omega);have aJ:=a9.size;simp at aJ;obtain⟨aE,dt⟩:=hu;revert aJ;revert dt;revert aE;exact zz.o):P:=h ⟨k⟩
theorem Z19(k:Q)(h:Kq Q->P:=by
 intro zz;refine Reg.ty 7 ?_;refine Z310 ?_;refine Reg.ty 10 ?_;refine Reg.ty 11 ?_;refine Reg.ty 12 ?_;refine Reg.ty 13 ?_;refine Reg.ty 14 ?_;refine Reg.ty 15 ?_;refine Reg.ty 16 ?_;exact zz.o):P:=h ⟨k⟩
theorem Z20(k:Q)(h:Kq Q->P:=by
 intro zz;have jC:=bv.o _ ((Gr.refl w).alloc (.cells #[a,b] 38)).drew;have aj:=(bv.o w (Gr.refl w)).newB #[a,b] 38;refine Reg.begin' (W:=λ i=>i != 26&&i != 29&&i != 32) (S:=Vcf g i w.heap.size r a b) (by kernel_rfl) ?_;obtain⟨V0,hV⟩:=ExZ ((w.alloc (.cells #[a,b] 38)).drew)
 have ot:=aj.drew;rw[hV]at jC ot⊢;clear hV aj;have iy:=U0 jC;have mw:=U0 ot;clear jC ot;have bi:=O17 iy.o mw.o HC.o;refine Reg.ty 0 ?_;refine Reg.ty 1 ?_;refine Reg.ty 2 ?_;refine Reg.ty 3 ?_;refine Reg.ty 4 ?_;refine Reg.ty 5 ?_;refine Reg.ty 7 ?_;refine Reg.ty 10 ?_;refine Reg.ty 11 ?_;refine Reg.ty 12 ?_;refine Reg.ty 17 ?_;refine Reg.ty 18 ?_;refine Reg.ty 19 ?_;refine Reg.ty 21 ?_;refine Reg.tl 6 bi ?_ (hy:=by intro w ab;obtain⟨q1,q2,q3,q4,q5⟩:=ab;go_simp;try with_reducible rfl);refine Reg.tl 13 bi ?_ (hy:=by intro w ab;obtain⟨q1,q2,q3,q4,q5⟩:=ab;go_simp;try with_reducible rfl);refine Reg.tl 14 bi ?_ (hy:=by intro w ab;obtain⟨q1,q2,q3,q4,q5⟩:=ab;go_simp;try with_reducible rfl);refine Reg.tl 20 bi ?_ (hy:=by intro w ab;obtain⟨q1,q2,q3,q4,q5⟩:=ab;go_simp;try with_reducible rfl);refine Reg.all (rs:=[8,15,22]) (by kernel_rfl) (by simp) ?_;revert bi;revert mw;revert iy;revert V0;exact zz.o):P:=h ⟨k⟩
theorem Z21(k:Q)(h:Kq Q->P:=by
 intro zz;refine Reg.ty 3 ?_;refine Reg.ty 4 ?_;refine Reg.sk 5 ?_;refine Reg.sk 6 ?_;refine Reg.sk 7 ?_;refine Z299 ?_;refine Reg.sk 14 ?_;refine Reg.sk 15 ?_;refine Reg.sk 16 ?_;refine Reg.sk 17 ?_;refine Reg.ty 18 ?_;exact zz.o):P:=h ⟨k⟩
theorem Z22(k:Q)(h:Kq Q->P:=by
 intro zz;rw[Exit.noGoto_ret];have rR:w.heap.size<VV.heap.size:=by omega
 refine U1 (v := .tuple #[.agg #[.slice (some ⟨gK,0,none⟩) (acc.length+1) (acc.length+1),.slice (some ⟨gS,0,none⟩) (acc.length+1) (acc.length+1)],e,f0]) (by simp[results,results9,go_sem,p0,p1,p2,p3,p4,p5,p6,p7,rR,ow]) rfl ?_;rw[<-uh.o];have we:=Oly Ar.o;have e1:(acc++[(t,n,e)]).length=acc.length+1:=by simp
 revert rR we e1;exact zz.o):P:=h ⟨k⟩
theorem Z23(k:Q)(h:Kq Q->P:=by
 intro zz;obtain⟨a0,a1,af,al⟩:=(FX.new w (0:Int) (0:Int) 29).st a9 bN;have fT:=U0 (((St.refl (FV own) w).alloc (.cells #[(0:Int),(0:Int)] 29)).trans a9);revert a0 a1 af al fT;exact zz.o):P:=h ⟨k⟩
theorem Z24(k:Q)(h:Kq Q->P:=by
 intro zz;refine Reg.ty 3 ?_;refine Reg.ty 4 ?_;refine Reg.tl 5 eY ?_ (hy:=by intro w ab;obtain⟨⟨q0,q1,q2,q3,q4,q5,q6,qf,ql⟩,qc⟩:=ab;go_simp;try with_reducible rfl);refine Reg.ty 6 ?_;refine Reg.tl 7 eY ?_ (hy:=by intro w ab;obtain⟨⟨q0,q1,q2,q3,q4,q5,q6,qf,ql⟩,qc⟩:=ab;go_simp;try with_reducible rfl);refine Z310 ?_;refine Reg.ty 10 ?_;refine Reg.ty 11 ?_;exact zz.o):P:=h ⟨k⟩
theorem Z25(k:Q)(h:Kq Q->P:=by
 intro zz;refine Reg.begin' (W:=λ _=>true) (S:=Op bg bb ds w1.heap.size) (by kernel_rfl) ?_;refine Reg.tl 0 bj ?_ (hy:=by intro w ab;obtain⟨⟨q0,q1,q2⟩,ql⟩:=ab;go_simp;try with_reducible rfl);refine Reg.ty 1 ?_;refine Reg.on 2 ?_;go_simp;refine (HR.o _).mono ?_;rintro e w3 ⟨rfl,g3⟩;have aD:=bj.gr g3;revert w3 g3 aD;exact zz.o):P:=h ⟨k⟩
theorem Z26(k:Q)(h:Kq Q->P:=by
 intro zz;have qZ:=Onq c cw aZ;have nG:=bits_lo_u8 .or (c.toNat:Int) 32;have lK:=bits_hi_u8 .or (c.toNat:Int) 32;obtain⟨v,hv⟩:=ExZ (bits .or .u8 (c.toNat:Int) 32)
 rw[hv]at qZ nG lK;have KF:¬((48:Int)<=c.toNat/\(c.toNat:Int)<=57):=by omega
 have KG:¬(c.toNat:Int)=95:=by omega
 revert lK;revert nG;revert qZ;revert KG;revert KF;revert hv;revert v;exact zz.o):P:=h ⟨k⟩
theorem Z27(k:Q)(h:Kq Q->P:=by
 intro zz;rintro e cx ⟨rfl,rfl⟩;refine⟨by first|exact hS|exact λ _=>hS|exact λ _ _=>hS,?_⟩;refine Reg.pt ?_;exact zz.o):P:=h ⟨k⟩
theorem Z28(k:Q)(h:Kq Q->P:=by
 intro zz;have hv:W.heap.size<=w2.heap.size:=Uj ((((Gr.refl W).alloc (.cells #[(0:Int),(0:Int)] 29)).alloc (.cells #[(0:Int),(0:Int)] 67)).drew).size a9.size;obtain⟨fa,ga,za⟩:=bx2 W (0:Int) (0:Int) 29;obtain⟨fb,gb,zb⟩:=bx2 (W.alloc (.cells #[(0:Int),(0:Int)] 29)) (0:Int) (0:Int) 67;have f6:=((fa.gr gb).gr ((Gr.refl _).drew)).st a9 (λ e=>by have:=aa _ e;omega);rw[za]at fb;have f5:=(fb.gr ((Gr.refl _).drew)).st a9 (λ e=>by have:=aa _ e;omega);rw[za]at zb;obtain⟨r0,r1,rf,rl⟩:=id f5;obtain⟨k0,k1,kf,kl⟩:=id f6;revert zb;revert fb;revert kl;revert kf;revert k1;revert k0;revert rl;revert rf;revert r1;revert r0;revert f5;revert f6;revert gb;revert za;revert ga;revert fa;revert hv;exact zz.o):P:=h ⟨k⟩
theorem Z29(k:Q)(h:Kq Q->P:=by
 intro zz;have hv:W.heap.size<=w2.heap.size:=Uj ((((Gr.refl W).alloc (.cells #[(0:Int),(0:Int)] 67)).alloc (.cells #[(0:Int),(0:Int)] 29)).drew).size a9.size;obtain⟨fa,ga,za⟩:=bx2 W (0:Int) (0:Int) 67;obtain⟨fb,gb,zb⟩:=bx2 (W.alloc (.cells #[(0:Int),(0:Int)] 67)) (0:Int) (0:Int) 29;have f5:=((fa.gr gb).gr ((Gr.refl _).drew)).st a9 (λ e=>by have:=aa _ e;omega);rw[za]at fb;have f6:=(fb.gr ((Gr.refl _).drew)).st a9 (λ e=>by have:=aa _ e;omega);rw[za]at zb;obtain⟨r0,r1,rf,rl⟩:=id f5;obtain⟨k0,k1,kf,kl⟩:=id f6;revert zb;revert fb;revert kl;revert kf;revert k1;revert k0;revert rl;revert rf;revert r1;revert r0;revert f6;revert f5;revert gb;revert za;revert ga;revert fa;revert hv;exact zz.o):P:=h ⟨k⟩
theorem Z30(k:Q)(h:Kq Q->P:=by
 intro zz;have hv:W.heap.size<=w2.heap.size:=Uj (((Gr.refl W).alloc (.cells #[(0:Int),(0:Int)] 29)).drew).size a9.size;obtain⟨fa,ga,za⟩:=bx2 W (0:Int) (0:Int) 29;have ox:=(fa.gr ((Gr.refl _).drew)).st a9 (λ e=>by have:=aa _ e;omega);obtain⟨f5,gb,zb⟩:=bx2 w2 (0:Int) (0:Int) 67;have f6:=ox.gr gb;have r9:W.heap.size<w2.heap.size:=ox.2.2.2;obtain⟨W3,bQ⟩:=ExZ (w2.alloc (.cells #[(0:Int),(0:Int)] 67))
 rw[bQ]at f5 f6 gb;rw[bQ];clear bQ zb;obtain⟨r0,r1,rf,rl⟩:=id f5;obtain⟨k0,k1,kf,kl⟩:=id f6;revert gb;revert f6;revert f5;revert kl;revert kf;revert k1;revert k0;revert rl;revert rf;revert r1;revert r0;revert W3;revert r9;revert ox;revert za;revert ga;revert fa;revert hv;exact zz.o):P:=h ⟨k⟩
theorem Z31(k:Q)(h:Kq Q->P:=by
 intro zz;have hv:W.heap.size<=w2.heap.size:=Uj (((Gr.refl W).alloc (.cells #[(0:Int),(0:Int)] 67)).drew).size a9.size;obtain⟨fa,ga,za⟩:=bx2 W (0:Int) (0:Int) 67;have ox:=(fa.gr ((Gr.refl _).drew)).st a9 (λ e=>by have:=aa _ e;omega);obtain⟨f6,gb,zb⟩:=bx2 w2 (0:Int) (0:Int) 29;have f5:=ox.gr gb;have r9:W.heap.size<w2.heap.size:=ox.2.2.2;obtain⟨W3,bQ⟩:=ExZ (w2.alloc (.cells #[(0:Int),(0:Int)] 29))
 rw[bQ]at f5 f6 gb;rw[bQ];clear bQ zb;obtain⟨r0,r1,rf,rl⟩:=id f5;obtain⟨k0,k1,kf,kl⟩:=id f6;revert gb;revert f6;revert f5;revert kl;revert kf;revert k1;revert k0;revert rl;revert rf;revert r1;revert r0;revert W3;revert r9;revert ox;revert za;revert ga;revert fa;revert hv;exact zz.o):P:=h ⟨k⟩
theorem Z32(k:Q)(h:Kq Q->P:=by
 intro zz;refine Reg.ty 0 ?_;refine Reg.ty 1 ?_;refine Reg.ty 2 ?_;exact zz.o):P:=h ⟨k⟩
theorem Z33(k:Q)(h:Kq Q->P:=by
 intro zz;have bj:=O17 aP.o cl.o HC.o;refine⟨by first|exact bj|exact λ _=>bj,?_⟩;refine Reg.pt ?_;revert bj;exact zz.o):P:=h ⟨k⟩
theorem Z34(k:Q)(h:Kq Q->P:=by
 intro zz;refine⟨by first|exact ce|exact λ _=>ce|exact λ _ _=>ce,?_⟩;refine Reg.pt ?_;exact zz.o):P:=h ⟨k⟩
theorem Z35(k:Q)(h:Kq Q->P:=by
 intro zz;refine Reg.on 15 ?_;refine U23 _ (.tmp 75) (.tmp 77) 36 (by rfl) base 3 iU _ 1 8 underlying36 fS.o.1 fS.o.2.1 fS.o.2.2.1 fS.o.2.2.2 (by rfl) (by decide) x1.nsv g.its.length xn (by rfl) aW.o.n _ 1 1 [.int .i64 (nI)] (by rfl) (by rfl) (U1e oy.o) (by simp[Value.oneCell']) (by decide) (by unfold maxLen;omega) (by omega) (Uj bM aW.o.st.size) _ rfl ?_;intro gN gZ V4 ho hg ha hz;have cL:=U0 (aW.o.appN ho hg ha);clear ho hg ha hz;refine⟨λ h=>absurd h (by decide),?_⟩;revert gN gZ V4 cL;exact zz.o):P:=h ⟨k⟩
theorem Z36(k:Q)(h:Kq Q->P:=by
 intro zz;refine Reg.one (i:=15) rfl (by rfl) ?_;go_simp;have aw:=aP.o.alloc (.cells #[a,b] 38);have ak:=aP.o.newB #[a,b] 38;have aj:=cl.o.alloc (.cells #[a,b] 38);revert aw ak aj;exact zz.o):P:=h ⟨k⟩
theorem Z37(k:Q)(h:Kq Q->P:=by
 intro zz;go_simp;refine⟨by first|exact⟨((wg.other (by omega) _).other (by omega) _).gr (Gr.refl _).drew,((ui.other (by omega) _).other (by omega) _).gr (Gr.refl _).drew⟩|exact λ _=>⟨((wg.other (by omega) _).other (by omega) _).gr (Gr.refl _).drew,((ui.other (by omega) _).other (by omega) _).gr (Gr.refl _).drew⟩|exact λ _ _=>⟨((wg.other (by omega) _).other (by omega) _).gr (Gr.refl _).drew,((ui.other (by omega) _).other (by omega) _).gr (Gr.refl _).drew⟩,?_⟩;refine Reg.pt ?_;exact zz.o):P:=h ⟨k⟩
theorem Z38(k:Q)(h:Kq Q->P:=by
 intro zz;have hv:W.heap.size<=w2.heap.size:=Uj ((Gr.refl W).drew).size a9.size;obtain⟨fa,ga,za⟩:=bx2 w2 (0:Int) (0:Int) 29;obtain⟨f5,gb,zb⟩:=bx2 (w2.alloc (.cells #[(0:Int),(0:Int)] 29)) (0:Int) (0:Int) 67;have f6:=fa.gr gb;rw[za]at f5;obtain⟨W3,bQ⟩:=ExZ ((w2.alloc (.cells #[(0:Int),(0:Int)] 29)).alloc (.cells #[(0:Int),(0:Int)] 67))
 rw[bQ]at f5 f6 gb;rw[bQ];have g3:=ga.trans gb;clear bQ za zb;obtain⟨r0,r1,rf,rl⟩:=id f5;obtain⟨k0,k1,kf,kl⟩:=id f6;revert gb;revert f6;revert f5;revert kl;revert kf;revert k1;revert k0;revert rl;revert rf;revert r1;revert r0;revert g3;revert W3;revert ga;revert fa;revert hv;exact zz.o):P:=h ⟨k⟩
theorem Z39(k:Q)(h:Kq Q->P:=by
 intro zz;have hv:W.heap.size<=w2.heap.size:=Uj ((Gr.refl W).drew).size a9.size;obtain⟨fa,ga,za⟩:=bx2 w2 (0:Int) (0:Int) 67;obtain⟨f6,gb,zb⟩:=bx2 (w2.alloc (.cells #[(0:Int),(0:Int)] 67)) (0:Int) (0:Int) 29;have f5:=fa.gr gb;rw[za]at f6;obtain⟨W3,bQ⟩:=ExZ ((w2.alloc (.cells #[(0:Int),(0:Int)] 67)).alloc (.cells #[(0:Int),(0:Int)] 29))
 rw[bQ]at f5 f6 gb;rw[bQ];have g3:=ga.trans gb;clear bQ za zb;obtain⟨r0,r1,rf,rl⟩:=id f5;obtain⟨k0,k1,kf,kl⟩:=id f6;revert gb;revert f6;revert f5;revert kl;revert kf;revert k1;revert k0;revert rl;revert rf;revert r1;revert r0;revert g3;revert W3;revert ga;revert fa;revert hv;exact zz.o):P:=h ⟨k⟩
theorem Z40(k:Q)(h:Kq Q->P:=by
 intro zz;have eN:Gr w w6:=(du.drew.trans g5).trans g6;have yY:=HW.o.gr eN;obtain⟨ep,he⟩:=yY.err;have HF:=U0 (λ W (hW:V3z W)=>(strconv_FormatInt_10 v HV.o.1 HV.o.2 W hW.pow));revert eN yY ep he HF;exact zz.o):P:=h ⟨k⟩
theorem Z41(k:Q)(h:Kq Q->P:=by
 intro zz;refine Reg.begin' (W:=λ _=>true) (S:=FX (w.heap.size+1) a b) (by kernel_rfl) ?_;refine Reg.ty 0 ?_;refine Reg.ty 1 ?_;refine Reg.tl 2 hS ?_ (hy:=by intro w ab;obtain⟨s0,s1,sf,sl⟩:=ab;go_simp;try with_reducible rfl);refine Reg.ty 3 ?_;refine Reg.on 4 ?_;go_simp;refine⟨by first|exact ((fH.other (by omega) _).other (by omega) _).gr (Gr.refl _).drew|exact λ _ _=>((fH.other (by omega) _).other (by omega) _).gr (Gr.refl _).drew,?_⟩;refine Reg.pt ?_;refine Reg.on 5 ?_;go_simp;refine⟨by first|exact ((((fH.other (by omega) _).other (by omega) _).other (by omega) _).other (by omega) _).gr (Gr.refl _).drew|exact λ _=>((((fH.other (by omega) _).other (by omega) _).other (by omega) _).other (by omega) _).gr (Gr.refl _).drew|exact λ _ _=>((((fH.other (by omega) _).other (by omega) _).other (by omega) _).other (by omega) _).gr (Gr.refl _).drew,?_⟩;refine Reg.pt ?_;exact zz.o):P:=h ⟨k⟩
theorem Z42(k:Q)(h:Kq Q->P:=by
 intro zz;refine Reg.ty 3 ?_;refine Reg.ty 4 ?_;exact zz.o):P:=h ⟨k⟩
theorem Z43(k:Q)(h:Kq Q->P:=by
 intro zz;refine Reg.begin' (W:=λ i=>i != 7) (S:=λ W=>WB3 w.heap.size (0:Int) (0:Int) (.slice none 0 0) (0:Int) (0:Int) (0:Int) W/\FX bK (.slice (some ⟨gk,0,none⟩) ws.length ck) (.slice (some ⟨gs,0,none⟩) ws.length cs) W) (by kernel_rfl) ?_;refine Reg.tl 0 aD ?_ (hy:=by intro w ab;obtain⟨⟨⟨s0,s1,s2,s3⟩,⟨s4,s5,s6,s7⟩,⟨s8,s9,ki,oq⟩⟩,⟨uj,Dx,KH,KI⟩⟩:=ab;go_simp;try with_reducible rfl);refine Reg.tl 1 aD ?_ (hy:=by intro w ab;obtain⟨⟨⟨s0,s1,s2,s3⟩,⟨s4,s5,s6,s7⟩,⟨s8,s9,ki,oq⟩⟩,⟨uj,Dx,KH,KI⟩⟩:=ab;go_simp;try with_reducible rfl);refine Reg.ty 2 ?_;refine Reg.tl 3 aD ?_ (hy:=by intro w ab;obtain⟨⟨⟨s0,s1,s2,s3⟩,⟨s4,s5,s6,s7⟩,⟨s8,s9,ki,oq⟩⟩,⟨uj,Dx,KH,KI⟩⟩:=ab;go_simp;try with_reducible rfl);refine Reg.on 4 ?_;go_simp;refine jD.o.mono ?_;exact zz.o):P:=h ⟨k⟩
theorem Z44(k:Q)(h:Kq Q->P:=by
 intro zz;refine Reg.sk 12 ?_;refine Reg.sk 13 ?_;refine Reg.sk 14 ?_;refine Reg.sk 15 ?_;refine Reg.sk 16 ?_;refine Reg.sk 17 ?_;refine Reg.ty 18 ?_;exact zz.o):P:=h ⟨k⟩
theorem Z45(k:Q)(h:Kq Q->P:=by
 intro zz;refine Z299 ?_;refine Reg.sk 14 ?_;refine Reg.sk 15 ?_;exact zz.o):P:=h ⟨k⟩
theorem Z46(k:Q)(h:Kq Q->P:=by
 intro zz;refine Z310 ?_;refine Reg.ty 10 ?_;exact zz.o):P:=h ⟨k⟩
theorem Z47(k:Q)(h:Kq Q->P:=by
 intro zz;refine Reg.ty 12 ?_;refine Reg.ty 13 ?_;refine Reg.ty 14 ?_;exact zz.o):P:=h ⟨k⟩
theorem Z48(k:Q)(h:Kq Q->P:=by
 intro zz;rintro e w' ⟨rfl,rfl⟩;exact zz.o):P:=h ⟨k⟩
theorem Z49(k:Q)(h:Kq Q->P:=by
 intro zz;have aL:=U0 aw;have fU:=U0 aj;revert aL fU;exact zz.o):P:=h ⟨k⟩
theorem Z50(k:Q)(h:Kq Q->P:=by
 intro zz
 try simp only[Act.put,U3h,U2s,U36,U28,U26,U2e]
 exact zz.o):P:=h ⟨k⟩
theorem Z51(k:Q)(h:Kq Q->P:=by
 intro zz;have ao:(V35 L).length=L.length*7:=O42 L;have bN:WF.ownsRow base 40 7 (.slice (some ⟨g,0,none⟩) L.length cap) L.length (V35 (L.set i ⟨nd,kv,sv,uv⟩)):=by
  subst am;have e1:=Ou KJ (i*7+2) (by omega) kv;have e2:=Ou e1 (i*7+3) (by rw[U1i];omega) sv;have e3:=Ou e2 (i*7+4) (by rw[U1i,U1i];omega) uv;have f1:=O1p L i 2 (by omega) kv r ⟨r.nd,kv,r.sv,r.uv⟩ hr rfl;have f2:=O1p (L.set i ⟨r.nd,kv,r.sv,r.uv⟩) i 3 (by omega) sv ⟨r.nd,kv,r.sv,r.uv⟩ ⟨r.nd,kv,sv,r.uv⟩ (by simp[hi]) rfl;have f3:=O1p ((L.set i ⟨r.nd,kv,r.sv,r.uv⟩).set i ⟨r.nd,kv,sv,r.uv⟩) i 4 (by omega) uv ⟨r.nd,kv,sv,r.uv⟩ ⟨nd,kv,sv,uv⟩ (by simp[hi]) (by simp[ndV,bx,cb,fw]);rw[f1,f2,f3]at e3
  simpa using e3
 rw[am];revert ao bN;exact zz.o):P:=h ⟨k⟩
theorem Z52(k:Q)(h:Kq Q->P:=by
 intro zz;have i0:∀W,(Instr.index 229 (.agg V56) (0:Int)).run prog W = .ok (V3p ⟨#[48,120]⟩ 16 V6d) W:=λ _=>by kernel_rfl
 have i1:∀W,(Instr.index 229 (.agg V56) (1:Int)).run prog W = .ok (V3p ⟨#[48,111]⟩ 8 V6e) W:=λ _=>by kernel_rfl
 have i2:∀W,(Instr.index 229 (.agg V56) (2:Int)).run prog W = .ok (V3p ⟨#[48,98]⟩ 2 V6f) W:=λ _=>by kernel_rfl
 unfold V56 at i0 i1 i2;revert i2;revert i1;revert i0;exact zz.o):P:=h ⟨k⟩
theorem Z53(k:Q)(h:Kq Q->P:=by
 intro zz;go_simp;refine⟨by first|exact (eE.o.gr ((((Gr.refl W).alloc (.cells #[(0:Int),(0:Int)] 29)).alloc (.cells #[(0:Int),(0:Int)] 67)).drew))|exact λ _=>(eE.o.gr ((((Gr.refl W).alloc (.cells #[(0:Int),(0:Int)] 29)).alloc (.cells #[(0:Int),(0:Int)] 67)).drew))|exact λ h=>h.gr ((Gr.refl _).alloc _)|exact λ _ h=>h.gr ((Gr.refl _).alloc _),?_⟩;refine Reg.pt ?_;exact zz.o):P:=h ⟨k⟩
theorem Z54(k:Q)(h:Kq Q->P:=by
 intro zz;go_simp;refine⟨by first|exact (eE.o.gr ((((Gr.refl W).alloc (.cells #[(0:Int),(0:Int)] 67)).alloc (.cells #[(0:Int),(0:Int)] 29)).drew))|exact λ _=>(eE.o.gr ((((Gr.refl W).alloc (.cells #[(0:Int),(0:Int)] 67)).alloc (.cells #[(0:Int),(0:Int)] 29)).drew))|exact λ h=>h.gr ((Gr.refl _).alloc _)|exact λ _ h=>h.gr ((Gr.refl _).alloc _),?_⟩;refine Reg.pt ?_;exact zz.o):P:=h ⟨k⟩
theorem Z55(k:Q)(h:Kq Q->P:=by
 intro zz;have eF:=d7.gr g4;have dJ:=du.trans g4;obtain⟨⟨i0,i1,i2,i3,i4,i5,i6,i7,i8⟩,eZ,f7⟩:=O1v jl;obtain⟨v0,v1,vf,vl⟩:=id eF;obtain⟨zI,zF,zG,_⟩:=O8f jl eF (Nat.ne_of_lt (Nat.lt_succ_self _)) dJ (U2 _) (U1w _) (.int .u8 0) (0:Int) (0:Int) Vn Vn (0:Int) (0:Int) Vn (0:Int) c p;obtain⟨WF,am⟩:=ExZ ((((((((((((w4.setCell ⟨w.heap.size,0,none⟩ (.int .u8 0)).setCell ⟨w.heap.size,1,none⟩ (0:Int)).setCell ⟨w.heap.size,2,none⟩ (0:Int)).setCell ⟨w.heap.size,3,none⟩ Vn).setCell ⟨w.heap.size,4,none⟩ Vn).setCell ⟨w.heap.size,5,none⟩ (0:Int)).setCell ⟨w.heap.size,6,none⟩ (0:Int)).setCell ⟨w.heap.size,7,none⟩ Vn).setCell ⟨w.heap.size,8,none⟩ (0:Int)).setCell ⟨w.heap.size+1,0,none⟩ c).setCell ⟨w.heap.size+1,1,none⟩ p))
 rw[am]at zI zF zG;have oA:=U0 am;revert zG;revert zF;revert zI;revert oA;revert am;revert WF;revert vl;revert vf;revert v1;revert v0;revert f7;revert eZ;revert i8;revert i7;revert i6;revert i5;revert i4;revert i3;revert i2;revert i1;revert i0;revert dJ;revert eF;exact zz.o):P:=h ⟨k⟩
theorem Z56(k:Q)(h:Kq Q->P:=by
 intro zz;refine Reg.ty 0 ?_;refine Reg.ty 1 ?_;exact zz.o):P:=h ⟨k⟩
theorem Z57(k:Q)(h:Kq Q->P:=by
 intro zz;refine Reg.one (i:=22) rfl (by rfl) ?_;go_simp;have aw:=aP.o.alloc (.cells #[n] 3);have as:=aP.o.newB #[n] 3;have aj:=cl.o.alloc (.cells #[n] 3);revert aw as aj;exact zz.o):P:=h ⟨k⟩
theorem Z58(k:Q)(h:Kq Q->P:=by
 intro zz;refine (O9 s _ e rfl F9 (by omega) _).mono ?_;rintro e3 w3 ⟨rfl,g3⟩;have yZ:=V8 (bs s) e (by rw[O0];exact F9);rw[O0]at yZ;have rS:=HK.o.gr g3;obtain⟨p0,p1,p2,p3,p4,p5,p6,p7⟩:=rS.cells;have uk:=rS.lt;have oC:=U0 rS;have rc:=bV.o
 try dsimp only at rc
 obtain⟨a,ha⟩:=ExZ (V7 (bs s) e)
 rw[ha]at yZ rc⊢;have HA:=U0 ha;clear ha rS;revert rc;revert yZ;revert HA;revert a;revert oC;revert uk;revert p7;revert p6;revert p5;revert p4;revert p3;revert p2;revert p1;revert p0;revert g3;revert w3;exact zz.o):P:=h ⟨k⟩
theorem Z59(k:Q)(h:Kq Q->P:=by
 intro zz;refine Reg.ty 7 ?_;refine Z310 ?_;exact zz.o):P:=h ⟨k⟩
theorem Z60(k:Q)(h:Kq Q->P:=by
 intro zz;refine Reg.ty 5 ?_;refine Reg.ty 6 ?_;refine Reg.ty 8 ?_;refine Reg.tl 9 hS ?_ (hy:=by intro w ab;obtain⟨q0,q1,qf,ql⟩:=ab;go_simp;try with_reducible rfl);refine Reg.on 7 ?_;go_simp;refine (O9q w w3.drew R B base s root nv L own H.o dh.drew HR.o kk um.o x n (n+k) _ rfl _ (by simp)).mono ?_;rintro e w4 ⟨rfl,nv',own',oD,kK,fV,jE⟩;have d7:=hS.st jE As.o;refine⟨by first|exact d7|exact λ _=>d7|exact λ _ _=>d7,?_⟩;refine Reg.pt ?_;refine Reg.ty 10 ?_;refine Reg.ty 11 ?_;refine Z318 ?_;intro p0 p1 pf pl eG H3 wl wn;clear oD kK fV jE;refine Reg.on 12 ?_;go_simp;revert w4 nv' own' p0 p1 pf pl eG H3 wl wn;exact zz.o):P:=h ⟨k⟩
theorem Z61(k:Q)(h:Kq Q->P:=by
 intro zz;refine Reg.ty 10 ?_;refine Reg.ty 11 ?_;exact zz.o):P:=h ⟨k⟩
theorem Z62(k:Q)(h:Kq Q->P:=by
 intro zz;refine U23 _ (.tmp 33) (.tmp 35) 34 (by rfl) w.heap.size 9 iK _ 1 16 underlying34 fG.o.1 fG.o.2.1 fG.o.2.2.1 fG.o.2.2.2 (by rfl) (by decide) kv acc.length _ (by rfl) aP.o.k _ 1 1 [V3a t] (by rfl) (by rfl) (U1e d6.o.blk) (by simp[Value.oneCell']) (by decide) (by unfold maxLen;omega) (by omega) aP.o.size _ rfl ?_;intro gK aI V3 ho hg ha hz;have aW:=U0 (aP.o.appK ho hg ha);have mv:=U0 (mx.o.appK (n:=acc.length+1) (cap:=aI) hg ha);have rQ:=U0 (rU.o.appK (n:=acc.length+1) (cap:=aI) hg ha);have ca:=U0 (dV.o.appK (n:=acc.length+1) (cap:=aI) hg ha);clear ho hg ha hz;have aD:=O2d mv.o;refine⟨λ _ _=>aD,?_⟩;refine Reg.pt ?_;refine Reg.ty 13 ?_;refine Reg.on 11 ?_;revert gK aI V3 aW mv rQ ca aD;exact zz.o):P:=h ⟨k⟩
theorem Z63(k:Q)(h:Kq Q->P:=by
 intro zz;refine Reg.one (i:=9) rfl (by rfl) ?_;refine U23 _ (.tmp 24) (.tmp 26) 34 (by rfl) base 9 iK _ 1 16 underlying34 fG.o.1 fG.o.2.1 fG.o.2.2.1 fG.o.2.2.2 (by rfl) (by decide) r.kv r.nd.keys.length (Oh r.nd.keys) (by rfl) aL.o.k _ 1 1 [.string key] (by rfl) (by rfl) (U1e my.o.blk) (by simp[Value.oneCell']) (by decide) (by unfold maxLen;omega) (by omega) (Uj bM aL.o.size) _ rfl ?_;intro gK aI V2 ho hg ha hz;have aP:=U0 (aL.o.appK ho hg ha);have cl:=U0 (fU.o.appK (n:=r.nd.keys.length+1) (cap:=aI) hg ha);clear ho hg ha hz;have bj:=O17 aP.o cl.o HC.o;refine⟨λ _ _=>bj,?_⟩;refine Reg.pt ?_;refine Reg.all (rs:=[15,22]) (by kernel_rfl) (by simp) ?_;revert gK aI V2 aP cl bj;exact zz.o):P:=h ⟨k⟩
theorem Z64(k:Q)(h:Kq Q->P:=by
 intro zz;obtain⟨r1,r2,r3⟩:=lL.o la wt a b Fa.o;have cN:=Oej w5 gk gs la ck cs ⟨wt.toArray⟩ a b (by omega) (U4 (U4 iQ bv.o.size) g5.size) (U4 (U4 iR bv.o.size) g5.size) ((V3f _).trans r1) ((wv _).trans r2) ((wv _).trans r3);rw[<-fI.o]at cN;refine cN.mono ?_;rintro e w6 ⟨rfl,g6⟩;have lM:=g5.trans g6;revert cN;revert lM;revert g6;revert w6;revert r3;revert r2;revert r1;exact zz.o):P:=h ⟨k⟩
theorem Z65(k:Q)(h:Kq Q->P:=by
 intro zz;refine⟨by first|exact cm|exact λ _=>cm|exact λ _ _=>cm,?_⟩;refine Reg.pt ?_;exact zz.o):P:=h ⟨k⟩
theorem Z66(k:Q)(h:Kq Q->P:=by
 intro zz;refine Reg.one (i:=22) rfl (by rfl) ?_;go_simp;exact zz.o):P:=h ⟨k⟩
theorem Z67(k:Q)(h:Kq Q->P:=by
 intro zz;have KK:=(hH.i.other (b2:=w.heap.size+1+1) (o:=0) (by omega) ec).other (b2:=w.heap.size+1+1) (o:=1) (by omega) eq;have KL:=(hH.t.other (b2:=w.heap.size+1+1) (o:=0) (by omega) ec).other (b2:=w.heap.size+1+1) (o:=1) (by omega) eq;have ww:=hH.f.set ec eq;have Dy:=Ofj dJ (show w.heap.size+1+1<w5.heap.size from cK.f.2.2.2) (λ k hk=>(H.o.v.lt k hk).2) oE.2 ap;obtain⟨WF,am⟩:=ExZ (((w6.setCell ⟨w.heap.size+1+1,0,none⟩ ec).setCell ⟨w.heap.size+1+1,1,none⟩ eq))
 rw[am]at KK KL ww Dy;rw[am];obtain⟨q0,q1,qf,ql⟩:=KK;obtain⟨y0,y1,yf,yl⟩:=KL;obtain⟨mz,mA,mB,mC⟩:=ww;rw[<-mD];revert Dy;revert mC;revert mB;revert mA;revert mz;revert yl;revert yf;revert y1;revert y0;revert ql;revert qf;revert q1;revert q0;revert am;revert WF;exact zz.o):P:=h ⟨k⟩
theorem Z68(k:Q)(h:Kq Q->P:=by
 intro zz;have hF:=iz.set (4:Int) a;have At:=(((HG.o.st).trans bv.o).gr G7.o)
 have sF:St (FV own) (FV own') w _:=(At.setCell (p:=⟨w.heap.size+1,0,none⟩) (.inr (by simp only;omega)) (4:Int)).setCell (p:=⟨w.heap.size+1,1,none⟩) (.inr (by simp only;omega)) a;have aE:((W7.setCell ⟨w.heap.size+1,0,none⟩ (4:Int)).setCell ⟨w.heap.size+1,1,none⟩ a).cell? ⟨R,2,none⟩=some (.string s):=by
  exact J70
 obtain⟨WF,am⟩:=ExZ (((W7.setCell ⟨w.heap.size+1,0,none⟩ (4:Int)).setCell ⟨w.heap.size+1,1,none⟩ a))
 rw[am]at hF sF aE;rw[am];clear am;obtain⟨q0,q1,qf,ql⟩:=hF;rw[<-ae];revert aE;revert sF;revert ql;revert qf;revert q1;revert q0;revert WF;revert At;exact zz.o):P:=h ⟨k⟩
theorem Z69(k:Q)(h:Kq Q->P:=by
 intro zz;have oF:(((a:Int)==(s.size:Int))=true)\/(∃aa:a<s.size,((a:Int)==(s.size:Int))=false/\((s[a].toNat:Int) != 46)=true):=by
  by_cases h:a<s.size;refine .inr ⟨h,by simp;omega,?_⟩;rw[byteAt_lt s a h]at jF;simp;omega
  exact .inl (by simp;omega)
 have uh:=U0 rc;have bx:(0:Int)<=(a:Int):=by omega
 revert oF uh bx;exact zz.o):P:=h ⟨k⟩
theorem Z70(k:Q)(h:Kq Q->P:=by
 intro zz;have zc:Ob0 w VV:=⟨p4,p5⟩
 have zd:acc.length+1<=aI/\aI<=9223372036854775807:=by
  rcases Au with⟨h,_⟩|⟨g,c,h,h1,h2⟩
  cases h
  cases h;exact⟨h1,h2⟩
 have Dz:acc.length+1<=cM/\cM<=9223372036854775807:=by
  rcases lN with⟨h,_⟩|⟨g,c,h,h1,h2⟩
  cases h
  cases h;exact⟨h1,h2⟩
 revert zc zd Dz;exact zz.o):P:=h ⟨k⟩
theorem Z71(k:Q)(h:Kq Q->P:=by
 intro zz;have e0:∀xs:List UInt8,strOfNums (xs.map λ x=>(x.toNat:Int))=⟨xs.toArray⟩:=by
  intro xs;unfold strOfNums;rw[List.map_map];congr 2
  conv=>rhs;rw[<-List.map_id xs]
  exact List.map_congr_left (λ x _=>by simp)
 revert e0;exact zz.o):P:=h ⟨k⟩
theorem Z72(k:Q)(h:Kq Q->P:=by
 intro zz;go_simp;refine⟨by first|exact (eE.o.gr (((Gr.refl W).alloc (.cells #[(0:Int),(0:Int)] 29)).drew))|exact λ _=>(eE.o.gr (((Gr.refl W).alloc (.cells #[(0:Int),(0:Int)] 29)).drew))|exact λ h=>h.gr ((Gr.refl _).alloc _)|exact λ _ h=>h.gr ((Gr.refl _).alloc _),?_⟩;refine Reg.pt ?_;exact zz.o):P:=h ⟨k⟩
theorem Z73(k:Q)(h:Kq Q->P:=by
 intro zz;go_simp;refine⟨by first|exact (eE.o.gr (((Gr.refl W).alloc (.cells #[(0:Int),(0:Int)] 67)).drew))|exact λ _=>(eE.o.gr (((Gr.refl W).alloc (.cells #[(0:Int),(0:Int)] 67)).drew))|exact λ h=>h.gr ((Gr.refl _).alloc _)|exact λ _ h=>h.gr ((Gr.refl _).alloc _),?_⟩;refine Reg.pt ?_;exact zz.o):P:=h ⟨k⟩
theorem Z74(k:Q)(h:Kq Q->P:=by
 intro zz;refine Reg.ty 14 ?_;refine Reg.ty 15 ?_;refine Reg.ty 16 ?_;exact zz.o):P:=h ⟨k⟩
theorem Z75(k:Q)(h:Kq Q->P:=by
 intro zz;have ix:=U0 ((uo.setCell (p:=⟨w.heap.size,0,none⟩) uq (0:Int)).setCell (p:=⟨w.heap.size,1,none⟩) uq (0:Int));have fW:=U0 (((jG.o.trans d8).setCell (p:=⟨w.heap.size,0,none⟩) (.inr (U2 _)) (0:Int)).setCell (p:=⟨w.heap.size,1,none⟩) (.inr (U2 _)) (0:Int));revert ix fW;exact zz.o):P:=h ⟨k⟩
theorem Z76(k:Q)(h:Kq Q->P:=by
 intro zz;refine Reg.one (i:=15) rfl (by rfl) ?_;go_simp;exact zz.o):P:=h ⟨k⟩
theorem Z77(k:Q)(h:Kq Q->P:=by
 intro zz;refine⟨by first|exact kh|exact λ _=>kh|exact λ _ _=>kh,?_⟩;refine Reg.pt ?_;exact zz.o):P:=h ⟨k⟩
theorem Z78(k:Q)(h:Kq Q->P:=by
 intro zz;refine (O6d _ R s m q out ov (RdQ.auto aP.o) hm hs).mono ?_;rw[DA.o];rintro e w1 ⟨rfl,g1⟩;obtain⟨ah,ar,ay⟩:=g1.use;simp at ay;have di:w.heap.size<w1.heap.size:=by omega
 have nH:¬w.heap.size=w1.heap.size:=by omega
 revert ay;revert nH;revert di;revert ar;revert ah;revert g1;revert w1;exact zz.o):P:=h ⟨k⟩
theorem Z79(k:Q)(h:Kq Q->P:=by
 intro zz;have eO:t.toList.isEmpty=false:=by
  exact J24
 have dK:=U38 (P:=prog) w 9 22 5 t (u := .string) (by kernel_rfl) (by kernel_rfl) (by kernel_rfl);revert eO dK;exact zz.o):P:=h ⟨k⟩
theorem Z80(k:Q)(h:Kq Q->P:=by
 intro zz;refine Z321 ?_;refine Reg.tl 1 hS ?_ (hy:=by intro w ab;obtain⟨⟨s0,s1,sf,sl⟩,⟨s2,s3,KM,KN⟩⟩:=ab;go_simp;try with_reducible rfl);refine Reg.on 2 ?_;exact zz.o):P:=h ⟨k⟩
theorem Z81(k:Q)(h:Kq Q->P:=by
 intro zz;have aw:=U0 eH;have cn:Hid (∀k,own' k≠0->own k≠0\/w.heap.size+1<=k):=λ k hk=>(bB k hk).imp id (λ e=>by simpa using e)
 have Fb:=U0 KO;revert aw cn Fb;exact zz.o):P:=h ⟨k⟩
theorem Z83(k:Q)(h:Kq Q->P:=by
 intro zz;refine⟨by first|exact zc|exact λ _=>zc|exact λ _ h=>h,?_⟩;refine Reg.pt ?_;exact zz.o):P:=h ⟨k⟩
theorem Z84(k:Q)(h:Kq Q->P:=by
 intro zz;refine Reg.ty 3 ?_;refine Reg.tl 2 hS ?_ (hy:=by intro w ab;obtain⟨⟨s0,s1,s2,s3⟩,s4,s5⟩:=ab;go_simp;try with_reducible rfl);refine Reg.tl 4 hS ?_ (hy:=by intro w ab;obtain⟨⟨s0,s1,s2,s3⟩,s4,s5⟩:=ab;go_simp;try with_reducible rfl);refine Reg.ty 5 ?_;refine Reg.ty 6 ?_;refine Reg.tl 7 hS ?_ (hy:=by intro w ab;obtain⟨⟨s0,s1,s2,s3⟩,s4,s5⟩:=ab;go_simp;try with_reducible rfl);refine Reg.on 8 ?_;go_simp;refine (Fc.o wq.drew (ze.o.trans (Gr.refl wq).drew)).mono ?_;rintro e w4 ⟨q4,rfl,DB,g4⟩;have ce:=hS.gr g4;have Av:q4.size=a.length:=by rw[<-DB,O0]
 revert w4 q4 DB g4 ce Av;exact zz.o):P:=h ⟨k⟩
theorem Z85(k:Q)(h:Kq Q->P:=by
 intro zz;rintro e w1 ⟨rfl,g1⟩;obtain⟨ah,ar,ay⟩:=g1.use;simp at ay;revert ay;revert ar;revert ah;revert g1;revert w1;exact zz.o):P:=h ⟨k⟩
theorem Z86(k:Q)(h:Kq Q->P:=by
 intro zz;refine Reg.one (i:=8) rfl (by rfl) ?_;refine U23 _ (.tmp 68) (.tmp 70) 48 (by rfl) base 53 iI _ 9 120 underlying48 ur.o.1 ur.o.2.1 ur.o.2.2.1 ur.o.2.2.2 (by rfl) (by decide) x1.iv g.its.length xi (by rfl) aP.o.i _ 1 1 [.int .u8 it.kind,.int .i64 it.a,.int .i64 it.b,.slice ka kn kc,.slice sa sn sc,.int .i64 it.va,.int .i64 it.vb,.slice ta tn tc,.int .i64 it.root] (by rfl) (by rfl) (U1e wB.o) (by simp[Value.oneCell']) (by decide) (by unfold maxLen;omega) (by omega) (Uj bM aP.o.st.size) _ rfl ?_;intro gI rV V3 ho hg ha hz;have aW:=U0 (aP.o.appI ho hg ha);have DC:=Uj DD hg.size;revert gI rV V3 ho hg ha hz aW DC;exact zz.o):P:=h ⟨k⟩
theorem Z87(k:Q)(h:Kq Q->P:=by
 intro zz;rw[Um _ _ _ _ (by first|(simp;done)|(simp;omega)),Um _ _ _ _ (by first|(simp;done)|(simp;omega))];exact zz.o):P:=h ⟨k⟩
theorem Z88(k:Q)(h:Kq Q->P:=by
 intro zz;have k1:(1:Int)<=(z.size:Int):=by omega
 have k4:(4:Int)<=(z.size:Int):=by omega
 have wC:=U0 zf;have Aw:=U0 zg;revert k1 k4 wC Aw;exact zz.o):P:=h ⟨k⟩
theorem Z89(k:Q)(h:Kq Q->P:=by
 intro zz;refine Reg.ty 4 ?_;refine Reg.ty 5 ?_;exact zz.o):P:=h ⟨k⟩
theorem Z90(k:Q)(h:Kq Q->P:=by
 intro zz;have HY:Hid (V45 c=false):=U0 (by rw[HX.o,Ax,tB];rfl);revert HY;exact zz.o):P:=h ⟨k⟩
theorem Z91(k:Q)(h:Kq Q->P:=by
 intro zz;refine Reg.sk 14 ?_;refine Reg.sk 15 ?_;refine Reg.sk 16 ?_;exact zz.o):P:=h ⟨k⟩
theorem Z92(k:Q)(h:Kq Q->P:=by
 intro zz;have wD:=U0 (Ons cL.o mu.o vV.o);obtain⟨VE,DE⟩:=ExZ ((V4.setCell ⟨w.heap.size,0,none⟩ (.slice (some ⟨gK,0,none⟩) (acc.length+1) aI)).setCell ⟨w.heap.size,1,none⟩ (.slice (some ⟨gS,0,none⟩) (acc.length+1) cM))
 have oG:=wD.o;revert wD VE DE oG;exact zz.o):P:=h ⟨k⟩
theorem Z93(k:Q)(h:Kq Q->P:=by
 intro zz;go_simp;refine (iT.o (((W.alloc (.cells #[(0:Int),(0:Int)] 29)).alloc (.cells #[(0:Int),(0:Int)] 67)).drew) (HG.o.trans ((((Gr.refl W).alloc (.cells #[(0:Int),(0:Int)] 29)).alloc (.cells #[(0:Int),(0:Int)] 67)).drew))).mono ?_;exact zz.o):P:=h ⟨k⟩
theorem Z94(k:Q)(h:Kq Q->P:=by
 intro zz;go_simp;refine (iT.o (((W.alloc (.cells #[(0:Int),(0:Int)] 67)).alloc (.cells #[(0:Int),(0:Int)] 29)).drew) (HG.o.trans ((((Gr.refl W).alloc (.cells #[(0:Int),(0:Int)] 67)).alloc (.cells #[(0:Int),(0:Int)] 29)).drew))).mono ?_;exact zz.o):P:=h ⟨k⟩
theorem Z95(k:Q)(h:Kq Q->P:=by
 intro zz;refine Reg.begin' (W:=λ i=>i != 3) (S:=FX w.heap.size (0:Int) (0:Int)) (by kernel_rfl) ?_;refine Z316 ?_;exact zz.o):P:=h ⟨k⟩
theorem Z96(k:Q)(h:Kq Q->P:=by
 intro zz;have HK:Hid (false=(r7.toList.isEmpty&&(o3.toList.isEmpty==o4.toList.isEmpty)&&(o5.toList.isEmpty==o7.toList.isEmpty))):=U0 (by rw[bR,H3.o,f2,H5.o,g2];rfl);rw[fx];revert HK;exact zz.o):P:=h ⟨k⟩
theorem Z97(k:Q)(h:Kq Q->P:=by
 intro zz;have HK:Hid (true=(r7.toList.isEmpty&&(o3.toList.isEmpty==o4.toList.isEmpty)&&(o5.toList.isEmpty==o7.toList.isEmpty))):=U0 (by rw[bR,H3.o,f2,H5.o,g2];rfl);rw[fx];revert HK;exact zz.o):P:=h ⟨k⟩
theorem Z98(k:Q)(h:Kq Q->P:=by
 intro zz;have tg:∀k,own k≠0->¬FI own i k->(if kv.ownBlock=some k then 4+3*i else if sv.ownBlock=some k then 5+3*i else if uv.ownBlock=some k then 6+3*i else own k)=own k:=by
  intro k h0 hF;have hk:=(h.lt k h0).2;have a1:kv.ownBlock≠some k:=λ e=>(H.fk k e).elim hF (λ e=>by omega)
  have a2:sv.ownBlock≠some k:=λ e=>(H.fs k e).elim hF (λ e=>by omega)
  have a3:uv.ownBlock≠some k:=λ e=>(H.fu k e).elim hF (λ e=>by omega)
  simp only[a1,a2,a3,U1d]
 revert tg;exact zz.o):P:=h ⟨k⟩
theorem Z99(k:Q)(h:Kq Q->P:=by
 intro zz;refine⟨by first|exact cm|exact λ _=>cm,?_⟩;refine Reg.pt ?_;exact zz.o):P:=h ⟨k⟩
theorem Z100(k:Q)(h:Kq Q->P:=by
 intro zz;refine Reg.ty 17 ?_;refine Reg.ty 18 ?_;exact zz.o):P:=h ⟨k⟩
theorem Z101(k:Q)(h:Kq Q->P:=by
 intro zz;have bv:Hid (∀V,Gr w V->V1x w V base (FI own i) r.kv r.sv r.uv r.nd.keys.length r.nd.spots.length r.nd.subs.length (Oh r.nd.keys) (Oc r.nd.spots) (O7 r.nd.subs)):=λ V g1=>h.start3 g1 i r hr h8
 obtain⟨iK,k1,k2,k3,k4⟩:=U2u Oe3;obtain⟨iS,s1,s2,s3,s4⟩:=U2u Ob6;obtain⟨iU,u1,u2,u3,u4⟩:=U2u O6c;have fG:=U0 (And.intro k1 (And.intro k2 (And.intro k3 k4)));have eh:=U0 (And.intro s1 (And.intro s2 (And.intro s3 s4)));have fS:=U0 (And.intro u1 (And.intro u2 (And.intro u3 u4)));have mF:(0:Int)<=(i:Int):=by omega
 have ei:(i:Int)<(L.length:Int):=by omega
 revert bv iK k1 k2 k3 k4 iS s1 s2 s3 s4 iU u1 u2 u3 u4 fG eh fS mF ei;exact zz.o):P:=h ⟨k⟩
theorem Z102(k:Q)(h:Kq Q->P:=by
 intro zz;obtain⟨hB,gB,zB⟩:=bx2 W0 (0:Int) (0:Int) 29;obtain⟨W1,aQ⟩:=ExZ (W0.alloc (.cells #[(0:Int),(0:Int)] 29))
 rw[aQ]at hB gB zB;rw[zA]at hB zB;revert zB;revert hB;revert gB;revert aQ;revert W1;exact zz.o):P:=h ⟨k⟩
theorem Z103(k:Q)(h:Kq Q->P:=by
 intro zz;have dv:=oH.o.span T rT Ay.o (n:Int) ((e2:Int)+1);have i9:Hid (RdV ((w7.setCell ⟨gN,T*7+5,none⟩ (.int .i64 (n:Int))).setCell ⟨gN,T*7+5+1,none⟩ (.int .i64 ((e2:Int)+1))) R B base s root (.slice (some ⟨gN,0,none⟩) (L5).length gZ) ((L5).set T (O2i rT (n:Int) ((e2:Int)+1))) co):=dv.1;have cO:Hid (St (FV own) (FV co) w ((w7.setCell ⟨gN,T*7+5,none⟩ (.int .i64 (n:Int))).setCell ⟨gN,T*7+5+1,none⟩ (.int .i64 ((e2:Int)+1)))):=mG.o.trans dv.2;revert dv i9 cO;exact zz.o):P:=h ⟨k⟩
theorem Z104(k:Q)(h:Kq Q->P:=by
 intro zz;have aD:=O17 aW.o bE.o HC.o;refine⟨λ _ _=>aD,?_⟩;refine Reg.pt ?_;revert aD;exact zz.o):P:=h ⟨k⟩
theorem Z105(k:Q)(h:Kq Q->P:=by
 intro zz;rw[<-bV.o];refine U1 (v := .tuple #[T,.int .i64 (e2+1:Nat),f0]) (by simp[results,results46,go_sem,p0,p1,pf,pl]) rfl ⟨rfl,by have:=lO.o;omega,by simpa using ut,_,_,co,((i9.o.setCell wE _).setCell wE _).drew,?_,((cO.o.setCell (.inr (U2 _)) _).setCell (.inr (U2 _)) _).drew,λ k hk=>(dj.o k hk).imp id (λ e=>by have:=fy.o;omega)⟩;rw[O5t _ T rT _ _ Ay.o];exact zz.o):P:=h ⟨k⟩
theorem Z106(k:Q)(h:Kq Q->P:=by
 intro zz;have hu:=a9.use w.heap.size (by omega) (λ hF=>by have:=HR.o.own_lt hF;omega);have aJ:=a9.size;have cP:Gr w w2:=a9.below hg (λ k hF=>by have:=HR.o.own_lt hF;omega);revert hu aJ cP;exact zz.o):P:=h ⟨k⟩
theorem Z107(k:Q)(h:Kq Q->P:=by
 intro zz;have aD:=O17 aW.o bE.o HC.o;refine⟨by first|exact aD|exact λ _=>aD,?_⟩;refine Reg.pt ?_;revert aD;exact zz.o):P:=h ⟨k⟩
theorem Z108(k:Q)(h:Kq Q->P:=by
 intro zz;refine Reg.one (i:=8) rfl (by rfl) ?_;go_simp;have aw:=aL.o.alloc (.cells #[.string key] 9);have av:=aL.o.newB #[.string key] 9;have aj:=fU.o.alloc (.cells #[.string key] 9);revert aw av aj;exact zz.o):P:=h ⟨k⟩
theorem Z109(k:Q)(h:Kq Q->P:=by
 intro zz;refine Reg.ty 13 ?_;refine Reg.ty 14 ?_;refine Reg.ty 15 ?_;refine Reg.tl 6 hS ?_ (hy:=by intro w ab;obtain⟨x1,x2,x3,xf⟩:=ab;go_simp;try with_reducible rfl);refine Reg.tl 11 hS ?_ (hy:=by intro w ab;obtain⟨x1,x2,x3,xf⟩:=ab;go_simp;try with_reducible rfl);refine Reg.tl 16 hS ?_ (hy:=by intro w ab;obtain⟨x1,x2,x3,xf⟩:=ab;go_simp;try with_reducible rfl);refine Reg.on 7 ?_;go_simp;refine (iA.o _).mono ?_;exact zz.o):P:=h ⟨k⟩
theorem Z110(k:Q)(h:Kq Q->P:=by
 intro zz;refine U23 _ (.tmp 24) (.tmp 26) 34 (by rfl) base 9 iK _ 1 16 underlying34 fG.o.1 fG.o.2.1 fG.o.2.2.1 fG.o.2.2.2 (by rfl) (by decide) r.kv r.nd.keys.length (Oh r.nd.keys) (by rfl) aW.o.k _ 1 1 [.string key] (by rfl) (by rfl) (U1e mH.o.blk) (by simp[Value.oneCell']) (by decide) (by unfold maxLen;omega) (by omega) (Uj bM aW.o.size) _ rfl ?_;intro gK aI V4 ho hg ha hz;have cL:=U0 (aW.o.appK ho hg ha);have dn:=U0 (bE.o.appK (n:=r.nd.keys.length+1) (cap:=aI) hg ha);revert gK aI V4 ho hg ha hz cL dn;exact zz.o):P:=h ⟨k⟩
theorem Z111(k:Q)(h:Kq Q->P:=by
 intro zz;refine Z313 ?_;intro cK nJ;have aD:WB3 w.heap.size (0:Int) (0:Int) (.slice none 0 0) (0:Int) (0:Int) (0:Int) w5.drew/\FX bK (.slice (some ⟨gk,0,none⟩) ws.length ck) (.slice (some ⟨gs,0,none⟩) ws.length cs) w5.drew:=⟨cK.gr (Gr.refl w5).drew,nJ.gr (Gr.refl w5).drew⟩
 have kj:=g5.drew;revert cK nJ aD kj;exact zz.o):P:=h ⟨k⟩
theorem Z112(k:Q)(h:Kq Q->P:=by
 intro zz;refine Reg.ty 0 ?_;refine Reg.ty 3 ?_;refine Reg.ty 7 ?_;refine Reg.tl 8 zc ?_ (hy:=by intro w ab;obtain⟨q1,q2⟩:=ab;go_simp;try with_reducible rfl);refine Reg.all (rs:=[1,4]) (by kernel_rfl) (by simp) ?_;exact zz.o):P:=h ⟨k⟩
theorem Z113(k:Q)(h:Kq Q->P:=by
 intro zz;have aw:=aL.o.alloc (.cells #[a,b] 38);have ak:=aL.o.newB #[a,b] 38;have aj:=fU.o.alloc (.cells #[a,b] 38);revert aw ak aj;exact zz.o):P:=h ⟨k⟩
theorem Z114(k:Q)(h:Kq Q->P:=by
 intro zz;refine Reg.one (i:=15) rfl (by rfl) ?_;exact zz.o):P:=h ⟨k⟩
theorem Z115(k:Q)(h:Kq Q->P:=by
 intro zz;obtain⟨⟨c0,c1,c2,c3,c4,c5,c6⟩,c7,c8,fz⟩:=h.v.cells;have hR:=h.v.R_lt;have mI:=U0 (λ W (q:Gr w W)=>h.v.look i (by omega) W (q.block h.v.B_lt.2));obtain⟨sh,sof,cD⟩:∃a b,g.srt.getD i (0,0)=(a,b):=⟨_,_,rfl⟩
 have hs:Vl g i=(sh,sof):=cD;rw[cD]at mI;revert mI;revert hs;revert cD;revert sof;revert sh;revert hR;revert fz;revert c8;revert c7;revert c6;revert c5;revert c4;revert c3;revert c2;revert c1;revert c0;exact zz.o):P:=h ⟨k⟩
theorem Z116(k:Q)(h:Kq Q->P:=by
 intro zz;rintro e w7 ⟨rfl,hc,F',ia,Az⟩;have wG:=U0 ((Az.set (b:=w.heap.size) (o:=0) (by omega) c).set (b:=w.heap.size) (o:=1) (by omega) p);clear Az;revert w7 hc F' ia wG;exact zz.o):P:=h ⟨k⟩
theorem Z117(k:Q)(h:Kq Q->P:=by
 intro zz;refine (Ogl _ R s a q out ov (RdQ.auto HS.o) aa hs ho).mono ?_;exact zz.o):P:=h ⟨k⟩
theorem Z118(k:Q)(h:Kq Q->P:=by
 intro zz;have aN:=U1q List.length aA;rw[Ug,O0]at aN;simp only[Ub,Ug]at aN;have k4:=(ze.o.use.1 _ _ bl).trans b4;have ku:=(ze.o.use.1 _ _ aY).trans Fd;have Fe:=wH.o.gr (dW.o.trans ze.o);have Fg:TxS w.heap.size W.heap.size gu m (.slice (some ⟨gn,0,none⟩) L.length L.length) root r.nd.subs.length uc r.nd.subs[m] wq:=⟨Fe,k4,ku⟩
 have Fh:=U0 aA;have Fi:=U0 Fg;revert aN;revert Fi;revert Fh;revert Fg;revert Fe;revert ku;revert k4;exact zz.o):P:=h ⟨k⟩
theorem Z119(k:Q)(h:Kq Q->P:=by
 intro zz;have HV:Hid (-9223372036854775808<=v/\v<=9223372036854775807):=⟨nG,lK⟩
 revert HV;exact zz.o):P:=h ⟨k⟩
theorem Z120(k:Q)(h:Kq Q->P:=by
 intro zz;have hF:=Hb.o.set n d';have gF:Gr w _:=((wI.o).setCell (p:=⟨w.heap.size,0,none⟩) (U2 _) n).setCell (p:=⟨w.heap.size,1,none⟩) (U2 _) d';obtain⟨WF,am⟩:=ExZ (((w2.setCell ⟨w.heap.size,0,none⟩ n).setCell ⟨w.heap.size,1,none⟩ d'))
 rw[am]at hF gF;rw[am];clear am;obtain⟨q0,q1,qf,ql⟩:=hF;revert gF;revert ql;revert qf;revert q1;revert q0;revert WF;exact zz.o):P:=h ⟨k⟩
theorem Z121(k:Q)(h:Kq Q->P:=by
 intro zz;have fJ:=aP.o.gr (((Gr.refl wr).drewN _).trans g1);obtain⟨x0,x1,x2,x3,xz⟩:=fJ.cells;have AA:=xz 1;have uu:=fJ.lt;have AB:¬R=w1.heap.size:=by omega
 have aL:=U0 fJ;revert fJ x0 x1 x2 x3 xz AA uu AB aL;exact zz.o):P:=h ⟨k⟩
theorem Z122(k:Q)(h:Kq Q->P:=by
 intro zz;have HW:=U0 hw;have oJ:=U0 jm;have HR:=U0 hr;have HY:=U0 hY;have HL:=U0 hL;have zh:=U0 uw;have zi:=U0 ux;have wJ:=U0 uy;revert HW oJ HR HY HL zh zi wJ;exact zz.o):P:=h ⟨k⟩
theorem Z123(k:Q)(h:Kq Q->P:=by
 intro zz;have fX:=eo.o.st d8 wK;have iV:=U0 (fX.set c p);have fW:=U0 (((jG.o.trans d8).setCell (p:=⟨w.heap.size,0,none⟩) (.inr (U2 _)) c).setCell (p:=⟨w.heap.size,1,none⟩) (.inr (U2 _)) p);have bV:Hid (Va.bad c p=X):=by
  have:=HX.o;rw[<-dy]at this;exact this
 have HC:=U0 hc;obtain⟨a0,a1,af,al⟩:=fX;have kL:¬(c:Int)=0:=by omega
 revert iV fW bV HC a0 a1 af al kL;exact zz.o):P:=h ⟨k⟩
theorem Z124(k:Q)(h:Kq Q->P:=by
 intro zz;have hF:=h.set c q;have iB:((w2.setCell ⟨z,0,none⟩ c).setCell ⟨z,1,none⟩ q).heap.size=w2.heap.size:=by simp[World.setCell]
 have hs:∀(F F':Nat->Prop)(w:World),St F F' w w2->w.heap.size<=z->St F F' w ((w2.setCell ⟨z,0,none⟩ c).setCell ⟨z,1,none⟩ q):=λ F F' w g l=>(g.setCell (p:=⟨z,0,none⟩) (.inr l) _).setCell (p:=⟨z,1,none⟩) (.inr l) _
 revert hF iB hs;exact zz.o):P:=h ⟨k⟩
theorem Z125(k:Q)(h:Kq Q->P:=by
 intro zz;have k2:=Oay (x := .int .i64 0) (y := .int .i64 0) e0 e1;have k3:∀o,((w1.setCell ⟨w.heap.size,0,none⟩ (0:Int)).setCell ⟨w.heap.size,1,none⟩ (0:Int)).frozen? ⟨w.heap.size,o,none⟩=w1.frozen? ⟨w.heap.size,o,none⟩:=by
  exact J20
 have g2:Gr w ((w1.setCell ⟨w.heap.size,0,none⟩ (0:Int)).setCell ⟨w.heap.size,1,none⟩ (0:Int)):=Gr.auto;revert k2 k3 g2;exact zz.o):P:=h ⟨k⟩
theorem Z126(k:Q)(h:Kq Q->P:=by
 intro zz;have bx:(0:Int)<=(a:Int)+1:=by omega
 have cb:(a:Int)+1<=(s.size:Int):=by omega
 have fw:((a:Int)+1).toNat=a+1:=by omega
 revert bx cb fw;exact zz.o):P:=h ⟨k⟩
theorem Z127(k:Q)(h:Kq Q->P:=by
 intro zz;obtain⟨f2,g3,z3⟩:=bx2 w2 (0:Int) (0:Int) 29;revert f2 g3 z3;exact zz.o):P:=h ⟨k⟩
theorem Z128(k:Q)(h:Kq Q->P:=by
 intro zz;have dL:w.heap.size<w2.heap.size:=by omega
 have di:w.heap.size+1<w2.heap.size:=by omega
 revert dL di;exact zz.o):P:=h ⟨k⟩
theorem Z129(k:Q)(h:Kq Q->P:=by
 intro zz;obtain⟨l,hL⟩:∃l,l=t.data.toList:=⟨_,rfl⟩
 have rW:l.length=t.size:=by rw[hL,Lib.size_eq]
 revert l hL rW;exact zz.o):P:=h ⟨k⟩
theorem Z130(k:Q)(h:Kq Q->P:=by
 intro zz;obtain⟨V3,hV⟩:=ExZ (V2.alloc (.cells #[a,b] 38))
 revert V3 hV;exact zz.o):P:=h ⟨k⟩
theorem Z131(k:Q)(h:Kq Q->P:=by
 intro zz;have ho:∀(g:Vb)(d i:Nat),GI g->i<g.nds.length->V2u g d i ≠ .non/\∀n d',V2u g d i = .go n d'->Tb g n/\d'<=d+2:=λ g d i h _=>O9g h d i
 obtain⟨q1,q2,_⟩:=(O6p (2,0) (.inr (.inl rfl)) V2u ho k.dropLast 0 1 g h h.root (by omega)).2 _ _ _ hw;have fY:=Oin (2,0) (.inr (.inl rfl)) V2u ho k.dropLast 0 1 g t d g1 h h.root (by omega) hp hw;revert ho q1 q2 fY;exact zz.o):P:=h ⟨k⟩
theorem Z132(k:Q)(h:Kq Q->P:=by
 intro zz;have F5:=U0 f5;have F6:=U0 f6;have bv:=U0 a9;have bG:=U0 cE;have jH:=U0 lP;obtain⟨k0,k1,kf,kl⟩:=id f6;have eI:∃wt a b,ws[la]?=some (wt,a,b):=by
  exact J63
 obtain⟨wt,a,b,eP⟩:=eI;revert F5 F6 bv bG jH k0 k1 kf kl wt a b eP;exact zz.o):P:=h ⟨k⟩
theorem Z133(k:Q)(h:Kq Q->P:=by
 intro zz;refine⟨by first|exact d7|exact λ _=>d7|exact λ _ _=>d7,?_⟩;refine Reg.pt ?_;exact zz.o):P:=h ⟨k⟩
theorem Z134(k:Q)(h:Kq Q->P:=by
 intro zz;refine (Olz E hE wr R B base s root V HV.o ib L2 ad aW.o kM.o hs T d m2 jn hd (by omega) _ hP (by simp)).mono ?_;exact zz.o):P:=h ⟨k⟩
theorem Z135(k:Q)(h:Kq Q->P:=by
 intro zz;go_simp;have aw:=aP.o.alloc (.cells #[.string key] 9);have av:=aP.o.newB #[.string key] 9;have aj:=cl.o.alloc (.cells #[.string key] 9);revert aw av aj;exact zz.o):P:=h ⟨k⟩
theorem Z136(k:Q)(h:Kq Q->P:=by
 intro zz;refine Reg.begin' (W:=λ _=>true) (S:=V9k w w.heap.size d t p z n) (by kernel_rfl) ?_;refine Reg.ty 0 ?_;refine Reg.tl 1 hS ?_ (hy:=by intro w ab;obtain⟨⟨p0,p1,p2,p3,p4,pf,hz⟩,_,_⟩:=ab;go_simp;try with_reducible rfl);refine Reg.ty 2 ?_;refine Reg.on 3 ?_;go_simp;refine (NB.o _).mono ?_;rintro e w3 ⟨rfl,g3⟩;have aD:=hS.gr g3;revert w3 g3 aD;exact zz.o):P:=h ⟨k⟩
theorem Z138(k:Q)(h:Kq Q->P:=by
 intro zz;have kN:Hid (FX w.heap.size (0:Int) (0:Int) ((w7.setCell ⟨gN,T*7+5,none⟩ (.int .i64 (n:Int))).setCell ⟨gN,T*7+5+1,none⟩ (.int .i64 ((e2:Int)+1)))):=rd.o.st dv.2 wE;obtain⟨wS,fA⟩:=ExZ ((w7.setCell ⟨gN,T*7+5,none⟩ (.int .i64 (n:Int))).setCell ⟨gN,T*7+5+1,none⟩ (.int .i64 ((e2:Int)+1)))
 revert kN wS fA;exact zz.o):P:=h ⟨k⟩
theorem Z139(k:Q)(h:Kq Q->P:=by
 intro zz;obtain⟨W7,oL⟩:=ExZ (w6.alloc (.cells #[a,b] 38))
 obtain⟨dv,g7,z7⟩:=bx2 w6 a b 38;rw[oL]at dv g7 z7;have G7:=U0 (AC.o.trans g7);revert z7;revert g7;revert dv;revert G7;revert oL;revert W7;exact zz.o):P:=h ⟨k⟩
theorem Z140(k:Q)(h:Kq Q->P:=by
 intro zz;have mF:(0:Int)<=(i:Int):=by omega
 have ei:(i:Int)<(L.length:Int):=by omega
 revert mF ei;exact zz.o):P:=h ⟨k⟩
theorem Z141(k:Q)(h:Kq Q->P:=by
 intro zz;refine Reg.ty 6 ?_;refine Reg.ty 7 ?_;refine Reg.tl 8 hS ?_ (hy:=by intro w ab;obtain⟨s1,s2,s3,s4⟩:=ab;go_simp;try with_reducible rfl);refine Reg.ty 9 ?_;refine Reg.tl 10 hS ?_ (hy:=by intro w ab;obtain⟨s1,s2,s3,s4⟩:=ab;go_simp;try with_reducible rfl);refine Reg.ty 11 ?_;refine Reg.ty 12 ?_;exact zz.o):P:=h ⟨k⟩
theorem Z142(k:Q)(h:Kq Q->P:=by
 intro zz;have hc:=hB k AD;have bW:l.drop k=l[k]'(by omega)::l.drop (k+1):=Uw (by omega);revert hc bW;exact zz.o):P:=h ⟨k⟩
theorem Z143(k:Q)(h:Kq Q->P:=by
 intro zz;refine (O1w _ R s (by rw[((Gr.refl w).alloc _).use.1 _ _ hR.2];exact c2) n n rfl).mono ?_;exact zz.o):P:=h ⟨k⟩
theorem Z144(k:Q)(h:Kq Q->P:=by
 intro zz;refine U1 (v := .tuple #[L.length,.int .i64 (n+k:Nat),f0]) (by simp[results,results42,go_sem,p0,p1,pf,pl]) rfl ?_;refine⟨by simp,NC,by simp,nv',_,own',(H3.o.setCell eG _).setCell eG _,by simp[O35,bs],?_,λ k hk=>(wn.o k hk).imp id (λ e=>Uj dh.size e)⟩;exact zz.o):P:=h ⟨k⟩
theorem Z145(k:Q)(h:Kq Q->P:=by
 intro zz;go_simp;refine (iT.o ((W.alloc (.cells #[(0:Int),(0:Int)] 29)).drew) (HG.o.trans (((Gr.refl W).alloc (.cells #[(0:Int),(0:Int)] 29)).drew))).mono ?_;exact zz.o):P:=h ⟨k⟩
theorem Z146(k:Q)(h:Kq Q->P:=by
 intro zz;go_simp;refine (iT.o ((W.alloc (.cells #[(0:Int),(0:Int)] 67)).drew) (HG.o.trans (((Gr.refl W).alloc (.cells #[(0:Int),(0:Int)] 67)).drew))).mono ?_;exact zz.o):P:=h ⟨k⟩
theorem Z147(k:Q)(h:Kq Q->P:=by
 intro zz;have aA:=V8 (bs s) (a+1) (by rw[O0];omega);rw[O0]at aA;have bx:(0:Int)<=(a:Int):=by omega
 have cb:(a:Int)<(s.size:Int):=by omega
 have uh:=U0 rc;revert aA;revert uh;revert cb;revert bx;exact zz.o):P:=h ⟨k⟩
theorem Z148(k:Q)(h:Kq Q->P:=by
 intro zz;obtain⟨W0,aM⟩:=ExZ (w1.alloc (.cells #[.string bg,bb,.string ds] 205))
 revert W0 aM;exact zz.o):P:=h ⟨k⟩
theorem Z149(k:Q)(h:Kq Q->P:=by
 intro zz;refine Reg.begin' (W:=λ i=>i != 2) (S:=FX w.heap.size c p) (by kernel_rfl) ?_;refine Reg.tl 0 lN ?_ (hy:=by intro w ab;obtain⟨q0,q1,qf,ql⟩:=ab;go_simp;try with_reducible rfl);refine Reg.ty 1 ?_;refine Reg.on 2 ?_;go_simp;rw[O5 ic.1,O5 ic.2.1];exact zz.o):P:=h ⟨k⟩
theorem Z150(k:Q)(h:Kq Q->P:=by
 intro zz;refine Reg.begin' (W:=λ i=>i != 11) (S:=Ob0 w) (by kernel_rfl) ?_;obtain⟨VV,DF⟩:=ExZ (w3.drew)
 have rX:=oC.o.gr ((Gr.refl w3).drew);rw[DF]at rX⊢;revert rX;revert DF;revert VV;exact zz.o):P:=h ⟨k⟩
theorem Z151(k:Q)(h:Kq Q->P:=by
 intro zz;have wd:IntKind.i64.wrap ((d:Int)+1)=(d:Int)+1:=Uk _ ⟨by omega,by omega⟩;revert wd;exact zz.o):P:=h ⟨k⟩
theorem Z152(k:Q)(h:Kq Q->P:=by
 intro zz;have aw:=aL.o.alloc (.cells #[n] 3);have as:=aL.o.newB #[n] 3;have aj:=fU.o.alloc (.cells #[n] 3);revert aw as aj;exact zz.o):P:=h ⟨k⟩
theorem Z153(k:Q)(h:Kq Q->P:=by
 intro zz;refine (Od9 _).mono ?_;rintro e w2 ⟨rfl,g2⟩;revert w2 g2;exact zz.o):P:=h ⟨k⟩
theorem Z154(k:Q)(h:Kq Q->P:=by
 intro zz;have rY:=U0 (λ W=>U38 (P:=prog) W 9 22 5 s (u := .string) (by kernel_rfl) (by kernel_rfl) (by kernel_rfl));have gB:=O11 w 5 s;have cF:=U0 (O56 Tb (Lib.bytesWorld w 5 s) (bO.gr gB) s hs (some ⟨w.heap.size,0,none⟩) s.size (grownCap w s.size 0 5) (λ W q=>Oa3 w s _ W q) _ hX (by simp));revert rY gB cF;exact zz.o):P:=h ⟨k⟩
theorem Z155(k:Q)(h:Kq Q->P:=by
 intro zz;refine Reg.one (i:=16) rfl (by rfl) ?_;exact zz.o):P:=h ⟨k⟩
theorem Z156(k:Q)(h:Kq Q->P:=by
 intro zz;have eN:Gr w w6:=(du.drew.trans g5).trans g6;revert eN;exact zz.o):P:=h ⟨k⟩
theorem Z157(k:Q)(h:Kq Q->P:=by
 intro zz;obtain⟨hT,g3,z3⟩:=bx2 w2 c p 29;obtain⟨W3,bQ⟩:=ExZ (w2.alloc (.cells #[c,p] 29))
 rw[bQ]at hT g3 z3;have kO:=U0 bQ;revert z3;revert g3;revert hT;revert kO;revert bQ;revert W3;exact zz.o):P:=h ⟨k⟩
theorem Z158(k:Q)(h:Kq Q->P:=by
 intro zz;have oM:Hid (Gr w w2):=by
  refine Gr.trans ?_ g2;exact ((km.o.setCell (p:=⟨R,1,none⟩) (by show w.heap.size<=R;omega) _).setCell (p:=⟨w.heap.size+1,0,none⟩) (by show w.heap.size<=w.heap.size+1;omega) _).setCell (p:=⟨w.heap.size+1,1,none⟩) (by show w.heap.size<=w.heap.size+1;omega) _
 revert oM;exact zz.o):P:=h ⟨k⟩
theorem Z159(k:Q)(h:Kq Q->P:=by
 intro zz;have jI:(((s[n].toNat:Int) != 34)=true/\((s[n].toNat:Int) != 39)=false)\/((s[n].toNat:Int) != 34)=false:=by
  rw[HQ.o];cases kP:(q.toNat==34)
  exact .inl ⟨(V1o _ 34 _ kP).2,(V1o q.toNat 39 true (by have:=KP.o;rw[kP]at this;simpa using this)).2⟩
  exact .inr (V1o _ 34 _ kP).2
 revert jI;exact zz.o):P:=h ⟨k⟩
theorem Z160(k:Q)(h:Kq Q->P:=by
 intro zz;have hF:FX w.heap.size (0:Int) (0:Int) w2:=((FX.new w (0:Int) (0:Int) 29).gr g1).gr g2;have hG:Gr w w2:=(((Gr.refl w).alloc _).trans g1).trans g2;revert hF hG;exact zz.o):P:=h ⟨k⟩
theorem Z161(k:Q)(h:Kq Q->P:=by
 intro zz;have HR:=U0 hr;have HT:=U0 a9;revert HR HT;exact zz.o):P:=h ⟨k⟩
theorem Z162(k:Q)(h:Kq Q->P:=by
 intro zz;have q1:=cX 1 (.string ⟨r.nd.text.toArray⟩) rfl;have q2:=cX 2 (.slice ka r.nd.keys.length kc) (by rw[<-rZ];rfl);have q3:=cX 3 (.slice sa r.nd.spots.length sc) (by rw[<-kQ];rfl);have q4:=cX 4 (.slice ua r.nd.subs.length uc) (by rw[<-lQ];rfl);have q5:=cX 5 r.nd.sp.1 rfl;have q6:=cX 6 r.nd.sp.2 rfl;revert q1 q2 q3 q4 q5 q6;exact zz.o):P:=h ⟨k⟩
theorem Z163(k:Q)(h:Kq Q->P:=by
 intro zz;refine Reg.begin' (W:=λ i=>i != 12) (S:=FX w.heap.size (0:Int) (0:Int)) (by kernel_rfl) ?_;exact zz.o):P:=h ⟨k⟩
theorem Z164(k:Q)(h:Kq Q->P:=by
 intro zz;obtain⟨re,g9,z9⟩:=bx2 W8 n2 d2 67;obtain⟨W9,zj⟩:=ExZ (W8.alloc (.cells #[n2,d2] 67))
 rw[zj]at re g9 z9⊢;clear zj;rw[z8]at re z9;have zk:=oO.gr g9;have zm:=oP.gr g9;have zn:=(iz.of_block (uz (w.heap.size+1+1) (by have:=HZ.o;omega)) (U39 z8.symm)).gr g9;revert z9;revert re;revert g9;revert zn;revert zm;revert zk;revert W9;exact zz.o):P:=h ⟨k⟩
theorem Z165(k:Q)(h:Kq Q->P:=by
 intro zz;obtain⟨p0,p1,p2,p3,p4,p5,p6,p7⟩:=rX.cells;have ow:=rX.lt;have Au:=O15 rX.rows.k;have lN:=O15 rX.rows.s;rw[show (acc++[(t,n,e)]).length=acc.length+1 from by simp]at Au lN;have Ar:=U0 rX;revert lN;revert Au;revert Ar;revert ow;revert p7;revert p6;revert p5;revert p4;revert p3;revert p2;revert p1;revert p0;exact zz.o):P:=h ⟨k⟩
theorem Z166(k:Q)(h:Kq Q->P:=by
 intro zz;obtain⟨W1,aQ⟩:∃W1,W1=Lib.bytesWorld w 5 t:=⟨_,rfl⟩
 revert W1 aQ;exact zz.o):P:=h ⟨k⟩
theorem Z168(k:Q)(h:Kq Q->P:=by
 intro zz;have dL:w.heap.size<w1.heap.size:=by omega
 have di:w.heap.size+1<w1.heap.size:=by omega
 revert dL di;exact zz.o):P:=h ⟨k⟩
theorem Z169(k:Q)(h:Kq Q->P:=by
 intro zz;obtain⟨V3,hV⟩:=ExZ (V2.alloc (.cells #[n] 3))
 revert V3 hV;exact zz.o):P:=h ⟨k⟩
theorem Z170(k:Q)(h:Kq Q->P:=by
 intro zz;have cG:∀k,k<w.heap.size->k≠R->own k≠3->(w1.setCell ⟨R,0,none⟩ (.slice (some ⟨g,0,none⟩) (L.length+1) cap)).heap[k]?=w.heap[k]?:=by
  intro k hk AE h3;rw[U5 _ _ _ _ (by simpa using AE),hg.block k (by omega) (λ e=>h3 (h.oN k e.symm)),g1.block hk]
 revert cG;exact zz.o):P:=h ⟨k⟩
theorem Z171(k:Q)(h:Kq Q->P:=by
 intro zz;obtain⟨⟨i0,i1,i2,i3,i4,i5,i6,i7,i8⟩,eZ,f7⟩:=O1v mJ;have br:¬I=w.heap.size:=by omega
 have jJ:¬w.heap.size=I:=by omega
 obtain⟨q0,q1,qf,ql⟩:=id hF;revert i0 i1 i2 i3 i4 i5 i6 i7 i8 eZ f7 br jJ q0 q1 qf ql;exact zz.o):P:=h ⟨k⟩
theorem Z172(k:Q)(h:Kq Q->P:=by
 intro zz;refine Reg.all (rs:=[16,22]) (by kernel_rfl) (by simp) ?_;exact zz.o):P:=h ⟨k⟩
theorem Z173(k:Q)(h:Kq Q->P:=by
 intro zz;refine U1 (v := .tuple #[x,.agg #[y,z]]) (by simp[results,results91,go_sem,q0,q1,qf,ql]) rfl ?_;exact zz.o):P:=h ⟨k⟩
theorem Z174(k:Q)(h:Kq Q->P:=by
 intro zz;refine Reg.on 19 ?_;go_simp;exact zz.o):P:=h ⟨k⟩
theorem Z175(k:Q)(h:Kq Q->P:=by
 intro zz;refine⟨by simp,.inl ⟨_,_,rfl,run_takeDeferred hK,?_⟩⟩;have sb:=cell_kept kr (grownBy_putObj' _ D (.deferred none)) (λ r e=>by cases e;exact⟨_,hK,rfl⟩);refine⟨.bool false,?_,by rw[HV.o],hB.trans (belowK_b (w:=w) (U2 _) W D _ _ (by omega) hK rfl rfl)⟩;revert sb;exact zz.o):P:=h ⟨k⟩
theorem Z176(k:Q)(h:Kq Q->P:=by
 intro zz;have HY:Hid (V45 c=true):=U0 (by rw[HX.o,Ax,AF,zC];rfl);revert HY;exact zz.o):P:=h ⟨k⟩
theorem Z177(k:Q)(h:Kq Q->P:=by
 intro zz;have e1:(d:Int)=(c.toNat:Int)-48:=by omega
 revert e1;exact zz.o):P:=h ⟨k⟩
theorem Z178(k:Q)(h:Kq Q->P:=by
 intro zz;have e1:(d:Int)=(c.toNat:Int)-55:=by omega
 revert e1;exact zz.o):P:=h ⟨k⟩
theorem Z179(k:Q)(h:Kq Q->P:=by
 intro zz;have e1:(d:Int)=(c.toNat:Int)-87:=by omega
 revert e1;exact zz.o):P:=h ⟨k⟩
theorem Z180(k:Q)(h:Kq Q->P:=by
 intro zz;refine (O20 c p (by omega) _).mono ?_;rintro e w5 ⟨rfl,g5⟩;revert w5 g5;exact zz.o):P:=h ⟨k⟩
theorem Z181(k:Q)(h:Kq Q->P:=by
 intro zz;refine (Ob7 _ (n+aq) (by omega) _).mono ?_;rintro e w2 ⟨rfl,g2⟩;obtain⟨p0,p1,pf,pl⟩:=(((FX.new w (.int .i64 0) (0:Int) 29).gr (O53 w _ m ac (aq+1))).gr ((Gr.refl _).drewN nq)).gr g2;have bC:Gr w w2:=((((Gr.refl w).alloc _).trans (O53 w _ m ac (aq+1))).drewN nq).trans g2;clear g2;revert w2 p0 p1 pf pl bC;exact zz.o):P:=h ⟨k⟩
theorem Z182(k:Q)(h:Kq Q->P:=by
 intro zz;have uA:L.size<=D.size:=by
  have h1:=V3q (bs D);rw[O0]at h1;rw[hL];show (Vm (bs D)).toArray.size<=_
  simpa using h1
 revert uA;exact zz.o):P:=h ⟨k⟩
theorem Z184(k:Q)(h:Kq Q->P:=by
 intro zz;have aw:=iy.o.alloc (.cells #[a,b] 38);have ak:=iy.o.newB #[a,b] 38;have aj:=mw.o.alloc (.cells #[a,b] 38);obtain⟨V1,hV⟩:=ExZ (V0.alloc (.cells #[a,b] 38))
 rw[hV]at aw ak aj⊢;clear hV;revert aj;revert ak;revert aw;revert V1;exact zz.o):P:=h ⟨k⟩
theorem Z185(k:Q)(h:Kq Q->P:=by
 intro zz;refine Reg.ty 5 ?_;refine Reg.tl 6 hS ?_ (hy:=by intro w ab;obtain⟨q0,q1,q2⟩:=ab;go_simp;try with_reducible rfl);refine Reg.on 7 ?_;go_simp;refine (HI.o _ (HW.o.gr hG)).mono ?_;rintro e w1 ⟨rfl,k1,DG,rfl⟩;have cm:=hS.gr (O4b _ k1 DG);have cy:=hG.trans (O4b _ k1 DG);revert k1 DG cm cy;exact zz.o):P:=h ⟨k⟩
theorem Z186(k:Q)(h:Kq Q->P:=by
 intro zz;refine Reg.one (i:=8) rfl (by rfl) ?_;go_simp;have aw:=iy.o.alloc (.cells #[.string key] 9);have av:=iy.o.newB #[.string key] 9;have aj:=mw.o.alloc (.cells #[.string key] 9);obtain⟨V1,hV⟩:=ExZ (V0.alloc (.cells #[.string key] 9))
 rw[hV]at aw av aj⊢;clear hV;revert aj;revert av;revert aw;revert V1;exact zz.o):P:=h ⟨k⟩
theorem Z187(k:Q)(h:Kq Q->P:=by
 intro zz;refine (O1n _).mono ?_;rintro e w5 ⟨rfl,g5⟩;revert w5 g5;exact zz.o):P:=h ⟨k⟩
theorem Z188(k:Q)(h:Kq Q->P:=by
 intro zz;refine Reg.on 17 ?_;go_simp;exact zz.o):P:=h ⟨k⟩
theorem Z189(k:Q)(h:Kq Q->P:=by
 intro zz;refine Reg.on 3 ?_;go_simp;exact zz.o):P:=h ⟨k⟩
theorem Z190(k:Q)(h:Kq Q->P:=by
 intro zz;refine Reg.ty 16 ?_;refine Reg.ty 17 ?_;refine Reg.on 18 ?_;go_simp;exact zz.o):P:=h ⟨k⟩
theorem Z191(k:Q)(h:Kq Q->P:=by
 intro zz;rw[<-bV.o];refine⟨by simp,by have:=lO.o;omega,by simp,AG,_,f9,(KQ.o.setCell wL _).setCell wL _,by simp[O84],?_,λ k hk=>(oQ.o k hk).imp id (λ e=>Uj (by have:=fy.o;omega) e)⟩;exact zz.o):P:=h ⟨k⟩
theorem Z192(k:Q)(h:Kq Q->P:=by
 intro zz;have nK:=(F6.o.gr G7.o).st aR (λ e=>e z6);have DH:¬FV own' (w.heap.size+1+1):=λ e=>(jH.o _ e).elim (λ h=>by have:=(H.o.v.lt _ h).2;omega) (λ h=>by have:=HZ.o;omega)
 have iz:=(HE.o.gr G7.o).st aR DH;obtain⟨k0,k1,kf,kl⟩:=id nK;have kR:b6<w8.heap.size:=nK.2.2.2;revert nK DH iz k0 k1 kf kl kR;exact zz.o):P:=h ⟨k⟩
theorem Z193(k:Q)(h:Kq Q->P:=by
 intro zz;have hS:=Fi.o.gr (Gr.refl wq).drew;refine Reg.begin' (W:=λ _=>true) (S:=TxS w.heap.size W.heap.size gu m (.slice (some ⟨gn,0,none⟩) L.length L.length) root r.nd.subs.length uc r.nd.subs[m]) (by kernel_rfl) ?_;refine Reg.ty 0 ?_;revert hS;exact zz.o):P:=h ⟨k⟩
theorem Z194(k:Q)(h:Kq Q->P:=by
 intro zz;have wj:IntKind.i64.wrap ((j:Int)+1)=(j:Int)+1:=Uk _ ⟨by omega,by omega⟩;revert wj;exact zz.o):P:=h ⟨k⟩
theorem Z195(k:Q)(h:Kq Q->P:=by
 intro zz;obtain⟨f1,g2,z2⟩:=bx2 w (.slice (some ⟨gk,0,none⟩) ws.length ck) (.slice (some ⟨gs,0,none⟩) ws.length cs) 42;obtain⟨w2,h2⟩:=ExZ (w.alloc (.cells #[.slice (some ⟨gk,0,none⟩) ws.length ck,.slice (some ⟨gs,0,none⟩) ws.length cs] 42))
 revert f1 g2 z2 w2 h2;exact zz.o):P:=h ⟨k⟩
theorem Z196(k:Q)(h:Kq Q->P:=by
 intro zz;have aA:(0:Int)<=(bg.size:Int):=by omega
 have hB:s.extract bg.size s.size=s:=by
  exact J46
 revert aA hB;exact zz.o):P:=h ⟨k⟩
theorem Z197(k:Q)(h:Kq Q->P:=by
 intro zz;refine (O9n _ R s a q out ov (RdQ.auto HS.o) aa hs ho).mono ?_;rw[<-HX.o];exact zz.o):P:=h ⟨k⟩
theorem Z198(k:Q)(h:Kq Q->P:=by
 intro zz;have eO:s.toList.isEmpty=false:=by simpa using a8
 have zo:(0:Int)<(s.size:Int):=by omega
 have fY:(1:Int)<=(s.size:Int):=by omega
 revert eO zo fY;exact zz.o):P:=h ⟨k⟩
theorem Z199(k:Q)(h:Kq Q->P:=by
 intro zz;refine Reg.ty 5 ?_;refine Reg.ty 8 ?_;refine Reg.tl 9 hS ?_ (hy:=by intro w ab;obtain⟨q0,q1,qf,ql⟩:=ab;go_simp;try with_reducible rfl);refine Reg.on 2 ?_;go_simp;refine (Oaq fc.o _).mono ?_;exact zz.o):P:=h ⟨k⟩
theorem Z200(k:Q)(h:Kq Q->P:=by
 intro zz;refine (nL.o _).mono ?_;rintro e w5 ⟨rfl,g5⟩;have ie:=(g5.block hz).trans dk;have dJ:=du.trans g5;revert w5 g5 ie dJ;exact zz.o):P:=h ⟨k⟩
theorem Z201(k:Q)(h:Kq Q->P:=by
 intro zz;refine (ig.o _).mono ?_;rintro e w6 ⟨rfl,g6⟩;have kR:=(g6.block hz).trans ie;have eN:=dJ.trans g6;revert w6 g6 kR eN;exact zz.o):P:=h ⟨k⟩
theorem Z202(k:Q)(h:Kq Q->P:=by
 intro zz;refine (wC.o _).mono ?_;rintro e w7 ⟨rfl,g7⟩;have wM:=(g7.block hz).trans kR;have nM:=eN.trans g7;revert w7 g7 wM nM;exact zz.o):P:=h ⟨k⟩
theorem Z203(k:Q)(h:Kq Q->P:=by
 intro zz;have fZ:WF (st++[V1f]):=hw.app _ ⟨λ _=>⟨rfl,rfl⟩,List.Pairwise.nil,λ x hx=>(by cases hx),λ h=>absurd rfl h⟩;revert fZ;exact zz.o):P:=h ⟨k⟩
theorem Z204(k:Q)(h:Kq Q->P:=by
 intro zz;have uA:L.size<=s.size:=by
  have h1:=V3q (bs s);rw[O0]at h1;rw[hL];show (Vm (bs s)).toArray.size<=_
  simpa using h1
 have fd:¬ 9223372036854775807<L.size:=by omega
 have mK:¬ 9223372036854775807<(0+L.size):=by omega
 revert uA fd mK;exact zz.o):P:=h ⟨k⟩
theorem Z205(k:Q)(h:Kq Q->P:=by
 intro zz;refine Reg.ty 18 ?_;refine Reg.ty 19 ?_;refine Reg.on 20 ?_;go_simp;refine Reg.ty 21 ?_;refine Reg.ty 22 ?_;refine Reg.on 23 ?_;go_simp;refine Reg.ty 24 ?_;refine Reg.ty 25 ?_;refine Reg.on 26 ?_;go_simp;exact zz.o):P:=h ⟨k⟩
theorem Z206(k:Q)(h:Kq Q->P:=by
 intro zz;have hx:=h.rows i r hr;have kp:∀ {e size n v xs t},w.ownsRow base e size v n xs->Oi own v t->t≠0->W.ownsRow base e size v n xs:=λ ho ht h0=>O1 ho λ k e=>g1.block (h.lt k (by rw[ht k e];exact h0)).2
 revert hx kp;exact zz.o):P:=h ⟨k⟩
theorem Z207(k:Q)(h:Kq Q->P:=by
 intro zz;refine Reg.one (i:=2) rfl (by rfl) ?_;go_simp;refine (O3u gK (acc.length+1) aI zd.1 zd.2 _).mono ?_;exact zz.o):P:=h ⟨k⟩
theorem Z208(k:Q)(h:Kq Q->P:=by
 intro zz;have kS:W.heap.size<=W7.heap.size:=Uj bv.o.size G7.o.size;revert kS;exact zz.o):P:=h ⟨k⟩
theorem Z209(k:Q)(h:Kq Q->P:=by
 intro zz;have aL:=U0 kT;have oy:=U0 kU;have AH:=U0 kV;have Fj:=U0 kW;revert aL oy AH Fj;exact zz.o):P:=h ⟨k⟩
theorem Z210(k:Q)(h:Kq Q->P:=by
 intro zz;refine Reg.ty 6 ?_;refine Reg.on 9 ?_;go_simp;refine⟨Ogu zc,?_⟩;exact zz.o):P:=h ⟨k⟩
theorem Z211(k:Q)(h:Kq Q->P:=by
 intro zz;have aa:∀k,own k≠0->k<W.heap.size:=λ k hk=>U4 (H.o.v.lt k hk).2 HG.o.size
 have HZ:=U0 hz;revert aa HZ;exact zz.o):P:=h ⟨k⟩
theorem Z212(k:Q)(h:Kq Q->P:=by
 intro zz;obtain⟨c0,c1,c2,aa⟩:W2.cell? ⟨w1.heap.size,0,none⟩=some (.string bg)/\W2.cell? ⟨w1.heap.size,1,none⟩=some (.int .i64 bb)/\W2.cell? ⟨w1.heap.size,2,none⟩=some (.string ds)/\w1.heap.size<W2.heap.size:=⟨k0,k1,k2,kl⟩
 revert c0 c1 c2 aa;exact zz.o):P:=h ⟨k⟩
theorem Z213(k:Q)(h:Kq Q->P:=by
 intro zz;refine (show Calls prog 24 #[.pointer (some ⟨R,0,none⟩),.int .i64 (m2:Int),.int .i64 ((d:Int)+1)] w3 _ from HV.o w3 ib L2 ad aW.o AI.o m2 (d+1) jn (by omega) _ hZ (by simp)).mono ?_;exact zz.o):P:=h ⟨k⟩
theorem Z214(k:Q)(h:Kq Q->P:=by
 intro zz;have dB:=Obm key r.nd.keys 0;rw[show Lib.idxFromS (r.nd.keys.map λ k=>(⟨k.toArray⟩:ByteArray)) key 0=Lib.idxOfS (r.nd.keys.map λ k=>(⟨k.toArray⟩:ByteArray)) key from rfl]at dB;simp only[Uu]at dB;revert dB;exact zz.o):P:=h ⟨k⟩
theorem Z215(k:Q)(h:Kq Q->P:=by
 intro zz;obtain⟨V2,hV⟩:=ExZ (V1.alloc (.cells #[a,b] 38))
 revert V2 hV;exact zz.o):P:=h ⟨k⟩
theorem Z216(k:Q)(h:Kq Q->P:=by
 intro zz;have HK:Hid (false=(r7.toList.isEmpty&&(o3.toList.isEmpty==o4.toList.isEmpty)&&(o5.toList.isEmpty==o7.toList.isEmpty))):=U0 (by rw[bR,H3.o,f2];cases o5.toList.isEmpty==o7.toList.isEmpty <;> rfl);rw[fx];revert HK;exact zz.o):P:=h ⟨k⟩
theorem Z217(k:Q)(h:Kq Q->P:=by
 intro zz;have e0:0<s.size:=by
  rcases Nat.eq_zero_or_pos s.size with h|h
  exfalso;apply h1;rw[Uz];exact U1z (by rw[O0];exact h)
  exact h
 have e1:(0:Int)<(s.size:Int):=by omega
 revert e0 e1;exact zz.o):P:=h ⟨k⟩
theorem Z218(k:Q)(h:Kq Q->P:=by
 intro zz;obtain⟨b1,b2⟩:=V1o _ 92 _ he;have hX:=V7z T (bs s) a (by rw[O0];omega);have bR:=V46 T ((bs s).drop a);obtain⟨sr,cQ⟩:∃sr,sr=V3o T ((bs s).drop a):=⟨_,rfl⟩
 rw[<-cQ]at hX bR⊢;have HO:=U0 bR;have HX:=U0 hX;revert bR;revert hX;revert HX;revert HO;revert cQ;revert sr;revert b2;revert b1;exact zz.o):P:=h ⟨k⟩
theorem Z219(k:Q)(h:Kq Q->P:=by
 intro zz;have hu:=a9.use (w.heap.size+1) (by simp) (λ hF=>by have:=HS.o.own_lt hF;omega);revert hu;exact zz.o):P:=h ⟨k⟩
theorem Z220(k:Q)(h:Kq Q->P:=by
 intro zz;refine (show Calls prog 24 #[.pointer (some ⟨R,0,none⟩),.int .i64 (e2:Int),.int .i64 ((d':Int)+1)] w6 _ from HV.o w6 nv' L' own' zp wN e2 (d'+1) AJ (by omega) _ hZ (by simp)).mono ?_;exact zz.o):P:=h ⟨k⟩
theorem Z221(k:Q)(h:Kq Q->P:=by
 intro zz;have aw:=iy.o.alloc (.cells #[n] 3);have as:=iy.o.newB #[n] 3;have aj:=mw.o.alloc (.cells #[n] 3);obtain⟨V1,hV⟩:=ExZ (V0.alloc (.cells #[n] 3))
 rw[hV]at aw as aj⊢;clear hV;revert aj;revert as;revert aw;revert V1;exact zz.o):P:=h ⟨k⟩
theorem Z222(k:Q)(h:Kq Q->P:=by
 intro zz;refine (O9 s n2 n2 rfl nN (by omega) _).mono ?_;rintro e w7 ⟨rfl,g7⟩;rw[AK.o];have kS:z0<=w7.heap.size:=Uj se g7.size;have kX:=U0 (oT.o.gr g7);have si:=U0 (kJ.o.gr g7);have ii:=U0 (ij.o.gr g7);have zq:=si.o.cells.2.2.1;revert w7 g7 kS kX si ii zq;exact zz.o):P:=h ⟨k⟩
theorem Z223(k:Q)(h:Kq Q->P:=by
 intro zz;have dM:own g=3:=h.oN g rfl;have aY:=h.lt g (by omega);have hz:=H.size;have hR:=h.R_lt;have hB:=h.B_lt;obtain⟨WF,am⟩:=ExZ (((W.setCell ⟨g,i*7+2,none⟩ kv).setCell ⟨g,i*7+3,none⟩ sv).setCell ⟨g,i*7+4,none⟩ uv)
 revert dM aY hz hR hB WF am;exact zz.o):P:=h ⟨k⟩
theorem Z224(k:Q)(h:Kq Q->P:=by
 intro zz;obtain⟨g0,g1,g2,g3,gz⟩:=d9.cells;have aP:=U0 d9;have dK:(convert 22 9 aH).run prog (w2.alloc (.cells #[(0:Int),(0:Int)] 29)).drew = .ok (V3a (out++t)) (w2.alloc (.cells #[(0:Int),(0:Int)] 29)).drew:=Oj7 ((d9.alloc _).drew).own;revert g0 g1 g2 g3 gz aP dK;exact zz.o):P:=h ⟨k⟩
theorem Z225(k:Q)(h:Kq Q->P:=by
 intro zz;obtain⟨hA,gA,zA⟩:=bx2 w2 (.slice (some ⟨gn,0,none⟩) L.length L.length) (0:Int) 26;obtain⟨W0,aM⟩:=ExZ (w2.alloc (.cells #[.slice (some ⟨gn,0,none⟩) L.length L.length,(0:Int)] 26))
 rw[aM]at hA gA zA;revert zA;revert gA;revert hA;revert aM;revert W0;exact zz.o):P:=h ⟨k⟩
theorem Z226(k:Q)(h:Kq Q->P:=by
 intro zz;go_simp;refine (O4v gS (acc.length+1) cM Dz.1 Dz.2 _).mono ?_;exact zz.o):P:=h ⟨k⟩
theorem Z227(k:Q)(h:Kq Q->P:=by
 intro zz;have SY:True:=U2d;clear SY;have aS:d=V28 c.toNat:=hd;revert aS;exact zz.o):P:=h ⟨k⟩
theorem Z228(k:Q)(h:Kq Q->P:=by
 intro zz;have bx:(0:Int)<=(n:Int):=by omega
 have cb:(n:Int)<(s.size:Int):=by omega
 revert bx cb;exact zz.o):P:=h ⟨k⟩
theorem Z229(k:Q)(h:Kq Q->P:=by
 intro zz;have lR:¬T.toList=[]:=by
  rw[Uz];intro h;have h2:=U1q List.length h;have h3:=O0 T;unfold bs at h3;rw[h3,rg]at h2;simp at h2
 have Fk:T.toList.isEmpty=false:=by simpa using lR
 revert lR Fk;exact zz.o):P:=h ⟨k⟩
theorem Z230(k:Q)(h:Kq Q->P:=by
 intro zz;refine (O1k c p kL _).mono ?_;rintro e w2 ⟨rfl,g2⟩;revert w2 g2;exact zz.o):P:=h ⟨k⟩
theorem Z231(k:Q)(h:Kq Q->P:=by
 intro zz;obtain⟨c0,c1,c2,c3,fz⟩:=h.cells;have aa:=h.lt;revert c0 c1 c2 c3 fz aa;exact zz.o):P:=h ⟨k⟩
theorem Z232(k:Q)(h:Kq Q->P:=by
 intro zz;obtain⟨sr,AL,dC⟩:=V7q _ _ _ _ _ _ dX.o a8 (by rw[U3,O0];omega);rw[U16,show n+(a-n)=a from by omega]at AL;have sj:=U0 AL;have ko:=U0 dC;clear AL dC;revert ko;revert sj;revert sr;exact zz.o):P:=h ⟨k⟩
theorem Z233(k:Q)(h:Kq Q->P:=by
 intro zz
 try dsimp only
 refine Reg.ty 18 ?_;refine Reg.ty 19 ?_;refine Reg.ty 20 ?_;refine Reg.ty 21 ?_;exact zz.o):P:=h ⟨k⟩
theorem Z234(k:Q)(h:Kq Q->P:=by
 intro zz;have h1:=H.2 j (ready_mono hj eJ);obtain⟨kY,oj,oU,bz⟩:=mem_ready.1 hj;have mL:l.getD i false=false:=by
  have h0:=(mem_ready.1 hr).1;rcases Nat.lt_or_ge i l.size with h'|h'
  simp[h']at h0⊢;exact h0
  simp[U37 h']at h0
 revert h1 kY oj oU bz mL;exact zz.o):P:=h ⟨k⟩
theorem Z235(k:Q)(h:Kq Q->P:=by
 intro zz;refine (O9n _ R s a q out ov (RdQ.auto iC.o) aa hs ho).mono ?_;exact zz.o):P:=h ⟨k⟩
theorem Z236(k:Q)(h:Kq Q->P:=by
 intro zz;refine⟨_,false,DI,L5,co,rfl,rfl,rfl,AM,Fl.o,?_,AN.o,HG.o.st uB.o (λ k hk=>(H.o.lt k hk).1),uB.o,gc.o,Fm⟩;rw[Ud (by simp)];exact zz.o):P:=h ⟨k⟩
theorem Z237(k:Q)(h:Kq Q->P:=by
 intro zz;refine⟨by first|exact bj|exact λ _=>bj|exact λ _ _=>bj,?_⟩;refine Reg.pt ?_;exact zz.o):P:=h ⟨k⟩
theorem Z238(k:Q)(h:Kq Q->P:=by
 intro zz;refine U1 (v:=fv 3 (a+2)) (by simp[results,results244,go_sem,q0,q1]) rfl ?_;rw[HX.o,HU.o,DJ.o];have a9:St (FQ R ov) (FQ R ov) w w2:=(((HG.o.trans g1)).trans g2).st;revert a9;exact zz.o):P:=h ⟨k⟩
theorem Z239(k:Q)(h:Kq Q->P:=by
 intro zz;have wm:IntKind.i64.wrap ((x.many:Int)+1)=(x.many:Int)+1:=Uk _ ⟨by omega,by omega⟩;revert wm;exact zz.o):P:=h ⟨k⟩
theorem Z240(k:Q)(h:Kq Q->P:=by
 intro zz;refine (O7p c p (by omega) _).mono ?_;rintro e w3 ⟨rfl,g3⟩;revert w3 g3;exact zz.o):P:=h ⟨k⟩
theorem Z241(k:Q)(h:Kq Q->P:=by
 intro zz;obtain⟨X,hX⟩:∃X:Pl.SR,X=V2v ((bs s).drop a):=⟨_,rfl⟩
 rw[<-hX];have HX:=U0 hX;revert X hX HX;exact zz.o):P:=h ⟨k⟩
theorem Z242(k:Q)(h:Kq Q->P:=by
 intro zz;have hd:k.dropLast.length+1=k.length:=by
  exact J89
 revert hd;exact zz.o):P:=h ⟨k⟩
theorem Z243(k:Q)(h:Kq Q->P:=by
 intro zz;have sm:=U0 (rd.o.gr g9);have oV:=U0 (nO.o.gr g9);have eQ:=U0 (mG.o.gr g9);have fc:=U0 (O1 oW.o (λ k e=>g9.block (oW.o.lt k e).2));have zr:z0<=w9.heap.size:=Uj DK.o g9.size;revert sm oV eQ fc zr;exact zz.o):P:=h ⟨k⟩
theorem Z244(k:Q)(h:Kq Q->P:=by
 intro zz;obtain⟨k2,cb⟩:∃k2,V7 s1 (a1+(k1+1))=a1+k2:=⟨V7 s1 (a1+(k1+1))-a1,by omega⟩
 revert k2 cb;exact zz.o):P:=h ⟨k⟩
theorem Z245(k:Q)(h:Kq Q->P:=by
 intro zz;simp only;obtain⟨k1,bx⟩:∃k1,V7 s1 (a1+k0)=a1+k1:=⟨V7 s1 (a1+k0)-a1,by omega⟩
 revert k1 bx;exact zz.o):P:=h ⟨k⟩
theorem Z247(k:Q)(h:Kq Q->P:=by
 intro zz;have k1:(0:Int)<=(m:Int):=by omega
 have k2:(m:Int)<(r.nd.subs.length:Int):=by omega
 have wm:IntKind.i64.wrap ((m:Int)+1)=(m:Int)+1:=Uk _ ⟨by omega,by omega⟩;revert k1 k2 wm;exact zz.o):P:=h ⟨k⟩
theorem Z248(k:Q)(h:Kq Q->P:=by
 intro zz;refine U1 (v := .tuple #[.string ⟨#[]⟩,(0:Int),fv 3 (a+p)]) (by simp[results,results40,go_sem,p0,p1,p2,p3,eI]) rfl ?_;rw[<-ko.o];exact zz.o):P:=h ⟨k⟩
theorem Z249(k:Q)(h:Kq Q->P:=by
 intro zz;have zu:IntKind.u64.wrap (IntKind.u64.wrap 18446744073709551616-1)=18446744073709551615:=by
  exact J23
 revert zu;exact zz.o):P:=h ⟨k⟩
theorem Z250(k:Q)(h:Kq Q->P:=by
 intro zz;obtain⟨V2,hV⟩:=ExZ (V1.alloc (.cells #[n] 3))
 revert V2 hV;exact zz.o):P:=h ⟨k⟩
theorem Z251(k:Q)(h:Kq Q->P:=by
 intro zz;obtain⟨V2,hV⟩:=ExZ (V1.alloc (.cells #[.string key] 9))
 revert V2 hV;exact zz.o):P:=h ⟨k⟩
theorem Z252(k:Q)(h:Kq Q->P:=by
 intro zz;obtain⟨V3,hV⟩:=ExZ (V2.alloc (.cells #[.string key] 9))
 revert V3 hV;exact zz.o):P:=h ⟨k⟩
theorem Z253(k:Q)(h:Kq Q->P:=by
 intro zz;have hm:s[V7 s e1]?=some 61/\m=V7 s e1+1:=by
  unfold isF at hi
  split at hi;rename_i hg;simp only[isF,V2x.ok.injEq]at hi;exact⟨hg,hi.symm⟩
  cases hi
 revert hm;exact zz.o):P:=h ⟨k⟩
theorem Z254(k:Q)(h:Kq Q->P:=by
 intro zz;have ca:=U0 (dV.o.appK (n:=r.nd.keys.length+1) (cap:=aI) hg ha);revert ca;exact zz.o):P:=h ⟨k⟩
theorem Z255(k:Q)(h:Kq Q->P:=by
 intro zz;have dx:=U0 (fB.o.appK (n:=r.nd.keys.length+1) (cap:=aI) hg ha);revert dx;exact zz.o):P:=h ⟨k⟩
theorem Z256(k:Q)(h:Kq Q->P:=by
 intro zz;obtain⟨q0,q1,qf,ql⟩:=DL.gr (Gr.refl WF).drew;obtain⟨y0,y1,yf,yl⟩:=gH.gr (Gr.refl WF).drew;revert q0 q1 qf ql y0 y1 yf yl;exact zz.o):P:=h ⟨k⟩
theorem Z257(k:Q)(h:Kq Q->P:=by
 intro zz;refine (O1w w7 R s zq e2 e2 rfl).mono ?_;exact zz.o):P:=h ⟨k⟩
theorem Z258(k:Q)(h:Kq Q->P:=by
 intro zz;have fH:FX (w.heap.size+1) (0:Int) (0:Int) W:=by
  rw[<-hW];have:=FX.new (w.alloc (.cells #[an,d] 67)) (0:Int) (0:Int) 67;exact J15
 revert fH;exact zz.o):P:=h ⟨k⟩
theorem Z259(k:Q)(h:Kq Q->P:=by
 intro zz;refine U1 (v:=f0) (by simp[results,results243,go_sem,r0,r1]) rfl ?_;exact zz.o):P:=h ⟨k⟩
theorem Z260(k:Q)(h:Kq Q->P:=by
 intro zz;rw[show (w2.alloc (.cells #[.slice (some ⟨gn,0,none⟩) L.length L.length,(0:Int)] 26)).alloc (.cells #[(0:Int),(0:Int)] 29)=W1 from lS.o];exact zz.o):P:=h ⟨k⟩
theorem Z261(k:Q)(h:Kq Q->P:=by
 intro zz;have wa:IntKind.i64.wrap ((a:Int)+1)=(a:Int)+1:=Uk _ ⟨by omega,by omega⟩;revert wa;exact zz.o):P:=h ⟨k⟩
theorem Z262(k:Q)(h:Kq Q->P:=by
 intro zz;have aa:a<s.size:=by
  by_cases h:a<s.size;exact h
  rw[O10 s a h]at jF;cases jF
 revert aa;exact zz.o):P:=h ⟨k⟩
theorem Z263(k:Q)(h:Kq Q->P:=by
 intro zz;have aO:=(nP.o.gr nQ.o).st aR bN;have kZ:=(iA.o.gr nQ.o).st aR (bN _ (by omega) (by omega)) (bN _ (by omega) (by omega)) AO AP;obtain⟨p0,p1,pf,pl⟩:=id aO.p;obtain⟨v0,v1,vf,vl⟩:=id aO.f;dsimp only;refine Reg.ty 15 ?_;revert aO kZ p0 p1 pf pl v0 v1 vf vl;exact zz.o):P:=h ⟨k⟩
theorem Z264(k:Q)(h:Kq Q->P:=by
 intro zz;refine Reg.ty 4 ?_;refine Reg.tl 5 eM ?_ (hy:=by intro w ab;obtain⟨AQ,AR,Sf,Sg⟩:=ab;go_simp;try with_reducible rfl);refine Reg.ty 6 ?_;exact zz.o):P:=h ⟨k⟩
theorem Z265(k:Q)(h:Kq Q->P:=by
 intro zz;refine U1 (v:=fv c' p) (by simp[results,results243,go_sem,r0,r1]) rfl ?_;rw[HX.o,HQ.o];have er:St (FQ R ov) (FQ R ov) w w1:=HG.o.st.trans bv.o;have a9:=er;revert er a9;exact zz.o):P:=h ⟨k⟩
theorem Z266(k:Q)(h:Kq Q->P:=by
 intro zz;have hF:FX w.heap.size (0:Int) (0:Int) w2:=(FX.new w (0:Int) (0:Int) 29).gr g2;have hG:Gr w w2:=((Gr.refl w).alloc _).trans g2;have mJ:=(hG.block zv).trans HI.o;revert hF hG mJ;exact zz.o):P:=h ⟨k⟩
theorem Z267(k:Q)(h:Kq Q->P:=by
 intro zz;obtain⟨d,hd⟩:∃d,d=V28 c.toNat:=⟨_,rfl⟩
 revert d hd;exact zz.o):P:=h ⟨k⟩
theorem Z268(k:Q)(h:Kq Q->P:=by
 intro zz;refine Reg.one (i:=4) rfl (by rfl) ?_;exact zz.o):P:=h ⟨k⟩
theorem Z269(k:Q)(h:Kq Q->P:=by
 intro zz;have lS:=U0 (show (w2.alloc (.cells #[.slice (some ⟨gn,0,none⟩) L.length L.length,(0:Int)] 26)).alloc (.cells #[(0:Int),(0:Int)] 29)=W1 by rw[aM,aQ]);revert lS;exact zz.o):P:=h ⟨k⟩
theorem Z270(k:Q)(h:Kq Q->P:=by
 intro zz;intro k e;simp only at e;have a1:kv.ownBlock≠some k:=λ e2=>H.ku k e2 e
 have a2:sv.ownBlock≠some k:=λ e2=>H.su k e2 e
 simp only[a1,a2,e,U1j,U1d];revert e;revert a2;revert a1;revert k;exact zz.o):P:=h ⟨k⟩
theorem Z271(k:Q)(h:Kq Q->P:=by
 intro zz;have k3:(3:Int)<=(t.size:Int):=by omega
 have k5:(5:Int)<=(t.size:Int):=by omega
 have k6:(6:Int)<=(t.size:Int):=by omega
 have iD:=U0 fH;have nL:=U0 sq;have ig:=U0 cK;revert k3 k5 k6 iD nL ig;exact zz.o):P:=h ⟨k⟩
theorem Z272(k:Q)(h:Kq Q->P:=by
 intro zz;have a0:0<=a:=by omega
 have a1:a<=18446744073709551615:=by omega
 revert a0 a1;exact zz.o):P:=h ⟨k⟩
theorem Z273(k:Q)(h:Kq Q->P:=by
 intro zz;have aN:∀k,k≠g->WF.heap[k]?=W.heap[k]?:=by
  intro k hk;subst am;rw[U5 _ _ _ _ hk,U5 _ _ _ _ hk,U5 _ _ _ _ hk]
 revert aN;exact zz.o):P:=h ⟨k⟩
theorem Z274(k:Q)(h:Kq Q->P:=by
 intro zz;have hQ:isQ c:=by
  simp only[Bool.or_eq_true,U1v]at hq;rcases hq with e|e
  left;rw[<-U1b];exact e
  right;rw[<-U1b];exact e
 revert hQ;exact zz.o):P:=h ⟨k⟩
theorem Z275(k:Q)(h:Kq Q->P:=by
 intro zz;refine U1 (v := .tuple #[.bool false,fv 3 (a+p)]) (by simp[results,results251,go_sem,aE,ah,dL,di]) rfl ⟨rfl,FQ R ov,?_⟩;exact zz.o):P:=h ⟨k⟩
theorem Z276(k:Q)(h:Kq Q->P:=by
 intro zz;have iW:own' (w.heap.size+1)=0:=Ue λ h=>(jH.o _ h).elim (λ h=>by have:=(H.o.v.lt _ h).2;omega) (λ h=>by have:=HZ.o;omega)
 revert iW;exact zz.o):P:=h ⟨k⟩
theorem Z277(k:Q)(h:Kq Q->P:=by
 intro zz;have h1:=Onh _ _ _ _ _ _ _ _ _ (λ x hx=>hw x ((List.dropLast_sublist _).subset hx)) hp hy;revert h1;exact zz.o):P:=h ⟨k⟩
theorem Z278(k:Q)(h:Kq Q->P:=by
 intro zz;refine (Olu T E hE s _ n rfl hn hs _ HW.o (by simp) _ (by first|exact rh.o.gr HK.o.below|exact rh.o.gr (HK.o.below.drewN _))).mono ?_;exact zz.o):P:=h ⟨k⟩
theorem Z279(k:Q)(h:Kq Q->P:=by
 intro zz;refine U1 (v := .tuple #[V3a (out++t),.int .i64 (a+m:Nat),f0]) (by simp[results,results40,go_sem,p0,p1,p2,p3,eI]) rfl ?_;exact zz.o):P:=h ⟨k⟩
theorem Z280(k:Q)(h:Kq Q->P:=by
 intro zz;have eK:i<st.length:=by
  unfold V12 at hs
  split at hs;cases hs
  split at hs;cases hs
  split at hs;cases hs
  split at hs
  ·cases hs;assumption
  cases hs
 revert eK;exact zz.o):P:=h ⟨k⟩
theorem Z281(k:Q)(h:Kq Q->P:=by
 intro zz;refine Reg.all (rs:=[9,15]) (by kernel_rfl) (by simp) ?_;exact zz.o):P:=h ⟨k⟩
theorem Z282(k:Q)(h:Kq Q->P:=by
 intro zz;refine Reg.all (rs:=[9,22]) (by kernel_rfl) (by simp) ?_;exact zz.o):P:=h ⟨k⟩
theorem Z283(k:Q)(h:Kq Q->P:=by
 intro zz;refine U1 (v := .tuple #[(0:Int),fv 3 (n+aq)]) (by simp[results,results122,go_sem,p0,p1,pf,pl]) rfl ⟨?_,Gr.auto⟩;exact zz.o):P:=h ⟨k⟩
theorem Z284(k:Q)(h:Kq Q->P:=by
 intro zz;refine (O6d _ R s a q out ov (RdQ.auto HS.o) aa hs).mono ?_;rw[HF.o];exact zz.o):P:=h ⟨k⟩
theorem Z285(k:Q)(h:Kq Q->P:=by
 intro zz;obtain⟨gJ,ej,fL⟩:=O60 mJ hF br (U2 _) hG.st (.slice (some ⟨gk,0,none⟩) ws.length ck) (.slice (some ⟨gs,0,none⟩) ws.length cs) (0:Int) (0:Int);revert gJ ej fL;exact zz.o):P:=h ⟨k⟩
theorem Z286(k:Q)(h:Kq Q->P:=by
 intro zz;refine (HP.o _ (HG.o.gr cy).int).mono ?_;rintro e w3 ⟨⟨kk,x,cc,rfl,jI⟩,g3⟩;revert g3;revert jI;revert cc;revert x;revert kk;revert w3;exact zz.o):P:=h ⟨k⟩
theorem Z287(k:Q)(h:Kq Q->P:=by
 intro zz;obtain⟨WF,am⟩:=ExZ (((W.setCell ⟨w.heap.size+1,0,none⟩ i).setCell ⟨w.heap.size+1,1,none⟩ (.int .i64 ((d:Int)+1))))
 revert WF am;exact zz.o):P:=h ⟨k⟩
theorem Z288(k:Q)(h:Kq Q->P:=by
 intro zz;rintro e w1 ⟨rfl,g1⟩;have bA:=(g1.block hz).trans jo;have cy:=eR.trans g1;revert w1 g1 bA cy;exact zz.o):P:=h ⟨k⟩
theorem Z289(k:Q)(h:Kq Q->P:=by
 intro zz;refine U1 (v := .tuple #[(0:Int),fv c p]) (by simp[results,results121,go_sem,q0,q1,qf,ql]) rfl ?_;rw[<-HX.o];exact zz.o):P:=h ⟨k⟩
theorem Z290(k:Q)(h:Kq Q->P:=by
 intro zz;go_simp;refine (iT.o (W.drew) (HG.o.trans ((Gr.refl W).drew))).mono ?_;exact zz.o):P:=h ⟨k⟩
theorem Z291(k:Q)(h:Kq Q->P:=by
 intro zz;have AS:(0:Int)<=(j:Int):=by omega
 revert AS;exact zz.o):P:=h ⟨k⟩
theorem Z292(k:Q)(h:Kq Q->P:=by
 intro zz;refine (KT.o _ (HW.o.gr Gr.auto)).mono ?_;rintro e w5 ⟨rfl,g5⟩;revert w5 g5;exact zz.o):P:=h ⟨k⟩
theorem Z293(k:Q)(h:Kq Q->P:=by
 intro zz;go_simp;refine Z2 ?_;refine Z12 ?_;exact zz.o):P:=h ⟨k⟩
theorem Z294(k:Q)(h:Kq Q->P:=by
 intro zz;intro V1 aw as aj;refine Z49 ?_;intro aL fU;have ss:=U0 as;clear aw as aj;have cm:=O17 aL.o fU.o HC.o;refine Z99 ?_;revert V1 aL fU ss cm;exact zz.o):P:=h ⟨k⟩
theorem Z295(k:Q)(h:Kq Q->P:=by
 intro zz;refine Z6 ?_;intro gK aI V3 ho hg ha hz aW bE;refine Z254 ?_;intro ca;clear ho hg ha hz;refine Z104 ?_;intro aD;refine Z172 ?_;refine Z14 ?_;intro j hj;revert gK aI V3 aW bE ca aD j hj;exact zz.o):P:=h ⟨k⟩
theorem Z296(k:Q)(h:Kq Q->P:=by
 intro zz;refine Z76 ?_;refine Z113 ?_;intro aw ak aj;have av:=my.o.alloc (.cells #[a,b] 38);refine Z215 ?_;intro V2 hV;rw[hV]at aw ak aj av⊢;clear hV;refine Z49 ?_;intro aP cl;have d6:=U0 av;have dV:=U0 ak;clear aw ak aj av;refine Z33 ?_;intro bj;refine Z282 ?_;refine Z14 ?_;intro j hj;revert hj;revert j;revert bj;revert dV;revert d6;revert cl;revert aP;revert V2;exact zz.o):P:=h ⟨k⟩
theorem Z297(k:Q)(h:Kq Q->P:=by
 intro zz;refine Z32 ?_;refine Reg.tl 3 hS ?_ (hy:=by intro w ab;obtain s0:=ab;go_simp;try with_reducible rfl);refine Z89 ?_;refine Reg.ty 6 ?_;refine Reg.tl 7 hS ?_ (hy:=by intro w ab;obtain s0:=ab;go_simp;try with_reducible rfl);exact zz.o):P:=h ⟨k⟩
theorem Z298(k:Q)(h:Kq Q->P:=by
 intro zz;refine Z66 ?_;refine Z152 ?_;intro aw as aj;have av:=my.o.alloc (.cells #[n] 3);refine Z250 ?_;intro V2 hV;rw[hV]at aw as aj av⊢;clear hV;refine Z49 ?_;intro aP cl;have d6:=U0 av;have fB:=U0 as;clear aw as aj av;refine Z33 ?_;intro bj;refine Z281 ?_;refine Z14 ?_;intro j hj;revert hj;revert j;revert bj;revert fB;revert d6;revert cl;revert aP;revert V2;exact zz.o):P:=h ⟨k⟩
theorem Z299(k:Q)(h:Kq Q->P:=by
 intro zz;refine Reg.sk 8 ?_;refine Reg.sk 9 ?_;refine Reg.sk 10 ?_;refine Reg.sk 11 ?_;refine Reg.sk 12 ?_;refine Reg.sk 13 ?_;exact zz.o):P:=h ⟨k⟩
theorem Z300(k:Q)(h:Kq Q->P:=by
 intro zz;refine Z6 ?_;intro gK aI V3 ho hg ha hz aW bE;refine Z255 ?_;intro dx;clear ho hg ha hz;refine Z104 ?_;intro aD;refine Reg.on 15 ?_;revert gK aI V3 aW bE dx aD;exact zz.o):P:=h ⟨k⟩
theorem Z301(k:Q)(h:Kq Q->P:=by
 intro zz;refine Z32 ?_;refine Z42 ?_;refine Reg.ty 5 ?_;refine Z46 ?_;refine Z109 ?_;refine Z27 ?_;refine Reg.on 12 ?_;go_simp;refine (KU.o _).mono ?_;refine Z27 ?_;refine Z188 ?_;refine (KV.o _).mono ?_;refine Z27 ?_;exact zz.o):P:=h ⟨k⟩
theorem Z302(k:Q)(h:Kq Q->P:=by
 intro zz;refine Z108 ?_;intro aw av aj;have ak:=sw.o.alloc (.cells #[.string key] 9);refine Z251 ?_;intro V2 hV;rw[hV]at aw av aj ak⊢;clear hV;refine Z49 ?_;intro aP cl;have dV:=U0 ak;have d6:=U0 av;clear aw av aj ak;refine Z33 ?_;intro bj;refine Z282 ?_;refine Z14 ?_;intro j hj;revert hj;revert j;revert bj;revert d6;revert dV;revert cl;revert aP;revert V2;exact zz.o):P:=h ⟨k⟩
theorem Z303(k:Q)(h:Kq Q->P:=by
 intro zz;refine Z108 ?_;intro aw av aj;have as:=ss.o.alloc (.cells #[.string key] 9);refine Z251 ?_;intro V2 hV;rw[hV]at aw av aj as⊢;clear hV;refine Z49 ?_;intro aP cl;have fB:=U0 as;have d6:=U0 av;clear aw av aj as;refine Z33 ?_;intro bj;refine Z281 ?_;refine Z14 ?_;intro j hj;revert hj;revert j;revert bj;revert d6;revert fB;revert cl;revert aP;revert V2;exact zz.o):P:=h ⟨k⟩
theorem Z304(k:Q)(h:Kq Q->P:=by
 intro zz;obtain⟨wO,wP,wQ,wR⟩:=id fK;obtain⟨rn,ro,rp,rq⟩:=iD.o.f.gr gA;refine Reg.on 23 ?_;go_simp;refine Z2 ?_;refine Reg.on 24 ?_;go_simp;refine Reg.on 25 ?_;revert wO wP wQ wR rn ro rp rq;exact zz.o):P:=h ⟨k⟩
theorem Z305(k:Q)(h:Kq Q->P:=by
 intro zz;refine Z117 ?_;rw[HC.o];refine Z85 ?_;intro w1 g1 ah ar ay;have hg:Hid (Gr w w1):=by
  exact J31
 have iC:Hid (RdQ w1 R s a q out ov):=HS.o.gr hg.o;revert w1 g1 ah ar ay hg iC;exact zz.o):P:=h ⟨k⟩
theorem Z306(k:Q)(h:Kq Q->P:=by
 intro zz;have hS:FX w.heap.size (0:Int) (0:Int) w9.drew:=sm.o.gr (Gr.refl _).drew;refine Z163 ?_;refine Z56 ?_;refine Z42 ?_;refine Z199 ?_;refine Z27 ?_;refine Reg.ty 6 ?_;refine Reg.on 7 ?_;go_simp;revert hS;exact zz.o):P:=h ⟨k⟩
theorem Z307(k:Q)(h:Kq Q->P:=by
 intro zz;refine Z188 ?_;refine Z2 ?_;refine Reg.on 18 ?_;exact zz.o):P:=h ⟨k⟩
theorem Z308(k:Q)(h:Kq Q->P:=by
 intro zz;refine Reg.tl 5 aD ?_ (hy:=by intro w ab;obtain⟨⟨q0,q1,q2⟩,ql⟩:=ab;go_simp;try with_reducible rfl);refine Reg.on 6 ?_;go_simp;refine (O92 _).mono ?_;rintro e w4 ⟨rfl,g4⟩;have ce:=aD.gr g4;revert w4 g4 ce;exact zz.o):P:=h ⟨k⟩
theorem Z309(k:Q)(h:Kq Q->P:=by
 intro zz;refine Z89 ?_;refine Reg.ty 6 ?_;exact zz.o):P:=h ⟨k⟩
theorem Z310(k:Q)(h:Kq Q->P:=by
 intro zz;refine Reg.ty 8 ?_;refine Reg.ty 9 ?_;exact zz.o):P:=h ⟨k⟩
theorem Z311(k:Q)(h:Kq Q->P:=by
 intro zz;refine Reg.begin' (W:=λ i=>i != 10) (S:=FX b5 n d) (by kernel_rfl) ?_;refine Z32 ?_;refine Z264 ?_;refine Z189 ?_;refine uC.o.mono ?_;exact zz.o):P:=h ⟨k⟩
theorem Z312(k:Q)(h:Kq Q->P:=by
 intro zz;refine (Ogj _ R s a q out ov (RdQ.auto HS.o) aa hs HM.o).mono ?_;refine Z85 ?_;exact zz.o):P:=h ⟨k⟩
theorem Z313(k:Q)(h:Kq Q->P:=by
 intro zz;have cK:WB3 w.heap.size (0:Int) (0:Int) (.slice none 0 0) (0:Int) (0:Int) (0:Int) w5:=⟨nL.o.1.gr g5,nL.o.2.gr g5,HF.o.gr g5⟩
 have nJ:=HK.o.gr g5;revert cK nJ;exact zz.o):P:=h ⟨k⟩
theorem Z314(k:Q)(h:Kq Q->P:=by
 intro zz;have bj:Op bg bb ds w1.heap.size w2.drew:=⟨⟨c0,c1,c2⟩,aa⟩
 refine Z25 ?_;intro w3 g3 aD;refine Z16 ?_;revert bj w3 g3 aD;exact zz.o):P:=h ⟨k⟩
theorem Z315(k:Q)(h:Kq Q->P:=by
 intro zz;refine Z174 ?_;refine Z2 ?_;refine Reg.on 20 ?_;exact zz.o):P:=h ⟨k⟩
theorem Z316(k:Q)(h:Kq Q->P:=by
 intro zz;refine Reg.ty 0 ?_;refine Reg.tl 1 ic ?_ (hy:=by intro w ab;obtain⟨q0,q1,qf,ql⟩:=ab;go_simp;try with_reducible rfl);refine Reg.ty 2 ?_;exact zz.o):P:=h ⟨k⟩
theorem Z317(k:Q)(h:Kq Q->P:=by
 intro zz;refine Z36 ?_;intro aw ak aj;refine Z130 ?_;intro V3 hV;rw[hV]at aw ak aj⊢;clear hV;refine Z49 ?_;intro aW bE;have ca:=U0 ak;clear aw ak aj;refine Z107 ?_;intro aD;refine Z172 ?_;refine Z14 ?_;revert aD;revert ca;revert bE;revert aW;revert V3;exact zz.o):P:=h ⟨k⟩
theorem Z318(k:Q)(h:Kq Q->P:=by
 intro zz;obtain⟨p0,p1,pf,pl⟩:=d7;have eG:¬FV own' w.heap.size:=by
  intro hf;rcases fV _ hf with e|e
  exact As.o e
  have:=hS.2.2.2;omega
 have H3:=U0 oD;have wl:=U0 kK;have wn:=U0 fV;revert p0 p1 pf pl eG H3 wl wn;exact zz.o):P:=h ⟨k⟩
theorem Z319(k:Q)(h:Kq Q->P:=by
 intro zz;refine Z56 ?_;refine Reg.tl 2 hS ?_ (hy:=by intro w ab;obtain⟨s1,s2,s3,s4⟩:=ab;go_simp;try with_reducible rfl);refine Z42 ?_;exact zz.o):P:=h ⟨k⟩
theorem Z320(k:Q)(h:Kq Q->P:=by
 intro zz;refine Z57 ?_;intro aw as aj;refine Z169 ?_;intro V3 hV;rw[hV]at aw as aj⊢;clear hV;refine Z49 ?_;intro aW bE;have dx:=U0 as;clear aw as aj;refine Z107 ?_;intro aD;refine Reg.on 15 ?_;revert aD;revert dx;revert bE;revert aW;revert V3;exact zz.o):P:=h ⟨k⟩
theorem Z321(k:Q)(h:Kq Q->P:=by
 intro zz;refine Reg.tl 0 hS ?_ (hy:=by intro w ab;obtain⟨⟨s0,s1,sf,sl⟩,⟨s2,s3,KM,KN⟩⟩:=ab;go_simp;try with_reducible rfl);exact zz.o):P:=h ⟨k⟩
theorem J1(h:P:=by
 obtain⟨es,oY,h1,F,hs,hD⟩:=h;exact⟨es,oY,hb.trans h1,F,hs,hD⟩):P:=h
theorem J2(h:P:=by
 rcases h.nodes.2 with⟨_,h0⟩|⟨g,cap,cur,hv,cR,wT,h1,h2,h3,h4⟩
 omega
 have ho:own g=3:=h.oN g (by rw[hv];rfl);refine⟨g,cap,cur,hv,cR,(h.lt g (by omega)).2,ho,λ e=>?_,λ e=>?_,wT,h3,h1,h2,h4⟩;subst e;rw[h.oR]at ho;omega
 subst e;rw[h.oB]at ho;omega):P:=h
theorem J3(h:P:=by
 exact Od dD (λ k hk=>by simp[Value.ownBlock]at hk;subst hk;exact nR) _):P:=h
theorem J4(h:P:=by
 simpa using block_setCell (i:=0) hb (.slice (some ⟨g,0,none⟩) (L.length+1) cap)):P:=h
theorem J5(h:P:=by
 rw[hg.block R (by omega) (λ e=>by have:=h.oN R e.symm;rw[h.oR]at this;omega),g1.block hR.2];exact h.blk):P:=h
theorem J6(h:P:=by
 rcases cY with ha|ha
 exact .inl (h.oN g ha)
 by_cases e:own g=0;exact .inr ⟨e,by omega⟩
 have:=(h.lt g e).2;omega):P:=h
theorem J7(h:P:=by
 refine⟨?_,?_,?_,by omega,?_,?_⟩;subst am;exact H.st.os;subst am;exact H.st.tape;subst am;exact H.st.output
 intro k hk hn;refine jp k hk (λ e=>hn ?_) (λ e=>hn ?_);subst e;unfold FV;omega
 unfold FI at e;unfold FV;omega
 intro k hk
 replace hk:(if kv.ownBlock=some k then 4+3*i else if sv.ownBlock=some k then 5+3*i else if uv.ownBlock=some k then 6+3*i else own k)≠0:=hk
 have fi:∀b,FI own i b\/w.heap.size<=b->FV own b\/w.heap.size<=b:=λ b e=>e.imp (λ e=>by unfold FI at e;unfold FV;omega) id
 exact J206):P:=h
theorem J8(h:P:=by
 intro v e size n xs _ hv k hk e2;subst e2;rcases hv k hk with h1|h1
 unfold FI at h1;omega
 omega):P:=h
theorem J9(h:P:=by
 exact⟨rfl,rfl⟩):P:=h
theorem J10(h:P:=by
 go_wp2_with fail
 go_ret
 exact J9):P:=h
theorem J11(h:P:=by
 refine Z107 ?_;intro aD;refine Reg.on 9 ?_;skip;refine Z110 ?_;intro gK aI V4 ho hg ha hz cL dn;have jB:=U0 (dx.o.appK (n:=r.nd.keys.length+1) (cap:=aI) hg ha);have jA:=U0 (ca.o.appK (n:=r.nd.keys.length+1) (cap:=aI) hg ha);exact J200):P:=h
theorem J12(h:P:=by
 refine Z107 ?_;intro aD;refine Reg.on 9 ?_;skip;refine Z110 ?_;intro gK aI V4 ho hg ha hz cL dn;have jA:=U0 (ca.o.appK (n:=r.nd.keys.length+1) (cap:=aI) hg ha);have jB:=U0 (dx.o.appK (n:=r.nd.keys.length+1) (cap:=aI) hg ha);exact J200):P:=h
theorem J13(h:P:=by
 have e1:(Vy r.nd (bs key) (a,b) n).keys.length=r.nd.keys.length+1:=by simp[Vy]
 have e2:(Vy r.nd (bs key) (a,b) n).spots.length=r.nd.spots.length+1:=by simp[Vy]
 have e3:(Vy r.nd (bs key) (a,b) n).subs.length=r.nd.subs.length+1:=by simp[Vy]
 have e4:Oh (Vy r.nd (bs key) (a,b) n).keys=Oh r.nd.keys++[.string key]:=by simp only[Vy,Oh,U20,U2i,List.map_nil,Oli]
 have e5:Oc (Vy r.nd (bs key) (a,b) n).spots=Oc r.nd.spots++[.int .i64 a,.int .i64 b]:=by simp[Vy,Oc]
 have e6:O7 (Vy r.nd (bs key) (a,b) n).subs=O7 r.nd.subs++[.int .i64 n]:=by simp[Vy,O7]
 rw[e1,e2,e3,e4,e5,e6];exact H):P:=h
theorem J14(h:P:=by
 go_wp2
 all_goals go_ret
 all_goals (refine⟨O3g ?_,rfl⟩;rw[U2f];simp[V3v,V5n];try omega)):P:=h
theorem J15(h:P:=by
 simpa using this):P:=h
theorem J16(h:P:=by
 have a9:=HT.o;exact St.auto):P:=h
theorem J17(h:P:=by
 go_wp2_with fail
 go_ret
 exact⟨rfl,Gr.auto⟩):P:=h
theorem J18(h:P:=by
 rw[U1u _ _ _ (by rw[Um _ _ _ _ (by simp),h1];rfl)]):P:=h
theorem J19(h:P:=by
 rw[Um _ _ _ _ (by simp),U1u _ _ _ (by rw[h0];rfl)]):P:=h
theorem J20(h:P:=by
 intro o;rw[World.frozen?_setCell,World.frozen?_setCell]):P:=h
theorem J21(h:P:=by
 exfalso;rw[Ud cw]at aS;omega):P:=h
theorem J22(h:P:=by
 refine⟨⟨k+1,_,_,rfl,(by first|rfl|(congr 1;omega)),(by first|rfl|(congr 1;omega)),by omega,hR⟩,by simp[intOf];omega⟩):P:=h
theorem J23(h:P:=by
 rw[IntKind.wrap_u64,IntKind.wrap_u64];decide):P:=h
theorem J24(h:P:=by
 rw[<-decide_eq_emptyBytes];exact U3a (λ h=>a8 (by rw[h];rfl))):P:=h
theorem J25(h:P:=by
 rw[Ub,Nat.pow_succ,Nat.mul_comm (16 ^ l.length) 16,<-Nat.mul_assoc];exact U3i _ (by omega)):P:=h
theorem J26(h:P:=by
 go_wp2
 go_ret
 exact J9):P:=h
theorem J27(h:P:=by
 rename_i h;simp only[U1a]at h;obtain⟨rfl,rfl,rfl,_⟩:=h;simp[Pl.pre]):P:=h
theorem J28(h:P:=by
 intro aq h1 h2;have:¬aq<s.size:=by omega
 rw[Lib.idxFuncFrom,Ud (by omega)]):P:=h
theorem J29(h:P:=by
 have:=h ⟨c.toNat,c.toNat_lt⟩;exact J15):P:=h
theorem J30(h:P:=by
 simp only[U1l]at e1;rw[e1,e2]at hb;simp only[U1a]at hb;exact hb.1):P:=h
theorem J31(h:P:=by
 have h1:Gr w ((w.alloc (.cells #[.pointer (some ⟨R,0,none⟩)] 172)).alloc (.cells #[(0:Int),(0:Int)] 29)):=Gr.auto;exact h1.trans g1):P:=h
theorem J32(h:P:=by
 have a9:=HT.o;have et:=hg.o;exact St.auto):P:=h
theorem J33(h:P:=by
 refine (O7s _ R s a q out ov (RdQ.auto iC.o) (HQ.o.es.gr Gr.auto) T (HQ.o.sh.gr Gr.auto) aa hs (by omega)).mono ?_;rw[HX.o];cases sr with
 |bad p =>
  exact J175
 |go n t over =>
  obtain rfl:=HO.o n t over rfl;rintro e w2 ⟨rfl,aH,hr,a9⟩;refine Z18 ?_;intro aE dt aJ;refine Z161 ?_;intro HR HT;have eG:¬FQ R aH (w.heap.size+1):=λ hF=>by
   rcases HT.o.own _ hF with hF|hF
   have:=HS.o.own_lt hF;omega
   simp at hF;omega
  clear hr a9;go_wp2_with fail;refine U1 (v := .tuple #[.bool false,f0]) (by simp[results,results251,go_sem,aE,ah,dL,di]) rfl ⟨rfl,aH,RdQ.auto HR.o,?_⟩;exact J32):P:=h
theorem J34(h:P:=by
 go_wp2_with (go_at_call 63;refine (O1d _ s.size rfl _).mono ?_;rintro e w3 ⟨rfl,g3⟩;obtain⟨l0,zw,iX⟩:=g3.use;have p0:w3.cell? ⟨w.heap.size,0,none⟩=some (.int .i64 0):=(l0 _ _ (by omega)).trans m0;have p1:w3.cell? ⟨w.heap.size,1,none⟩=some (.int .i64 0):=(l0 _ _ (by omega)).trans m1;have p2:w3.frozen? ⟨w.heap.size,0,none⟩=false:=(zw _ _ (by omega)).trans m2;have p3:w3.frozen? ⟨w.heap.size,1,none⟩=false:=(zw _ _ (by omega)).trans m3;clear l0 zw);refine U1 (v := .tuple #[.string ⟨#[]⟩,(0:Int),fv 3 s.size]) (by simp[results,results40,go_sem,p0,p1,p2,p3]) rfl ?_;rw[<-V86 _ _ _ _ _ _ dX.o a8 (by rw[U3,O0];omega)];refine⟨by rw[U3,O0,show n+(s.size-n)=s.size from by omega],by omega,Gr.auto⟩):P:=h
theorem J35(h:P:=by
 obtain⟨k,a,out,ov,hr,hx,KX,ND,AT,hg,hz,m0,m1,m2,m3⟩:=hrel;obtain⟨e0,e1,e2,e3,ez⟩:=hr.cells;have eu:=O91 hr;have HP:=U0 eu;have HR:=U0 hr;have dX:=U0 hx;clear hr hx d0 d1 d2 d3 dz e3 eu;by_cases aa:a<s.size
 ·obtain⟨k,rfl⟩:∃k',k=k'+1:=by
   cases k with
   |zero=>exact absurd dX.o.symm a8
   |succ k=>exact⟨k,rfl⟩
  refine Z232 ?_;intro sr sj ko;go_wp2_with fail;cases sr with
  |bad p =>
   refine (O6f true q _ _ s a out ov HR.o aa hs AT T (rh.o.gr hg) _ sj.o).mono ?_;exact J118
  |go m t over =>
   have jK:=V3c _ _ _ _ _ _ _ sj.o;rw[U3,O0]at jK;refine (O6f true q _ _ s a out ov HR.o aa hs AT T (rh.o.gr hg) _ sj.o).mono ?_;exact J105
 exact J34):P:=h
theorem J36(h:P:=by
 go_roundw
 case rel=>exact⟨1,rfl,.inr (.inl rfl),hg.alloc _⟩
 case measure=>simp[intOf]):P:=h
theorem J37(h:P:=by
 rcases Nat.lt_or_ge 2 w.heap.size with h'|h'
 exact h'
 rw[U37 h']at hp;cases hp):P:=h
theorem J38(h:P:=by
 cases h;omega):P:=h
theorem J39(h:P:=by
 go_simp;refine Z2 ?_;refine Reg.on 2 ?_;skip;go_simp;refine (O3u gK (acc.length+1) aI zd.1 zd.2 _).mono ?_;refine Z48 ?_;refine Z83 ?_;exact J195):P:=h
theorem J40(h:P:=by
 exact .inr (by omega)):P:=h
theorem J41(h:P:=by
 have:=DM.o;rw[<-bX]at this;exact this):P:=h
theorem J42(h:P:=by
 rintro (hf|hf)
 rcases dj.o _ hf with e|e
 exact bN e
 have:=fy.o;omega
 have:=(ew.o _ hf).2;have:=fy.o;omega):P:=h
theorem J43(h:P:=by
 simp only[Uv]at this;exact this):P:=h
theorem J44(h:P:=by
 go_wp2_with (refine (O1r _ _ aB _).mono ?_;rintro e w' ⟨rfl,rfl⟩)
 all_goals go_ret2
 all_goals exact⟨by rw[hR.o];rfl,rfl⟩):P:=h
theorem J45(h:P:=by
 clear aS dN e1
 go_wp2
 all_goals go_ret2
 all_goals exact⟨by rw[hR.o];rfl,rfl⟩):P:=h
theorem J46(h:P:=by
 rw[jq,show (⟨#[]⟩:ByteArray).size=0 from rfl];have h5:bs (s.extract 0 s.size)=bs s:=by rw[O3];rfl
 exact U1y (U21.1 h5)):P:=h
theorem J47(h:P:=by
 simp only[Uf,Ux]at h2;unfold V28;rw[Ua (by omega)];omega):P:=h
theorem J48(h:P:=by
 (repeat (first|refine Gr.setCell ?_ (by simp) _|refine Gr.drew ?_));exact (Gr.refl w).alloc _):P:=h
theorem J49(h:P:=by
 go_enter func127,ntmps127;go_wp2_with fail
 go_ret
 exact⟨by (rw[HX.o];try rfl),rfl⟩):P:=h
theorem J50(h:P:=by
 exact Oha HX.o _ _ _ _ _ _ _ _ HK.o rfl rfl rfl rfl rfl):P:=h
theorem J51(h:P:=by
 refine Z48 ?_;clear hV;cases V with
 |false =>
  have HV:Hid (V1y (bs s) = .bad 3 0):=U0 (by rw[HX.o,Ud (λ h=>by have h2:=h.symm.trans AU.o;cases h2)]);clear HX;go_wp2_with fail;exact U1 (v := .tuple #[.string ⟨#[]⟩,(3:Int)]) (by simp[results,results100,go_sem]) rfl ⟨O1l HV.o,Gr.auto⟩
 |true =>
  have HV:Hid (V1y (bs s)=V13 (Lib.trimPrefix (Vm (bs s)) [43])):=U0 (HX.o.trans (Ua AU.o));clear HX;go_wp2_with fail;refine (O1e s hs _ (HW.o.gr Gr.auto)).mono ?_;rintro e w8 ⟨rfl,g8⟩;obtain⟨L1,AV⟩:∃L1:ByteArray,⟨(Lib.replaceAll (bs s) [95] []).toArray⟩=L1:=⟨_,rfl⟩
  have AW:bs L1=Vm (bs s):=by rw[<-AV,O1o];rfl
  rw[AV];have HL:=U0 AW;clear AV AW;go_wp2_with fail;refine (strings_TrimPrefix L1 ⟨#[43]⟩ _).mono ?_;refine Z48 ?_;obtain⟨L2,uD⟩:∃L2:ByteArray,⟨(Lib.trimPrefix L1.data.toList (ByteArray.mk #[43]).data.toList).toArray⟩=L2:=⟨_,rfl⟩
  have wU:bs L2=Lib.trimPrefix (Vm (bs s)) [43]:=by rw[<-uD,O1o,<-HL.o]
  have Fn:L2.size<=20000000:=by
   rw[<-O0,wU];have h1:=V3q (bs s);rw[O0]at h1;unfold Lib.trimPrefix
   split;rw[U3];omega
   omega
  rw[uD];have NE:=U0 wU;clear uD wU;go_wp2_with fail;refine (Omd L2 Fn _ (HW.o.gr Gr.auto)).mono ?_;rintro e cx ⟨hp,fM⟩;rw[NE.o,<-HV.o]at hp;have HP:=U0 hp;clear hp;unfold Ol at HP;cases hX:V1y (bs s) with
  |ok x =>
   rw[hX]at HP;have he:=HP.o;subst he;clear HV;go_wp2_with fail;exact U1 (v := .tuple #[.string ⟨x.toArray⟩,(0:Int)]) (by simp[results,results100,go_sem]) rfl ⟨(by rw[hX];rfl),Gr.auto⟩
  |bad c p =>
   rw[hX]at HP;have he:=HP.o;subst he;go_wp2_with fail;exact U1 (v := .tuple #[.string ⟨#[]⟩,c]) (by simp[results,results100,go_sem]) rfl ⟨(by rw[hX];rfl),Gr.auto⟩):P:=h
theorem J52(h:P:=by
 unfold V22
 split;simp
 split;simp
 split;rw[U17];omega
 simp):P:=h
theorem J53(h:P:=by
 have:=U1q List.length hu;rw[U3]at this;simp only[Ub]at this;omega):P:=h
theorem J54(h:P:=by
 exact O7g (d:=D) (t:=⟨#[]⟩) (p:=⟨#[]⟩) (z:=⟨#[]⟩) (n:=10) rfl rfl (O3k (O88 (O4h (O4g (O4f (O3k (O4f bA _) _) _) _) _) _) _) ⟨⟨D,⟨#[]⟩,⟨#[]⟩,⟨#[]⟩,by (rw[HY.o];try rfl),by (rw[HY.o];try rfl),by (rw[HY.o];try rfl),by (rw[HY.o];try rfl),by (rw[HY.o];try rfl),Fo.o,U1p _,U1p _,U1p _⟩,by (repeat refine Gr.setCell ?_ (U2 _) _);exact cy⟩):P:=h
theorem J55(h:P:=by
 go_enter func163,ntmps163;go_wp2_with fail
 go_ret
 exact⟨by (rw[HY.o];try rfl),rfl⟩):P:=h
theorem J56(h:P:=by
 obtain⟨p0,p1,p2,p3,p4,pf,hz⟩:=Oa wM;cases v1 with
 |false =>
  have HY:Hid (V45 c=false):=U0 (by rw[HX.o,Ax,AF,zC];rfl);go_wp2_with fail
  go_ret
  exact⟨by (rw[HY.o];try rfl),nM⟩
 |true =>
  have HY:Hid (V45 c=v2):=U0 (by rw[HX.o,Ax,AF,zC];rfl);go_wp2_with fail;refine (Aw.o _).mono ?_;rintro e w8 ⟨rfl,g8⟩;have AX:=nM.trans g8;go_wp2_with fail
  go_ret
  exact⟨by (rw[HY.o];try rfl),AX⟩):P:=h
theorem J57(h:P:=by
 have hj:j<7:=by have:=(U7.1 hv).1;rw[O1b]at this;exact this
 have:=h1.cells (g:=g) rfl (i*7+j) v (by rw[O78 _ _ _ hj,hi];exact hv);rw[U3b,Uu]at this;exact (Us (w:=wr) (a:=⟨g,i*7+j,none⟩) (hb g (by omega) (by omega))).trans this):P:=h
theorem J58(h:P:=by
 rw[O3z,U5 _ _ _ _ br,U5 _ _ _ _ br];exact gL):P:=h
theorem J59(h:P:=by
 rw[O3z,U5 _ _ _ _ br,U5 _ _ _ _ br];exact gJ):P:=h
theorem J60(h:P:=by
 exact⟨none,0,by rw[e,e2]⟩):P:=h
theorem J61(h:P:=by
 rw[Ud cH]at ae;exact absurd ae.symm a8):P:=h
theorem J62(h:P:=by
 rw[Ui,U9 (by omega),<-Ui]):P:=h
theorem J63(h:P:=by
 have h1:la<ws.length:=by have:=fI.o;omega
 exact⟨ws[la].1,ws[la].2.1,ws[la].2.2,Uh h1⟩):P:=h
theorem J64(h:P:=by
 refine Z87 ?_;exact (g5.use.1 _ _ (U4 eE.o.rl dS.o.size)).trans dC):P:=h
theorem J65(h:P:=by
 refine Z293 ?_;go_wp2_with fail
 go_meet
 exact O4j ap ((((Gr.refl W).alloc (.cells #[(0:Int),(0:Int)] 29)).alloc (.cells #[(0:Int),(0:Int)] 67)).drew) (Gr.refl _) aa eE.o.rl (by omega) (by omega) (by omega) (.inl (by show _<((W.alloc _).alloc _).heap.size;rw[zb];omega)) (.inl (by show _<((W.alloc _).alloc _).heap.size;rw[zb];omega)) f5 f6):P:=h
theorem J66(h:P:=by
 refine Z293 ?_;go_wp2_with fail
 go_meet
 exact O4j ap (((Gr.refl W).alloc (.cells #[(0:Int),(0:Int)] 29)).drew) (gb) aa eE.o.rl (by omega) (by omega) (by omega) (.inr (U2 _)) (.inl (by show _<(W.alloc _).heap.size;rw[za];omega)) f5 f6):P:=h
theorem J67(h:P:=by
 refine Z293 ?_;go_wp2_with fail
 go_meet
 exact O4j ap ((((Gr.refl W).alloc (.cells #[(0:Int),(0:Int)] 67)).alloc (.cells #[(0:Int),(0:Int)] 29)).drew) (Gr.refl _) aa eE.o.rl (by omega) (by omega) (by omega) (.inl (by show _<((W.alloc _).alloc _).heap.size;rw[zb];omega)) (.inl (by show _<((W.alloc _).alloc _).heap.size;rw[zb];omega)) f5 f6):P:=h
theorem J68(h:P:=by
 refine Z293 ?_;go_wp2_with fail
 go_meet
 exact O4j ap (((Gr.refl W).alloc (.cells #[(0:Int),(0:Int)] 67)).drew) (gb) aa eE.o.rl (by omega) (by omega) (by omega) (.inl (by show _<(W.alloc _).heap.size;rw[za];omega)) (.inr (U2 _)) f5 f6):P:=h
theorem J69(h:P:=by
 refine Z293 ?_;go_wp2_with fail
 go_meet
 exact O4j ap ((Gr.refl W).drew) (g3) aa eE.o.rl (by omega) (by omega) (by omega) (.inr (by omega)) (.inr (by omega)) f5 f6):P:=h
theorem J70(h:P:=by
 refine Z87 ?_;exact gd.o.v.cells.1.2.2.1):P:=h
theorem J71(h:P:=by
 obtain⟨W,hW⟩:=ExZ (w.alloc (.cells #[(0:Int),(0:Int)] 29))
 have fL:St (λ k=>k=I) (λ k=>k=I) w W:=by rw[<-hW];exact (St.refl _ w).alloc _
 rw[hW]at Fp DN⊢;have ic:FX w.heap.size (0:Int) (0:Int) W.drew:=Fp.gr (Gr.refl _).drew;clear hW;refine Z95 ?_;obtain⟨q0,q1,qf,ql⟩:=Fp;refine Z189 ?_;refine Z12 ?_;go_wp2_with fail;refine U1 (v := .tuple #[n,f0]) (by simp[results,results91,go_sem,q0,q1,qf,ql]) rfl ?_;rw[<-HX.o];refine⟨rfl,hn,St.auto,Vn,Vn,Vn,?_,?_⟩;rw[O3z,U5 _ _ _ _ br,U5 _ _ _ _ br];exact DN
 exact⟨O14 (On _ _ _ _),O14 (On _ _ _ _),.inl ⟨rfl,rfl⟩⟩):P:=h
theorem J72(h:P:=by
 go_upto_region 3 with (go_at_call 85;refine (Oo ⟨#[35,13,10]⟩ _ true Fq.o _).mono ?_;rintro e w3 ⟨⟨i,rfl,hi⟩,rfl⟩;have ei:decide (i<0)=false:=by (simp at hi⊢;omega))
 try clear aG
 have cK:=iD.o;have aD:=cK.gr (Gr.refl w1).drew;clear p0 p1 pf pl p2 p3 fC fD p4 p5 dp da;obtain⟨⟨p0,p1,pf,pl⟩,⟨p2,p3,fC,fD⟩,⟨p4,p5,dp,da⟩⟩:=id cK;refine Reg.begin' (W:=λ _=>true) (S:=WB3 w.heap.size (0:Int) (0:Int) (.slice none 0 0) (0:Int) (0:Int) (0:Int)) (by kernel_rfl) ?_;refine Z4 ?_;go_wp2_with fail;obtain⟨⟨q0,q1,qf,ql⟩,⟨y0,y1,yf,yl⟩,⟨mz,mA,mB,mC⟩⟩:=aD;have gE:=dW.o.drew;rw[<-ae];exact U1 (v := .tuple #[.agg #[(0:Int),(0:Int)],.agg #[.slice none 0 0,(0:Int)],f0]) (by simp[results,results58,go_sem,q0,q1,qf,ql,y0,y1,yf,yl,mz,mA,mB,mC]) rfl ⟨0,_,[],w1.drew.heap.size,nv,L,own,x,rfl,rfl,rfl,H.o.gr gE,(St.refl (FV own) w).gr gE,λ k hk => .inl hk,.inl ⟨rfl,rfl⟩,rfl,gE.size,λ k hk=>Ue λ h=>by have:=(H.o.v.lt k h).2;have:=gE.size;omega⟩):P:=h
theorem J73(h:P:=by
 (intro w;go_simp;refine (Ud (by first|omega|(simp[ByteArray.size_append];omega))).trans ?_;try with_reducible rfl)):P:=h
theorem J74(h:P:=by
 exact⟨λ t e h=>by (simp only[Va.ok.injEq,U6]at h;omega),λ c p h=>by (simp at h),by simp⟩):P:=h
theorem J75(h:P:=by
 exact⟨λ e st' h=>by (simp at h),λ c' p' h=>by (cases h;exact⟨hb.2,by decide⟩)⟩):P:=h
theorem J76(h:P:=by
 exact⟨λ e' st' h=>by (simp only[Va.ok.injEq,U6]at h;omega),λ c' p' h=>by (simp at h)⟩):P:=h
theorem J77(h:P:=by
 exact⟨λ i e st' h=>by (simp at h),λ c' p' h=>by (simp at h)⟩):P:=h
theorem J78(h:P:=by
 exact⟨λ i e st' h=>by (simp at h),λ c' p' h=>by (cases h;exact⟨by omega,by decide⟩)⟩):P:=h
theorem J79(h:P:=by
 exact⟨by simp,λ l e st' h=>by simp at h⟩):P:=h
theorem J80(h:P:=by
 rw[Un,Uo,Uo]
 split
 rename_i ha
 rw[Ua ha]at h;rw[ih (by simpa using h)]
 rfl):P:=h
theorem J81(h:P:=by
 rename_i e;simp only[U1a]at e;exact absurd e.1 eS):P:=h
theorem J82(h:P:=by
 rename_i e;simp only[U1a]at e;exact absurd e.1 bD):P:=h
theorem J83(h:P:=by
 split at h;exact J81;exact J82;cases h
 split;exact J81;exact J82;exact J81
 exact h):P:=h
theorem J84(h:P:=by
 rename_i x1 x2 x3;exact absurd rfl (x3 _)):P:=h
theorem J85(h:P:=by
 simp only[Va.ok.injEq,U6]at h;omega):P:=h
theorem J86(h:P:=by
 have q:∀(f n:Nat)(out:Bs),V2m step (u++r) f n out = .ok (t,k)->n<k:=by
  intro f
  induction f with
  |zero=>intro n out h;simp[V2m]at h
  |succ f ih =>
   intro n out h;unfold V2m at h
   split at h;cases h
   split at h;cases h
   cases h
   rename_i m t' over hs
   have:=ao _ _ _ _ hs
   split at h;exact J85
   have:=ih _ _ h;omega
 exact q _ _ _ h):P:=h
theorem J87(h:P:=by
 exact⟨h1,λ t k h=>by (have:=h2 t k h;omega),λ c' p h=>by (have:=h4 c' p h;omega)⟩):P:=h
theorem J88(h:P:=by
 induction u with
 |nil=>rfl
 |cons a u ih=>rw[Un,Uo,Uo,ih]):P:=h
theorem J89(h:P:=by
 have:=U2b.2 hk;rw[U3j];omega):P:=h
theorem J90(h:P:=by
 unfold V2e at h
 split at h;cases h
 cases h
 split at h;cases h
 cases h;rfl):P:=h
theorem J91(h:P:=by
 rw[Uu]at h1;rw[h1,h2]):P:=h
theorem J92(h:P:=by
 simp only[Va.ok.injEq,U6]at h;exact h.1):P:=h
theorem J93(h:P:=by
 simp only[Va.ok.injEq,U6]at h;rw[<-h.2];exact⟨h.1,ha,by simp[h0]⟩):P:=h
theorem J94(h:P:=by
 simp only[Va.ok.injEq,U6]at h⊢;obtain⟨rfl,rfl⟩:=h;exact⟨_,⟨rfl,rfl⟩,⟨Oer _,rfl,rfl,rfl,rfl⟩,by simp⟩):P:=h
theorem J95(h:P:=by
 split at he;cases he
 cases he
 simp only[Va.ok.injEq,U6]at he;rw[<-he.2.2];exact hp):P:=h
theorem J96(h:P:=by
 refine Z100 ?_;refine Z12 ?_;have du:Gr w w4:=(dJ.drew.trans g3).trans g4;clear g3 g4 dJ c0 c1 c2 aa bj aD;obtain⟨⟨c0,c1,c2⟩,aa⟩:=ce;go_wp2_with fail;obtain⟨bH,lT,lU⟩:=HY.o (by simp);cases Y with
 |ok v =>
  obtain⟨nG,lK⟩:=lT v rfl;have HP:Hid (∀W,V3z W->Calls prog 134 #[.string T,bb,(64:Int)] W λ e w'=>e = .returned (.tuple #[v,.nilIface])/\Gr W w'):=λ W hW=>by
   obtain⟨ep,he⟩:=hW.err;exact lU W ep he
  refine Z119 ?_;intro HV;clear lU lT bH HY nG lK
  go_region_held3 (Op bg bb ds w1.heap.size) (first|exact⟨⟨c0,c1,c2⟩,aa⟩|assumption|exact Op.gr (by assumption) (by assumption)|go_keep) (first|(go_at_call 135;refine (O1e D (by omega) _ (HW.o.gr Gr.auto)).mono ?_;rw[<-HL.o];rintro e w5 ⟨rfl,g5⟩)|(go_at_call 134;refine (HP.o _ (HW.o.gr Gr.auto)).mono ?_;rintro e w6 ⟨rfl,g6⟩))
  exact J194
 |range =>
  have HP:Hid (∀W,V3z W->Calls prog 134 #[.string T,bb,(64:Int)] W λ e w'=>(∃(k:Int)(N:Nat)(ep:Addr),e = .returned (.tuple #[k,.iface 260 (.pointer (some ⟨N,0,none⟩))])/\w'.cell? ⟨N,2,none⟩=some (.iface 288 (.pointer (some ep)))/\w'.cell? ⟨1,0,none⟩=some (.iface 288 (.pointer (some ep))))/\Gr W w'):=λ W hW=>by
   obtain⟨ep,he⟩:=hW.err;refine (lU W ep he).mono ?_;rintro e w' ⟨⟨k,N,rfl,hN⟩,g⟩;exact⟨⟨k,N,ep,rfl,hN,(g.use.1 _ _ (Lib.lt_of_cell he)).trans he⟩,g⟩
  clear lU lT bH HY
  go_region_held3 (Op bg bb ds w1.heap.size) (first|exact⟨⟨c0,c1,c2⟩,aa⟩|assumption|exact Op.gr (by assumption) (by assumption)|go_keep) (first|(go_at_call 135;refine (O1e D (by omega) _ (HW.o.gr Gr.auto)).mono ?_;rw[<-HL.o];rintro e w5 ⟨rfl,g5⟩)|(go_at_call 134;refine (HP.o _ (HW.o.gr Gr.auto)).mono ?_;rintro e w6 ⟨⟨k,N,ep,rfl,hN,hE⟩,g6⟩))
  exact J196
 |_=>exact absurd rfl bH):P:=h
theorem J97(h:P:=by
 simp only at dy;refine Z134 ?_;rintro e w5 ⟨rfl,nN,DI,L5,co,uo,rfl,d8,ex⟩;have wK:¬FV ad w.heap.size:=λ hf=>by
  rcases jL.o _ hf with e|e
  exact bN e
  have:=fy.o;omega
 have gc:Hid (∀k,co k≠0->own k≠0\/z0<=k):=λ k hk=>by
  rcases ex k hk with e|e
  exact jL.o k e
  exact .inr (Uj AY.o e)
 have uq:¬FV co w.heap.size:=λ hf=>by
  rcases gc.o _ hf with e|e
  exact bN e
  have:=fy.o;omega
 have fX:=eo.o.st d8 wK;have iV:=U0 (fX.set (0:Int) (0:Int));refine Z75 ?_;intro ix fW;have uE:z0<=w5.heap.size:=Uj AY.o d8.size;obtain⟨a0,a1,af,al⟩:=fX;obtain⟨e2,mM⟩:=ExZ (V7 (bs s) n2)
 have AJ:e2<=s.size:=by have:=V8 (bs s) n2 (by rw[O0];omega);rw[O0]at this;omega
 rw[mM]at dy;have Fs:=U0 dy;have AK:=U0 mM;clear dy d8 hP uo ex mM AZ Ft aW eo kM jG jL;go_wp2_with fail;refine Z153 ?_;intro w6 g6;have se:z0<=w6.heap.size:=by have:=g6.size;simp[World.setCell]at this;omega
 have oT:=U0 (iV.o.gr g6);have kJ:=U0 (ix.o.gr g6);have ij:=U0 (fW.o.gr g6);have gM:=kJ.o.cells.2.2.1;clear g6 a0 a1 af al iV ix fW;go_wp2_with fail;refine Z222 ?_;intro w7 g7 kS kX si ii zq;clear g7 gM oT kJ ij;go_wp2_with fail;refine Z257 ?_;refine Z48 ?_;have dy:=Fs.o;by_cases hb:V9 (bs s) e2=125
 ·rw[Ua hb]at dy;have bA:(((V9 (bs s) e2:Nat):Int)==125)=true:=by simp;omega
  have lO:Hid (e2<s.size):=U2a λ aK=>by rw[O10 s e2 (by omega)]at hb;omega
  have ae:=HX.o;rw[<-dy]at ae;simp only at ae;cases be:Pl.kind8 (L5.map (·.nd)) T with
  |false=>rw[be,Ud (by simp)]at ae;exact absurd ae.symm HN.o
  |true =>
  rw[be,Ua rfl]at ae;have bV:=U0 ae;have um:=U0 be;have nO:=si;have rd:=kX;have mG:=ii;have dj:=gc;clear ae be dy hb zq;have jp:IntKind.i64.wrap ((e2:Int)+1)=(e2:Int)+1:=Uk _ ⟨by have:=lO.o;omega,by have:=lO.o;omega⟩;obtain⟨rT,sx⟩:∃r,(L5)[T]?=some r:=by
   have hk:=um.o;unfold Pl.kind8 at hk;rw[Uf,Uq]at hk
   replace hk:=hk.2
   cases hl:(L5)[T]? with
   |none=>rw[hl]at hk;cases hk
   |some x=>exact⟨x,rfl⟩
  have ut:T<(L5).length:=(U7.1 sx).1;obtain⟨gN,gZ,Fu,l8,Fv,Fw,Fx,Fy,Fz,oZ,wV,FA,FB,wW⟩:=nO.o.form (by omega);have cX:=nO.o.cells;rw[l8]at cX;obtain⟨a0,a1,a2,a3,af⟩:=cX;have wX:∀o,w7.frozen? ⟨gN,o,none⟩=false:=λ o=>unfrozen_of_block oZ o
  have mF:(0:Int)<=(T:Int):=by omega
  have ei:(T:Int)<((L5).length:Int):=by omega
  have oH:Hid (RdV w7 R B base s root (.slice (some ⟨gN,0,none⟩) (L5).length gZ) L5 co):=by rw[<-l8];exact nO.o
  obtain⟨p0,p1,pf,pl⟩:=rd.o;obtain⟨_,_,_,_,_,n5,n6,_⟩:=oH.o.ndCells rfl T rT sx;have FC:w7.cell? ⟨gN,T*7+5+1,none⟩=some (.int .i64 rT.nd.sp.2):=n6;clear n6;have NF:w.heap.size≠gN:=λ e=>by
   have:own gN≠0\/z0<=gN:=dj.o gN (by omega);rcases this with e2|e2
   exact bN (by unfold FV;rw[e];exact e2)
   have:=fy.o;omega
  have Ay:=U0 sx;clear sx oZ wW wV l8;go_wp2_with fail;refine Z103 ?_;intro dv i9 cO;have wE:¬FV co w.heap.size:=λ hf=>by
   rcases dj.o _ hf with e|e
   exact bN e
   have:=fy.o;omega
  refine Z138 ?_;intro kN wS fA;rw[fA]at i9 cO kN⊢;clear fA dv p0 p1 pf pl n5 FC wX a0 a1 a2 a3 af;obtain⟨p0,p1,pf,pl⟩:=kN.o
  go_region
  all_goals go_wp2_with fail
  refine Z105 ?_;rfl
 rw[Ud hb]at dy;have bA:(((V9 (bs s) e2:Nat):Int)==125)=false:=by simp;omega
 obtain⟨q0,q1,qf,ql⟩:=kX.o;by_cases dk:V9 (bs s) e2=44
 ·rw[Ua dk]at dy;have aA:(((V9 (bs s) e2:Nat):Int) != 44)=false:=by simp;omega
  have NG:e2<s.size:=U2a λ aK=>by rw[O10 s e2 (by omega)]at dk;omega
  have Sh:IntKind.i64.wrap ((e2:Int)+1)=(e2:Int)+1:=Uk _ ⟨by omega,by omega⟩;have FD:=U0 dy;clear dy hb dk;go_wp2_with fail;refine Z257 ?_;refine Z48 ?_;go_wp2_with fail;refine (O9 s _ (e2+1) (by simp) (by omega) (by omega) _).mono ?_;rintro e cx ⟨rfl,fM⟩;have AM:V7 (bs s) (e2+1)<=s.size:=by have:=V8 (bs s) (e2+1) (by rw[O0];omega);rw[O0]at this;omega
  have iE:=ii.o.gr fM;have uB:=U0 iE;have AN:=U0 (kX.o.gr fM);have Fl:=U0 (si.o.gr fM);have Fm:z0<=cx.heap.size:=Uj kS fM.size;clear iE fM zq q0 q1 qf ql kX si ii;go_wp2_with fail
  go_roundg gk
  case measure=>omega
  case rel =>
   refine Z236 ?_;exact FD.o
 rw[Ud dk]at dy;have aA:(((V9 (bs s) e2:Nat):Int) != 44)=true:=by simp;omega
 have bV:Hid (Va.bad 3 e2=X):=by
  have:=HX.o;rw[<-dy]at this;exact this
 clear dy hb dk;go_wp2_with fail;refine Z257 ?_;refine Z48 ?_;go_wp2_with fail;refine (O3h e2 e2 rfl _).mono ?_;rintro e cx ⟨rfl,fM⟩;obtain⟨u0,u1,uf,ul⟩:=kX.o.gr fM;have iE:=ii.o.gr fM;clear q0 q1 qf ql zq;go_wp2_with fail;rw[<-bV.o];exact U1 (v := .tuple #[(0:Int),(0:Int),fv 3 e2]) (by simp[results,results46,go_sem,u0,u1,uf,ul]) rfl ⟨rfl,by omega,_,(iE.setCell (.inr (U2 _)) _).setCell (.inr (U2 _)) _,((si.o.rk.gr fM).set (by omega) _).set (by omega) _⟩):P:=h
theorem J98(h:P:=by
 refine Z1 ?_;intro gU oo V6 kJ vR kh vS vT vU Aq;go_wp2_with fail
 go_end0
 exact⟨rfl,mN.o V6 (.slice (some ⟨gK,0,none⟩) (r.nd.keys.length+1) aI) (.slice (some ⟨gS,0,none⟩) (r.nd.spots.length+1) cM) (.slice (some ⟨gU,0,none⟩) (r.nd.subs.length+1) oo) kJ.o⟩):P:=h
theorem J99(h:P:=by
 refine Z17 ?_;intro gS cM V4 cL mu vV ce vW vX vY vZ;refine Z2 ?_;refine Reg.ty 15 ?_;refine Reg.on 16 ?_;go_simp;refine Z2 ?_;refine Reg.ty 17 ?_;refine Z12 ?_;refine Z92 ?_;intro wD VE DE oG;clear wD vW vX vY vZ;rw[DE]at oG⊢;clear DE;have HK:=U0 oG;clear oG;go_wp2_with fail;refine Z58 ?_;intro w3 g3 p0 p1 p2 p3 p4 p5 p6 p7 uk oC a HA yZ rc;by_cases jF:V9 (bs s) a=46
 ·rw[Ua jF]at rc;refine Z262 ?_;intro aa;rw[byteAt_lt s a aa]at jF;have zx:((a:Int)==(s.size:Int))=false:=by simp;omega
  have DO:((s[a].toNat:Int) != 46)=false:=by simp;omega
  refine Z147 ?_;intro bx cb uh aA;clear rc jF;go_wp2_with (go_at_call 20;refine (O9 s _ (a+1) (by omega) (by omega) (by omega) _).mono ?_;rintro e5 w5 ⟨rfl,g5⟩)
  go_roundw
  case rel =>
   have aO:V7 (bs s) (a+1)<=s.size:=aA.2
   first
    |exact⟨V7 (bs s) (a+1),ik,e,_,_,_,rfl,rfl,aO,uh.o,oC.o.gr g5,by simp;omega⟩
    |((repeat apply Exists.intro);exact⟨⟨V7 (bs s) (a+1),ik,e,_,_,_,rfl,rfl,aO,uh.o,oC.o.gr g5,by simp;omega⟩,rfl⟩)
  case measure =>
   have aO:a+1<=V7 (bs s) (a+1):=aA.1;simp[intOf];omega
 rw[Ud jF]at rc;refine Z69 ?_;intro oF uh bx;clear rc jF;obtain⟨kq,Si⟩:∃kq,kq=1:=⟨_,rfl⟩
 rcases oF with zx|⟨aa,zx,DO⟩
 all_goals
  go_wp2_with fail;refine Z150 ?_;intro VV DF rX;clear DF p0 p1 p2 p3 p4 p5 p6 p7;refine Z165 ?_;intro p0 p1 p2 p3 p4 p5 p6 p7 ow Ar Au lN;clear rX;refine Z70 ?_;intro zc zd Dz;clear Au lN;refine Z112 ?_;refine Z14 ?_;intro j hj;rcases hj with rfl|rfl
  ·refine Reg.one (i:=1) rfl (by rfl) ?_;go_simp;refine Z2 ?_;refine Reg.all (rs:=[2,4]) (by kernel_rfl) (by simp) ?_;refine Z14 ?_;intro j hj;rcases hj with rfl|rfl
   ·refine Z207 ?_;refine Z48 ?_;refine Z83 ?_;refine Reg.on 4 ?_;skip;go_simp;refine Z2 ?_;exact J195
   refine Z268 ?_;exact J39
  refine Z268 ?_;go_simp;refine Z2 ?_;refine Reg.on 1 ?_;skip;exact J39):P:=h
theorem J100(h:P:=by
 rintro e w1 ap;cases X with
 |non=>exact absurd rfl HN.o
 |bad c p =>
  obtain⟨rfl,hc,F',a9,jM⟩:=ap;have rt:=U0 jM;clear jM;refine Z23 ?_;intro a0 a1 af al fT;have HC:=U0 hc;clear a9 hc;go_wp2_with fail;exact U1 (v := .tuple #[(0:Int),(0:Int),fv c p]) (by simp[results,results24,go_sem,a0,a1,af,al]) rfl ⟨rfl,HC.o,F',(fT.o.setCell (.inr (U2 _)) _).setCell (.inr (U2 _)) _,(rt.o.set (by omega) _).set (by omega) _⟩
 |ok r =>
  obtain⟨iv,m,st'⟩:=r;obtain⟨rfl,hm,hi,nv',L',own',eH,KO,a9,bB⟩:=ap;refine Z23 ?_;intro a0 a1 af al fT;refine Z81 ?_;intro aw cn Fb;have zy:¬FV own' w.heap.size:=λ hf=>by
   rcases cn.o _ hf with e|e
   exact bN e
   omega
  clear a9 eH bB KO;go_wp2_with fail;exact U1 (v := .tuple #[iv,m,f0]) (by simp[results,results24,go_sem,a0,a1,af,al]) rfl ⟨rfl,hm,hi,nv',L',own',(aw.o.setCell zy _).setCell zy _,Fb.o,(fT.o.setCell (.inr (U2 _)) _).setCell (.inr (U2 _)) _,λ k hk=>(cn.o k hk).imp id (λ e=>by omega)⟩):P:=h
theorem J101(h:P:=by
 obtain⟨p0,p1,p2,p3,p4,pf,hz⟩:=Oa dk;cases b1 with
 |false =>
  refine Z90 ?_;intro HY;go_wp2_with fail
  go_ret
  exact⟨by (rw[HY.o];try rfl),du⟩
 |true =>
  go_wp2_with fail;refine Z200 ?_;intro w5 g5 ie dJ;clear g5 dk du p0 p1 p2 p3 p4 pf hz;obtain⟨p0,p1,p2,p3,p4,pf,hz⟩:=Oa ie;cases b2 with
  |false =>
   refine Z90 ?_;intro HY;go_wp2_with fail
   go_ret
   exact⟨by (rw[HY.o];try rfl),dJ⟩
  |true =>
   go_wp2_with fail;refine Z201 ?_;intro w6 g6 kR eN;clear g6 ie dJ p0 p1 p2 p3 p4 pf hz;obtain⟨p0,p1,p2,p3,p4,pf,hz⟩:=Oa kR;cases b3 with
   |false =>
    refine Z90 ?_;intro HY;go_wp2_with fail
    go_ret
    exact⟨by (rw[HY.o];try rfl),eN⟩
   |true =>
    have AF:B=true:=tB;rcases HC.o with⟨z1,zC⟩|⟨z1,z2,v1,v2,zC,zf,zg⟩
    ·refine Z176 ?_;intro HY;go_wp2_with fail
     go_ret
     exact⟨by (rw[HY.o];try rfl),eN⟩
    refine Z88 ?_;intro k1 k4 wC Aw;clear zf zg;go_wp2_with fail;refine Z202 ?_;intro w7 g7 wM nM;clear g7 kR eN p0 p1 p2 p3 p4 pf hz;exact J56):P:=h
theorem J102(h:P:=by
 refine Z100 ?_;refine Z12 ?_;have du:Gr w w4:=(bC.drew.trans g3).trans g4;clear g3 g4 bC c0 c1 c2 aa bj aD;obtain⟨⟨c0,c1,c2⟩,aa⟩:=ce;go_wp2_with fail;obtain⟨bH,lT,lU⟩:=HY.o (by simp);cases Y with
 |ok v =>
  obtain⟨nG,lK⟩:=lT v rfl;have HP:Hid (∀W,V3z W->Calls prog 134 #[.string T,bb,(64:Int)] W λ e w'=>e = .returned (.tuple #[v,.nilIface])/\Gr W w'):=λ W hW=>by
   obtain⟨ep,he⟩:=hW.err;exact lU W ep he
  refine Z119 ?_;intro HV;clear lU lT bH HY nG lK
  go_region_held3 (Op bg bb ds w1.heap.size) (first|exact⟨⟨c0,c1,c2⟩,aa⟩|assumption|exact Op.gr (by assumption) (by assumption)|go_keep) (first|(go_at_call 135;refine (O1e s (by omega) _ (HW.o.gr Gr.auto)).mono ?_;rw[<-HL.o];rintro e w5 ⟨rfl,g5⟩)|(go_at_call 134;refine (HP.o _ (HW.o.gr Gr.auto)).mono ?_;rintro e w6 ⟨rfl,g6⟩))
  exact J194
 |range =>
  have HP:Hid (∀W,V3z W->Calls prog 134 #[.string T,bb,(64:Int)] W λ e w'=>(∃(k:Int)(N:Nat)(ep:Addr),e = .returned (.tuple #[k,.iface 260 (.pointer (some ⟨N,0,none⟩))])/\w'.cell? ⟨N,2,none⟩=some (.iface 288 (.pointer (some ep)))/\w'.cell? ⟨1,0,none⟩=some (.iface 288 (.pointer (some ep))))/\Gr W w'):=λ W hW=>by
   obtain⟨ep,he⟩:=hW.err;refine (lU W ep he).mono ?_;rintro e w' ⟨⟨k,N,rfl,hN⟩,g⟩;exact⟨⟨k,N,ep,rfl,hN,(g.use.1 _ _ (Lib.lt_of_cell he)).trans he⟩,g⟩
  clear lU lT bH HY
  go_region_held3 (Op bg bb ds w1.heap.size) (first|exact⟨⟨c0,c1,c2⟩,aa⟩|assumption|exact Op.gr (by assumption) (by assumption)|go_keep) (first|(go_at_call 135;refine (O1e s (by omega) _ (HW.o.gr Gr.auto)).mono ?_;rw[<-HL.o];rintro e w5 ⟨rfl,g5⟩)|(go_at_call 134;refine (HP.o _ (HW.o.gr Gr.auto)).mono ?_;rintro e w6 ⟨⟨k,N,ep,rfl,hN,hE⟩,g6⟩))
  exact J196
 |_=>exact absurd rfl bH):P:=h
theorem J103(h:P:=by
 have hR:=SY dN;clear SY RG NX;unfold V28 at hd;by_cases bS:48<=c.toNat/\c.toNat<=57
 ·obtain⟨h1,h2⟩:=bS;rw[Ua ⟨h1,h2⟩]at hd
  first
  |(exfalso;omega)
  | (subst hd
     go_wp2
     go_ret2
     exact⟨by rw[hR.o];rfl,rfl⟩)
 rw[Ud bS]at hd;by_cases aZ:97<=c.toNat/\c.toNat<=122;have aB:=O25 c aZ;rw[Ua aZ]at hd;obtain⟨h1,h2⟩:=aZ;clear bS;exact J208
 rw[Ud aZ]at hd;by_cases cw:65<=c.toNat/\c.toNat<=90;have aB:=O24 c cw;rw[Ua cw]at hd;obtain⟨h1,h2⟩:=cw;clear bS aZ;exact J208
 clear hd;by_cases DP:c.toNat=95
 ·rw[DP]at hc;clear bS aZ cw;go_wp2_with (refine (O1r 95 127 (by decide +kernel) _).mono ?_;rintro e w' ⟨rfl,rfl⟩)
  go_ret2
  exact⟨by rw[hR.o];rfl,rfl⟩
 exact J199):P:=h
theorem J104(h:P:=by
 refine Reg.all (rs:=[11,15,16]) (by kernel_rfl) (by simp) ?_;refine Z14 ?_;intro j hj;rcases hj with rfl|rfl|rfl
 skip;refine Reg.one (i:=11) rfl (by rfl) ?_;refine Z290 ?_;rintro e w2 ap;obtain⟨n,d,c,q,rfl,ad,a9⟩:=ap.open bH;dsimp only;refine Z47 ?_;refine Reg.all (rs:=[15,16]) (by kernel_rfl) (by simp) ?_;refine Z14 ?_;intro j hj;rcases hj with rfl|rfl
 skip;refine Z114 ?_;refine Z7 ?_;refine Reg.on 16 ?_;refine Z7 ?_;refine Z39 ?_;intro hv fa ga W3 g3 r0 r1 rf rl k0 k1 kf kl f5 f6 gb;refine Z307 ?_;exact J69
 skip;refine Z155 ?_;refine Z7 ?_;refine Reg.on 15 ?_;refine Z7 ?_;refine Z38 ?_;intro hv fa ga W3 g3 r0 r1 rf rl k0 k1 kf kl f5 f6 gb;refine Z307 ?_;exact J69
 skip;refine Z114 ?_;refine Z73 ?_;refine Reg.all (rs:=[11,16]) (by kernel_rfl) (by simp) ?_;refine Z14 ?_;intro j hj;rcases hj with rfl|rfl
 skip;refine Reg.one (i:=11) rfl (by rfl) ?_;refine Z146 ?_;rintro e w2 ap;obtain⟨n,d,c,q,rfl,ad,a9⟩:=ap.open bH;dsimp only;refine Z47 ?_;refine Reg.on 16 ?_;refine Z7 ?_;refine Z31 ?_;intro hv fa ga za ox r9 W3 r0 r1 rf rl k0 k1 kf kl f5 f6 gb;refine Z307 ?_;exact J68
 skip;refine Z155 ?_;refine Z54 ?_;refine Reg.on 11 ?_;refine Z94 ?_;rintro e w2 ap;obtain⟨n,d,c,q,rfl,ad,a9⟩:=ap.open bH;dsimp only;refine Z47 ?_;refine Z29 ?_;intro hv fa ga za gb f5 f6 r0 r1 rf rl k0 k1 kf kl fb zb;refine Z307 ?_;exact J67
 skip;refine Z155 ?_;refine Z72 ?_;refine Reg.all (rs:=[11,15]) (by kernel_rfl) (by simp) ?_;refine Z14 ?_;intro j hj;rcases hj with rfl|rfl
 skip;refine Reg.one (i:=11) rfl (by rfl) ?_;refine Z145 ?_;rintro e w2 ap;obtain⟨n,d,c,q,rfl,ad,a9⟩:=ap.open bH;dsimp only;refine Z47 ?_;refine Reg.on 15 ?_;refine Z7 ?_;refine Z30 ?_;intro hv fa ga za ox r9 W3 r0 r1 rf rl k0 k1 kf kl f5 f6 gb;refine Z307 ?_;exact J66
 skip;refine Z114 ?_;refine Z53 ?_;refine Reg.on 11 ?_;refine Z93 ?_;rintro e w2 ap;obtain⟨n,d,c,q,rfl,ad,a9⟩:=ap.open bH;dsimp only;refine Z47 ?_;refine Z28 ?_;intro hv fa ga za gb f6 f5 r0 r1 rf rl k0 k1 kf kl fb zb;refine Z307 ?_;exact J65):P:=h
theorem J105(h:P:=by
 rintro e w2 ⟨rfl,aH,d9,a9⟩;refine Z106 ?_;intro hu aJ cP;have p0:w2.cell? ⟨w.heap.size,0,none⟩=some (.int .i64 0):=(hu.1 0).trans m0;have p1:w2.cell? ⟨w.heap.size,1,none⟩=some (.int .i64 0):=(hu.1 1).trans m1;have p2:w2.frozen? ⟨w.heap.size,0,none⟩=false:=(hu.2 0).trans m2;have p3:w2.frozen? ⟨w.heap.size,1,none⟩=false:=(hu.2 1).trans m3;refine Z128 ?_;intro eI NH;have sy:∀k,FQ (w.heap.size+1) aH k->w.heap.size+1<=k:=λ k hF=>by
  rcases a9.own k hF with hF|hF
  exact (HR.o.own_lt hF).1
  omega
 refine Z224 ?_;intro g0 g1 g2 g3 gz aP dK;clear a9 hu aJ m0 m1 m2 m3 d9 e0 e1 e2 ez;cases over with
 |false =>
  go_wp2_with fail
  go_roundw
  case rel =>
   refine⟨k,a+m,out++t,aH,aP.o.alloc _,?_,by omega,by omega,by simp;omega,cP.alloc _,by simp;omega,?_,?_,?_,?_⟩
   ·have:=ko.o;simp only[U11,U1d]at this;rw[show a+m-n=a-n+m from by omega];exact this
   all_goals (simp[go_sem,eI];try assumption)
  case measure =>
   rw[O91 (aP.o.alloc _),HP.o];omega
 |true =>
  go_wp2_with fail
  go_region
  all_goals go_wp2_with fail
  all_goals
   refine Z279 ?_;have:=ko.o;simp only[U1j]at this;rw[<-this];refine⟨by rw[show n+(a-n+m)=a+m from by omega],by omega,by omega,Gr.auto⟩):P:=h
theorem J106(h:P:=by
 go_wp2_with (refine (O1r _ _ aB _).mono ?_;rintro e w' ⟨rfl,rfl⟩)
 go_ret2
 exact⟨by rw[hR.o];rfl,rfl⟩):P:=h
theorem J107(h:P:=by
 have hR:=SY dN;clear SY RG NX;unfold V28 at hd;by_cases bS:48<=c.toNat/\c.toNat<=57
 ·obtain⟨h1,h2⟩:=bS;rw[Ua ⟨h1,h2⟩]at hd
  first
  |(exfalso;omega)
  | (subst hd
     go_wp2
     all_goals go_ret2
     exact⟨by rw[hR.o];rfl,rfl⟩)
 rw[Ud bS]at hd;by_cases aZ:97<=c.toNat/\c.toNat<=122;have aB:=O25 c aZ;rw[Ua aZ]at hd;obtain⟨h1,h2⟩:=aZ;clear bS;subst hd;exact J44
 rw[Ud aZ]at hd;by_cases cw:65<=c.toNat/\c.toNat<=90;have aB:=O24 c cw;rw[Ua cw]at hd;obtain⟨h1,h2⟩:=cw;clear bS aZ;subst hd;exact J44
 clear hd;by_cases DP:c.toNat=95
 ·rw[DP]at hc;clear bS aZ cw;go_wp2_with (refine (O1r 95 127 (by decide +kernel) _).mono ?_;rintro e w' ⟨rfl,rfl⟩)
  all_goals go_ret2
  all_goals exact⟨by rw[hR.o];rfl,rfl⟩
 exact J199):P:=h
theorem J108(h:P:=by
 clear bR dE ha;by_cases bS:48<=c.toNat/\c.toNat<=57
 ·obtain⟨h1,h2⟩:=bS;rw[Ua ⟨h1,h2⟩]at aS;refine Z177 ?_;intro e1;rw[e1]at dO;try rw[e1]at hR
  have gO:(c.toNat:Int)-48<16:=by omega
  clear aS dN e1
  go_wp2
  exact J22
 rw[Ud bS]at aS;by_cases aZ:97<=c.toNat/\c.toNat<=122
 ·have aB:=O25 c aZ;rw[Ua aZ]at aS;obtain⟨h1,h2⟩:=aZ;clear bS;refine Z179 ?_;intro e1;rw[e1]at dO;try rw[e1]at hR
  have gO:(c.toNat:Int)-87<16:=by omega
  clear aS dN e1;exact J205
 rw[Ud aZ]at aS;by_cases cw:65<=c.toNat/\c.toNat<=90
 ·have aB:=O24 c cw;rw[Ua cw]at aS;obtain⟨h1,h2⟩:=cw;clear bS aZ;refine Z178 ?_;intro e1;rw[e1]at dO;try rw[e1]at hR
  have gO:(c.toNat:Int)-55<16:=by omega
  clear aS dN e1;exact J205
 exact J21):P:=h
theorem J109(h:P:=by
 have dJ:=pa.o.trans kj;clear p0 p1 pf pl p2 p3 fC fD v0 v1 vf vl hF;refine Z43 ?_;rintro e w6 ap;obtain⟨ec,eq,rfl,ad,aR⟩:=ap.open l9;have fd:∀k,w.heap.size<=k->¬FV own k:=λ k hk e=>by have:=(H.o.v.lt k e).2;omega
 have hH:=aD.1.st aR (λ k h1 _=>fd k h1);have kh:=And.intro hH (aD.2.st aR (fd bK (by omega)));refine Z77 ?_;obtain⟨⟨p0,p1,pf,pl⟩,⟨p2,p3,fC,fD⟩,⟨p4,p5,dp,da⟩⟩:=id hH;refine Reg.on 5 ?_;go_simp;rw[O5 hH.i.1,O5 hH.i.2.1];refine Z77 ?_;refine Reg.on 6 ?_;go_simp;rw[O5 hH.t.1,O5 hH.t.2.1];refine Z77 ?_;refine Reg.on 7 ?_;refine Z293 ?_;go_wp2_with fail;refine Z67 ?_;intro WF am q0 q1 qf ql y0 y1 yf yl mz mA mB mC Dy;exact U1 (v := .tuple #[.agg #[(0:Int),(0:Int)],.agg #[.slice none 0 0,(0:Int)],.agg #[ec,eq]]) (by simp[results,results58,go_sem,q0,q1,qf,ql,y0,y1,yf,yl,mz,mA,mB,mC]) rfl Dy):P:=h
theorem J110(h:P:=by
 refine Z118 ?_;intro k4 ku Fe Fg Fh Fi aN;clear aA
 go_upto_region 10 with fail
 refine Z193 ?_;intro hS;refine Reg.takeY (i:=1) (v:=?_) rfl (by kernel_rfl) (by kernel_rfl) (by kernel_rfl) (λ _ _ _ h=>h) (by rfl) ?_ ?_;rotate_left;exact J73
 refine Z50 ?_;refine Z84 ?_;intro w4 q4 DB g4 ce Av;refine Z34 ?_;refine Reg.takeY (i:=9) (v:=?_) rfl (by kernel_rfl) (by kernel_rfl) (by kernel_rfl) (λ _ _ _ h=>h) (by rfl) ?_ ?_;rotate_left;exact J73
 refine Z50 ?_;refine Reg.takeY (i:=10) (v:=?_) rfl (by kernel_rfl) (by kernel_rfl) (by kernel_rfl) (λ _ _ _ h=>h) (by rfl) ?_ ?_;rotate_left;exact J73
 refine Z50 ?_;refine Reg.on 11 ?_;refine Z293 ?_;go_wp2_with fail
 go_roundw
 case rel=>exact⟨m+1,_,ub,rfl,rfl,by omega,NI.o,by rw[<-Fh.o,O3l,O3l,O3l,DB];simp[bs],(ze.o.trans (Gr.refl wq).drew).trans g4⟩
 case measure=>simp[intOf];omega):P:=h
theorem J111(h:P:=by
 rw[hq]at hp HF;obtain⟨rfl,aH,hr,a9⟩:=hp;obtain⟨ah,ar⟩:=a9.use w.heap.size (by omega) iF;have ay:=a9.size;have r0:w1.cell? ⟨w.heap.size,0,none⟩=some (.int .i64 0):=(ah _).trans m0;have r1:w1.cell? ⟨w.heap.size,1,none⟩=some (.int .i64 0):=(ah _).trans m1;have r2:w1.frozen? ⟨w.heap.size,0,none⟩=false:=(ar _).trans m2;have r3:w1.frozen? ⟨w.heap.size,1,none⟩=false:=(ar _).trans m3;refine Z161 ?_;intro aL bv;have HQ:=U0 HF;clear hr a9 ah ar m0 m1 m2 m3 hq HF;go_wp2_with fail;refine Z259 ?_;rw[HX.o,HQ.o];refine⟨rfl,aH,?_,?_⟩
 have eG:¬FQ R aH w.heap.size:=λ hF=>by
  rcases bv.o.own _ hF with hF|hF
  exact iF hF
  omega
 have fe:=aL.o;exact RdQ.auto fe
 have er:St (FQ R ov) (FQ R aH) w w1:=HG.o.st.trans bv.o;have a9:=er;exact St.auto):P:=h
theorem J112(h:P:=by
 obtain⟨y0,y1,yf,yl⟩:=eT.gr g4;have jl:=(g4.block (U8.1 uF).1).trans uF;refine Z55 ?_;intro eF dJ i0 i1 i2 i3 i4 i5 i6 i7 i8 eZ f7 v0 v1 vf vl WF am oA zI zF zG;clear uF eT d7 du g4 am
 try clear q0 q1 qf ql
 go_wp2_with fail
 go_region
 all_goals rw[oA.o]
 all_goals clear oA i0 i1 i2 i3 i4 i5 i6 i7 i8 eZ f7 v0 v1 vf vl jl eF dJ
 all_goals obtain⟨⟨i0,i1,i2,i3,i4,i5,i6,i7,i8⟩,eZ,f7⟩:=O4k zI
 all_goals obtain⟨v0,v1,vf,vl⟩:=id zF
 all_goals go_wp2_with fail
 all_goals refine U1 (v := .tuple #[itZ,fv c p]) (by simp[results,results59,go_sem,i0,i1,i2,i3,i4,i5,i6,i7,i8,v0,v1]) rfl ?_
 all_goals (rw[<-HX.o];first|exact⟨rfl,hc,zG⟩|exact⟨rfl,hc,zG.drew⟩|exact⟨rfl,hc,zG.drew.drew⟩)):P:=h
theorem J113(h:P:=by
 rw[hP]at dy;simp only at dy;refine Z134 ?_;refine Z116 ?_;intro w5 hc F5 d8 wY;have wK:¬FV ad w.heap.size:=λ hf=>by
  rcases jL.o _ hf with e|e
  exact bN e
  have:=fy.o;omega
 refine Z123 ?_;intro iV fW bV HC a0 a1 af al kL;clear dy d8 hP hc;go_wp2_with fail;refine Z230 ?_;intro w6 g6;obtain⟨u0,u1,uf,ul⟩:=iV.o.gr g6;have dF:=fW.o.gr g6;have FE:=wY.o.gr g6;clear g6 a0 a1 af al;go_wp2_with fail
 go_region
 all_goals go_wp2_with fail
 rw[<-bV.o];exact U1 (v := .tuple #[(0:Int),(0:Int),fv c p]) (by simp[results,results46,go_sem,u0,u1,uf,ul]) rfl ⟨rfl,HC.o,F5,((dF.setCell (.inr (U2 _)) _).setCell (.inr (U2 _)) _).drew,((FE.set (by omega) _).set (by omega) _).drew⟩):P:=h
theorem J114(h:P:=by
 clear aS dN e1;go_wp2_with (refine (O1r _ _ aB _).mono ?_;rintro e w' ⟨rfl,rfl⟩)
 all_goals refine⟨⟨k+1,_,_,rfl,(by first|rfl|(congr 1;omega)),(by first|rfl|(congr 1;omega)),by omega,hR⟩,by simp[intOf];omega⟩):P:=h
theorem J115(h:P:=by
 refine Z35 ?_;intro gN gZ V4 cL;refine Z2 ?_;have zD:=rt.o V4 cL.o.st;obtain⟨k7,k8,kf⟩:=zD;refine Z190 ?_;refine Z2 ?_;refine Reg.ty 19 ?_;refine Reg.ty 20 ?_;refine Reg.on 21 ?_;refine Z293 ?_;go_wp2_with fail
 go_meet
 exact Omt pc.o wZ.o cL.o (by simp) (FF.o.add it _ _ _) (by rw[<-NJ.o];simp)):P:=h
theorem J116(h:P:=by
 refine Z76 ?_;refine Z113 ?_;intro aw ak aj;have as:=ss.o.alloc (.cells #[a,b] 38);refine Z215 ?_;intro V2 hV;rw[hV]at aw ak aj as⊢;clear hV;refine Z49 ?_;intro aP cl;have fB:=U0 as;have dV:=U0 ak;clear aw ak aj as;refine Z33 ?_;intro bj;refine Reg.on 8 ?_;skip;refine Z135 ?_;intro aw av aj;have as:=fB.o.alloc (.cells #[.string key] 9);have ak:=dV.o.alloc (.cells #[.string key] 9);refine Z252 ?_;intro V3 hV;rw[hV]at aw av aj as ak⊢;clear hV;refine Z49 ?_;intro aW bE;have dx:=U0 as;have ca:=U0 ak;have mH:=U0 av;clear aw av aj as ak;exact J11):P:=h
theorem J117(h:P:=by
 refine Z66 ?_;refine Z152 ?_;intro aw as aj;have ak:=sw.o.alloc (.cells #[n] 3);refine Z250 ?_;intro V2 hV;rw[hV]at aw as aj ak⊢;clear hV;refine Z49 ?_;intro aP cl;have dV:=U0 ak;have fB:=U0 as;clear aw as aj ak;refine Z33 ?_;intro bj;refine Reg.on 8 ?_;skip;refine Z135 ?_;intro aw av aj;have ak:=dV.o.alloc (.cells #[.string key] 9);have as:=fB.o.alloc (.cells #[.string key] 9);refine Z252 ?_;intro V3 hV;rw[hV]at aw av aj ak as⊢;clear hV;refine Z49 ?_;intro aW bE;have ca:=U0 ak;have dx:=U0 as;have mH:=U0 av;clear aw av aj ak as;exact J12):P:=h
theorem J118(h:P:=by
 rintro e w2 ⟨rfl,F',a9⟩;refine Z106 ?_;intro hu aJ cP;have p0:w2.cell? ⟨w.heap.size,0,none⟩=some (.int .i64 0):=(hu.1 0).trans m0;have p1:w2.cell? ⟨w.heap.size,1,none⟩=some (.int .i64 0):=(hu.1 1).trans m1;have p2:w2.frozen? ⟨w.heap.size,0,none⟩=false:=(hu.2 0).trans m2;have p3:w2.frozen? ⟨w.heap.size,1,none⟩=false:=(hu.2 1).trans m3;have eI:w.heap.size<w2.heap.size:=by omega
 clear a9 hu aJ m0 m1 m2 m3;go_wp2_with fail
 go_region
 all_goals go_wp2_with fail
 all_goals
  refine Z248 ?_;refine⟨by rw[show n+(a-n+p)=a+p from by omega],by omega,Gr.auto⟩):P:=h
theorem J119(h:P:=by
 rw[hq]at hp HF;obtain⟨rfl,a9⟩:=hp;obtain⟨ah,ar⟩:=a9.use w.heap.size (by omega) iF;have ay:=a9.size;have r0:w1.cell? ⟨w.heap.size,0,none⟩=some (.int .i64 0):=(ah _).trans m0;have r1:w1.cell? ⟨w.heap.size,1,none⟩=some (.int .i64 0):=(ah _).trans m1;have r2:w1.frozen? ⟨w.heap.size,0,none⟩=false:=(ar _).trans m2;have r3:w1.frozen? ⟨w.heap.size,1,none⟩=false:=(ar _).trans m3;have bv:=U0 a9;have HQ:=U0 HF;clear a9 ah ar m0 m1 m2 m3 hq HF;go_wp2_with fail;refine Z265 ?_;intro er a9;exact⟨rfl,St.auto⟩):P:=h
theorem J120(h:P:=by
 go_wp2_with fail;refine (O1d _ (a+2) (by omega) _).mono ?_;rintro e w2 ⟨rfl,g2⟩;obtain⟨ah,ar,aJ⟩:=g2.use;have q0:w2.cell? ⟨w.heap.size,0,none⟩=some (.int .i64 0):=(ah _ _ (by omega)).trans n0;have q1:w2.cell? ⟨w.heap.size,1,none⟩=some (.int .i64 0):=(ah _ _ (by omega)).trans n1;have q2:w2.frozen? ⟨w.heap.size,0,none⟩=false:=(ar _ _ (by omega)).trans n2;have q3:w2.frozen? ⟨w.heap.size,1,none⟩=false:=(ar _ _ (by omega)).trans n3;clear ah ar n0 n1 n2 n3;go_wp2_with fail;refine Z238 ?_;intro a9;exact⟨rfl,St.auto⟩):P:=h
theorem J121(h:P:=by
 obtain⟨z1,z2⟩:=V1o _ 48 _ hz;have HZ:Hid ((bs D)[0]?=some 48):=U0 (by
  have h2:=O8 D 0 e0;simp only[U1l]at h2;rw[h2];simp only[U1h,Uc,<-U1b]
  simpa using hz)
 clear hz;refine Z5 ?_;intro w4 g4 ce;refine Z74 ?_;refine Z100 ?_;refine Z12 ?_;have du:Gr w w4:=(dJ.drew.trans g3).trans g4;exact J203):P:=h
theorem J122(h:P:=by
 exact⟨λ i e st' h=>by (simp only[Va.ok.injEq,U6]at h;omega),λ c' p' h=>by (simp at h)⟩):P:=h
theorem J123(h:P:=by
 rintro e w4 hp;obtain⟨x,y,z,rfl⟩:=hp.form mO.o;obtain⟨q0,q1,qf,ql⟩:=uG.st (hp.st mO.o) (by simpa using U2k br);clear i0 i1 i2 i3 i4 i5 i6 i7 i8 eZ f7;go_wp2_with fail;refine Z173 ?_;exact hp.setF2 zE (U2 _) A' br _ _):P:=h
theorem J124(h:P:=by
 go_wp2_with fail;refine Z286 ?_;intro w3 kk x cc jI g3;obtain⟨cZ,hx,dT⟩:=jI;have hF:=dl.gr g3;have dh:Gr w w3:=cy.trans g3;clear g3 cy dl;subst dT hx cZ;go_wp2_with fail;have hS:FX w.heap.size (0:Int) (0:Int) w3.drew:=hF.gr (Gr.refl _).drew;refine Z163 ?_;refine Z32 ?_;refine Z42 ?_;refine Z60 ?_;intro w4 nv' own' p0 p1 pf pl eG H3 wl wn;refine Z12 ?_;go_wp2_with fail;refine Z144 ?_;exact (wl.o.setCell (.inr (U2 _)) _).setCell (.inr (U2 _)) _):P:=h
theorem J125(h:P:=by
 clear g3;go_wp2_with fail;exact U1 (v := .tuple #[.string ⟨#[]⟩,(3:Int)]) (by simp[results,results99,go_sem]) rfl ⟨O1l (zh.o (by simp)),dh⟩):P:=h
theorem J126(h:P:=by
 clear aS dN e1;exact J205):P:=h
theorem J127(h:P:=by
 intro k hk
 replace hk:(if kv.ownBlock=some k then 4+3*i else if sv.ownBlock=some k then 5+3*i else if uv.ownBlock=some k then 6+3*i else own k)≠0:=hk
 have fi:∀b,FI own i b\/w.heap.size<=b->own b≠0\/w.heap.size<=b:=λ b e=>e.imp (λ e=>by unfold FI at e;omega) id
 exact J206):P:=h
theorem J128(h:P:=by
 obtain⟨rfl,rfl⟩:=hrel;go_wp2_with fail
 go_step3
 go_wp2_with fail
 go_quiet (fail)
 go_wp2_with fail
 go_quiet ((go_at_call 85;first|exact O5r (Oe7 _ _ c hl _) ⟨_,rfl⟩|exact O32 (Oe7 _ _ c hl _) ⟨_,rfl⟩))
 exact J202):P:=h
theorem J129(h:P:=by
 go_wp2_with fail
 go_region
 all_goals go_wp2_with fail
 have zH:X = .bad 5 a:=by have:=HX.o;rw[<-uH.o]at this;exact this.symm
 rw[zH];exact U1 (v := .tuple #[(0:Int),fv 5 a]) (by simp[results,results76,go_sem,q0,q1,qf,ql]) rfl ⟨rfl,by omega,FV own',((bv.o.setCell (.inr (U2 _)) _).setCell (.inr (U2 _)) _).drew,((aw.o.rk.set (by omega) _).set (by omega) _).drew⟩):P:=h
theorem J130(h:P:=by
 go_wp2_with fail;refine Z286 ?_;intro w3 kk x cc jI g3;obtain⟨rfl,hc⟩:=jI;obtain⟨q0,q1,qf,ql⟩:=dl.gr g3;have Sj:((cc:Int) != 0)=true:=by simp;omega
 have dh:Gr w w3:=cy.trans g3;clear g3 cy dl;go_wp2_with fail;exact U1 (v := .tuple #[(0:Int),(0:Int),fv cc n]) (by simp[results,results42,go_sem,q0,q1,qf,ql]) rfl ⟨rfl,hc,FV own,St.auto,H.o.rk.gr Gr.auto⟩):P:=h
theorem J131(h:P:=by
 have s2:decide ((256:Int)<(d:Int)+2)=true:=by simp;omega
 rw[Ua gP]at ae;have iz:=(HE.o.gr G7.o)
 obtain⟨r0,r1,rf,rl⟩:=id iz;go_wp2_with fail;refine Z68 ?_;intro At WF q0 q1 qf ql sF aE;exact U1 (v:=fv 4 a) (by simp[results,results87,go_sem,q0,q1,qf,ql]) rfl ⟨rfl,by decide,own',sF,aE,λ k hk=>(jH.o k hk).imp id (λ h=>by have:=HG.o.size;omega)⟩):P:=h
theorem J132(h:P:=by
 refine Z36 ?_;intro aw ak aj;have av:=d6.o.alloc (.cells #[a,b] 38);have as:=fB.o.alloc (.cells #[a,b] 38);refine Z130 ?_;intro V3 hV;rw[hV]at aw ak aj av as⊢;clear hV;refine Z49 ?_;intro aW bE;have mH:=U0 av;have dx:=U0 as;have ca:=U0 ak;clear aw ak aj av as;exact J11):P:=h
theorem J133(h:P:=by
 refine Z36 ?_;intro aw ak aj;have as:=fB.o.alloc (.cells #[a,b] 38);have av:=d6.o.alloc (.cells #[a,b] 38);refine Z130 ?_;intro V3 hV;rw[hV]at aw ak aj as av⊢;clear hV;refine Z49 ?_;intro aW bE;have dx:=U0 as;have mH:=U0 av;have ca:=U0 ak;clear aw ak aj as av;exact J11):P:=h
theorem J134(h:P:=by
 refine Z56 ?_;refine Reg.tl 2 hS ?_ (hy:=by intro w ab;obtain⟨q0,q1,q2⟩:=ab;go_simp;try with_reducible rfl);refine Z42 ?_;refine Z185 ?_;intro k1 DG cm cy;refine Z65 ?_;refine Z310 ?_;refine Z12 ?_;go_wp2_with fail;exact U1 (v := .string R) (by simp[results,results178,go_sem]) rfl ⟨⟨R,rfl,HR.o⟩,cy⟩):P:=h
theorem J135(h:P:=by
 refine Z57 ?_;intro aw as aj;have av:=d6.o.alloc (.cells #[n] 3);have ak:=dV.o.alloc (.cells #[n] 3);refine Z169 ?_;intro V3 hV;rw[hV]at aw as aj av ak⊢;clear hV;refine Z49 ?_;intro aW bE;have mH:=U0 av;have ca:=U0 ak;have dx:=U0 as;clear aw as aj av ak;exact J12):P:=h
theorem J136(h:P:=by
 refine Z57 ?_;intro aw as aj;have ak:=dV.o.alloc (.cells #[n] 3);have av:=d6.o.alloc (.cells #[n] 3);refine Z169 ?_;intro V3 hV;rw[hV]at aw as aj ak av⊢;clear hV;refine Z49 ?_;intro aW bE;have ca:=U0 ak;have mH:=U0 av;have dx:=U0 as;clear aw as aj ak av;exact J12):P:=h
theorem J137(h:P:=by
 go_enter func162,ntmps162;go_wp2_with fail
 try rw[hU]
 refine (HA.o _).mono ?_;rintro e w1 ⟨rfl,g1⟩;go_wp2_with fail
 go_ret
 exact⟨by (rw[HY.o];try rfl),g1⟩):P:=h
theorem J138(h:P:=by
 rw[hv];refine (slices_Index_string b 0 r.nd.keys.length c (r.nd.keys.map λ k=>(⟨k.toArray⟩:ByteArray)) key w (by simp) (by unfold maxLen at eL;omega) ?_).mono ?_;intro j hj;rw[Ul]at hj;rw[Uu];refine cX j _ ?_;simp[Oh,hj,List.getD]
 refine Z48 ?_;rw[U24 (by simp),dB];exact J9):P:=h
theorem J139(h:P:=by
 intro n hn h1 h2;subst hn;exact U0 ⟨by omega,by omega,by rw[bh];simp[h1,h2]⟩):P:=h
theorem J140(h:P:=by
 go_enter func40,ntmps40;go_wp2_with (go_at_call 63;refine (O1d _ n rfl _).mono ?_;rintro e w1 ⟨rfl,g1⟩;obtain⟨ah,ar,ay⟩:=g1.use;simp at ay);exact U1 (v := .tuple #[.string ⟨#[]⟩,(0:Int),fv 3 n]) (by simp[results,results40,go_sem,ah,ar]) rfl ⟨rfl,Gr.auto⟩):P:=h
theorem J141(h:P:=by
 rw[Uq]at hi;cases hx:L[i]? with
 |none=>rw[hx]at hi;cases hi
 |some x =>
  rw[hx]at hi;cases hi;have hR:=hr.rows i x hx;exact⟨λ k e=>hR.tk k (by rw[<-O2r];exact e),λ k e=>hR.ts k (by rw[<-O2r];exact e),λ k e=>hR.tu k (by rw[<-O2r];exact e)⟩):P:=h
theorem J142(h:P:=by
 have q:=t2 g1 ht;refine⟨by simp,λ into root nds g1 he=>?_⟩;simp only[Va.ok.injEq,U6]at he;obtain⟨rfl,rfl,rfl,rfl⟩:=he;exact⟨q.gi,by have:=q.le;omega,q.ge,q.its,q.ns,by rw[q.many];omega,.inr (by have:=q.dep;omega),λ hp=>by rw[iG.2.2 (by omega)]at hp;cases hp⟩):P:=h
theorem J143(h:P:=by
 intro k hk;rw[d5];by_cases h0:own k=0
 split at hk;rename_i e;have:=H.k.lt k e;exact this
 split at hk;rename_i e;have:=H.s.lt k e;exact this
 split at hk;rename_i e;have:=H.u.lt k e;exact this
 exact absurd h0 hk
 have:=h.lt k h0;exact⟨this.1,by omega⟩):P:=h
theorem J144(h:P:=by
 rw[Uz];show (bs x=[]/\(bs x).isEmpty=true/\(bs x).isEmpty=true)\/_;cases h:bs x with
 |nil=>exact .inl ⟨rfl,rfl,rfl⟩
 |cons c l =>
  right;refine⟨?_,?_,rfl⟩;show ¬bs x=[];rw[h];simp
  show (bs x).isEmpty=false;rw[h];rfl):P:=h
theorem J145(h:P:=by
 have hL:0<L.length:=by cases L with|nil=>simp at hr|cons=>simp
 have hc:=h.nodes.cells (g:=g) (by rw[hv];rfl);have hj:∀j u,j<7->(ndV r)[j]?=some u->w.cell? ⟨g,i*7+j,none⟩=some u:=by
  intro j u hj hu;have:=hc (i*7+j) u (by rw[O78 _ _ _ hj,hr];exact hu)
  rwa [U3b,Uu]at this
 obtain⟨g',pd,cur,DQ,_,_,_,_,_,wT,_⟩:=h.form hL;rw[hv]at DQ;cases DQ;exact⟨hj 0 _ (by omega) rfl,hj 1 _ (by omega) rfl,hj 2 _ (by omega) rfl,hj 3 _ (by omega) rfl,hj 4 _ (by omega) rfl,hj 5 _ (by omega) rfl,hj 6 _ (by omega) rfl,λ o=>unfrozen_of_block wT o⟩):P:=h
theorem J146(h:P:=by
 rintro e w1 ⟨rfl,g1⟩;go_wp2_with fail
 go_ret
 exact⟨by (rw[HX.o];try rfl),g1⟩):P:=h
theorem J147(h:P:=by
 by_cases zJ:e<=a1+x.length;exact zJ
 exfalso;have FG:e=a1+x.length+1:=by omega
 rcases cA with h1|h1
 omega
 apply h1;rw[FG,U2w];have:=T.g1 (j:=x.length) (U2 _);unfold V9;rw[this];simp):P:=h
theorem J148(h:P:=by
 go_enter func73,ntmps73;go_wp2_with fail;exact U1 (v := .tuple #[.int .u8 1,.string t,(0:Int)]) (by simp[results,results73,go_sem]) rfl ⟨⟨1,t,0,rfl,by rw[HX.o];exact⟨rfl,rfl,rfl⟩⟩,Gr.refl _⟩):P:=h
theorem J149(h:P:=by
 rw[hF]at bh;subst ha;clear dE hF a0 a1
 go_wp2
 go_ret2
 first|exact⟨rfl,rfl⟩|exact⟨by rw[bh];rfl,rfl⟩):P:=h
theorem J150(h:P:=by
 obtain⟨h1,h2⟩:=bS;rw[Ua ⟨h1,h2⟩]at aS;refine Z177 ?_;intro e1;rw[e1]at dO;try rw[e1]at hR
 exact J210):P:=h
theorem J151(h:P:=by
 rw[hs]at a8;simp only at a8⊢
 split at a8
 rename_i aX
 rw[Ua aX,Ua (hr.room aX),hl,show k+n+m=k+(n+m) by omega];exact .ok _ _ _ _ (hr.app ⟨rfl,rfl,rfl,rfl,rfl,rfl⟩)
 exact absurd rfl a8):P:=h
theorem J152(h:P:=by
 exact⟨by simp,λ ax d' st' h=>by simp at h⟩):P:=h
theorem J153(h:P:=by
 refine⟨by simp,λ e g' he=>?_⟩;simp only[Va.ok.injEq,U6]at he;obtain⟨rfl,rfl⟩:=he;exact⟨q.gi.more _ _,k.lt,k.le,by simp only;omega,qg,by simp[q.its],by simp[q.ns],q.many,q.dep⟩):P:=h
theorem J154(h:P:=by
 go_wp2
 go_ret
 exact⟨rfl,(Gr.refl _).alloc _⟩):P:=h
theorem J155(h:P:=by
 split at hk
 rename_i e
 subst e;refine⟨?_,aa⟩;rcases dD.2 with⟨h6,_⟩|⟨g5,c5,u5,h6,h7,_⟩
 cases h6
 cases h6;exact h7
 have:=h.lt k hk;exact⟨this.1,by omega⟩):P:=h
theorem J156(h:P:=by
 rw[hs]at h;simp only at h
 split at h;simp only[Va.ok.injEq,U6]at h;intro bD;apply h1;rw[U1f,show n+(m-1)=e-1 by omega];exact O5e bD
 cases h):P:=h
theorem J157(h:P:=by
 intro k hk;by_cases h1:k=w.heap.size+1;subst h1;simp;omega
 rw[Ud h1]at hk;by_cases h2:k=w.heap.size;subst h2;simp;omega
 rw[Ud h2]at hk;exact absurd rfl hk):P:=h
theorem J158(h:P:=by
 intro h1 h2;exact U0 (by rw[bh];simp[h1,h2])):P:=h
theorem J159(h:P:=by
 rw[hX];exact U1 (v := .tuple #[.agg #[i,.int .i64 ((d:Int)+1)],.bool false]) (by simp[results,results119,go_sem,q0,q1,qf,ql]) rfl ⟨⟨_,_,rfl⟩,gE⟩):P:=h
theorem J160(h:P:=by
 clear aS dN e1
 go_wp2
 all_goals refine⟨⟨k+1,_,_,rfl,(by first|rfl|(congr 1;omega)),(by first|rfl|(congr 1;omega)),by omega,hR⟩,by simp[intOf];omega⟩):P:=h
theorem J161(h:P:=by
 show (nd.subs++[i]).Pairwise _;rw[List.pairwise_append];exact⟨h0.up,List.pairwise_singleton _ _,λ a ha b hb=>by rw[U13]at hb;subst hb;exact hi a ha⟩):P:=h
theorem J162(h:P:=by
 simp only[Va.ok.injEq,U6]at hi⊢;obtain⟨hb,rfl⟩:=hi;exact⟨_,⟨U2d,rfl⟩,⟨w3.nds,w3.srt,w3.sec,w3.dep,w3.many⟩,by simp[w4],hb.symm⟩):P:=h
theorem J163(h:P:=by
 rename_i e;simp only[U1a]at e;exact absurd e.1 ha):P:=h
theorem J164(h:P:=by
 go_wp2_with fail
 go_region
 all_goals go_wp2_with fail
 exact U1 (v := .tuple #[i,f0]) (by simp[results,results101,go_sem]) rfl ⟨rfl,Gr.auto⟩):P:=h
theorem J165(h:P:=by
 intro h1;exact U0 (by rw[bh];simp[h1])):P:=h
theorem J166(h:P:=by
 split at h;cases h
 cases h
 split at h;simp only[Va.ok.injEq,U6]at h;obtain⟨rfl,_,rfl⟩:=h;exact Ona hw hp _ _ _ _
 cases h):P:=h
theorem J167(h:P:=by
 go_wp2_with fail;exact U1 (v := .tuple #[.string ⟨#[]⟩,(3:Int)]) (by simp[results,results98,go_sem]) rfl ⟨O1l HY.o,Gr.auto⟩):P:=h
theorem J168(h:P:=by
 rw[Obc,Bool.or_eq_true]at ph;rcases ph with h|h
 all_goals
  have:=V18 _ _ h;rw[U3,O0]at this;simp at this;omega):P:=h
theorem J169(h:P:=by
 refine Z205 ?_;refine Z12 ?_;go_wp2_with fail
 go_roundw
 case rel=>exact⟨j+1,by go_num,by omega,jN.o⟩
 case measure=>simp[intOf];omega):P:=h
theorem J170(h:P:=by
 go_wp2_with fail
 go_quiet (fail)
 go_wp2_with fail;refine Z181 ?_;intro w2 p0 p1 pf pl bC;go_wp2_with fail;refine Z283 ?_;rw[<-nS.o];exact rfl):P:=h
theorem J171(h:P:=by
 rw[h1];simp only[Va.ok.injEq,U6]at hw⊢;obtain⟨rfl,rfl,rfl,rfl⟩:=hw;exact⟨_,_,⟨rfl,rfl,rfl,rfl⟩,RS.nil [],h2⟩):P:=h
theorem J172(h:P:=by
 intro r sg ds h;unfold V1m at h
 split at h;cases h;exact .inl rfl
 split at h;cases h
 cases h;exact .inr rfl
 cases h;exact .inl rfl):P:=h
theorem J173(h:P:=by
 split at hk
 rename_i e
 subst e;rcases et with h5|h5
 exact .inl (.inl (by unfold FV;omega))
 exact .inr h5.2
 exact .inl (.inl hk)):P:=h
theorem J174(h:P:=by
 go_enter func128,ntmps128;go_wp2_with fail
 go_ret
 exact⟨⟨_,rfl,by (rw[HX.o];try rfl),by (simp;try omega)⟩,Gr.auto⟩):P:=h
theorem J175(h:P:=by
 rintro e w2 ⟨rfl,a9⟩;refine Z18 ?_;intro aE dt aJ;have HT:=U0 a9;clear a9;go_wp2_with fail;refine Z275 ?_;exact J32):P:=h
theorem J176(h:P:=by
 rw[hF]at bh;subst ha;clear dE hF a0 a1
 go_wp2
 all_goals go_ret2
 first|exact⟨rfl,rfl⟩|exact⟨by rw[bh];rfl,rfl⟩):P:=h
theorem J177(h:P:=by
 go_enter func128,ntmps128;go_wp2_with fail
 go_ret
 exact⟨⟨_,rfl,by (rw[HX.o];try rfl),U1p _⟩,Gr.auto⟩):P:=h
theorem J178(h:P:=by
 intro k hk hn;refine cG k hk (λ e=>hn (.inl ?_)) (λ e=>hn (.inl ?_));subst e;unfold FV;rw[h.oR];omega
 unfold FV;omega):P:=h
theorem J179(h:P:=by
 intro k e;simp[Value.ownBlock]at e;subst e;show (if _ then _ else _)=3;rw[tg g (by omega) (nF g 3 dM (by omega))];exact dM):P:=h
theorem J180(h:P:=by
 rw[b3]at r3;simp only[Va.ok.injEq,U6]at r3;obtain⟨rfl,rfl⟩:=r3;exact⟨by omega,λ hk=>by omega⟩):P:=h
theorem J181(h:P:=by
 unfold feed at h⊢
 split at h;exact J82;exact J81;cases h
 split;exact J82;exact J81;exact J81
 exact h):P:=h
theorem J182(h:P:=by
 split at hk
 rename_i e
 subst e;rcases et with h5|h5
 exact .inl (by omega)
 exact .inr (.inr h5.2)
 exact .inl hk):P:=h
theorem J183(h:P:=by
 intro k e;simp only at e;have a1:kv.ownBlock≠some k:=λ e2=>H.ks k e2 e
 simp only[a1,e,U1j,U1d]):P:=h
theorem J185(h:P:=by
 intro hv fa ga W3 g3 r0 r1 rf rl k0 k1 kf kl f5 f6 gb;refine Z315 ?_;exact J69):P:=h
theorem J186(h:P:=by
 intro y hy;rcases U1t.1 hy with hy|hy
 exact h0.lt y hy
 rw[U13]at hy;omega):P:=h
theorem J187(h:P:=by
 exfalso;rcases b2 with⟨c1,_⟩|⟨_,c1,_⟩
 rw[r0]at c1;cases c1
 rw[r1]at c1;cases c1):P:=h
theorem J188(h:P:=by
 rw[hv];refine (slices_Index_string_empty a c key w).mono ?_;refine Z48 ?_;rw[h0];exact J9):P:=h
theorem J189(h:P:=by
 refine Z191 ?_;exact (cO.o.setCell (.inr (U2 _)) _).setCell (.inr (U2 _)) _):P:=h
theorem J190(h:P:=by
 rw[HX.o,<-HE.o];have a9:=HT.o;have aR:=jr.o;exact⟨rfl,St.auto⟩):P:=h
theorem J191(h:P:=by
 go_wp2_with fail;refine Z20 ?_;intro V0 iy mw bi;refine Z14 ?_;intro j hj;rcases hj with rfl|rfl|rfl
 refine Z186 ?_;refine Z294 ?_;intro V1 aL fU my cm;refine Reg.all (rs:=[9,15,22]) (by kernel_rfl) (by simp) ?_;refine Z14 ?_;intro j hj;rcases hj with rfl|rfl|rfl
 refine Z63 ?_;intro gK aI V2 aP cl bj;refine Z14 ?_;intro j hj;rcases hj with rfl|rfl
 refine Z317 ?_;intro V3 aW bE ca aD;intro j hj;exact J213
 refine Z320 ?_;intro V3 aW bE dx aD;skip;refine Z10 ?_;exact J214
 refine Z296 ?_;intro V2 aP cl d6 dV bj j hj;rcases hj with rfl|rfl
 refine Z295 ?_;intro gK aI V3 aW bE ca aD j hj;exact J213
 exact J135
 refine Z298 ?_;intro V2 aP cl d6 fB bj j hj;rcases hj with rfl|rfl
 refine Z300 ?_;intro gK aI V3 aW bE dx aD;skip;refine Z10 ?_;exact J214
 exact J132
 refine Z76 ?_;refine Z184 ?_;refine Z294 ?_;intro V1 aL fU sw cm;refine Reg.all (rs:=[8,22]) (by kernel_rfl) (by simp) ?_;refine Z14 ?_;intro j hj;rcases hj with rfl|rfl
 refine Z302 ?_;intro V2 aP cl dV d6 bj j hj;rcases hj with rfl|rfl
 refine Z295 ?_;intro gK aI V3 aW bE ca aD j hj;exact J213
 exact J136
 exact J117
 refine Z66 ?_;refine Z221 ?_;refine Z294 ?_;intro V1 aL fU ss cm;refine Reg.all (rs:=[8,15]) (by kernel_rfl) (by simp) ?_;refine Z14 ?_;intro j hj;rcases hj with rfl|rfl
 refine Z303 ?_;intro V2 aP cl fB d6 bj j hj;rcases hj with rfl|rfl
 refine Z300 ?_;intro gK aI V3 aW bE dx aD;skip;refine Z10 ?_;exact J214
 exact J133
 exact J116):P:=h
theorem J192(h:P:=by
 refine Z12 ?_;have bC:Gr w w2:=nT.drew.trans g2;clear g2 eR nT c0 c1 c2 aa bi;obtain⟨⟨c0,c1,c2⟩,aa⟩:=cm;go_wp2_with fail
 go_quiet (fail)
 obtain⟨W2,dU⟩:=ExZ (w2.drewN nq)
 have dJ:Gr w W2:=by rw[<-dU];exact bC.drewN _
 have k0:W2.cell? ⟨w1.heap.size,0,none⟩=some (.string bg):=by rw[<-dU];exact c0
 have k1:W2.cell? ⟨w1.heap.size,1,none⟩=some (.int .i64 bb):=by rw[<-dU];exact c1
 have k2:W2.cell? ⟨w1.heap.size,2,none⟩=some (.string ds):=by rw[<-dU];exact c2
 have kl:w1.heap.size<W2.heap.size:=by rw[<-dU];exact aa
 rw[dU];clear c0 c1 c2 aa bC dU;refine Z212 ?_;intro c0 c1 c2 aa;clear k0 k1 k2 kl;go_wp2_with fail;have bj:Op bg bb ds w1.heap.size W2.drew:=⟨⟨c0,c1,c2⟩,aa⟩
 refine Z25 ?_;intro w3 g3 aD;refine Z16 ?_;cases r with
 |false =>
  refine Z21 ?_;refine Z12 ?_;have dh:Gr w w3:=dJ.drew.trans g3;exact J125
 |true =>
  by_cases h1:1<D.size
  have e1:decide ((1:Int)<(D.size:Int))=true:=by simp;omega
  have H1:=U0 h1;have e0:0<D.size:=by omega
  have e2:(0:Int)<(D.size:Int):=by omega
  cases hz:((D[0]'e0).toNat==48) with
  |true =>
   exact J121
  |false =>
   obtain⟨z1,z2⟩:=V1o _ 48 _ hz;have B0:Hid (¬(1<D.size/\(bs D)[0]?=some 48)):=U0 (by
    rintro⟨_,h3⟩;have h2:=O8 D 0 e0;simp only[U1l]at h2;rw[h2]at h3;simp only[U1h,Uc]at h3;rw[h3]at hz;simp at hz)
   clear hz;refine Z5 ?_;intro w4 g4 ce;refine Z74 ?_;exact J96
  have e1:decide ((1:Int)<(D.size:Int))=false:=by simp;omega
  have B0:Hid (¬(1<D.size/\(bs D)[0]?=some 48)):=U0 (λ h3=>h1 h3.1);refine Z5 ?_;intro w4 g4 ce;refine Z91 ?_;exact J96):P:=h
theorem J193(h:P:=by
 clear bR dE ha;by_cases bS:48<=c.toNat/\c.toNat<=57;exact J150
 rw[Ud bS]at aS;by_cases aZ:97<=c.toNat/\c.toNat<=122
 ·have aB:=O25 c aZ;rw[Ua aZ]at aS;obtain⟨h1,h2⟩:=aZ;clear bS;refine Z179 ?_;intro e1;rw[e1]at dO;try rw[e1]at hR
  have gO:(c.toNat:Int)-87<16:=by omega
  clear aS dN e1;exact J106
 rw[Ud aZ]at aS;by_cases cw:65<=c.toNat/\c.toNat<=90
 ·have aB:=O24 c cw;rw[Ua cw]at aS;obtain⟨h1,h2⟩:=cw;clear bS aZ;refine Z178 ?_;intro e1;rw[e1]at dO;try rw[e1]at hR
  have gO:(c.toNat:Int)-55<16:=by omega
  clear aS dN e1;exact J106
 exact J21):P:=h
theorem J194(h:P:=by
 refine Z40 ?_;intro eN yY ep he HF;clear g5 g6 du;go_wp2_with (first|(go_at_call 136;refine (O6w _ _ _).mono ?_;rintro e w7 ⟨rfl,g7⟩)|(go_at_call 137;refine (HF.o _ (yY.gr Gr.auto)).mono ?_;rintro e w8 ⟨rfl,k8,NK,rfl⟩));exact U1 (v := .tuple #[.string ⟨(Lib.itoa v).toArray⟩,(0:Int)]) (by simp[results,results99,go_sem]) rfl ⟨Om6 (wJ.o (by simp) B0.o),(eN.trans g7).trans (O4b _ _ _)⟩):P:=h
theorem J195(h:P:=by
 refine Reg.on 5 ?_;skip;refine Z226 ?_;refine Z48 ?_;refine Z83 ?_;refine Z210 ?_;refine Z2 ?_;refine Reg.ty 10 ?_;refine Reg.on 11 ?_;refine Z293 ?_;go_wp2_with fail;refine Z22 ?_;intro rR we e1;refine⟨_,_,rfl,F9,?_,?_,by rw[e1];omega,by rw[e1];omega,we.2.2⟩;rw[e1];rw[e1]at we;exact we.1
 rw[e1];rw[e1]at we;exact we.2.1):P:=h
theorem J196(h:P:=by
 refine Z156 ?_;intro eN;clear g5 g6 du;go_wp2_with (go_at_call 136;refine (Obs N ep _ hN).mono ?_;rintro e w7 ⟨rfl,rfl⟩);exact U1 (v := .tuple #[.string ⟨#[]⟩,(8:Int)]) (by simp[results,results99,go_sem]) rfl ⟨O1l (wJ.o (by simp) B0.o),eN⟩):P:=h
theorem J197(h:P:=by
 clear h1 kP;go_enter func24,ntmps24;go_wp2_with fail;refine Z143 ?_;refine Z48 ?_;rw[HC.o];go_wp2_with fail;refine (Olx E hE _ R B base s root nv L own aL.o dW.o hs n d n rfl hn X HX.o HN.o).mono ?_;exact J100):P:=h
theorem J198(h:P:=by
 have dy:=AZ.o;cases hP:V1s E V (bs s) T m2 d (L2.map (·.nd)) with
 |non=>rw[hP]at dy;exact absurd dy.symm sA.o
 |bad c p =>
  exact J113
 |ok r =>
  obtain⟨n2,st2⟩:=r;rw[hP]at dy;exact J97):P:=h
theorem J199(h:P:=by
 refine Z26 ?_;intro v hv KF KG qZ nG lK;clear bS aZ cw DP;go_wp2_with (refine (O1r _ _ hv _).mono ?_;rintro e w' ⟨rfl,rfl⟩)
 all_goals go_ret2
 all_goals exact⟨by rw[hR.o];rfl,rfl⟩):P:=h
theorem J200(h:P:=by
 clear ho hg ha hz;have ce:=O17 cL.o dn.o HC.o;refine⟨λ _ _=>ce,?_⟩;refine Reg.pt ?_;refine Reg.on 16 ?_;skip;refine Z3 ?_;intro gS cM V5 ix gY jz eM;skip;exact J98):P:=h
theorem J201(h:P:=by
 have bj:=O2d mx.o;refine⟨by first|exact bj|exact λ _=>bj,?_⟩;refine Reg.pt ?_;refine Reg.on 4 ?_;skip;refine Z62 ?_;intro gK aI V3 aW mv rQ ca aD;skip;exact J99):P:=h
theorem J202(h:P:=by
 go_wp2_with fail;simp +zetaDelta only [Exit.inBlock,Exit.noGoto,Exit.then];exact U1 (v := .int .i64 (-1)) (by simp[results,results124,go_sem]) rfl ⟨rfl,(Gr.refl wr).drewN _⟩):P:=h
theorem J203(h:P:=by
 clear g3 g4;go_wp2_with fail;exact U1 (v := .tuple #[.string ⟨#[]⟩,(3:Int)]) (by simp[results,results99,go_sem]) rfl ⟨O1l (zi.o ⟨H1.o,HZ.o⟩),du⟩):P:=h
theorem J204(h:P:=by
 go_wp2_with fail;refine (iD.o _).mono ?_;rintro e w4 ⟨rfl,g4⟩;have dk:=(g4.block hz).trans aO;have du:=dh.trans g4;clear g4 aO dh p0 p1 p2 p3 p4 pf hz;exact J101):P:=h
theorem J205(h:P:=by
 go_wp2_with (refine (O1r _ _ aB _).mono ?_;rintro e w' ⟨rfl,rfl⟩);exact J22):P:=h
theorem J206(h:P:=by
 split at hk;rename_i e;exact fi k (H.fk k e)
 split at hk;rename_i e;exact fi k (H.fs k e)
 split at hk;rename_i e;exact fi k (H.fu k e)
 exact .inl hk):P:=h
theorem J207(h:P:=by
 clear ho hg ha hz;have aD:=eh.o V3 aW.o.st;refine⟨λ _ _=>aD,?_⟩;refine Reg.pt ?_;clear oy;have oy:=B4;exact J115):P:=h
theorem J208(h:P:=by
 subst hd;go_wp2_with (refine (O1r _ _ aB _).mono ?_;rintro e w' ⟨rfl,rfl⟩)
 go_ret2
 exact⟨by rw[hR.o];rfl,rfl⟩):P:=h
theorem J209(h:P:=by
 go_wp2_with fail;refine (iD.o _).mono ?_;refine Z288 ?_;intro w4 g4 dk du;clear g4 jo eR p0 p1 p2 p3 p4 pf hz;exact J101):P:=h
theorem J210(h:P:=by
 have gO:(c.toNat:Int)-48<16:=by omega
 clear aS dN e1
 go_wp2
 go_ret2
 exact⟨by rw[hR.o];rfl,rfl⟩):P:=h
theorem J211(h:P:=by
 go_enter func143,ntmps143;go_wp2_with fail
 try rw[hr]
 refine (HR.o _).mono ?_;exact J146):P:=h
theorem J212(h:P:=by
 go_enter func143,ntmps143;go_wp2_with fail;refine (HD.o _).mono ?_;exact J146):P:=h
theorem J213(h:P:=by
 rcases hj with rfl|rfl
 refine Z8 ?_;intro gS cM V4 cL dn ce;skip;refine Z13 ?_;intro V5 ix gY jz eM;skip;exact J98
 refine Z11 ?_;intro V4 cL dn jA jB ce;skip;refine Z3 ?_;intro gS cM V5 ix gY jz eM;skip;exact J98):P:=h
theorem J214(h:P:=by
 intro V4 cL dn jB jA ce;skip;refine Z3 ?_;intro gS cM V5 ix gY jz eM;skip;exact J98):P:=h
