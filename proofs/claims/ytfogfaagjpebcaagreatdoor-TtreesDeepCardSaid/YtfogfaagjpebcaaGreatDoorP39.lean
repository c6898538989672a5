/-
 The walks and plain laws that the claim rests on, part 39.
-/
import Derived.Test.YtfogfaagjpebcaaGreatDoorP00
import Derived.Test.YtfogfaagjpebcaaGreatDoorP04
import Derived.Test.YtfogfaagjpebcaaGreatDoorP36
set_option maxHeartbeats 16000000
set_option linter.all false
set_option linter.unusedVariables false
set_option linter.unusedSimpArgs false
namespace Go.Proofs.YtfogfaagjpebcaaGreatDoor
open Go.RowKit Go.Shelf Go.Joins
attribute [local go_sem] Oper.semAt_some
theorem cells7 {W:World} {I:Nat} {c0 c1 c2 c3 c4 c5 c6:Value} {T:TypeId} (h:W.heap[I]?=some (.cells #[c0,c1,c2,c3,c4,c5,c6] T (0,0))) :
    (W.cell? ⟨I,0,none⟩=some c0∧W.cell? ⟨I,1,none⟩=some c1∧W.cell? ⟨I,2,none⟩=some c2∧W.cell? ⟨I,3,none⟩=some c3∧W.cell? ⟨I,4,none⟩=some c4∧W.cell? ⟨I,5,none⟩=some c5∧W.cell? ⟨I,6,none⟩=some c6)∧(∀o,W.frozen? ⟨I,o,none⟩=false)∧I<W.heap.size :=
 ⟨⟨by rw[cell_of_block h];rfl,by rw[cell_of_block h];rfl,by rw[cell_of_block h];rfl,by rw[cell_of_block h];rfl,by rw[cell_of_block h];rfl,by rw[cell_of_block h];rfl,by rw[cell_of_block h];rfl⟩,fun o=>unfrozen_of_block h o,(Array.getElem?_eq_some_iff.1 h).1⟩
theorem RowC.unfrozen {w:World} {base e size n g c:Nat} {xs:List Value} (h:RowC w base e size (.slice (some ⟨g,0,none⟩) n c) n xs) (hn:0<n):∀o,w.frozen? ⟨g,o,none⟩=false:=by
 obtain⟨v0,h1,h2,h3⟩:=h;rcases h1.2 with⟨rfl,h0⟩|⟨g',cap,cur,rfl,_,hb,_⟩
 · simp[Value.ownBlock]at h2
 simp[Value.ownBlock]at h2;subst h2;exact fun o=>unfrozen_of_block hb o
structure GftS (R b:Nat) (nv:Value) (c0 c1 c2 c3 c4 c5 c6:Value) (w:World):Prop where
 c:w.cell? ⟨R,0,none⟩=some nv
 b0:w.cell? ⟨b,0,none⟩=some c0
 b1:w.cell? ⟨b,1,none⟩=some c1
 b2:w.cell? ⟨b,2,none⟩=some c2
 b3:w.cell? ⟨b,3,none⟩=some c3
 b4:w.cell? ⟨b,4,none⟩=some c4
 b5:w.cell? ⟨b,5,none⟩=some c5
 b6:w.cell? ⟨b,6,none⟩=some c6
theorem GftS.gr {R b:Nat} {nv c0 c1 c2 c3 c4 c5 c6:Value} {w w':World} (h:GftS R b nv c0 c1 c2 c3 c4 c5 c6 w) (g:Gr w w') (hR:R<w.heap.size) (hb:b<w.heap.size):GftS R b nv c0 c1 c2 c3 c4 c5 c6 w' :=
 ⟨(g.use.1 _ _ hR).trans h.c,(g.use.1 _ _ hb).trans h.b0,(g.use.1 _ _ hb).trans h.b1,(g.use.1 _ _ hb).trans h.b2,(g.use.1 _ _ hb).trans h.b3,(g.use.1 _ _ hb).trans h.b4,(g.use.1 _ _ hb).trans h.b5,(g.use.1 _ _ hb).trans h.b6⟩
set_option maxRecDepth 100000 in
theorem gr_graft (w:World) (R B base:Nat) (s:ByteArray) (nv:Value) (L:List NdR) (own:Nat→Nat) (so:List (Nat × Nat)) (x:GrX) (h:GrV w R B base s 0 nv L own so x) (tv:Value) (root base2:Nat) (T:List NdR)
    (hT:TreeA w base2 tv T) (hbb:base≤base2) (ho:∀k,base2≤k→own k=0) (hL:L.length+T.length≤30000000) (hroot:root≤30000000) (hsub:∀(i:Nat) r,T[i]?=some r→r.nd.subs.length≤30000000∧∀u∈r.nd.subs,u≤30000000) :
    Calls Tryz.prog 37 #[.pointer (some ⟨R,0,none⟩),.agg #[tv,.int .i64 root]] w fun e w'=>e = .returned (.int .i64 ((root+L.length:Nat):Int))∧∃nv' own',GrV w' R B base s 0 nv' (L++T.map (shiftR L.length)) own' (so++List.replicate T.length (0,0)) x ∧
     St (fun k=>FV own k∨TB T T.length k) (FV own') w w'∧(∀k,own' k≠0→own k≠0∨TB T T.length k∨w.heap.size≤k):=by
 have hR:=h.R_lt;have hbase:base≤w.heap.size:=by omega
 obtain⟨g0,ta,htv,hTT,hTi⟩:∃g0 ta,tv = .slice ta T.length T.length∧g0<w.heap.size∧(T=[]∨(ta=some ⟨g0,0,none⟩∧TreeV w base2 g0 T)):=by
  rcases hT with⟨rfl,rfl⟩|⟨g,rfl,hT⟩
  · exact⟨R,none,rfl,hR.2,.inl rfl⟩
  exact⟨g,_,rfl,hT.lt.2,.inr ⟨rfl,hT⟩⟩
 subst htv;obtain⟨na,nc,hnv⟩:∃a c,nv = .slice a L.length c:=by
  rcases own_form h.nodes with⟨rfl,e⟩|⟨g,cap,rfl,_,_⟩
  · exact⟨none,0,by rw[e]⟩
  exact⟨_,_,rfl⟩
 obtain⟨⟨c0,c1,c2,c3,c4,c5,c6⟩,c7,c8,fz⟩:=h.cells;rw[hnv]at c0;have H:=Lib.hid h;have HS:=Lib.hid hsub;have HT:=Lib.hid hTi;have HO:=Lib.hid ho;clear h hT hsub hTi ho c1 c2 c3 c4 c5 c6 c7 c8 fz hnv;go_enter Tryz.func37,Tryz.ntmps37
 go_upto_region 2 with fail
 obtain⟨W,hW⟩:∃W,w.alloc (.cells #[.slice ta T.length T.length,.int .i64 root] 29)=W:=⟨_,rfl⟩
 obtain⟨hTB,gW,hz⟩:FX w.heap.size (.slice ta T.length T.length) (.int .i64 root) W∧Gr w W∧W.heap.size=w.heap.size+1:=by
  rw[←hW];exact⟨FX.new w _ _ _,(Gr.refl w).alloc _,by simp⟩
 rw[hW];clear hW c0;have HTB:=Lib.hid hTB;have HG:=Lib.hid gW;obtain⟨p0,p1,pf,pl⟩:=hTB;have hst0:=GraftI.start (T:=T) (base2:=base2) (nv) H.out gW g0 hTT (HT.out.imp id And.right);have HST0:=Lib.hid hst0;clear hst0 gW;go_wp2_with fail
 go_loopw [18] (fun v wr=>∃(j:Nat) (nv':Value) (own':Nat→Nat),v = .int .i64 j∧j≤T.length∧GraftI w R B base base2 g0 s L own so x T j nv' own' wr∧FX w.heap.size (.slice ta T.length T.length) (.int .i64 root) wr) (fun v _=>T.length-(intOf v).toNat)
 case atStart=>exact⟨0,nv,own,rfl,by omega,HST0.out,HTB.out⟩
 case round =>
  obtain⟨j,nv',own',rfl,hj,hgi,hfx⟩:=hrel;have HGI:=Lib.hid hgi;have HFX:=Lib.hid hfx;by_cases hjl:j<T.length
  · have d1:decide ((j:Int)<(T.length:Int))=true:=by simp;omega
    have d2:decide (j<T.length)=true:=by simp;omega
    refine Z287 ?_;intro i1;have i2:(j:Int)<(T.length:Int):=by omega
    refine Z194 ?_;intro wj;have hTv:ta=some ⟨g0,0,none⟩∧TreeV w base2 g0 T:=by
     rcases HT.out with e|e
     · rw[e]at hjl;simp at hjl
     exact e
    obtain⟨rfl,hTv⟩:=hTv;obtain⟨r,hr⟩:∃r,T[j]?=some r:=⟨_,List.getElem?_eq_getElem hjl⟩
    have hcl:∀i v,(ndV r)[i]?=some v→wr.cell? ⟨g0,j*7+i,none⟩=some v:=fun i v hv=>(World.cell?_of_block (w:=w) (a:=⟨g0,j*7+i,none⟩) hgi.g0).trans (hTv.cell j r hr i v hv)
    obtain⟨ka,kc,hkv⟩:∃a c,r.kv = .slice a r.nd.keys.length c:=by
     rcases rowC_form (hTv.rows j r hr).1 with⟨e,e2⟩|⟨g,c,e,_,_⟩
     · exact J56
     exact⟨_,_,e⟩
    obtain⟨sa,sc,hsv⟩:∃a c,r.sv = .slice a r.nd.spots.length c:=by
     rcases rowC_form (hTv.rows j r hr).2.1 with⟨e,e2⟩|⟨g,c,e,_,_⟩
     · exact J56
     exact⟨_,_,e⟩
    obtain⟨ua,uc,huv⟩:∃a c,r.uv = .slice a r.nd.subs.length c:=by
     rcases rowC_form (hTv.rows j r hr).2.2 with⟨e,e2⟩|⟨g,c,e,_,_⟩
     · exact J56
     exact⟨_,_,e⟩
    have q0:wr.cell? ⟨g0,j*7,none⟩=some (.int .u8 r.nd.kind):=hcl 0 (.int .u8 r.nd.kind) rfl;refine Z164 ?_;intro q1 q2 q3 q4 q5 q6;have HTV:=Lib.hid hTv;have HR:=Lib.hid hr;have HKV:=Lib.hid hkv;have HSV:=Lib.hid hsv;have HUV:=Lib.hid huv;clear hgi hfx hcl hTv hr hkv hsv huv
    go_upto_region 5 with fail
    obtain⟨W1,hW1⟩:∃W1,wr.alloc (.cells #[.int .u8 r.nd.kind,.string ⟨r.nd.text.toArray⟩,.slice ka r.nd.keys.length kc,.slice sa r.nd.spots.length sc,.slice ua r.nd.subs.length uc,.int .i64 r.nd.sp.1,.int .i64 r.nd.sp.2] 91)=W1:=⟨_,rfl⟩
    have hbx:=heap_alloc_new wr (.cells #[.int .u8 r.nd.kind,.string ⟨r.nd.text.toArray⟩,.slice ka r.nd.keys.length kc,.slice sa r.nd.spots.length sc,.slice ua r.nd.subs.length uc,.int .i64 r.nd.sp.1,.int .i64 r.nd.sp.2] 91);have g1:Gr wr W1:=by rw[←hW1];exact (Gr.refl wr).alloc _
    have z1:W1.heap.size=wr.heap.size+1:=by rw[←hW1];simp
    rw[hW1]at hbx ⊢;clear hW1 q0 q1 q2 q3 q4 q5 q6;obtain⟨wo,hwo⟩:∃wo,wo=wr:=⟨_,rfl⟩
    subst hwo;have HBX:=Lib.hid hbx;obtain⟨⟨m0,m1,m2,m3,m4,m5,m6⟩,mf,ml⟩:=cells7 hbx;have G1:=Lib.hid g1;have hzo:w.heap.size<wo.heap.size:=HFX.out.2.2.2;have hub:∀k,(Value.slice ua r.nd.subs.length uc).ownBlock=some k→RB r k:=fun k e => .inr (.inr (by rw[HUV.out];exact e))
    have hubl:∀k,(Value.slice ua r.nd.subs.length uc).ownBlock=some k→k<w.heap.size:=fun k e=>((hub k e).lt HTV.out HR.out).2
    have hrow1:RowC W1 base2 3 1 (.slice ua r.nd.subs.length uc) r.nd.subs.length (subsV (shTo L.length 0 r.nd.subs)):=by
     rw[shTo_zero];have h1:=(HTV.out.rows j r HR.out).2.2;rw[HUV.out]at h1;exact h1.of_block fun k e=>(g1.block (Nat.lt_trans (hubl k e) hzo)).trans (HGI.out.rest j r (Nat.le_refl _) HR.out k (hub k e))
    have HROW1:=Lib.hid hrow1;clear hbx g1 hrow1;go_wp2_with fail
    go_loopw [25] (fun v W=>∃m:Nat,v = .int .i64 m∧m≤r.nd.subs.length∧St (fun k=>(Value.slice ua r.nd.subs.length uc).ownBlock=some k) (fun _=>False) W1 W∧RowC W base2 3 1 (.slice ua r.nd.subs.length uc) r.nd.subs.length (subsV (shTo L.length m r.nd.subs))) (fun v _=>r.nd.subs.length-(intOf v).toNat)
    case atStart=>exact⟨0,rfl,Nat.zero_le _,⟨rfl,rfl,rfl,Nat.le_refl _,fun _ _ _=>rfl,fun _ e=>e.elim⟩,HROW1.out⟩
    case round =>
     obtain⟨m,rfl,hm,hst,hrow⟩:=hrel;have hbu:=hst.use wo.heap.size ml (fun e=>by have:=hubl _ e;omega);have m4':=(hbu.1 4).trans m4;have HST:=Lib.hid hst;by_cases hml:m<r.nd.subs.length
     · obtain⟨gu,cu,hguv,hlc,hcm⟩:=hrow.form (by omega);simp only[Value.slice.injEq,true_and]at hguv;obtain⟨rfl,rfl⟩:=hguv;obtain⟨hsl,hsu⟩:=HS.out j r HR.out;have hu1:r.nd.subs[m]≤30000000:=hsu _ (List.getElem_mem hml);have hc:=hrow.cells (g:=gu) rfl m (.int .i64 r.nd.subs[m]) (by simp[subsV,shTo_get _ _ _ hml]);have hfu:=hrow.unfrozen (by omega) m;obtain⟨u,hu⟩:∃u,r.nd.subs[m]=u:=⟨_,rfl⟩
       rw[hu]at hc hu1;have e1:decide ((m:Int)<(r.nd.subs.length:Int))=true:=by simp;omega
       have e2:decide (m<r.nd.subs.length)=true:=by simp;omega
       refine Z246 ?_;intro k1 k2 wm;have wu:IntKind.i64.wrap ((u:Int)+(L.length:Int))=(u:Int)+(L.length:Int):=IntWalk.i64_in _ ⟨by omega,by omega⟩;have hset:=hrow.set m (by simp[subsV,shTo_len];omega) (.int .i64 ((u+L.length:Nat):Int));rw[subsV_set,←hu,shTo_set _ _ _ hml,hu]at hset;have HSET:=Lib.hid hset;have HU:=Lib.hid hu;clear hst hrow hset hu;go_wp2_with fail
       go_roundw
       case rel=>exact⟨m+1,rfl,by omega,HST.out.setCell (p:=⟨gu,m,none⟩) (.inl rfl) _,HSET.out⟩
       case measure=>simp[intOf];omega
     have hme:m=r.nd.subs.length:=by omega
     subst hme;have e1:decide ((r.nd.subs.length:Int)<(r.nd.subs.length:Int))=false:=by simp
     have e2:decide (r.nd.subs.length<r.nd.subs.length)=false:=by simp
     rw[shTo_all]at hrow;have HROW:=Lib.hid hrow;clear hrow hst;obtain⟨W2,hW2⟩:∃W2,W2=wr:=⟨_,rfl⟩
     subst hW2;have hW2s:St (fun k=>r.uv.ownBlock=some k) (fun _=>False) wo W2:=by
      rw[HUV.out];exact (G1.out.st).trans HST.out
     have hrow2:=HROW.out;rw[←HUV.out]at hrow2;have GV2:=HGI.out.kept HTV.out HO.out HR.out hW2s;have hstr:=HGI.out.strange HTV.out HO.out hbb HR.out hW2s hrow2;have hbx2:W2.heap[wo.heap.size]?=some (.cells #[.int .u8 r.nd.kind,.string ⟨r.nd.text.toArray⟩,.slice ka r.nd.keys.length kc,.slice sa r.nd.spots.length sc,.slice ua r.nd.subs.length uc,.int .i64 r.nd.sp.1,.int .i64 r.nd.sp.2] 91 (0,0)):=(HST.out.block wo.heap.size ml (fun e=>by have:=hubl _ e;omega)).trans HBX.out;obtain⟨⟨x0,x1,x2,x3,x4,x5,x6⟩,xf,xl⟩:=cells7 hbx2;obtain⟨⟨c0,_⟩,_,_,fz⟩:=GV2.cells;have hRW2:=GV2.R_lt;have hS0:GftS R wo.heap.size nv' (.int .u8 r.nd.kind) (.string ⟨r.nd.text.toArray⟩) (.slice ka r.nd.keys.length kc) (.slice sa r.nd.spots.length sc) (.slice ua r.nd.subs.length uc) (.int .i64 r.nd.sp.1) (.int .i64 r.nd.sp.2) W2.drew:=⟨c0,x0,x1,x2,x3,x4,x5,x6⟩
     have HW2S:=Lib.hid hW2s;have HGV2:=Lib.hid GV2;have HSTR:=Lib.hid hstr;have fz0:=fz 0;obtain⟨iN,hi,hz0,hz1,hz2⟩:=info_parts info42;have HI:=Lib.hid (And.intro hi (And.intro hz0 (And.intro hz1 hz2)));have hne:some R≠nv'.ownBlock:=some_ne_own GV2.oN (by rw[GV2.oR];omega);have hLL:(L++(T.take j).map (shiftR L.length)).length≤30000000:=by simp;omega
     have hbase2:base≤W2.heap.size:=by omega
     have hnd:ndV (shiftR L.length r)=[.int .u8 r.nd.kind,.string ⟨r.nd.text.toArray⟩,.slice ka r.nd.keys.length kc,.slice sa r.nd.spots.length sc,.slice ua r.nd.subs.length uc,.int .i64 r.nd.sp.1,.int .i64 r.nd.sp.2]:=by
      simp only[ndV,shiftR,HKV.out,HSV.out,HUV.out]
     have HND:=Lib.hid hnd;clear hW2s hrow2 GV2 hstr hbx2 x0 x1 x2 x3 x4 x5 x6 xf fz hi hz0 hz1 hz2 hnd m0 m1 m2 m3 m4 m5 m6 mf m4'
     go_upto_region 10 with fail
     refine Reg.begin' (W:=fun i=>i != 8 && i != 12) (S:=GftS R wo.heap.size nv' (.int .u8 r.nd.kind) (.string ⟨r.nd.text.toArray⟩) (.slice ka r.nd.keys.length kc) (.slice sa r.nd.spots.length sc) (.slice ua r.nd.subs.length uc) (.int .i64 r.nd.sp.1) (.int .i64 r.nd.sp.2)) (by kernel_rfl) ?_;obtain⟨V0,hV⟩:∃V0,W2.drew=V0:=⟨_,rfl⟩
     have g0V:Gr W2 V0:=by rw[←hV];exact (Gr.refl W2).drew
     have Z0V:=Lib.hid (show V0.heap.size=W2.heap.size by rw[←hV];rfl);rw[hV]at hS0 ⊢;clear hV;refine Z40 ?_;refine Z42 ?_;refine Reg.tl 5 hS0 ?_ (hy:=by intro w hSw;obtain⟨s0,s1,s2,s3,s4,s5,s6,s7⟩:=hSw;go_simp;try with_reducible rfl);refine Reg.tl 6 hS0 ?_ (hy:=by intro w hSw;obtain⟨s0,s1,s2,s3,s4,s5,s6,s7⟩:=hSw;go_simp;try with_reducible rfl);refine Reg.on 7 ?_;go_simp;have hbV:=heap_alloc_new V0 (.cells #[.int .u8 r.nd.kind,.string ⟨r.nd.text.toArray⟩,.slice ka r.nd.keys.length kc,.slice sa r.nd.spots.length sc,.slice ua r.nd.subs.length uc,.int .i64 r.nd.sp.1,.int .i64 r.nd.sp.2] 91);have g1V:Gr V0 (V0.alloc (.cells #[.int .u8 r.nd.kind,.string ⟨r.nd.text.toArray⟩,.slice ka r.nd.keys.length kc,.slice sa r.nd.spots.length sc,.slice ua r.nd.subs.length uc,.int .i64 r.nd.sp.1,.int .i64 r.nd.sp.2] 91)):=(Gr.refl V0).alloc _;have z1V:(V0.alloc (.cells #[.int .u8 r.nd.kind,.string ⟨r.nd.text.toArray⟩,.slice ka r.nd.keys.length kc,.slice sa r.nd.spots.length sc,.slice ua r.nd.subs.length uc,.int .i64 r.nd.sp.1,.int .i64 r.nd.sp.2] 91)).heap.size=V0.heap.size+1:=by simp
     obtain⟨V1,hV⟩:∃V1,V0.alloc (.cells #[.int .u8 r.nd.kind,.string ⟨r.nd.text.toArray⟩,.slice ka r.nd.keys.length kc,.slice sa r.nd.spots.length sc,.slice ua r.nd.subs.length uc,.int .i64 r.nd.sp.1,.int .i64 r.nd.sp.2] 91)=V1:=⟨_,rfl⟩
     rw[hV]at hbV g1V z1V ⊢;clear hV;have Z1V:=Lib.hid z1V;have hS1:=hS0.gr g1V (by have:=Z0V.out;omega) (by have:=Z0V.out;omega);clear z1V;refine Z64 ?_;have gV:=g0V.trans g1V;have hrowV:=ownsRow_of_block HGV2.out.nodes fun k e=>gV.block (HGV2.out.nodes.lt k e).2
     refine Reg.all (rs:=[8]) (by kernel_rfl) (by simp) ?_;intro j' hj';obtain rfl:=List.mem_singleton.1 hj';clear hj';refine Reg.one (i:=8) rfl (by rfl) ?_;refine wp_append_lies _ (.tmp 42) (.tmp 44) 27 (by rfl) base 91 iN _ 7 112 Tryz.underlying27 HI.out.1 HI.out.2.1 HI.out.2.2.1 HI.out.2.2.2 (by rfl) (by decide) nv' (L++(T.take j).map (shiftR L.length)).length (ndsV (L++(T.take j).map (shiftR L.length))) (by rfl) hrowV _ 1 1 [.int .u8 r.nd.kind,.string ⟨r.nd.text.toArray⟩,.slice ka r.nd.keys.length kc,.slice sa r.nd.spots.length sc,.slice ua r.nd.subs.length uc,.int .i64 r.nd.sp.1,.int .i64 r.nd.sp.2] (by rfl) (by rfl) (World.news_of_block hbV) (by simp[Value.oneCell']) (by decide) (by unfold maxLen;omega) (by omega) (Nat.le_trans hbase2 gV.size) _ rfl ?_;intro gN capN V2 hown hg ha hzz;have hm:=HGV2.out.appended gV (shiftR L.length r) HSTR.out gN capN (by rw[HND.out];exact hown) hg ha hzz;have f4:V2.cell? ⟨R,0,none⟩=some nv':=(hg.cell_far ⟨R,0,none⟩ (by have:=Z0V.out;have:=Z1V.out;simp;omega) hne).trans hS1.c;have f3:V2.frozen? ⟨R,0,none⟩=false:=(hg.frozen_far ⟨R,0,none⟩ (by have:=Z0V.out;have:=Z1V.out;simp;omega) hne).trans ((gV.use.2.1 R 0 hRW2.2).trans fz0);have hRV2:R<V2.heap.size:=by have:=hg.size;have:=Z0V.out;have:=Z1V.out;omega
     have HM:=Lib.hid hm;clear hown hg ha hzz hm;refine⟨fun h=>absurd h (by decide),?_⟩;refine Z2 ?_;refine Reg.ty 9 ?_;refine Z65 ?_;refine Reg.on 12 ?_;refine Z292 ?_;go_wp2_with fail
     go_roundw
     case rel =>
      have hm:=HM.out;rw[show (L++(T.take j).map (shiftR L.length)).length=L.length+j by simp;omega]at hm;obtain⟨own2,hGI2⟩:=HGI.out.more HTV.out HO.out HR.out hzo HW2S.out hm;obtain⟨own3,_,hst3,_⟩:=hm;refine⟨j+1,_,own2,rfl,by omega,hGI2,?_⟩;refine ((HFX.out.st HW2S.out (fun e=>by have:=hubl w.heap.size (by rw[←HUV.out];exact e);omega)).st hst3 (fun e=>?_));have hRBz:∀k,RB r k→k<w.heap.size:=fun k e=>(RB.lt HTV.out HR.out e).2
      rcases e with e|e|e|e
      · rcases HGI.out.on _ e with h|⟨i',r',_,h2,h3⟩|h
        · have:=(H.out.lt _ h).2;omega
        · have:=(RB.lt HTV.out h2 h3).2;omega
        omega
      · have:=hRBz _ (.inl e);omega
      · have:=hRBz _ (.inr (.inl e));omega
      have:=hRBz _ (.inr (.inr e));omega
     case measure=>simp[intOf];omega
  have hje:j=T.length:=by omega
  have d1:decide ((j:Int)<(T.length:Int))=false:=by simp;omega
  have d2:decide (j<T.length)=false:=by simp;omega
  obtain⟨p0',p1',pf',pl'⟩:=hfx;have wr1:IntKind.i64.wrap ((root:Int)+(L.length:Int))=(root:Int)+(L.length:Int):=IntWalk.i64_in _ ⟨by omega,by omega⟩;subst hje;clear hgi;go_wp2_with fail;have hv:=HGI.out.v;rw[List.take_length]at hv;exact bodyPost_ret (v := .int .i64 ((root:Int)+(L.length:Int))) (by simp[results,Tryz.results37,go_sem]) rfl ⟨rfl,nv',own',hv,HGI.out.st,fun k hk=>(HGI.out.on k hk).imp id (fun h=>h.imp id (fun h=>by omega))⟩
end Go.Proofs.YtfogfaagjpebcaaGreatDoor
namespace Go.Proofs.YtfogfaagjpebcaaGreatDoor
open Go.RowKit Go.Shelf Go.Joins
attribute [local go_sem] Oper.semAt_some
theorem tt_fine_yes (w:World) :
    Calls Tryz.prog 17 #[f0] w fun e w'=>e = .returned (.bool true)∧Gr w w':=by
 go_enter Tryz.func17,Tryz.ntmps17;exact J123
theorem tt_fine_no (c p:Nat) (hc:¬(c:Int)=0) (w:World) :
    Calls Tryz.prog 17 #[fv c p] w fun e w'=>e = .returned (.bool false)∧Gr w w':=by
 go_enter Tryz.func17,Tryz.ntmps17;exact J123
set_option maxRecDepth 100000 in
theorem gr_way1 (fo:Nat) (hent:∀args w,(callFunc fo args).run Tryz.prog w = .ok (.enter fo args) w) (X:Pl.Ov) (hne:X ≠ .non) (w:World) (R bo bf:Nat) (an d i:Nat)
    (hO:w.cell? ⟨bo,0,none⟩=some (.func (.func fo) #[.pointer (some ⟨R,0,none⟩)] #[])) (hbo:bo<w.heap.size) (hF:FX bf (.int .i64 an) (.int .i64 d) w)
    (HO:∀W,Gr w W→Calls Tryz.prog fo #[.pointer (some ⟨R,0,none⟩),.agg #[.int .i64 an,.int .i64 d],.int .i64 i] W fun e W'=>OvPost X e∧Gr W W') :
    Calls Tryz.prog 88 #[.int .i64 i,.pointer (some ⟨bo,0,none⟩),.pointer (some ⟨bf,0,none⟩)] w fun e w'=>OvPost X e∧Gr w w':=by
 have HOV:=Lib.hid HO;clear HO;go_enter Tryz.func88,Tryz.ntmps88
 go_upto_region 1 with fail
 obtain⟨W,hW⟩:∃W,w.alloc (.cells #[.int .i64 0,.int .i64 0] 60)=W:=⟨_,rfl⟩
 have gW:Gr w W:=by rw[←hW];exact (Gr.refl w).alloc _
 have hB:FX w.heap.size (.int .i64 0) (.int .i64 0) W:=by rw[←hW];exact FX.new w _ _ _
 have hF':=hF.gr gW;have hO':=(gW.use.1 _ _ hbo).trans hO;have hl':=Nat.lt_of_lt_of_le hbo gW.size;rw[hW];clear hW;have HG:=Lib.hid gW;have HB:=Lib.hid hB;obtain⟨p0,p1,pf,pl⟩:=hF';clear hB gW hO hF hbo;go_wp2_with fail;refine (HOV.out W HG.out).mono ?_;cases X with
 | non=>exact absurd rfl hne
 | go n d' =>
  rintro e w2 ⟨he,g2⟩;have he':e = .returned (.tuple #[.agg #[.int .i64 n,.int .i64 d'],.bool true]):=he;subst he';have hb:=HB.out.gr g2;obtain⟨r0,r1,rf,rl⟩:=id hb;have hg3:=HG.out.trans g2;have HG3:=Lib.hid hg3;have Hb:=Lib.hid hb;clear hg3 g2 hb;go_wp2_with fail;refine Z124 ?_;intro WF q0 q1 qf ql gF;exact bodyPost_ret (v := .tuple #[.agg #[.int .i64 n,.int .i64 d'],.bool true]) (by simp[results,Tryz.results88,go_sem,q0,q1,qf,ql]) rfl ⟨by simp[OvPost],gF⟩
 | no =>
  rintro e w2 ⟨he,g2⟩;obtain⟨n,d',he'⟩:∃n d':Int,e = .returned (.tuple #[.agg #[.int .i64 n,.int .i64 d'],.bool false]):=he;subst he';have hb:=HB.out.gr g2;obtain⟨r0,r1,rf,rl⟩:=id hb;have hg3:=HG.out.trans g2;have HG3:=Lib.hid hg3;have Hb:=Lib.hid hb;clear hg3 g2 hb;go_wp2_with fail;refine Z124 ?_;intro WF q0 q1 qf ql gF;exact bodyPost_ret (v := .tuple #[.agg #[.int .i64 n,.int .i64 d'],.bool false]) (by simp[results,Tryz.results88,go_sem,q0,q1,qf,ql]) rfl ⟨by simp[OvPost],gF⟩
structure LastS (bK gk gs m ck cs:Nat) (wd:ByteArray) (a b:Nat) (w:World):Prop where
 k0:w.cell? ⟨bK,0,none⟩=some (.slice (some ⟨gk,0,none⟩) (m+1) ck)
 k1:w.cell? ⟨bK,1,none⟩=some (.slice (some ⟨gs,0,none⟩) (m+1) cs)
 w0:w.cell? ⟨gk,m,none⟩=some (.string wd)
 a0:w.cell? ⟨gs,m*2,none⟩=some (.int .i64 a)
 b0:w.cell? ⟨gs,m*2+1,none⟩=some (.int .i64 b)
set_option maxRecDepth 100000 in
theorem tt_last (w:World) (gk gs m ck cs:Nat) (wd:ByteArray) (a b:Nat) (hm:m≤9223372036854775806) (hgk:gk<w.heap.size) (hgs:gs<w.heap.size)
    (hw:w.cell? ⟨gk,m,none⟩=some (.string wd)) (ha:w.cell? ⟨gs,m*2,none⟩=some (.int .i64 a)) (hb:w.cell? ⟨gs,m*2+1,none⟩=some (.int .i64 b)) :
    Calls Tryz.prog 38 #[.agg #[.slice (some ⟨gk,0,none⟩) (m+1) ck,.slice (some ⟨gs,0,none⟩) (m+1) cs]] w fun e w'=>e = .returned (.tuple #[.string wd,.agg #[.int .i64 a,.int .i64 b]])∧Gr w w':=by
 have j3:(0:Int)≤(m:Int):=by omega
 have j4:(m:Int)<((m+1:Nat):Int):=by omega
 have j5:(m:Int)<(m:Int)+1:=by omega
 have hmx:m<9223372036854775807:=by omega
 refine Z288 ?_;intro wm;have wm2:IntKind.i64.wrap (((m+1:Nat):Int)-1)=(m:Int):=by rw[IntWalk.i64_in _ ⟨by omega,by omega⟩];omega
 go_enter Tryz.func38,Tryz.ntmps38
 go_upto_region 1 with fail
 obtain⟨W,hW⟩:∃W,(w.alloc (.cells #[.slice (some ⟨gk,0,none⟩) (m+1) ck,.slice (some ⟨gs,0,none⟩) (m+1) cs] 77)).alloc (.cells #[.int .i64 0,.int .i64 0] 73)=W:=⟨_,rfl⟩
 have gW:Gr w W:=by rw[←hW];exact ((Gr.refl w).alloc _).alloc _
 have hB0:FX w.heap.size (.slice (some ⟨gk,0,none⟩) (m+1) ck) (.slice (some ⟨gs,0,none⟩) (m+1) cs) W:=by rw[←hW];exact (FX.new w _ _ 77).gr ((Gr.refl _).alloc _)
 have hB1:FX (w.heap.size+1) (.int .i64 0) (.int .i64 0) W:=by
  rw[←hW];have:=FX.new (w.alloc (.cells #[.slice (some ⟨gk,0,none⟩) (m+1) ck,.slice (some ⟨gs,0,none⟩) (m+1) cs] 77)) (.int .i64 0) (.int .i64 0) 73;exact J14
 rw[hW];clear hW;have hgk':=Nat.lt_of_lt_of_le hgk gW.size;have hgs':=Nat.lt_of_lt_of_le hgs gW.size;have hS:LastS w.heap.size gk gs m ck cs wd a b W.drew :=
  ⟨hB0.1,hB0.2.1,(gW.drew.use.1 _ _ hgk).trans hw,(gW.drew.use.1 _ _ hgs).trans ha,(gW.drew.use.1 _ _ hgs).trans hb⟩
 have HB1:=Lib.hid hB1;have HG:=Lib.hid gW;obtain⟨r0,r1,rf,rl⟩:=hB1;clear hB0 gW hw ha hb;refine Reg.begin' (W:=fun i=>i != 17) (S:=LastS w.heap.size gk gs m ck cs wd a b) (by kernel_rfl) ?_;refine Reg.ty 0 ?_;refine Reg.tl 1 hS ?_ (hy:=by intro w hSw;obtain⟨s1,s2,s3,s4,s5⟩:=hSw;go_simp;try with_reducible rfl);refine Reg.ty 2 ?_;refine Reg.tl 3 hS ?_ (hy:=by intro w hSw;obtain⟨s1,s2,s3,s4,s5⟩:=hSw;go_simp;try with_reducible rfl);refine Z307 ?_;refine Reg.tl 7 hS ?_ (hy:=by intro w hSw;obtain⟨s1,s2,s3,s4,s5⟩:=hSw;go_simp;try with_reducible rfl);refine Reg.ty 8 ?_;refine Reg.tl 9 hS ?_ (hy:=by intro w hSw;obtain⟨s1,s2,s3,s4,s5⟩:=hSw;go_simp;try with_reducible rfl);refine Reg.ty 10 ?_;refine Reg.tl 11 hS ?_ (hy:=by intro w hSw;obtain⟨s1,s2,s3,s4,s5⟩:=hSw;go_simp;try with_reducible rfl);refine Z47 ?_;refine Reg.tl 15 hS ?_ (hy:=by intro w hSw;obtain⟨s1,s2,s3,s4,s5⟩:=hSw;go_simp;try with_reducible rfl);refine Reg.ty 16 ?_;refine Z188 ?_;refine Z2 ?_;refine Z12 ?_;go_wp2_with fail;have hF:=HB1.out.set (.int .i64 a) (.int .i64 b);have gF:Gr w _:=((HG.out).setCell (p:=⟨w.heap.size+1,0,none⟩) (Nat.le_succ _) (.int .i64 a)).setCell (p:=⟨w.heap.size+1,1,none⟩) (Nat.le_succ _) (.int .i64 b);obtain⟨WF,hWF⟩:∃W',((W.setCell ⟨w.heap.size+1,0,none⟩ (.int .i64 a)).setCell ⟨w.heap.size+1,1,none⟩ (.int .i64 b))=W':=⟨_,rfl⟩
 rw[hWF]at hF gF;rw[hWF];clear hWF;obtain⟨q0,q1,qf,ql⟩:=hF.gr (Gr.refl WF).drew;exact bodyPost_ret (v := .tuple #[.string wd,.agg #[.int .i64 a,.int .i64 b]]) (by simp[results,Tryz.results38,go_sem,q0,q1,qf,ql]) rfl ⟨rfl,gF.drew⟩
end Go.Proofs.YtfogfaagjpebcaaGreatDoor
namespace Go.Proofs.YtfogfaagjpebcaaGreatDoor
open Go.RowKit Go.Shelf Go.Joins
attribute [local go_sem] Oper.semAt_some
theorem setCell_self {w:World} {b o:Nat} {v:Value} (h:w.cell? ⟨b,o,none⟩=some v):w.setCell ⟨b,o,none⟩ v=w:=by
 unfold World.setCell;congr 1;refine Array.ext_getElem? fun k=>?_
 rw[Array.getElem?_modify]
 split
 · rename_i hk
   have hk:b=k:=hk;subst hk;unfold World.cell? at h;simp only at h
   split at h
   · rename_i c _ _ hb
     rw[hb];simp only[Option.map_some,Option.isSome_none,Bool.false_eq_true,if_false]at h ⊢;congr 2;refine Array.ext_getElem? fun j=>?_
     rw[Array.getElem?_setIfInBounds]
     split
     · rename_i hj
       subst hj
       split
       · exact h.symm
       rename_i h2;rw[Array.getElem?_eq_none (by omega)]
     rfl
   cases h
 rfl
theorem ownsMapS_le {w:World} {k b n m:Nat} {D:mapD} (h:w.ownsMap Tryz.prog k sortR b n D) (hm:n≤m):w.ownsMap Tryz.prog k sortR b m D:=by
 obtain⟨es,clock,h1,F,hs,hD⟩:=h;exact⟨es,clock,h1,F,Nat.le_trans hs hm,hD⟩
theorem sec_block {w:World} {R:Nat} {c0 c1 c2 c3 c4 c5 c6 c7 c8:Value} {T:TypeId} (h:w.heap[R]?=some (.cells #[c0,c1,c2,c3,c4,c5,c6,c7,c8] T (0,0))) (a d m:Value) :
    (((w.setCell ⟨R,4,none⟩ a).setCell ⟨R,5,none⟩ d).setCell ⟨R,6,none⟩ m).heap[R]?=some (.cells #[c0,c1,c2,c3,a,d,m,c7,c8] T (0,0)) ∧
    (∀k,k≠R→(((w.setCell ⟨R,4,none⟩ a).setCell ⟨R,5,none⟩ d).setCell ⟨R,6,none⟩ m).heap[k]?=w.heap[k]?) ∧
    (((w.setCell ⟨R,4,none⟩ a).setCell ⟨R,5,none⟩ d).setCell ⟨R,6,none⟩ m).heap.size=w.heap.size:=by
 have h4:(w.setCell ⟨R,4,none⟩ a).heap[R]?=some (.cells #[c0,c1,c2,c3,a,c5,c6,c7,c8] T (0,0)):=by rw[block_setCell h];rfl
 have h5:((w.setCell ⟨R,4,none⟩ a).setCell ⟨R,5,none⟩ d).heap[R]?=some (.cells #[c0,c1,c2,c3,a,d,c6,c7,c8] T (0,0)):=by rw[block_setCell h4];rfl
 exact⟨by rw[block_setCell h5];rfl,fun k hk=>by rw[Below.heap_setCell _ _ _ _ hk,Below.heap_setCell _ _ _ _ hk,Below.heap_setCell _ _ _ _ hk],by simp[World.setCell]⟩
theorem GrV.setSec {w:World} {R B base:Nat} {s:ByteArray} {root:Int} {nv:Value} {L:List NdR} {own:Nat→Nat} {so:List (Nat × Nat)} {x:GrX} (h:GrV w R B base s root nv L own so x) (a d m:Nat) (hm:x.many≤m) :
    GrV (((w.setCell ⟨R,4,none⟩ (.int .i64 a)).setCell ⟨R,5,none⟩ (.int .i64 d)).setCell ⟨R,6,none⟩ (.int .i64 m)) R B base s root nv L own so { x with sec:=a,dep:=d,many:=m }:=by
 obtain⟨k1,k2,k3⟩:=sec_block h.blk (.int .i64 a) (.int .i64 d) (.int .i64 m);obtain⟨D,h1,h2⟩:=h.map;have hBR:B≠R:=fun e=>by have h1:=h.oR;rw[←e,h.oB]at h1;omega
 exact h.turn rfl k1 ⟨D,ownsMapS_of_block (ownsMapS_le h1 (by simp only;omega)) (k2 B hBR),h2⟩ (fun k _ hk _=>k2 k hk) (Nat.le_of_eq k3.symm) (fun i r hr hg => .inl hg)
theorem getD_set {so:List (Nat × Nat)} {i:Nat} (hi:i<so.length) (t:Nat × Nat) (j:Nat):(so.set i t).getD j (0,0)=if j=i then t else so.getD j (0,0):=by
 rw[List.getD_eq_getElem?_getD,List.getD_eq_getElem?_getD,List.getElem?_set];by_cases h:i=j
 · subst h;simp[hi]
 rw[if_neg h,if_neg (fun e=>h e.symm)]
theorem Grown.lt {so:List (Nat × Nat)} {i:Nat} (h:Grown so i):i<so.length:=by
 refine Nat.lt_of_not_le fun hle=>h ?_
 rw[List.getD_eq_getElem?_getD,List.getElem?_eq_none hle];rfl
theorem GrV.sectioned {w w3:World} {R B base:Nat} {s:ByteArray} {root:Int} {nv:Value} {L:List NdR} {own:Nat→Nat} {so:List (Nat × Nat)} {x:GrX} (h:GrV w R B base s root nv L own so x) (i:Nat) (hi:Grown so i) {D:mapD} (hD:Sorts D so)
    (hm:w3.ownsMap Tryz.prog 3 sortR B (so.length+x.many+1) (D.put (.int .i64 i) (sortD (1,0)))) (h3:w.grownBy w3 (some B)) (a d:Nat) :
    GrV (((w3.setCell ⟨R,4,none⟩ (.int .i64 a)).setCell ⟨R,5,none⟩ (.int .i64 d)).setCell ⟨R,6,none⟩ (.int .i64 ((x.many+1:Nat):Int))) R B base s root nv L own (so.set i (1,0)) { x with sec:=a,dep:=d,many:=x.many+1 }:=by
 have hBR:B≠R:=fun e=>by have h1:=h.oR;rw[←e,h.oB]at h1;omega
 have hb:∀k,k<w.heap.size→k≠B→w3.heap[k]?=w.heap[k]?:=fun k hk hne=>h3.block k hk (fun e=>hne (Option.some.inj e))
 obtain⟨k1,k2,k3⟩:=sec_block ((hb R h.R_lt.2 (Ne.symm hBR)).trans h.blk) (.int .i64 a) (.int .i64 d) (.int .i64 ((x.many+1:Nat):Int));have hil:=hi.lt;have h3z:=h3.size;refine h.turn (by rw[List.length_set]) k1 ⟨_,ownsMapS_of_block (ownsMapS_le hm (by rw[List.length_set];simp only;omega)) (k2 B hBR),hD.put i (1,0) ?_ fun j hj=>?_⟩ (fun k hk hkR hkB=>(k2 k hkR).trans (hb k (h.lt k hk).2 hkB)) (by omega) (fun j r hr hg => .inl ?_)
 · rw[getD_set hil,if_pos rfl]
 · rw[getD_set hil,if_neg hj]
 unfold Grown at hg ⊢;rw[getD_set hil]at hg
 split at hg
 · rename_i e;subst e;exact hi
 exact hg
theorem nds_sub (L:List NdR) (i:Nat) (r:NdR) (hr:L[i]?=some r) (n:Nat) (kv sv uv:Value) :
    (L.set i ⟨{ r.nd with subs:=r.nd.subs++[n] },kv,sv,uv⟩).map (·.nd)=(L.map (·.nd)).modify i fun nd=>{ nd with subs:=nd.subs++[n] }:=by
 refine List.ext_getElem? fun k=>?_
 rw[List.getElem?_modify,List.getElem?_map,List.getElem?_map,List.getElem?_set];have hl:i<L.length:=(List.getElem?_eq_some_iff.1 hr).1;by_cases hk:i=k
 · subst hk;simp[hl,hr];have h2:=(List.getElem?_eq_some_iff.1 hr).2;rw[h2];exact⟨rfl,rfl,rfl,rfl,rfl,rfl,rfl⟩
 simp[hk]
def ElemMore (w w2:World) (R B base:Nat) (s:ByteArray) (L:List NdR) (own:Nat→Nat) (so:List (Nat × Nat)) (x:GrX) (i:Nat) (nd:Pl.Nd):Prop :=
 ∃nv' own' kv sv uv,GrV w2 R B base s 0 nv' ((L++[growR 8]).set i ⟨nd,kv,sv,uv⟩) own' (so++[(1,0)]) x∧St (FV own) (FV own') w w2∧(∀k,own' k≠0→own k≠0∨w.heap.size≤k)
structure ElS (R g i:Nat) (nv uv:Value) (w:World):Prop where
 c0:w.cell? ⟨R,0,none⟩=some nv
 u:w.cell? ⟨g,i*7+4,none⟩=some uv
set_option maxRecDepth 100000 in
theorem gr_element (w:World) (R B base:Nat) (s:ByteArray) (nv:Value) (L:List NdR) (own:Nat→Nat) (so:List (Nat × Nat)) (x:GrX) (h:GrV w R B base s 0 nv L own so x) (hL:L.length≤20000002) (hm:x.many≤30000000)
    (i:Nat) (r:NdR) (hr:L[i]?=some r) (h8:Grown so i) (hru:r.nd.subs.length≤30000000) :
    Calls Tryz.prog 63 #[.pointer (some ⟨R,0,none⟩),.int .i64 i] w fun e w'=>e = .returned (.int .i64 L.length)∧ElemMore w w' R B base s L own so x i { r.nd with subs:=r.nd.subs++[L.length] }:=by
 have HGRW:=Lib.hid (gr_grow w R B base s 0 nv L own so x h (by omega) hm 8 (1,0));have H:=Lib.hid h;have hsl:=h.sl;have hRw:=h.R_lt;clear h;go_enter Tryz.func63,Tryz.ntmps63;go_wp2_with fail;refine HGRW.out.mono ?_;rintro e w1 ⟨he,nv1,own1,GV1,ST1,ON1⟩;subst he;have hil:=(List.getElem?_eq_some_iff.1 hr).1;have hr1:(L++[growR 8])[i]?=some r:=by rw[List.getElem?_append_left hil];exact hr
 have h81:Grown (so++[(1,0)]) i:=by
  unfold Grown at h8 ⊢;rw[List.getD_eq_getElem?_getD,List.getElem?_append_left (by omega),←List.getD_eq_getElem?_getD];exact h8
 obtain⟨g,cap,cur,rfl,hgb,hgl,hgo,hgR,hgB,hgh,hcs,hLc,hcm,htk⟩:=GV1.form (by simp);obtain⟨⟨c0,c1,c2,c3,c4,c5,c6⟩,c7,c8,fz⟩:=GV1.cells;obtain⟨n0,n1,n2,n3,n4,n5,n6,nf⟩:=GV1.ndCells rfl i r hr1;have HC:Hid (PutC w1 own1 g i r):=⟨hgl,hgo,n2,n3,n4,nf⟩
 have hR:=GV1.R_lt;have hbase:base≤w1.heap.size:=by omega
 have hnd3:∀e0:{ r.nd with subs:=r.nd.subs++[L.length]:Pl.Nd }.subs.length=r.nd.subs.length+1,True:=fun _=>trivial
 have HEND:Hid (∀V uv,Rows3 w1 V base (FI own1 i) r.kv r.sv uv r.nd.keys.length r.nd.spots.length (r.nd.subs.length+1) (keysV r.nd.keys) (spotsV r.nd.spots) (subsV r.nd.subs++[.int .i64 L.length]) →
     ElemMore w (V.setCell ⟨g,i*7+4,none⟩ uv) R B base s L own so x i { r.nd with subs:=r.nd.subs++[L.length] }):=by
  intro V uv H3;have e3:({ r.nd with subs:=r.nd.subs++[L.length] }:Pl.Nd).subs.length=r.nd.subs.length+1:=by simp
  have e6:subsV ({ r.nd with subs:=r.nd.subs++[L.length] }:Pl.Nd).subs=subsV r.nd.subs++[.int .i64 L.length]:=by simp[subsV]
  have hp:=GV1.putDone i r hr1 { r.nd with subs:=r.nd.subs++[L.length] } rfl rfl rfl (kv:=r.kv) (sv:=r.sv) (uv:=uv) (W:=V) (by rw[e3,e6];exact H3);obtain⟨f2,f3,_,_⟩:=putF_of H3 HC.out;rw[setCell_self f2,setCell_self f3]at hp;obtain⟨own',kv',sv',uv',q1,q2,q3⟩:=hp;exact⟨_,own',kv',sv',uv',q1,ST1.trans q2,fun k hk=>(q3 k hk).elim (fun h=>ON1 k h) (fun h => .inr (Nat.le_trans ST1.size h))⟩
 have HR0':Rows3 w1 w1.drew base (FI own1 i) r.kv r.sv r.uv r.nd.keys.length r.nd.spots.length r.nd.subs.length (keysV r.nd.keys) (spotsV r.nd.spots) (subsV r.nd.subs):=GV1.start3 (Gr.refl w1).drew i r hr1 h81;have HELS:Hid (∀V kv sv uv nk ns nu xk xs xu,Rows3 w1 V base (FI own1 i) kv sv uv nk ns nu xk xs xu→ElS R g i (.slice (some ⟨g,0,none⟩) (L++[growR 8]).length cap) r.uv V):=by
  intro V kv sv uv nk ns nu xk xs xu H3;exact⟨((H3.st.use R hR.2 (fun e=>by have:=GV1.oR;unfold FI at e;omega)).1 0).trans c0,(putF_of H3 HC.out).2.2.1⟩
 obtain⟨iU,u1,u2,u3,u4⟩:=info_parts infoInt;have HIU:=Lib.hid (And.intro u1 (And.intro u2 (And.intro u3 u4)));have hi1:(0:Int)≤(i:Int):=by omega
 have hi2:(i:Int)<((L++[growR 8]).length:Int):=by rw[List.length_append];omega
 have hS0:=HELS.out _ _ _ _ _ _ _ _ _ _ HR0';obtain⟨n1L,hn1L⟩:∃n,(L++[growR 8]).length=n:=⟨_,rfl⟩
 rw[hn1L]at hS0 hi2 HELS;clear hnd3 h8 h81 u1 u2 u3 u4 fz hgh hcs htk hr hr1 n0 n1 n2 n3 n4 n5 n6 nf c0 c1 c2 c3 c4 c5 c6 c7 c8 GV1 ST1 ON1 hn1L
 go_upto_region 2 with fail
 refine Reg.begin' (W:=fun i=>i != 20) (S:=ElS R g i (.slice (some ⟨g,0,none⟩) n1L cap) r.uv) (by kernel_rfl) ?_;obtain⟨V0,hV⟩:∃V0,w1.drew=V0:=⟨_,rfl⟩
 rw[hV]at HR0' hS0 ⊢;clear hV;have HR0:=Lib.hid HR0';clear HR0';refine Z40 ?_;refine Reg.ty 3 ?_;refine Reg.tl 4 hS0 ?_ (hy:=by intro w hSw;obtain⟨s0,s1⟩:=hSw;go_simp;try with_reducible rfl);refine Reg.ty 5 ?_;refine Reg.ty 6 ?_;refine Z60 ?_;refine Reg.tl 10 hS0 ?_ (hy:=by intro w hSw;obtain⟨s0,s1⟩:=hSw;go_simp;try with_reducible rfl);refine Reg.ty 11 ?_;refine Reg.ty 12 ?_;refine Reg.ty 13 ?_;refine Reg.tl 14 hS0 ?_ (hy:=by intro w hSw;obtain⟨s0,s1⟩:=hSw;go_simp;try with_reducible rfl);refine Reg.ty 15 ?_;refine Reg.on 16 ?_;go_simp;have HR':=HR0.out.alloc (.cells #[.int .i64 L.length] 3);have NB':=HR0.out.newB #[.int .i64 L.length] 3;obtain⟨V1,hV⟩:∃V',V0.alloc (.cells #[.int .i64 L.length] 3)=V':=⟨_,rfl⟩
 rw[hV]at HR' NB' ⊢;clear hV;have HR1:=Lib.hid HR';have NB1:=Lib.hid NB';clear HR' NB';have hS1:=HELS.out _ _ _ _ _ _ _ _ _ _ HR1.out;refine Z100 ?_;refine Reg.on 17 ?_;refine wp_append_lies _ (.tmp 23) (.tmp 25) 51 (by rfl) base 3 iU _ 1 8 Tryz.underlying51 HIU.out.1 HIU.out.2.1 HIU.out.2.2.1 HIU.out.2.2.2 (by rfl) (by decide) r.uv r.nd.subs.length (subsV r.nd.subs) (by rfl) HR1.out.u _ 1 1 [.int .i64 L.length] (by rfl) (by rfl) (World.news_of_block NB1.out.blk) (by simp[Value.oneCell']) (by decide) (by unfold maxLen;omega) (by omega) (Nat.le_trans hbase HR1.out.size) _ rfl ?_;intro gU capU V2 ho hg ha hz;have HR2:=Lib.hid (HR1.out.appU ho hg ha);clear ho hg ha hz;have hS2:=HELS.out _ _ _ _ _ _ _ _ _ _ HR2.out;refine Z238 ?_;refine Reg.ty 18 ?_;refine Reg.ty 19 ?_;obtain⟨hcg2,hcg3,hcg4,hfg⟩:=putF_of HR2.out HC.out;refine Reg.on 20 ?_;refine Z292 ?_;go_wp2_with fail;exact bodyPost_ret (v := .int .i64 L.length) (by simp[results,Tryz.results63,go_sem]) rfl ⟨rfl,HEND.out _ _ HR2.out⟩
end Go.Proofs.YtfogfaagjpebcaaGreatDoor
