/-
 The walks and plain laws that the claim rests on, part 45.
-/
import Derived.Test.YtfogfaagjpebcaaGreatDoorP00
import Derived.Test.YtfogfaagjpebcaaGreatDoorP44
import Derived.Test.YtfogfaagjpebcaaGreatDoorP47
import Derived.Shelf.Strconv.Quoted
import Derived.Shelf.Unicode.DecodeSlow
import Derived.Laws.BytesArg
set_option maxHeartbeats 16000000
set_option linter.all false
set_option linter.unusedVariables false
set_option linter.unusedSimpArgs false
namespace Go.Proofs.YtfogfaagjpebcaaGreatDoor
open Go.RowKit Go.Shelf Go.Joins
attribute [local go_sem] Oper.semAt_some
theorem clip_strs_rowC {w:World} {base n:Nat} {v:Value} {xs:List Value} (h:RowC w base 9 1 v n xs) (W:World):Calls Tryz.prog 28 #[v] W fun e w'=>e = .returned (clipV v)∧W=w':=by
 rcases rowC_form h with⟨rfl,_⟩|⟨g,cap,rfl,h1,h2⟩
 · exact clip_strs0 W
 exact clip_strs g n cap h1 h2 W
theorem clip_spans_rowC {w:World} {base n:Nat} {v:Value} {xs:List Value} (h:RowC w base 73 2 v n xs) (W:World):Calls Tryz.prog 29 #[v] W fun e w'=>e = .returned (clipV v)∧W=w':=by
 rcases rowC_form h with⟨rfl,_⟩|⟨g,cap,rfl,h1,h2⟩
 · exact clip_spans0 W
 exact clip_spans g n cap h1 h2 W
theorem GrV.start (w:World) (base:Nat) (s:ByteArray) (hb:base≤w.heap.size) :
    GrV ((w.alloc (.map #[] 0)).alloc (.cells #[nilV,.int .i64 0,.string s,.map (some w.heap.size),.int .i64 0,.int .i64 0,.int .i64 0,nilV,nilV] 62)) (w.heap.size+1) w.heap.size base s 0 nilV [] (fun k=>if k=w.heap.size+1 then 1 else if k=w.heap.size then 2 else 0) [] ⟨0,0,0,nilV,nilV⟩:=by
 refine⟨?_,by simp,?_,nilRow _ _ _ _,tag_nil _ _,?_,fun i r hr=>by simp at hr,?_,rfl⟩
 · have:=heap_alloc_new (w.alloc (.map #[] 0)) (.cells #[nilV,.int .i64 0,.string s,.map (some w.heap.size),.int .i64 0,.int .i64 0,.int .i64 0,nilV,nilV] 62);exact J14
 · rw[if_neg (by omega),if_pos rfl]
 · refine⟨.map [],?_,⟨[],rfl⟩,fun i=>rfl⟩;have h1:(w.alloc (.map #[] 0)).ownsMap Tryz.prog 3 sortR w.heap.size 0 (.map []):=World.ownsMap_made _ _ _ _;exact ownsMapS_of_block h1 (((Gr.refl _).alloc _).block (by simp))
 exact J125
theorem CutI.treeG {w7 wr wF:World} {R B base g cap:Nat} {s:ByteArray} {root:Int} {L:List NdR} {own:Nat→Nat} {so:List (Nat × Nat)} {x:GrX} (h:CutI w7 R base g cap L L.length wr) (hr:GrV w7 R B base s root (.slice (some ⟨g,0,none⟩) L.length cap) L own so x)
    (hb:∀k,own k≠0→own k≠1→wF.heap[k]?=wr.heap[k]?) (hz:wr.heap.size≤wF.heap.size):TreeV wF base g (L.map clipR):=by
 have hgo:own g=3:=hr.oN g rfl;have hgl:=hr.lt g (by omega);have e:(L.take L.length).map clipR++L.drop L.length=L.map clipR:=by simp
 have h1:=h.1;rw[e]at h1;refine⟨⟨hgl.1,Nat.lt_of_lt_of_le hgl.2 (Nat.le_trans h.2.2.1 hz)⟩,fun i r hi j v hv=>?_,fun i r hi=>?_,own,hgo,fun i r hi=>?_⟩
 · exact J53
 · rw[List.getElem?_map]at hi;cases hx:L[i]? with
   | none=>rw[hx]at hi;cases hi
   | some x =>
   rw[hx]at hi;cases hi;have hR:=hr.rows i x hx;have hb:∀k t,own k=t→4≤t→wF.heap[k]?=w7.heap[k]?:=fun k t e h4=>(hb k (by omega) (by omega)).trans (h.2.1 k (hr.lt k (by omega)).2 (fun e2=>by subst e2;omega))
   exact⟨rowC_clip2 (hR.k.of_block fun k e=>hb k _ (hR.tk k e) (by omega)),rowC_clip2 (hR.s.of_block fun k e=>hb k _ (hR.ts k e) (by omega)),rowC_clip2 (hR.u.of_block fun k e=>hb k _ (hR.tu k e) (by omega))⟩
 exact J115
def GrownP (w:World) (X:Pl.Res Pl.Gst) (e:Ending) (w':World):Prop:=match X with
 | .non=>True
 | .bad c p=>e = .returned (.tuple #[.pointer none,fv c p])∧c≠0∧Gr w w'
 | .ok g=>∃(R gn:Nat) (L:List NdR),e = .returned (.tuple #[.pointer (some ⟨R,0,none⟩),f0])∧R<w'.heap.size∧w.heap.size≤R∧w'.cell? ⟨R,0,none⟩=some (.slice (some ⟨gn,0,none⟩) L.length L.length)∧w'.cell? ⟨R,1,none⟩=some (.int .i64 0)∧L.map (·.nd)=g.nds∧TreeV w' w.heap.size gn L∧Gr w w'
def GrownI (E:Pl.Env) (s:ByteArray) (w:World) (R B:Nat) (X:Pl.Res Pl.Gst) (k:Nat) (v:Value) (wr:World):Prop :=
 ∃(m:Nat) (g:Pl.Gst) (nv:Value) (L:List NdR) (own:Nat→Nat) (x:GrX),v = .int .i64 m∧Pl.grownF E (bs s) k m g=X∧GM wr R B (w.heap.size+1) s nv L own x g∧GI wr (w.heap.size+1) own x.iv x.nsv g.its.length∧FX w.heap.size (.int .i64 0) (.int .i64 0) wr∧Gr w wr∧0<g.nds.length
set_option maxRecDepth 100000 in
theorem gr_grown (Tb:Nat→UInt8 × UInt8) (w:World) (hRW:RW Tb w) (s:ByteArray) (hs:s.size≤20000000) (ba:Option Addr) (bn bc:Nat) (hcv:∀W,Gr w W→(convert 34 9 (.slice ba bn bc)).run Tryz.prog W = .ok (.string s) W) (X:Pl.Res Pl.Gst) (hX:Pl.grownS ⟨Pl.strS Tb,Pl.scalS⟩ (bs s)=X) (hne:X ≠ .non) :
    Calls Tryz.prog 16 #[.slice ba bn bc] w (GrownP w X):=by
 have HX:=Lib.hid hX;have HRW:=Lib.hid hRW;have HNE:=Lib.hid hne;have hmm := @run_makeMap Tryz.prog;obtain⟨hF0,g0,z0⟩:=bx2 w (.int .i64 0) (.int .i64 0) 31;obtain⟨W0,hW0⟩:∃W0,w.alloc (.cells #[.int .i64 0,.int .i64 0] 31)=W0:=⟨_,rfl⟩
 rw[hW0]at hF0 g0 z0;have hcv0:=hcv W0 g0;have hstart:=GrV.start W0 (w.heap.size+1) s (by omega);have HW0:=Lib.hid hW0;clear hX hRW hne;go_enter Tryz.func16,Tryz.ntmps16
 go_upto_region 1 with fail
 try rw[show w.alloc (.cells #[.int .i64 0,.int .i64 0] 31)=W0 from HW0.out]
 clear hW0;go_wp2_with fail;rw[z0]at hstart;obtain⟨W1,hW1⟩:∃W1,(W0.alloc (.map #[] 0)).alloc (.cells #[nilV,.int .i64 0,.string s,.map (some (w.heap.size+1)),.int .i64 0,.int .i64 0,.int .i64 0,nilV,nilV] 62)=W1:=⟨_,rfl⟩
 have g1:Gr W0 W1:=by rw[←hW1];exact ((Gr.refl W0).alloc _).alloc _
 have z1:W1.heap.size=w.heap.size+1+1+1:=by rw[←hW1];simp[z0]
 rw[hW1]at hstart ⊢;clear hW1 hcv0;refine (gr_grow W1 (w.heap.size+1+1) (w.heap.size+1) (w.heap.size+1) s 0 nilV [] _ [] _ hstart (by simp) (by simp) 8 (1,0)).mono ?_;rintro e w1 ⟨he,nv1,own1,GV1,ST1,ON1⟩;subst he;obtain⟨⟨c0,c1,c2,c3,c4,c5,c6⟩,c7,c8,fz⟩:=GV1.cells;have hR1:=GV1.R_lt.2;have hzz1:=ST1.size;have hFz:FX w.heap.size (.int .i64 0) (.int .i64 0) w1:=(hF0.gr g1).st ST1 (fun e=>by
  replace e:(if w.heap.size=w.heap.size+1+1 then (1:Nat) else if w.heap.size=w.heap.size+1 then 2 else 0)≠0:=e
  rw[if_neg (by omega),if_neg (by omega)]at e;exact e rfl)
 have hG1:Gr w w1:=ST1.below (g0.trans g1) (fun k e=>by
  replace e:(if k=w.heap.size+1+1 then (1:Nat) else if k=w.heap.size+1 then 2 else 0)≠0:=e
  by_cases h1:k=w.heap.size+1+1
  · omega
  rw[if_neg h1]at e;by_cases h2:k=w.heap.size+1
  · omega
  rw[if_neg h2]at e;exact absurd rfl e)
 have GV2:=GV1.setSec 0 1 0 (Nat.le_refl _);have hc6:((w1.setCell ⟨w.heap.size+1+1,4,none⟩ (.int .i64 ((0:Nat):Int))).setCell ⟨w.heap.size+1+1,5,none⟩ (.int .i64 ((1:Nat):Int))).cell? ⟨w.heap.size+1+1,6,none⟩=some (.int .i64 ((0:Nat):Int)):=by
  rw[World.cell?_setCell_other _ _ _ _ (by simp),World.cell?_setCell_other _ _ _ _ (by simp)];exact c6
 rw[setCell_self hc6]at GV2;have hsS:St (FV own1) (FV own1) w1 ((w1.setCell ⟨w.heap.size+1+1,4,none⟩ (.int .i64 ((0:Nat):Int))).setCell ⟨w.heap.size+1+1,5,none⟩ (.int .i64 ((1:Nat):Int))):=by
  have hR0:FV own1 (w.heap.size+1+1):=by unfold FV;rw[GV1.oR];omega
  exact ((St.refl (FV own1) w1).setCell (p:=⟨w.heap.size+1+1,4,none⟩) (.inl hR0) _).setCell (p:=⟨w.heap.size+1+1,5,none⟩) (.inl hR0) _
 have o0:own1 w.heap.size=0:=Decidable.byContradiction fun h=>by have:=(GV1.lt _ h).1;omega
 have hF2:=hFz.st hsS (fun e=>e o0);have hG2:Gr w ((w1.setCell ⟨w.heap.size+1+1,4,none⟩ (.int .i64 ((0:Nat):Int))).setCell ⟨w.heap.size+1+1,5,none⟩ (.int .i64 ((1:Nat):Int))):=hsS.below hG1 (fun k e=>by have:=(GV1.lt k e).1;omega);have HC1:=Lib.hid c1;go_wp2_with fail;rw[setCell_self HC1.out];obtain⟨W2,hW2⟩:∃W2,(w1.setCell ⟨w.heap.size+1+1,4,none⟩ (.int .i64 0)).setCell ⟨w.heap.size+1+1,5,none⟩ (.int .i64 1)=W2:=⟨_,rfl⟩
 have GV3:GrV W2 (w.heap.size+1+1) (w.heap.size+1) (w.heap.size+1) s 0 nv1 [growR 8] own1 [(1,0)] ⟨0,1,0,nilV,nilV⟩:=by rw[←hW2];exact GV2
 have hF3:FX w.heap.size (.int .i64 0) (.int .i64 0) W2:=by rw[←hW2];exact hF2
 have hG3:Gr w W2:=by rw[←hW2];exact hG2
 rw[hW2];have HGV3:=Lib.hid GV3;have HF3:=Lib.hid hF3;have HG3:=Lib.hid hG3;clear hW2 GV2 GV3 hF2 hF3 hG2 hG3 hsS hc6 hFz hG1 c0 c1 c2 c3 c4 c5 c6 c7 c8 fz GV1 ST1 ON1 hstart g1 hF0 g0
 go_loopg [5] ((bs s).length+1) (fun k v wr=>GrownI ⟨Pl.strS Tb,Pl.scalS⟩ s w (w.heap.size+1+1) (w.heap.size+1) X k v wr)
 case atStart =>
  exact⟨0,Pl.gst0,nv1,[growR 8],own1,⟨0,1,0,nilV,nilV⟩,rfl,HX.out,⟨HGV3.out,rfl,rfl,rfl,rfl⟩,⟨⟨[],nilRow _ _ _ _⟩,⟨[],nilRow _ _ _ _⟩,fun k e=>by simp[Value.ownBlock]at e,fun k e=>by simp[Value.ownBlock]at e,fun k e=>by simp[Value.ownBlock]at e⟩,HF3.out,HG3.out,by decide⟩
 case round =>
  obtain⟨m,g,nv,L,own,x,rfl,hgf,hgm,hgi,hfx,hgr,hpos⟩:=hrel;obtain⟨gk,rfl⟩:∃f,gk=f+1:=by
   cases gk with
   | zero=>exact absurd hgf.symm HNE.out
   | succ f=>exact⟨f,rfl⟩
  rw[Pl.grownF,bs_length]at hgf;obtain⟨⟨c0,c1,c2,c3,c4,c5,c6⟩,c7,c8,fz⟩:=hgm.v.cells;have hR:=hgm.v.R_lt.2;have HGM:=Lib.hid hgm;have HGI:=Lib.hid hgi;have HFX:=Lib.hid hfx;have HGR:=Lib.hid hgr;by_cases hms:m<s.size
  · rw[if_pos hms]at hgf;have d1:decide ((m:Int)<(s.size:Int))=true:=by simp;omega
    have d2:decide (m<s.size)=true:=by simp;omega
    cases hok:Pl.okG g with
    | false=>rw[hok,if_neg (by simp)]at hgf;exact absurd hgf.symm HNE.out
    | true =>
     rw[hok,if_pos rfl]at hgf;obtain⟨Y,hY⟩:∃Y,Pl.itemG ⟨Pl.strS Tb,Pl.scalS⟩ (bs s) m g=Y:=⟨_,rfl⟩
     rw[hY]at hgf;have hYn:Y ≠ .non:=fun e=>by rw[e]at hgf;exact HNE.out hgf.symm
     have HITEM:=Lib.hid (gr_item Tb w wr hgr HRW.out (w.heap.size+1+1) (w.heap.size+1) (w.heap.size+1) (by omega) s hs nv L own x g hgm hok hgi m hms Y hY hYn);have HGF:=Lib.hid hgf;have HY:=Lib.hid hY;clear hgf hgm hgi hfx hgr c0 c1 c3 c4 c5 c6 c7 c8 fz hY hok;go_wp2_with fail;refine HITEM.out.mono ?_;cases Y with
     | non=>exact absurd rfl hYn
     | bad c p =>
      rintro e w2 ⟨he,hc0,hU⟩;subst he;have hF2:=HFX.out.st hU (by omega);have hG2:Gr w w2:=hU.below HGR.out (fun k e=>by omega);refine Z159 ?_;intro W3 hW3 HW3 hT g3 z3;clear hW3 c2;go_wp2_with fail
      try rw[show w2.alloc (.cells #[.int .i64 c,.int .i64 p] 31)=W3 from HW3.out]
      refine Z181 ?_;intro w4 g4;have hT4:=hT.gr g4;have hF4:=(hF2.gr g3).gr g4;have hG4:=(hG2.trans g3).trans g4;have hne2:w.heap.size≠w2.heap.size:=by have:=hF2.2.2.2;omega
      obtain⟨p0,p1,pf,pl⟩:=id hF4
      go_upto_region 8 with fail
      have hS:=hT4.gr (Gr.refl w4).drew;refine Reg.begin' (W:=fun i=>i != 2) (S:=FX w2.heap.size (.int .i64 c) (.int .i64 p)) (by kernel_rfl) ?_;refine Reg.tl 0 hS ?_ (hy:=by intro w hSw;obtain⟨s0,s1,s2,s3⟩:=hSw;go_simp;try with_reducible rfl);refine Reg.on 1 ?_;go_simp;refine Z2 ?_;refine Reg.on 2 ?_;refine Z292 ?_;go_wp2_with fail;have hFF:=hF4.set (.int .i64 c) (.int .i64 p);have hGF:=(hG4.setCell (p:=⟨w.heap.size,0,none⟩) (Nat.le_refl _) (.int .i64 c)).setCell (p:=⟨w.heap.size,1,none⟩) (Nat.le_refl _) (.int .i64 p);obtain⟨WF,hWF⟩:∃WF,(w4.setCell ⟨w.heap.size,0,none⟩ (.int .i64 c)).setCell ⟨w.heap.size,1,none⟩ (.int .i64 p)=WF:=⟨_,rfl⟩
      rw[hWF]at hFF hGF;rw[hWF];obtain⟨q0,q1,qf,ql⟩:=hFF.gr (Gr.refl WF).drew;have hgf:=HGF.out
      try simp only at hgf
      rw[←hgf];exact bodyPost_ret (v := .tuple #[.pointer none,fv c p]) (by simp[results,Tryz.results16,go_sem,q0,q1,qf,ql]) rfl ⟨rfl,hc0,hGF.drew⟩
     | ok r =>
      obtain⟨e1,g2⟩:=r;rintro e w2 ⟨nv2,L2,own2,x2,he,hgm2,hgi2,hU⟩;subst he;have hF2:=HFX.out.st hU (by omega);have hG2:Gr w w2:=hU.below HGR.out (fun k e=>by omega);refine Z304 ?_;intro hT g3 z3;clear c2;go_wp2_with fail;refine Z206 ?_;intro w4 g4;have g34:=g3.trans g4;go_wp2_with fail
      go_roundg gk
      case rel =>
       have hgf:=HGF.out
       try simp only at hgf
       exact⟨e1,g2,nv2,L2,own2,x2,rfl,hgf,hgm2.gr g34,hgi2.gr g34,hF2.gr g34,hG2.trans g34,Nat.lt_of_lt_of_le hpos (its_item HY.out)⟩
      case measure=>first|omega|(simp;done)|(simp;omega)
  rw[if_neg hms]at hgf;have d1:decide ((m:Int)<(s.size:Int))=false:=by simp;omega
  have d2:decide (m<s.size)=false:=by simp;omega
  subst hgf;obtain⟨gn,cap,cur,hnv,hgb,hgl,hgo,hgR,hgB,hgh,hgs,hgc,hgm',hgt⟩:=HGM.out.v.form (by rw[←HGM.out.nd,List.length_map]at hpos;exact hpos);subst hnv;have hcut0:CutI wr (w.heap.size+1+1) (w.heap.size+1) gn cap L 0 wr:=by
   refine⟨?_,fun _ _ _=>rfl,Nat.le_refl _,rfl,rfl,rfl⟩
   simpa using HGM.out.v.nodes
  have HCUT0:=Lib.hid hcut0;have hLm:L.length≤9223372036854775807:=by unfold maxLen at hgm';omega
  have HCAP:=Lib.hid (show L.length≤cap∧cap≤9223372036854775807 from ⟨hgc,by unfold maxLen at hgm';omega⟩);have c1':=c1;clear hgh hgs hgt hcut0 hgm' hgm hgi hfx hgr c1 c3 c4 c5 c6 c7 c8;obtain⟨wo,hwo⟩:∃wo,wo=wr:=⟨_,rfl⟩
  subst hwo;go_wp2_with fail
  go_loopw [55] (fun v W=>∃j:Nat,v = .int .i64 j∧j≤L.length∧CutI wo (w.heap.size+1+1) (w.heap.size+1) gn cap L j W) (fun v _=>L.length-(intOf v).toNat)
  case atStart=>exact⟨0,rfl,Nat.zero_le _,HCUT0.out⟩
  case round =>
   obtain⟨j,rfl,hj,hcut⟩:=hrel;have HCUT:=Lib.hid hcut;have hRg:w.heap.size+1+1≠gn:=Ne.symm hgR;have hR2:=HGM.out.v.R_lt.2;have hRb:=hcut.2.1 (w.heap.size+1+1) hR2 hRg;have q0:wr.cell? ⟨w.heap.size+1+1,0,none⟩=some (.slice (some ⟨gn,0,none⟩) L.length cap):=(World.cell?_of_block (w:=wo) (a:=⟨w.heap.size+1+1,0,none⟩) hRb).trans c0;have q1:wr.cell? ⟨w.heap.size+1+1,1,none⟩=some (.int .i64 0):=(World.cell?_of_block (w:=wo) (a:=⟨w.heap.size+1+1,1,none⟩) hRb).trans c1';have qz:∀o,wr.frozen? ⟨w.heap.size+1+1,o,none⟩=false:=fun o=>(World.frozen?_of_block (w:=wo) (a:=⟨w.heap.size+1+1,o,none⟩) hRb).trans (fz o)
   clear hcut hRb;by_cases hjl:j<L.length
   · have e1:decide ((j:Int)<(L.length:Int))=true:=by simp;omega
     have e2:decide (j<L.length)=true:=by simp;omega
     refine Z287 ?_;intro i1;have i2:(j:Int)<(L.length:Int):=by omega
     refine Z194 ?_;intro wj;obtain⟨rj,hrj⟩:∃rj,L[j]?=some rj:=⟨_,List.getElem?_eq_getElem hjl⟩
     have HRJ:=Lib.hid hrj;have HRW2:=Lib.hid (HGM.out.v.rows j rj hrj);have hS:CutNd gn j rj wr.drew:=HCUT.out.cells rj hrj;have hstep:=HCUT.out.step rj hrj;obtain⟨ka,kn,hka⟩:=clip_litC HRW2.out.k;obtain⟨sa,sn,hsa⟩:=clip_litC HRW2.out.s;obtain⟨ua,un,hua⟩:=clip_litC HRW2.out.u;have hkc:=clip_strs_rowC HRW2.out.k;have hsc:=clip_spans_rowC HRW2.out.s;have huc:=clip_ints_rowC HRW2.out.u;rw[hka]at hkc hstep;rw[hsa]at hsc hstep;rw[hua]at huc hstep;have HKC:=Lib.hid hkc;have HSC:=Lib.hid hsc;have HUC:=Lib.hid huc;have HSTEP:=Lib.hid hstep;clear hrj hstep hka hsa hua hkc hsc huc
     go_upto_region 14 with fail
     refine Reg.begin' (W:=fun i=>i != 20 && i != 23 && i != 26) (S:=CutNd gn j rj) (by kernel_rfl) ?_;refine Z294 ?_;obtain⟨p1,p2,p3,pf⟩:=(show CutNd gn j rj wr from hS)
     exact J133
   have e1:decide ((j:Int)<(L.length:Int))=false:=by simp;omega
   have e2:decide (j<L.length)=false:=by simp;omega
   have hjL:j=L.length:=by omega
   subst hjL;have hF5:FX w.heap.size (.int .i64 0) (.int .i64 0) wr:=HFX.out.of_block (HCUT.out.2.1 _ HFX.out.2.2.2 (by omega)) HCUT.out.2.2.1;have hG5:Gr w wr:=HCUT.out.gr HGR.out (by omega);have hR5:w.heap.size+1+1<wr.heap.size:=Nat.lt_of_lt_of_le hR2 HCUT.out.2.2.1;obtain⟨p0,p1,pf,pl⟩:=id hF5;go_wp2_with fail;refine (clip_nodes gn L.length cap HCAP.out.1 HCAP.out.2 _).mono ?_;rintro e w3 ⟨rfl,hw3⟩;subst w3;go_wp2_with fail;obtain⟨wS,hwS⟩:∃v,wr.setCell ⟨w.heap.size+1+1,0,none⟩ (.slice (some ⟨gn,0,none⟩) L.length L.length)=v:=⟨_,rfl⟩
   have hc0:wS.cell? ⟨w.heap.size+1+1,0,none⟩=some (.slice (some ⟨gn,0,none⟩) L.length L.length):=by rw[←hwS,World.cell?_setCell_same' _ _ _ (by rw[q0];rfl)]
   have hc1:wS.cell? ⟨w.heap.size+1+1,1,none⟩=some (.int .i64 0):=by rw[←hwS,World.cell?_setCell_other _ _ _ _ (by simp)];exact q1
   have hFS:FX w.heap.size (.int .i64 0) (.int .i64 0) wS:=by rw[←hwS];exact hF5.other (by omega) _
   have hGS:Gr w wS:=by rw[←hwS];exact hG5.setCell (p:=⟨w.heap.size+1+1,0,none⟩) (by show w.heap.size≤w.heap.size+1+1;omega) _
   have hBS:∀k,own k≠0→own k≠1→wS.heap[k]?=wr.heap[k]?:=by
    rw[←hwS];intro k h0 h1;exact Below.heap_setCell _ _ _ _ (fun e=>by rw[show k=w.heap.size+1+1 from e]at h1;exact h1 HGM.out.v.oR)
   have hZS:wr.heap.size=wS.heap.size:=by rw[←hwS];simp[World.setCell]
   have hTV:=HCUT.out.treeG HGM.out.v hBS (Nat.le_of_eq hZS);rw[hwS];rw[setCell_self hFS.1,setCell_self hFS.2.1];obtain⟨q0',q1',qf',ql'⟩:=id hFS;refine bodyPost_ret (v := .tuple #[.pointer (some ⟨w.heap.size+1+1,0,none⟩),f0]) (by simp[results,Tryz.results16,go_sem,q0',q1',qf',ql']) rfl ?_;refine⟨w.heap.size+1+1,gn,L.map clipR,rfl,by omega,by omega,by rw[List.length_map];exact hc0,hc1,?_,?_,hGS⟩
   · rw[←HGM.out.nd,List.map_map];rfl
   exact hTV.low (by omega)
end Go.Proofs.YtfogfaagjpebcaaGreatDoor
namespace Go.Proofs.YtfogfaagjpebcaaGreatDoor
open Go.RowKit Go.Shelf Go.Joins
attribute [local go_sem] Oper.semAt_some
def ParseP (w:World) (X:Pl.Res Pl.Gst) (e:Ending) (w':World):Prop:=match X with
 | .non=>True
 | .bad c p=>e = .returned (.tuple #[.agg #[nilV,.int .i64 0],fv c p])∧c≠0∧Gr w w'
 | .ok g=>∃(gn:Nat) (L:List NdR),e = .returned (.tuple #[.agg #[.slice (some ⟨gn,0,none⟩) L.length L.length,.int .i64 0],f0])∧L.map (·.nd)=g.nds∧TreeV w' w.heap.size gn L∧Gr w w'
structure ParS (R z:Nat) (v0 v1 x y:Value) (w:World):Prop where
 c0:w.cell? ⟨R,0,none⟩=some v0
 c1:w.cell? ⟨R,1,none⟩=some v1
 f:FX z x y w
set_option maxRecDepth 100000 in
theorem tt_Parse (Tb:Nat→UInt8 × UInt8) (w:World) (hRW:RW Tb w) (s:ByteArray) (hs:s.size≤20000000) (ba:Option Addr) (bn bc:Nat) (hcv:∀W,Gr w W→(convert 34 9 (.slice ba bn bc)).run Tryz.prog W = .ok (.string s) W) (X:Pl.Res Pl.Gst) (hX:Pl.grownS ⟨Pl.strS Tb,Pl.scalS⟩ (bs s)=X) (hne:X ≠ .non) :
    Calls Tryz.prog 7 #[.slice ba bn bc] w (ParseP w X):=by
 obtain⟨hA,gA,zA⟩:=bx2 w nilV (.int .i64 0) 29;obtain⟨W0,hW0⟩:∃W0,w.alloc (.cells #[nilV,.int .i64 0] 29)=W0:=⟨_,rfl⟩
 rw[hW0]at hA gA zA;refine Z103 ?_;intro W1 hW1 gB hB zB;have gAB:=gA.trans gB;have hA1:=hA.gr gB;have HGROWN:=Lib.hid (gr_grown Tb W1 (hRW.gr gAB) s hs ba bn bc (fun W q=>hcv W (gAB.trans q)) X hX hne);have HW0:=Lib.hid hW0;have HW1:=Lib.hid hW1;clear hW0 hW1 hX hRW hcv hA;go_enter Tryz.func7,Tryz.ntmps7;go_wp2_with fail;rw[show (w.alloc (.cells #[.slice none 0 0,.int .i64 0] 29)).alloc (.cells #[.int .i64 0,.int .i64 0] 31)=W1 from by rw[show w.alloc (.cells #[.slice none 0 0,.int .i64 0] 29)=W0 from HW0.out];exact HW1.out];refine HGROWN.out.mono ?_;clear HGROWN HW0 HW1;cases X with
 | non=>exact absurd rfl hne
 | bad c p =>
  rintro e w2 ⟨he,hc0,g2⟩;subst he;refine Z159 ?_;intro W3 hW3 HW3 hT g3 z3;clear hW3;go_wp2_with fail;rw[show w2.alloc (.cells #[.int .i64 c,.int .i64 p] 31)=W3 from HW3.out];refine Z181 ?_;intro w4 g4;have hz2:=g2.size;have gE:=(g2.trans g3).trans g4;have hT4:=hT.gr g4;have hA4:=hA1.gr gE;have hB4:=hB.gr gE;obtain⟨p0,p1,pf,pl⟩:=id hA4;obtain⟨p2,p3,pf',pl'⟩:=id hB4
  go_upto_region 3 with fail
  have hS:=hT4.gr (Gr.refl w4).drew;refine Reg.begin' (W:=fun i=>i != 3) (S:=FX w2.heap.size (.int .i64 c) (.int .i64 p)) (by kernel_rfl) ?_;refine Reg.ty 0 ?_;refine Reg.tl 1 hS ?_ (hy:=by intro w hSw;obtain⟨s0,s1,s2,s3⟩:=hSw;go_simp;try with_reducible rfl);refine Reg.on 2 ?_;go_simp;rw[setCell_self hA4.1,setCell_self hA4.2.1];refine Z58 ?_;refine Z189 ?_;refine Z2 ?_;refine Z12 ?_;go_wp2_with fail;have hFB:=hB4.set (.int .i64 c) (.int .i64 p);have hFA:=(hA4.other (b2:=w.heap.size+1) (o:=0) (by omega) (.int .i64 c)).other (b2:=w.heap.size+1) (o:=1) (by omega) (.int .i64 p);have hGF:=((gAB.trans gE).setCell (p:=⟨w.heap.size+1,0,none⟩) (Nat.le_succ _) (.int .i64 c)).setCell (p:=⟨w.heap.size+1,1,none⟩) (Nat.le_succ _) (.int .i64 p);obtain⟨WF,hWF⟩:∃WF,(w4.setCell ⟨w.heap.size+1,0,none⟩ (.int .i64 c)).setCell ⟨w.heap.size+1,1,none⟩ (.int .i64 p)=WF:=⟨_,rfl⟩
  rw[hWF]at hFB hFA hGF;rw[hWF];obtain⟨q0,q1,qf,ql⟩:=hFA.gr (Gr.refl WF).drew;obtain⟨y0,y1,yf,yl⟩:=hFB.gr (Gr.refl WF).drew;exact bodyPost_ret (v := .tuple #[.agg #[nilV,.int .i64 0],fv c p]) (by simp[results,Tryz.results7,go_sem,q0,q1,qf,ql,y0,y1,yf,yl]) rfl ⟨rfl,hc0,hGF.drew⟩
 | ok g =>
  rintro e w2 ⟨R,gn,L,he,hRl,hRw,hc0,hc1,hnd,hTV,g2⟩;subst he;refine Z304 ?_;intro hT g3 z3;obtain⟨W3,hW3⟩:∃W3,w2.alloc (.cells #[.int .i64 0,.int .i64 0] 31)=W3:=⟨_,rfl⟩
  rw[hW3]at hT g3 z3;have HW3:=Lib.hid hW3;clear hW3;go_wp2_with fail;rw[show w2.alloc (.cells #[.int .i64 0,.int .i64 0] 31)=W3 from HW3.out];refine Z206 ?_;intro w4 g4;have hz2:=g2.size;have g34:=g3.trans g4;have gE:=g2.trans g34;have hT4:=hT.gr g4;have hA4:=hA1.gr gE;have hB4:=hB.gr gE;have k0:=(g34.use.1 R 0 hRl).trans hc0;have k1:=(g34.use.1 R 1 hRl).trans hc1;have hRl4:=Nat.lt_of_lt_of_le hRl g34.size;obtain⟨p0,p1,pf,pl⟩:=id hA4;obtain⟨p2,p3,pf',pl'⟩:=id hB4;have HTV:=Lib.hid hTV;clear hTV hc0 hc1
  go_upto_region 4 with fail
  have hS:ParS R w2.heap.size (.slice (some ⟨gn,0,none⟩) L.length L.length) (.int .i64 0) (.int .i64 0) (.int .i64 0) w4.drew:=⟨k0,k1,hT4.gr (Gr.refl w4).drew⟩
  refine Reg.begin' (W:=fun i=>i != 6) (S:=ParS R w2.heap.size (.slice (some ⟨gn,0,none⟩) L.length L.length) (.int .i64 0) (.int .i64 0) (.int .i64 0)) (by kernel_rfl) ?_;refine Z40 ?_;refine Reg.tl 3 hS ?_ (hy:=by intro w hSw;obtain⟨s0,s1,⟨s2,s3,s4,s5⟩⟩:=hSw;go_simp;try with_reducible rfl);refine Reg.tl 4 hS ?_ (hy:=by intro w hSw;obtain⟨s0,s1,⟨s2,s3,s4,s5⟩⟩:=hSw;go_simp;try with_reducible rfl);refine Reg.on 5 ?_;go_simp;have hS5:ParS R w2.heap.size (.slice (some ⟨gn,0,none⟩) L.length L.length) (.int .i64 0) (.int .i64 0) (.int .i64 0) ((w4.setCell ⟨w.heap.size,0,none⟩ (.slice (some ⟨gn,0,none⟩) L.length L.length)).setCell ⟨w.heap.size,1,none⟩ (.int .i64 0)).drew:=by
   refine⟨?_,?_,((hT4.other (by omega) _).other (by omega) _).gr (Gr.refl _).drew⟩
   · show ((w4.setCell _ _).setCell _ _).cell? _=_;refine Z90 ?_;exact k0
   show ((w4.setCell _ _).setCell _ _).cell? _=_;refine Z90 ?_;exact k1
  refine⟨by first|exact hS5|exact fun _=>hS5|exact fun _ _=>hS5,?_⟩;refine Reg.pt ?_;refine Reg.on 6 ?_;refine Z292 ?_;go_wp2_with fail;have hXF:=fx2 hA4 hB4 (by omega) (gAB.trans gE) (Nat.le_refl _) (Nat.le_succ _) (.slice (some ⟨gn,0,none⟩) L.length L.length) (.int .i64 0) (.int .i64 0) (.int .i64 0);have hbb:∀k,k≠w.heap.size→k≠w.heap.size+1→((((w4.setCell ⟨w.heap.size,0,none⟩ (.slice (some ⟨gn,0,none⟩) L.length L.length)).setCell ⟨w.heap.size,1,none⟩ (.int .i64 0)).setCell ⟨w.heap.size+1,0,none⟩ (.int .i64 0)).setCell ⟨w.heap.size+1,1,none⟩ (.int .i64 0)).heap[k]?=w4.heap[k]?:=fun k h1 h2=>by
   rw[Below.heap_setCell _ _ _ _ h2,Below.heap_setCell _ _ _ _ h2,Below.heap_setCell _ _ _ _ h1,Below.heap_setCell _ _ _ _ h1]
  have hzz:((((w4.setCell ⟨w.heap.size,0,none⟩ (.slice (some ⟨gn,0,none⟩) L.length L.length)).setCell ⟨w.heap.size,1,none⟩ (.int .i64 0)).setCell ⟨w.heap.size+1,0,none⟩ (.int .i64 0)).setCell ⟨w.heap.size+1,1,none⟩ (.int .i64 0)).heap.size=w4.heap.size:=by simp[World.setCell]
  obtain⟨WF,hWF⟩:∃WF,(((w4.setCell ⟨w.heap.size,0,none⟩ (.slice (some ⟨gn,0,none⟩) L.length L.length)).setCell ⟨w.heap.size,1,none⟩ (.int .i64 0)).setCell ⟨w.heap.size+1,0,none⟩ (.int .i64 0)).setCell ⟨w.heap.size+1,1,none⟩ (.int .i64 0)=WF:=⟨_,rfl⟩
  rw[hWF]at hXF hbb hzz;rw[hWF];obtain⟨hFA,hFB,hGF⟩:=hXF;obtain⟨q0,q1,qf,ql⟩:=hFA.gr (Gr.refl WF).drew;obtain⟨y0,y1,yf,yl⟩:=hFB.gr (Gr.refl WF).drew;refine bodyPost_ret (v := .tuple #[.agg #[.slice (some ⟨gn,0,none⟩) L.length L.length,.int .i64 0],f0]) (by simp[results,Tryz.results7,go_sem,q0,q1,qf,ql,y0,y1,yf,yl]) rfl ⟨gn,L,rfl,hnd,?_,hGF.drew⟩;exact (((HTV.out.gr g34).keptB (fun k h1 _=>hbb k (by omega) (by omega)) (Nat.le_of_eq hzz.symm)).gr (Gr.refl WF).drew).low (by omega)
set_option maxRecDepth 100000 in
theorem tt_Items_bad (Tb:Nat→UInt8 × UInt8) (w:World) (hRW:RW Tb w) (s:ByteArray) (hs:s.size≤20000000) (ba:Option Addr) (bn bc:Nat) (hcv:∀W,Gr w W→(convert 34 9 (.slice ba bn bc)).run Tryz.prog W = .ok (.string s) W) (c p:Nat) (hX:Pl.grownS ⟨Pl.strS Tb,Pl.scalS⟩ (bs s) = .bad c p) :
    Calls Tryz.prog 14 #[.slice ba bn bc] w fun e w'=>e = .returned (.tuple #[nilV,nilV])∧Gr w w':=by
 have HGROWN:=Lib.hid (gr_grown Tb w hRW s hs ba bn bc hcv _ hX (by simp));clear hX hRW hcv;go_enter Tryz.func14,Tryz.ntmps14;go_wp2_with fail;refine HGROWN.out.mono ?_;rintro e w2 ⟨he,hc0,g2⟩;subst he;refine Z159 ?_;intro W3 hW3 HW3 hT g3 z3;clear hW3;go_wp2_with fail;rw[show w2.alloc (.cells #[.int .i64 c,.int .i64 p] 31)=W3 from HW3.out];refine Z181 ?_;intro w4 g4;go_wp2_with fail;exact bodyPost_ret (v := .tuple #[nilV,nilV]) (by simp[results,Tryz.results14,go_sem]) rfl ⟨rfl,(g2.trans g3).trans g4⟩
end Go.Proofs.YtfogfaagjpebcaaGreatDoor
namespace Go.Proofs.YtfogfaagjpebcaaGreatDoor
open Go.RowKit Go.Shelf Go.Joins
attribute [local go_sem] Oper.semAt_some
namespace Pl
def textSubs (T:Nat→Option Bs) (Q:Bs→Bs):List Bs→List Nat→Option Bs
 | _,[]=>some []
 | ks,i::r=>match T i,textSubs T Q ks.tail r with
  | some t,some u=>some ((match ks with|[]=>[]|k::_=>Q k)++(40::(t++(41::u))))
  | _,_=>none
def textF (Q:Bs→Bs) (nds:Nds):Nat→Nat→Option Bs
 | 0,_=>none
 | f+1,i=>match nds[i]? with
  | none=>some []
  | some nd=>match textSubs (textF Q nds f) Q nd.keys nd.subs with
   | some u=>some (Lib.itoa (nd.kind:Int)++(Q nd.text++u))
   | none=>none
theorem textSubs_at {T:Nat→Option Bs} {Q:Bs→Bs} {ks:List Bs} {js:List Nat} {m:Nat} {us:Bs} (hm:m<js.length) (h:textSubs T Q (ks.drop m) (js.drop m)=some us) :
    ∃a b,T js[m]=some a∧textSubs T Q (ks.drop (m+1)) (js.drop (m+1))=some b∧us=(match ks[m]? with|none=>[]|some k=>Q k)++(40::(a++(41::b))):=by
 rw[List.drop_eq_getElem_cons hm]at h;unfold textSubs at h;rw[List.tail_drop]at h;cases ha:T js[m] with
 | none=>rw[ha]at h;cases h
 | some a =>
  cases hb:textSubs T Q (ks.drop (m+1)) (js.drop (m+1)) with
  | none=>rw[ha,hb]at h;cases h
  | some b =>
   rw[ha,hb]at h;refine⟨a,b,rfl,rfl,?_⟩;simp only[Option.some.injEq]at h;rw[←h];by_cases hk:m<ks.length
   · rw[List.drop_eq_getElem_cons hk,List.getElem?_eq_getElem hk]
   rw[List.drop_eq_nil_of_le (by omega),List.getElem?_eq_none (by omega)]
def tidy (nds:Nds):Bool:=nds.all fun nd=>decide (nd.kind≤255) && decide (nd.text.length≤1000000) && (nd.keys.all fun k=>decide (k.length≤1000000)) && decide (nd.subs.length≤1000000) && nd.subs.all fun u=>decide (u≤1000000)
end Pl
def quoB (PT:Lib.PrintTabs) (l:Pl.Bs):Pl.Bs:=(Lib.quoteZ PT ⟨l.toArray⟩).map fun n=>UInt8.ofNat n.toNat
structure TxW (PT:Lib.PrintTabs) (w:World):Prop where
 int:IntW w
 pr:Lib.PrintTabsAt 4 5 6 7 PT w
 u8:Lib.Utf8Tabs 2 3 w
theorem TxW.gr {PT:Lib.PrintTabs} {w w':World} (h:TxW PT w) (g:Gr w w'):TxW PT w':=⟨h.int.gr g,printTabs_below h.pr g,Utf8Tabs_below h.u8 g⟩
theorem bs_app (a b:ByteArray):bs (a++b)=bs a++bs b:=by
 show (a++b).data.toList=_;rw[ByteArray.data_append,Array.toList_append]
theorem tx_Quote (PT:Lib.PrintTabs) (l:Pl.Bs) (hl:l.length≤1000000) (w:World) (hw:TxW PT w) :
    Calls Tryz.prog 34 #[.string ⟨l.toArray⟩] w fun e w'=>∃q:ByteArray,e = .returned (.string q)∧bs q=quoB PT l∧Gr w w':=by
 refine (Tryz.strconv_Quote PT ⟨l.toArray⟩ w ?_ hw.pr hw.u8).mono ?_
 · have:(⟨l.toArray⟩:ByteArray).size=l.length:=by simp[ByteArray.size]
   omega
 rintro e w' ⟨rfl,hb⟩;exact⟨_,rfl,rfl,hb⟩
structure TxS (z b g k:Nat) (v0 v1:Value) (n c u:Nat) (w:World):Prop where
 t:FX z v0 v1 w
 b4:w.cell? ⟨b,4,none⟩=some (.slice (some ⟨g,0,none⟩) n c)
 u:w.cell? ⟨g,k,none⟩=some (.int .i64 u)
theorem TxS.gr {z b g k:Nat} {v0 v1:Value} {n c u:Nat} {w w':World} (h:TxS z b g k v0 v1 n c u w) (q:Gr w w'):TxS z b g k v0 v1 n c u w' :=
 ⟨h.t.gr q,(q.use.1 _ _ (Lib.lt_of_cell h.b4)).trans h.b4,(q.use.1 _ _ (Lib.lt_of_cell h.u)).trans h.u⟩
set_option maxRecDepth 100000 in
theorem tx_Text (PT:Lib.PrintTabs):∀(f i:Nat) (t:Pl.Bs) (w:World) (_:TxW PT w) (base gn:Nat) (L:List NdR) (_:TreeV w base gn L) (_:Pl.tidy (L.map (·.nd))=true) (_:L.length≤1000000) (_:i≤1000000) (_:Pl.textF (quoB PT) (L.map (·.nd)) f i=some t) (_:t.length≤1000000000000000000) (root:Int),
    Calls Tryz.prog 25 #[.agg #[.slice (some ⟨gn,0,none⟩) L.length L.length,.int .i64 root],.int .i64 i] w fun e w'=>∃q:ByteArray,e = .returned (.string q)∧bs q=t∧Gr w w':=by
 intro f
 induction f with
 | zero=>intro i t w _ base gn L _ _ _ _ h _ root;cases h
 | succ f ih =>
  intro i t w hw base gn L hT hti hLl hil h htl root;obtain⟨hTB,gW,zW⟩:=bx2 w (.slice (some ⟨gn,0,none⟩) L.length L.length) (.int .i64 root) 29;obtain⟨W,hW⟩:∃W,w.alloc (.cells #[.slice (some ⟨gn,0,none⟩) L.length L.length,.int .i64 root] 29)=W:=⟨_,rfl⟩
  rw[hW]at hTB gW zW;have HW:=Lib.hid hW;have HTB:=Lib.hid hTB;have HG:=Lib.hid gW;have HT:=Lib.hid (hT.gr gW);have HTX:=Lib.hid (hw.gr gW);have HTI:=Lib.hid hti;have HIH:=Lib.hid ih;obtain⟨p0,p1,pf,pl⟩:=hTB;have i0:decide ((i:Int)<0)=false:=by simp
  unfold Pl.textF at h;rw[List.getElem?_map]at h;clear hW hw hT hti ih gW zW;cases hr:L[i]? with
  | none =>
   rw[hr]at h;simp only[Option.map_none,Option.some.injEq]at h;subst h;have hge:L.length≤i:=by simpa using hr
   have d1:decide ((L.length:Int)≤(i:Int))=true:=by simp;omega
   have d2:decide (L.length≤i)=true:=by simp;omega
   go_enter Tryz.func25,Tryz.ntmps25
   go_upto_region 1 with fail
   rw[show w.alloc (.cells #[.slice (some ⟨gn,0,none⟩) L.length L.length,.int .i64 root] 29)=W from HW.out];go_wp2_with fail;exact bodyPost_ret (v := .string ⟨#[]⟩) (by simp[results,Tryz.results25,go_sem]) rfl ⟨_,rfl,rfl,HG.out⟩
  | some r =>
   rw[hr]at h;simp only[Option.map_some]at h;have hil2:i<L.length:=(List.getElem?_eq_some_iff.1 hr).1;have d1:decide ((L.length:Int)≤(i:Int))=false:=by simp;omega
   have d2:decide (L.length≤i)=false:=by simp;omega
   refine Z142 ?_;intro j1 j2;obtain⟨u,hu⟩:∃u,Pl.textSubs (Pl.textF (quoB PT) (L.map (·.nd)) f) (quoB PT) r.nd.keys r.nd.subs=some u:=by
    cases hs:Pl.textSubs (Pl.textF (quoB PT) (L.map (·.nd)) f) (quoB PT) r.nd.keys r.nd.subs with
    | none=>rw[hs]at h;cases h
    | some u=>exact⟨u,rfl⟩
   rw[hu]at h;simp only[Option.some.injEq]at h;have htid:=HTI.out;unfold Pl.tidy at htid;rw[List.all_eq_true]at htid;have hrt:=htid r.nd (List.mem_map_of_mem (List.mem_of_getElem? hr));simp only[Bool.and_eq_true,decide_eq_true_eq,List.all_eq_true]at hrt;obtain⟨⟨⟨⟨hk,ht⟩,hkl⟩,hsl⟩,hsu⟩:=hrt;have hcl:∀m v,(ndV r)[m]?=some v→W.cell? ⟨gn,i*7+m,none⟩=some v:=fun m v hv=>HT.out.cell i r hr m v hv
   obtain⟨hRk,hRs,hRu⟩:=HT.out.rows i r hr;obtain⟨ka,kc,hkv⟩:∃a c,r.kv = .slice a r.nd.keys.length c:=by
    rcases rowC_form hRk with⟨e,e2⟩|⟨g,c,e,_,_⟩
    · exact J56
    exact⟨_,_,e⟩
   obtain⟨sa,sc,hsv⟩:∃a c,r.sv = .slice a r.nd.spots.length c:=by
    rcases rowC_form hRs with⟨e,e2⟩|⟨g,c,e,_,_⟩
    · exact J56
    exact⟨_,_,e⟩
   obtain⟨ua,uc,huv⟩:∃a c,r.uv = .slice a r.nd.subs.length c:=by
    rcases rowC_form hRu with⟨e,e2⟩|⟨g,c,e,_,_⟩
    · exact J56
    exact⟨_,_,e⟩
   have q0:W.cell? ⟨gn,i*7,none⟩=some (.int .u8 r.nd.kind):=hcl 0 (.int .u8 r.nd.kind) rfl;refine Z164 ?_;intro q1 q2 q3 q4 q5 q6;rw[hkv]at hRk;rw[huv]at hRu;have HRK:=Lib.hid hRk;have HRU:=Lib.hid hRu;have HU:=Lib.hid hu;have H:=Lib.hid h;have HKL:=Lib.hid hkl;have HSU:=Lib.hid hsu;have hlen:t.length=(Lib.itoa (r.nd.kind:Int)).length+((quoB PT r.nd.text).length+u.length):=by rw[←h];simp
   clear h hu hcl hRk hRs hRu hkv hsv huv hkl hsu htid hr;go_enter Tryz.func25,Tryz.ntmps25
   go_upto_region 1 with fail
   rw[show w.alloc (.cells #[.slice (some ⟨gn,0,none⟩) L.length L.length,.int .i64 root] 29)=W from HW.out]
   go_upto_region 4 with fail
   have hbx:=heap_alloc_new W (.cells #[.int .u8 r.nd.kind,.string ⟨r.nd.text.toArray⟩,.slice ka r.nd.keys.length kc,.slice sa r.nd.spots.length sc,.slice ua r.nd.subs.length uc,.int .i64 r.nd.sp.1,.int .i64 r.nd.sp.2] 91);have g1:Gr W (W.alloc (.cells #[.int .u8 r.nd.kind,.string ⟨r.nd.text.toArray⟩,.slice ka r.nd.keys.length kc,.slice sa r.nd.spots.length sc,.slice ua r.nd.subs.length uc,.int .i64 r.nd.sp.1,.int .i64 r.nd.sp.2] 91)):=(Gr.refl W).alloc _;obtain⟨W1,hW1⟩:∃W1,W.alloc (.cells #[.int .u8 r.nd.kind,.string ⟨r.nd.text.toArray⟩,.slice ka r.nd.keys.length kc,.slice sa r.nd.spots.length sc,.slice ua r.nd.subs.length uc,.int .i64 r.nd.sp.1,.int .i64 r.nd.sp.2] 91)=W1:=⟨_,rfl⟩
   rw[hW1]at hbx g1 ⊢;clear hW1 q0 q1 q2 q3 q4 q5 q6 p0 p1 pf pl;have HBX:=Lib.hid hbx;have HG1:=Lib.hid g1;obtain⟨⟨b0,b1,b2,b3,b4,b5,b6⟩,bf,bl⟩:=cells7 hbx;have hS:W1.drew.cell? ⟨W.heap.size,0,none⟩=some (.int .u8 r.nd.kind)∧W1.drew.cell? ⟨W.heap.size,1,none⟩=some (.string ⟨r.nd.text.toArray⟩):=⟨b0,b1⟩
   have wk:IntKind.i64.wrap (r.nd.kind:Int)=(r.nd.kind:Int):=IntWalk.i64_in _ ⟨by omega,by omega⟩;have HITO:=Lib.hid (fun W (q:TxW PT W)=>Tryz.strconv_Itoa (r.nd.kind:Int) (by omega) (by omega) W q.int.pow);have HQU:=Lib.hid (fun W (q:TxW PT W)=>tx_Quote PT r.nd.text ht W q);refine Reg.begin' (W:=fun _=>true) (S:=fun V=>V.cell? ⟨W.heap.size,0,none⟩=some (.int .u8 r.nd.kind)∧V.cell? ⟨W.heap.size,1,none⟩=some (.string ⟨r.nd.text.toArray⟩)) (by kernel_rfl) ?_;refine Reg.ty 0 ?_;refine Reg.tl 1 hS ?_ (hy:=by intro w hSw;obtain⟨s0,s1⟩:=hSw;go_simp;try with_reducible rfl);refine Reg.ty 2 ?_;refine Reg.ty 4 ?_;refine Reg.tl 5 hS ?_ (hy:=by intro w hSw;obtain⟨s0,s1⟩:=hSw;go_simp;try with_reducible rfl);refine Z189 ?_;refine (HITO.out _ (HTX.out.gr (g1.trans (Gr.refl W1).drew))).mono ?_;rintro e w2 ⟨rfl,k,os,hw2⟩;have g2:Gr W1 w2:=by rw[hw2];exact (Gr.refl W1).drew.trans (grow_gr _ _ _)
   clear hw2;have hS2:w2.cell? ⟨W.heap.size,0,none⟩=some (.int .u8 r.nd.kind)∧w2.cell? ⟨W.heap.size,1,none⟩=some (.string ⟨r.nd.text.toArray⟩):=⟨(g2.use.1 _ _ bl).trans b0,(g2.use.1 _ _ bl).trans b1⟩
   refine Z238 ?_;refine Reg.on 6 ?_;go_simp;refine (HQU.out w2 (HTX.out.gr (g1.trans g2))).mono ?_;rintro e w3 ⟨q,rfl,hq,g3⟩;have hS3:w3.cell? ⟨W.heap.size,0,none⟩=some (.int .u8 r.nd.kind)∧w3.cell? ⟨W.heap.size,1,none⟩=some (.string ⟨r.nd.text.toArray⟩):=⟨(g3.use.1 _ _ (Nat.lt_of_lt_of_le bl g2.size)).trans hS2.1,(g3.use.1 _ _ (Nat.lt_of_lt_of_le bl g2.size)).trans hS2.2⟩
   refine Z16 ?_;have hqs:q.size=(quoB PT r.nd.text).length:=by rw[←hq,bs_length]
   refine Reg.takeY (i:=7) (v:=?_) rfl (by kernel_rfl) (by kernel_rfl) (by kernel_rfl) (fun _ _ _ h=>h) (by rfl) ?_ ?_;rotate_left
   · exact J69
   refine Z50 ?_;refine Reg.ty 8 ?_;refine Z12 ?_;obtain⟨ts,hts⟩:∃ts,(({ data:=(Lib.itoa (r.nd.kind:Int)).toArray }:ByteArray)++q)=ts:=⟨_,rfl⟩
   have hbt:bs ts=Lib.itoa (r.nd.kind:Int)++quoB PT r.nd.text:=by rw[←hts,bs_app,hq]
   have hst:bs ts++u=t:=by rw[hbt,←H.out];simp
   rw[hts];have g23:=g2.trans g3;have HST:=Lib.hid hst;have HG23:=Lib.hid g23;clear hst g23 g2 g3 hS2 hS3 hS hts hbt;go_wp2_with fail
   go_loopw [6,7] (fun v6 v7 wr=>∃(m:Nat) (tb:ByteArray) (us:Pl.Bs),v6 = .string tb∧v7 = .int .i64 m∧m≤r.nd.subs.length∧Pl.textSubs (Pl.textF (quoB PT) (L.map (·.nd)) f) (quoB PT) (r.nd.keys.drop m) (r.nd.subs.drop m)=some us∧bs tb++us=t∧Gr W1 wr) (fun _ v7 _=>r.nd.subs.length-(intOf v7).toNat)
   case atStart=>exact⟨0,ts,u,rfl,rfl,Nat.zero_le _,HU.out,HST.out,HG23.out⟩
   case round =>
    obtain⟨m,tb,us,rfl,rfl,hm,hus,htb,hgr⟩:=hrel;have f2:=(hgr.use.1 _ _ bl).trans b2;have f4:=(hgr.use.1 _ _ bl).trans b4;have HGR:=Lib.hid hgr;by_cases hml:m<r.nd.subs.length
    · have e1:decide ((m:Int)<(r.nd.subs.length:Int))=true:=by simp;omega
      have e2:decide (m<r.nd.subs.length)=true:=by simp;omega
      obtain⟨a,ub,hTa,hub,husa⟩:=Pl.textSubs_at hml hus;obtain⟨gu,cu,hguv,hlc,hcm⟩:=HRU.out.form (by omega);simp only[Value.slice.injEq]at hguv;obtain⟨rfl,_,rfl⟩:=hguv;have hcu:=HRU.out.cells (g:=gu) rfl m (.int .i64 r.nd.subs[m]) (by simp[subsV,hml]);have hgl:=(HRU.out.lt gu rfl).2;have hcu:=(HG1.out.use.1 _ _ hgl).trans hcu;have hgl:=Nat.lt_of_lt_of_le hgl HG1.out.size;have hal:a.length≤1000000000000000000:=by
       have:=congrArg List.length htb;rw[husa]at this;simp only[List.length_append,List.length_cons]at this;omega
      have HIHR:=Lib.hid (fun V (g:Gr W1 V)=>HIH.out r.nd.subs[m] a V (HTX.out.gr (HG1.out.trans g)) base gn L (HT.out.gr (HG1.out.trans g)) HTI.out hLl (HSU.out _ (List.getElem_mem hml)) hTa hal root);have HUB:=Lib.hid hub;refine Z246 ?_;intro j3 j4 wm;clear hub hTa;by_cases hmk:m<r.nd.keys.length
      · have e3:decide ((m:Int)<(r.nd.keys.length:Int))=true:=by simp;omega
        have e4:decide (m<r.nd.keys.length)=true:=by simp;omega
        have j5:(m:Int)<(r.nd.keys.length:Int):=by omega
        obtain⟨gk,ck,hgkv,hlk,hck⟩:=HRK.out.form (by omega);simp only[Value.slice.injEq]at hgkv;obtain⟨rfl,_,rfl⟩:=hgkv;have hcell:=HRK.out.cells (g:=gk) rfl m (.string ⟨r.nd.keys[m].toArray⟩) (by simp[keysV,hmk]);have hkl:=(HRK.out.lt gk rfl).2;have hcell:=(((HG1.out.trans hgr).use.1 _ _ hkl).trans hcell)
        have hkz:r.nd.keys[m].length≤1000000:=HKL.out _ (List.getElem_mem hmk);have HQK:=Lib.hid (tx_Quote PT r.nd.keys[m] hkz wr (HTX.out.gr (HG1.out.trans hgr)));rw[List.getElem?_eq_getElem hmk]at husa;simp only at husa;have HUSA:=Lib.hid husa;have HTBB:=Lib.hid htb;have hlt:=congrArg List.length htb;rw[husa,List.length_append,bs_length]at hlt;simp only[List.length_append,List.length_cons]at hlt;clear hus husa htb hgr hlc hcm hlk hck;go_wp2_with fail;refine HQK.out.mono ?_;rintro e wq ⟨qk,rfl,hqk,gq⟩;have hqks:qk.size=(quoB PT r.nd.keys[m]).length:=by rw[←hqk,bs_length]
        have hno:¬ 9223372036854775807<tb.size+qk.size:=by omega
        have hno2:decide (9223372036854775807<tb.size+qk.size)=false:=by simp;omega
        have HGQ:=Lib.hid (HGR.out.trans gq);obtain⟨tb2,ht2⟩:∃tb2,tb++qk=tb2:=⟨_,rfl⟩
        have hb2:bs tb2++(40::(a++(41::ub)))=t:=by rw[←ht2,bs_app,hqk,List.append_assoc,←HUSA.out,HTBB.out]
        clear f2 f4 hcell;exact J84
      have e3:decide ((m:Int)<(r.nd.keys.length:Int))=false:=by simp;omega
      have e4:decide (m<r.nd.keys.length)=false:=by simp;omega
      rw[List.getElem?_eq_none (by omega)]at husa;simp only[List.nil_append]at husa;have hb2:bs tb++(40::(a++(41::ub)))=t:=by rw[←husa,htb]
      obtain⟨wq,hwq⟩:∃wq,wq=wr:=⟨_,rfl⟩
      subst hwq;have HGQ:=HGR;clear hus husa htb hgr hlc hcm;exact J84
    have hme:m=r.nd.subs.length:=by omega
    subst hme;have e1:decide ((r.nd.subs.length:Int)<(r.nd.subs.length:Int))=false:=by simp
    have e2:decide (r.nd.subs.length<r.nd.subs.length)=false:=by simp
    rw[List.drop_length]at hus;have hu0:us=[]:=by unfold Pl.textSubs at hus;exact (Option.some.inj hus).symm
    rw[hu0,List.append_nil]at htb;have HTB2:=Lib.hid htb;clear htb hus hgr;go_wp2_with fail;exact bodyPost_ret (v := .string tb) (by simp[results,Tryz.results25,go_sem]) rfl ⟨_,rfl,HTB2.out,HG.out.trans (HG1.out.trans HGR.out)⟩
end Go.Proofs.YtfogfaagjpebcaaGreatDoor
namespace Go.Proofs.YtfogfaagjpebcaaGreatDoor
open Go.RowKit Go.Shelf Go.Joins
attribute [local go_sem] Oper.semAt_some
theorem conv_back (w:World) (s:ByteArray) (c:Nat) (W:World) (q:Gr (Lib.bytesWorld w 5 s) W):(convert 34 9 (.slice (some ⟨w.heap.size,0,none⟩) s.size c)).run Tryz.prog W = .ok (.string s) W:=by
 refine Z118 ?_;intro e0;have hcell:∀i,i<s.size→W.cell? ⟨w.heap.size,0+i,none⟩=some (.int .u8 ((s.data.toList.map fun x=>(x.toNat:Int)).getD i 0)):=by
  intro i hi;have h:=Lib.bytesWorld_cell w 5 s i hi;have:=(q.use.1 _ _ (Lib.lt_of_cell h)).trans h;rw[Nat.zero_add,this];have hi2:i<s.data.toList.length:=by rw[Array.length_toList];exact hi
  simp[List.getD,List.getElem?_eq_getElem hi2]
 rw[run_convert_bytes_arg W 34 5 Tryz.underlying34 Tryz.underlying5 w.heap.size 0 s.size c (s.data.toList.map fun x=>(x.toNat:Int)) (by rw[List.length_map,Array.length_toList];rfl) hcell 9 Tryz.underlying9,e0]
set_option maxRecDepth 100000 in
theorem tx_fails (Tb:Nat→UInt8 × UInt8) (w:World) (hRW:RW Tb w) (s:ByteArray) (hs:s.size≤20000000) (c p:Nat) (hc:c≠0) (hX:Pl.grownS ⟨Pl.strS Tb,Pl.scalS⟩ (bs s) = .bad c p) :
    Calls Tryz.prog 5 #[.string s,.int .i64 c,.int .i64 p] w fun e w'=>e = .returned (.bool true)∧Gr w w':=by
 refine Z156 ?_;intro HCV gB HPARSE;have HITEMS:=Lib.hid (fun W (g:Gr w W)=>tt_Items_bad Tb (Lib.bytesWorld W 5 s) (hRW.gr (g.trans (gr_bytesWorld W 5 s))) s hs (some ⟨W.heap.size,0,none⟩) s.size (grownCap W s.size 0 5) (fun V q=>conv_back W s _ V q) c p hX);have HGB:=Lib.hid gB;clear gB hX hRW;have hcv:=HCV.out;go_enter Tryz.func5,Tryz.ntmps5;go_wp2_with fail;clear hcv;refine HPARSE.out.mono ?_;rintro e w2 ⟨he,hc0,g2⟩;subst he;obtain⟨hA,gA,zA⟩:=bx2 w2 nilV (.int .i64 0) 29;obtain⟨W0,hW0⟩:∃W0,w2.alloc (.cells #[nilV,.int .i64 0] 29)=W0:=⟨_,rfl⟩
 rw[hW0]at hA gA zA;obtain⟨hB,gB,zB⟩:=bx2 W0 (.int .i64 c) (.int .i64 p) 31;obtain⟨W1,hW1⟩:∃W1,W0.alloc (.cells #[.int .i64 c,.int .i64 p] 31)=W1:=⟨_,rfl⟩
 rw[hW1]at hB gB zB;rw[zA]at hB zB;have hA1:=hA.gr gB;have HG1:=Lib.hid ((HGB.out.trans g2).trans (gA.trans gB));have HA:=Lib.hid hA1;have HB:=Lib.hid hB;have HZ:=Lib.hid zB;have HW1:=Lib.hid (show (w2.alloc (.cells #[nilV,.int .i64 0] 29)).alloc (.cells #[.int .i64 c,.int .i64 p] 31)=W1 by rw[hW0,hW1]);clear HPARSE hA hB hA1 gA gB zA zB hW0 hW1;have hcv:=HCV.out;go_wp2_with fail;rw[show (w2.alloc (.cells #[.slice none 0 0,.int .i64 0] 29)).alloc (.cells #[.int .i64 c,.int .i64 p] 31)=W1 from HW1.out,←HZ.out];clear hcv;refine (HITEMS.out W1 HG1.out).mono ?_;rintro e w5 ⟨rfl,g5⟩;have gE:=(gr_bytesWorld W1 5 s).trans g5;obtain⟨p0,p1,pf,pl⟩:=HA.out.gr gE;obtain⟨q0,q1,qf,ql⟩:=HB.out.gr gE;have HE:=Lib.hid gE;go_wp2_with fail;exact bodyPost_ret (v := .bool true) (by simp[results,Tryz.results5,go_sem]) rfl ⟨rfl,HG1.out.trans HE.out⟩
set_option maxRecDepth 100000 in
theorem tx_tells (Tb:Nat→UInt8 × UInt8) (PT:Lib.PrintTabs) (w:World) (hRW:RW Tb w) (hTX:TxW PT w) (s want:ByteArray) (hs:s.size≤20000000) (g:Pl.Gst) (hX:Pl.grownS ⟨Pl.strS Tb,Pl.scalS⟩ (bs s) = .ok g)
    (hti:Pl.tidy g.nds=true) (hl:g.nds.length≤1000000) (F:Nat) (hT:Pl.textF (quoB PT) g.nds F 0=some (bs want)) (hz:want.size≤1000000000000000000) :
    Calls Tryz.prog 15 #[.string s,.string want] w fun e w'=>e = .returned (.bool true)∧Gr w w':=by
 refine Z156 ?_;intro HCV gB HPARSE;have HTX:=Lib.hid hTX;have HT:=Lib.hid hT;have HTI:=Lib.hid hti;have HGB:=Lib.hid gB;clear gB hX hRW hTX hT hti;have hcv:=HCV.out;go_enter Tryz.func15,Tryz.ntmps15;go_wp2_with fail;clear hcv;refine HPARSE.out.mono ?_;rintro e w2 ⟨gn,L,he,hL,hTV,g2⟩;subst he;have HL:=Lib.hid hL;have hll:L.length≤1000000:=by rw[←hL,List.length_map]at hl;exact hl
 refine Z225 ?_;intro W0 hW0 hA gA zA;refine Z103 ?_;intro W1 hW1 gB hB zB;have hA1:=hA.gr gB;have hG1:=(HGB.out.trans g2).trans (gA.trans gB);have HTEXT:=Lib.hid (tx_Text PT F 0 (bs want) W1 (HTX.out.gr hG1) _ gn L (hTV.gr (gA.trans gB)) (by rw[HL.out];exact HTI.out) hll (by omega) (by rw[HL.out];exact HT.out) (by rw[bs_length];exact hz) 0);have HG1:=Lib.hid hG1;refine Z268 ?_;intro HW1;obtain⟨p0,p1,pf,pl⟩:=hA1;obtain⟨q0,q1,qf,ql⟩:=hB;clear HPARSE hA gA gB zA zB hW0 hW1 hL hl
 go_upto_region 2 with fail
 refine Z259 ?_;go_wp2_with fail;refine HTEXT.out.mono ?_;rintro e w5 ⟨q,rfl,hq,g5⟩;have hqe:q=want:=by
  cases q with|mk q=>cases want with|mk v=>exact congrArg _ (Array.toList_inj.1 hq)
 subst hqe;have HE:=Lib.hid g5;go_wp2_with fail;exact bodyPost_ret (v := .bool true) (by simp[results,Tryz.results15,go_sem]) rfl ⟨rfl,HG1.out.trans HE.out⟩
end Go.Proofs.YtfogfaagjpebcaaGreatDoor
namespace Go.Proofs.YtfogfaagjpebcaaGreatDoor
open Go.RowKit Go.Shelf Go.Joins
namespace Pl
def liveA:Bs:=[97,46,98,32,61,32,49,10,91,99,46,100,93,10,120,32,61,32,50,10,91,91,101,93,93,10,91,91,101,93,93,10,121,32,61,32,51,10]
def liveW:Bs:=[56,34,34,34,97,34,40,56,34,34,34,98,34,40,52,34,49,34,41,41,34,99,34,40,56,34,34,34,100,34,40,56,34,34,34,120,34,40,52,34,50,34,41,41,41,34,101,34,40,55,34,34,40,56,34,34,41,40,56,34,34,34,121,34,40,52,34,51,34,41,41,41]
def liveB:Bs:=[97,46,98,32,61,32,49,10,91,97,46,99,93]
def liveC:Bs:=[97,32,61,32,49,10,97,32,61,32,50]
def liveD:Bs:=[91,97,93,10,91,97,93]
def liveE:Bs:=[97,46,98,32,61,32,49,10,91,97,93]
def isBad (r:Res Gst) (c p:Nat):Bool:=match r with|.bad a b=>a==c && b==p|_=>false
theorem isBad_eq {r:Res Gst} {c p:Nat} (h:isBad r c p=true):r = .bad c p:=by
 cases r with
 | bad a b=>simp only[isBad,Bool.and_eq_true,beq_iff_eq]at h;rw[h.1,h.2]
 | ok g=>cases h
 | non=>cases h
def isTold (Q:Bs→Bs) (F:Nat) (t:Bs) (r:Res Gst):Bool:=match r with|.ok g=>tidy g.nds && decide (g.nds.length≤1000000) && (textF Q g.nds F 0==some t)|_=>false
theorem isTold_eq {Q:Bs→Bs} {F:Nat} {t:Bs} {r:Res Gst} (h:isTold Q F t r=true):∃g,r = .ok g∧tidy g.nds=true∧g.nds.length≤1000000∧textF Q g.nds F 0=some t:=by
 cases r with
 | bad a b=>cases h
 | ok g =>
  simp only[isTold,Bool.and_eq_true,beq_iff_eq,decide_eq_true_eq]at h;exact⟨g,rfl,h.1.1,h.1.2,h.2⟩
 | non=>cases h
def isOk (r:Res Gst):Bool:=match r with|.ok _=>true|_=>false
theorem isOk_eq {r:Res Gst} (h:isOk r=true):∃g,r = .ok g:=by
 cases r with
 | bad a b=>cases h
 | ok g=>exact⟨g,rfl⟩
 | non=>cases h
end Pl
theorem live_A (Tb:Nat→UInt8 × UInt8) (PT:Lib.PrintTabs):Pl.isTold (quoB PT) 9 Pl.liveW (Pl.grownS ⟨Pl.strS Tb,Pl.scalS⟩ Pl.liveA)=true:=by kernel_rfl
theorem live_B (Tb:Nat→UInt8 × UInt8):Pl.isOk (Pl.grownS ⟨Pl.strS Tb,Pl.scalS⟩ Pl.liveB)=true:=by kernel_rfl
theorem live_D (Tb:Nat→UInt8 × UInt8):Pl.isBad (Pl.grownS ⟨Pl.strS Tb,Pl.scalS⟩ Pl.liveD) 5 5=true:=by kernel_rfl
theorem live_C (Tb:Nat→UInt8 × UInt8):Pl.isBad (Pl.grownS ⟨Pl.strS Tb,Pl.scalS⟩ Pl.liveC) 5 6=true:=by kernel_rfl
theorem live_E (Tb:Nat→UInt8 × UInt8):Pl.isBad (Pl.grownS ⟨Pl.strS Tb,Pl.scalS⟩ Pl.liveE) 5 9=true:=by kernel_rfl
end Go.Proofs.YtfogfaagjpebcaaGreatDoor
