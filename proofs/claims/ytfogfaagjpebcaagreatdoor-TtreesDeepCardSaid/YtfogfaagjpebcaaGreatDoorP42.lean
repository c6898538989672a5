/-
 The walks and plain laws that the claim rests on, part 42.
-/
import Derived.Test.YtfogfaagjpebcaaGreatDoorP00
import Derived.Test.YtfogfaagjpebcaaGreatDoorP41
set_option maxHeartbeats 16000000
set_option linter.all false
set_option linter.unusedVariables false
set_option linter.unusedSimpArgs false
namespace Go.Proofs.YtfogfaagjpebcaaGreatDoor
open Go.RowKit Go.Shelf Go.Joins
attribute [local go_sem] Oper.semAt_some
structure MorS (z R:Nat) (k1 k2:Value) (w:World):Prop where
 k:FX z k1 k2 w
 r:w.cell? ⟨R,1,none⟩=some (.int .i64 0)
 rl:R<w.heap.size
theorem MorS.gr {z R:Nat} {k1 k2:Value} {w w':World} (h:MorS z R k1 k2 w) (g:Gr w w'):MorS z R k1 k2 w' :=
 ⟨h.k.gr g,(g.use.1 _ _ h.rl).trans h.r,Nat.lt_of_lt_of_le h.rl g.size⟩
theorem more_end {w w12:World} {R B base E:Nat} {s:ByteArray} {nv:Value} {L:List NdR} {own own2:Nat→Nat} {so:List (Nat × Nat)} {x:GrX} (h:GrV w12 R B base s 0 nv L own2 so x) (hE:FX E (.int .i64 0) (.int .i64 0) w12) (hE0:own2 E=0)
    (st:St (FV own) (FV own2) w w12) (hwE:w.heap.size≤E) (hR0:FV own R) (sec dep:Nat) :
    let WF:=((((w12.setCell ⟨R,4,none⟩ (.int .i64 sec)).setCell ⟨R,5,none⟩ (.int .i64 dep)).setCell ⟨R,6,none⟩ (.int .i64 ((x.many:Int)+1))).setCell ⟨E,0,none⟩ (.int .i64 0)).setCell ⟨E,1,none⟩ (.int .i64 0)
    FX E (.int .i64 0) (.int .i64 0) WF∧GrV WF R B base s 0 nv L own2 so { x with sec:=sec,dep:=dep,many:=x.many+1 }∧St (FV own) (FV own2) w WF:=by
 have hRE:R≠E:=fun e=>by have h1:=h.oR;rw[e,hE0]at h1;omega
 have g4:=h.setSec sec dep (x.many+1) (Nat.le_succ _);rw[show (((x.many+1:Nat):Int))=(x.many:Int)+1 from rfl]at g4;have hE4:=((hE.other hRE (o:=4) (.int .i64 sec)).other hRE (o:=5) (.int .i64 dep)).other hRE (o:=6) (.int .i64 ((x.many:Int)+1));have s4:St (FV own) (FV own2) w (((w12.setCell ⟨R,4,none⟩ (.int .i64 sec)).setCell ⟨R,5,none⟩ (.int .i64 dep)).setCell ⟨R,6,none⟩ (.int .i64 ((x.many:Int)+1))) :=
  ((st.setCell (p:=⟨R,4,none⟩) (.inl hR0) _).setCell (p:=⟨R,5,none⟩) (.inl hR0) _).setCell (p:=⟨R,6,none⟩) (.inl hR0) _
 obtain⟨W4,hW4⟩:∃W4,((w12.setCell ⟨R,4,none⟩ (.int .i64 sec)).setCell ⟨R,5,none⟩ (.int .i64 dep)).setCell ⟨R,6,none⟩ (.int .i64 ((x.many:Int)+1))=W4:=⟨_,rfl⟩
 rw[hW4]at g4 hE4 s4 ⊢;refine⟨hE4.set _ _,g4.kept (fun k hk=>?_) (by simp[World.setCell]),(s4.setCell (p:=⟨E,0,none⟩) (.inr hwE) _).setCell (p:=⟨E,1,none⟩) (.inr hwE) _⟩;have hk:k≠E:=fun e=>hk (by rw[e];exact hE0)
 rw[Below.heap_setCell _ _ _ _ hk,Below.heap_setCell _ _ _ _ hk]
set_option maxRecDepth 100000 in
theorem gr_more (w:World) (R B base:Nat) (s:ByteArray) (nv:Value) (L:List NdR) (own:Nat→Nat) (x:GrX) (g:Pl.Gst) (h:GM w R B base s nv L own x g)
    (hL:L.length≤20000001) (hm:x.many≤30000000) (gk gs ck cs:Nat) (ws:List Pl.KW) (la:Nat) (hla:ws.length=la+1) (hl2:la≤30000000)
    (hgk:gk<w.heap.size) (hgs:gs<w.heap.size) (hk0:own gk=0) (hs0:own gs=0) 
    (hrows:∀(j:Nat) (t:Pl.Bs) (a b:Nat),ws[j]?=some (t,a,b)→w.cell? ⟨gk,j,none⟩=some (strV t)∧w.cell? ⟨gs,j*2,none⟩=some (.int .i64 a)∧w.cell? ⟨gs,j*2+1,none⟩=some (.int .i64 b))
    (X:Pl.Res Pl.Gst) (hX:Pl.moreG g ws=X) (hne:X ≠ .non) :
    Calls Tryz.prog 46 #[.pointer (some ⟨R,0,none⟩),.agg #[.slice (some ⟨gk,0,none⟩) ws.length ck,.slice (some ⟨gs,0,none⟩) ws.length cs]] w (TabG w R B base s own x.iv x.nsv X):=by
 have H:=Lib.hid h;have HX:=Lib.hid hX;have HRO:=Lib.hid hrows;clear h hX hrows;have HLA:=Lib.hid hla;clear hla;go_enter Tryz.func46,Tryz.ntmps46
 go_upto_region 1 with fail
 obtain⟨W,hW⟩:∃W,(w.alloc (.cells #[.slice (some ⟨gk,0,none⟩) ws.length ck,.slice (some ⟨gs,0,none⟩) ws.length cs] 77)).alloc (.cells #[.int .i64 0,.int .i64 0] 31)=W:=⟨_,rfl⟩
 obtain⟨hS0,hE0,gW,hz⟩:MorS w.heap.size R (.slice (some ⟨gk,0,none⟩) ws.length ck) (.slice (some ⟨gs,0,none⟩) ws.length cs) W∧FX (w.heap.size+1) (.int .i64 0) (.int .i64 0) W∧Gr w W∧W.heap.size=w.heap.size+1+1:=by
  refine Z195 ?_;intro f1 g2 z2 w2 h2;rw[h2]at hW f1 g2 z2;refine Z304 ?_;intro f2 g3 z3;rw[hW]at f2 g3 z3;rw[z2]at f2 z3;have hR:=H.out.v.R_lt;exact⟨⟨f1.gr g3,((g2.trans g3).use.1 _ _ hR.2).trans H.out.v.cells.1.2.1,by omega⟩,f2,g2.trans g3,z3⟩
 rw[hW];clear hW;have HS0:=Lib.hid hS0;have HE0:=Lib.hid hE0;have HG:=Lib.hid gW;clear hS0 hE0 gW;obtain⟨Y,hY⟩:∃Y,Pl.wayG (2,0) Pl.ledG ws.dropLast 0 1 g=Y:=⟨_,rfl⟩
 have HY:=Lib.hid hY;have hYn:Y ≠ .non:=fun e=>by
  have:=HX.out;unfold Pl.moreG at this;rw[HY.out,e]at this;exact hne this.symm
 clear hY;have HWAY:=Lib.hid (fun V (q:Gr w V)=>gr_way_led V R B base s nv L own x g (H.out.gr q) 0 1 (2,0) hL hm (by omega) gk gs ck cs ws la HLA.out hl2 (Nat.lt_of_lt_of_le hgk q.size) (Nat.lt_of_lt_of_le hgs q.size) hk0 hs0
  (fun j t a b hj=>⟨(q.use.1 _ _ hgk).trans (HRO.out j t a b hj).1,(q.use.1 _ _ hgs).trans (HRO.out j t a b hj).2.1,(q.use.1 _ _ hgs).trans (HRO.out j t a b hj).2.2⟩) Y HY.out hYn)
 refine Z212 ?_;intro hlt HZ;clear hz
 go_cut [5,6] (fun s5 s6 W'=>TabR W R B base s own x Y s5 s6 W')
 case first =>
  have hS:=HS0.out.gr (Gr.refl W).drew;refine Reg.begin' (W:=fun i=>i != 11 && i != 17 && i != 18) (S:=MorS w.heap.size R (.slice (some ⟨gk,0,none⟩) ws.length ck) (.slice (some ⟨gs,0,none⟩) ws.length cs)) (by kernel_rfl) ?_;refine Z40 ?_;refine Z42 ?_;refine Reg.tl 5 hS ?_ (hy:=by intro w hSw;obtain⟨⟨s2,s3,s4,s5⟩,s6,s8⟩:=hSw;go_simp;try with_reducible rfl);refine Reg.ty 6 ?_;refine Reg.tl 7 hS ?_ (hy:=by intro w hSw;obtain⟨⟨s2,s3,s4,s5⟩,s6,s8⟩:=hSw;go_simp;try with_reducible rfl);refine Z46 ?_;exact J78
 case rest =>
  obtain⟨b5,b6,rfl,rfl,hne56,h5,h6,hYY⟩:=hcut;have hXX:=HX.out;unfold Pl.moreG at hXX;rw[HY.out]at hXX;have hRw:=H.out.v.R_lt;cases Y with
  | non=>exact absurd rfl hYn
  | bad c p =>
   simp only at hXX;obtain⟨⟨n,d,f5⟩,f6,hc0,own2,st2,hs2,on2⟩:=hYY;have hE:=HE0.out.st st2 (fun e=>by have:=(H.out.v.lt _ e).2;omega);obtain⟨k0,k1,kf,kl⟩:=id f6;have hEh:=Lib.hid hE;have F6:=Lib.hid f6;have ST2:=Lib.hid st2;clear hE f5 f6;go_wp2_with fail;refine (tt_fine_no c p (by omega) wc).mono ?_;rintro e w5 ⟨rfl,g5⟩;have f6':=F6.out.gr g5;have hE':=hEh.out.gr g5;obtain⟨v0,v1,vf,vl⟩:=id f6';obtain⟨r0,r1,rf,rl⟩:=id hE';clear k0 k1 kf kl;go_wp2_with fail;have hF:=hE'.set (.int .i64 c) (.int .i64 p);have sF:St (FV own) (FV own2) w _:=((((HG.out.st).trans ST2.out).gr g5).setCell (p:=⟨w.heap.size+1,0,none⟩) (.inr (by simp only;omega)) (.int .i64 c)).setCell (p:=⟨w.heap.size+1,1,none⟩) (.inr (by simp only;omega)) (.int .i64 p);have hc2:((w5.setCell ⟨w.heap.size+1,0,none⟩ (.int .i64 c)).setCell ⟨w.heap.size+1,1,none⟩ (.int .i64 p)).cell? ⟨R,2,none⟩=some (.string s):=by
    exact J60
   obtain⟨WF,hWF⟩:∃W',((w5.setCell ⟨w.heap.size+1,0,none⟩ (.int .i64 c)).setCell ⟨w.heap.size+1,1,none⟩ (.int .i64 p))=W':=⟨_,rfl⟩
   rw[hWF]at hF sF hc2;rw[hWF];clear hWF;obtain⟨q0,q1,qf,ql⟩:=hF;rw[←hXX];exact bodyPost_ret (v:=fv c p) (by simp[results,Tryz.results46,go_sem,q0,q1,qf,ql]) rfl ⟨rfl,hc0,own2,sF,hc2,fun k hk=>(on2 k hk).imp id (fun h=>by have:=HG.out.size;omega)⟩
  | ok r =>
   obtain⟨n,d,g'⟩:=r;simp only at hXX;obtain⟨f5,f6,nv',L',own',z5,z6,hgm,hst,hon⟩:=hYY;have hnew:∀k,w.heap.size≤k→k<W.heap.size→¬FV own k:=fun k h1 h2 e=>by have:=(H.out.v.lt k e).2;omega
   have hz:=HZ.out;have hE:=HE0.out.st hst (hnew _ (by omega) (by omega));have hKx:=HS0.out.k.st hst (hnew _ (by omega) (by omega));have HE:=Lib.hid hE;have HKX:=Lib.hid hKx;refine Z134 ?_;intro F5 F6 HST HGM HON k0 k1 kf kl wt a b hwl;have hgl:ws.getLast?=some (wt,a,b):=by rw[List.getLast?_eq_getElem?,HLA.out];exact hwl
   rw[hgl]at hXX;simp only at hXX;have HXX:=Lib.hid hXX;have HWL:=Lib.hid hwl;clear hE hKx f5 f6 hst hgm hon hwl hgl hXX hz hnew;go_wp2_with fail;refine (tt_fine_yes wc).mono ?_;rintro e w5 ⟨rfl,g5⟩;obtain⟨x0,x1,xf,xl⟩:=HKX.out.gr g5;clear k0 k1 kf kl;go_wp2_with fail;have hgkW:=Nat.lt_of_lt_of_le hgk HG.out.size;have hgsW:=Nat.lt_of_lt_of_le hgs HG.out.size;have tok:∀o,w5.cell? ⟨gk,o,none⟩=w.cell? ⟨gk,o,none⟩:=fun o=>(g5.use.1 _ _ (Nat.lt_of_lt_of_le hgkW HST.out.size)).trans (((HST.out.use gk hgkW (fun e=>e hk0)).1 _).trans (HG.out.use.1 _ _ hgk))
   have tos:∀o,w5.cell? ⟨gs,o,none⟩=w.cell? ⟨gs,o,none⟩:=fun o=>(g5.use.1 _ _ (Nat.lt_of_lt_of_le hgsW HST.out.size)).trans (((HST.out.use gs hgsW (fun e=>e hs0)).1 _).trans (HG.out.use.1 _ _ hgs))
   refine Z63 ?_;intro r1 r2 r3 w6 g6 g56 hLAST;obtain⟨e0,e1,ef,el⟩:=F5.out.gr g56;have G56:=Lib.hid g56;clear x0 x1 xf xl tok tos r1 r2 r3 hLAST g5 g6 g56;have hwk:=wayG_ok _ _ (fun _ _ _ _ _ e=>ledG_d e) _ _ _ _ _ _ _ HY.out (by rw[←H.out.nd,List.length_map];exact hL);have hLL:L'.length≤20000001:=by have:=hwk.1;rw[←HGM.out.nd,List.length_map]at this;exact this
   have hdd:d≤100000000:=by have:=hwk.2;rw[List.length_dropLast,HLA.out]at this;omega
   clear hwk;have hbt:bs (⟨wt.toArray⟩:ByteArray)=wt:=by simp[bs]
   obtain⟨XS,hXS⟩:∃X,Pl.subOf g'.nds n wt=X:=⟨_,rfl⟩
   have hXX:=HXX.out;rw[hXS]at hXX;have hXSn:XS ≠ .non:=fun e=>by rw[e]at hXX;exact hne hXX.symm
   refine Z141 ?_;intro W7 hW7 G7 hsp g7 z7;have HMG7:=Lib.hid (HGM.out.gr G7.out);have HSUB:=Lib.hid (gr_sub W7 R B base s 0 nv' L' own' g'.srt x HMG7.out.v n ⟨wt.toArray⟩ XS (by rw[HGM.out.nd,hbt];exact hXS) hXSn);have HXS:=Lib.hid hXS;have hii:∀i,XS = .yes i→i<L'.length:=fun i e=>by
    have h1:=HXS.out;rw[e]at h1;unfold Pl.subOf at h1
    split at h1
    · cases h1
    split at h1
    · cases h1
    split at h1
    · cases h1
    split at h1
    · rename_i h2
      cases h1;rw[←HGM.out.nd,List.length_map]at h2;exact h2
    cases h1
   have HSP:=Lib.hid hsp;clear e0 e1 ef el;obtain⟨e0,e1,ef,el⟩:=F5.out.gr G7.out;obtain⟨y0,y1,yf,yl⟩:=hsp;have wd2:IntKind.i64.wrap ((d:Int)+2)=(d:Int)+2:=IntWalk.i64_in _ ⟨by omega,by omega⟩;have hRw7:=HMG7.out.v.R_lt.2;clear hXS;go_wp2_with fail;refine HSUB.out.mono ?_;refine Z48 ?_;clear HSUB;cases XS with
   | non=>exact absurd rfl hXSn
   | yes i =>
    have hi:=hii i rfl;have s0:((i:Int) != -1)=true:=by simp
    obtain⟨⟨c0,c1,c2,c3,c4,c5,c6⟩,c7,c8,fz⟩:=HMG7.out.v.cells;obtain⟨sh,sof,hso⟩:∃a b,g'.srt.getD i (0,0)=(a,b):=⟨_,_,rfl⟩
    have hlk:=HMG7.out.v.look i (by omega) W7 rfl;rw[hso,show sortV (sh,sof) = .agg #[.int .u8 sh,.int .i64 sof] from rfl]at hlk;have hs1:(Pl.sortOf g' i).1=sh:=by unfold Pl.sortOf;rw[hso]
    have hfld:∀W,(Instr.field 86 (.agg #[.int .u8 sh,.int .i64 sof]) 0).run Tryz.prog W = .ok (.int .u8 sh) W:=fun W=>by kernel_rfl
    have hfld7:=hfld W7;simp only at hXX;rw[hs1]at hXX;clear c0 c1 c2 c4 c5 c6 c7 c8 fz;dsimp only [gsubRes];by_cases h4:sh=4
    · have s4:((sh:Int) != 4)=false:=by simp;omega
      rw[if_pos h4]at hXX;have H4:=Lib.hid h4;clear h4;by_cases hdp:256<d+2
      · exact J103
      have s2:decide ((256:Int)<(d:Int)+2)=false:=by simp;omega
      rw[if_neg hdp]at hXX;obtain⟨ri,hri⟩:∃r,L'[i]?=some r:=⟨_,List.getElem?_eq_getElem hi⟩
      by_cases hgr:(Pl.subsOk g' i && Pl.room g'.nds)=true
      · rw[if_pos hgr]at hXX;rw[Bool.and_eq_true]at hgr;have hru:ri.nd.subs.length≤30000000:=by
         have h1:=hgr.1;unfold Pl.subsOk at h1;rw[←HGM.out.nd,List.getElem?_map,hri]at h1;exact of_decide_eq_true h1
        have h8:Grown g'.srt i:=by unfold Grown;rw[hso];show sh≠0;have:=H4.out;omega
        have hR0:FV own R:=by unfold FV;rw[H.out.v.oR];omega
        refine Z274 ?_;intro hE0;clear hgr
        go_upto_region 13 with fail
        have hS5:FX b5 (.int .i64 n) (.int .i64 d) W7.drew:=(F5.out.gr G7.out).gr (Gr.refl W7).drew;have hEx:=(HE.out.gr G7.out)
        have hFx:=(F6.out.gr G7.out)
        have hSx:=((((HG.out.st).trans HST.out).gr G7.out))
        have HELEM:=Lib.hid (gr_element W7.drew R B base s _ _ _ _ x (HMG7.out.v).drew (by omega) hm (i) (ri) (hri) (h8) (hru));refine Z309 ?_;rintro e w12 ⟨he,nvE,ownE,kvE,svE,uvE,GVE,STE,ONE⟩;subst he;have hS6:=hS5.st STE (fun e=>e z5);refine Z80 ?_;refine Z60 ?_;obtain⟨⟨c0,c1,c2,c3,c4,c5,c6⟩,c7,c8,fz⟩:=GVE.cells;have hE12:=(hEx.gr (Gr.refl W7).drew).st STE (fun e=>e hE0);have hF12:=(hFx.gr (Gr.refl W7).drew).st STE (fun e=>e z6);have hS12:=hSx.drew.trans STE;have hEz:ownE (w.heap.size+1)=0:=Decidable.byContradiction fun h=>(ONE _ h).elim (fun h=>h hE0) (fun h=>by have h1:=hEx.2.2.2;rw[show W7.drew.heap.size=W7.heap.size from rfl]at h;omega)
        have hME:=more_end GVE hE12 hEz hS12 (Nat.le_succ _) hR0 L'.length (d+2);refine Z241 ?_;intro wm;have hR12:=GVE.R_lt.2;have HME:=Lib.hid hME;have HONE:=Lib.hid ONE;obtain⟨r0,r1,rf,rl⟩:=hE12;obtain⟨v0,v1,vf,vl⟩:=hF12;clear hME GVE STE ONE hS12 hEx hFx hSx c0 c1 c2 c3 c7 c8;refine Reg.on 10 ?_;refine Z292 ?_;go_wp2_with fail;obtain⟨hFF,hGF,hSF⟩:=HME.out;obtain⟨WF,hWF⟩:∃WF,((((w12.setCell ⟨R,4,none⟩ (.int .i64 L'.length)).setCell ⟨R,5,none⟩ (.int .i64 ((d+2:Nat):Int))).setCell ⟨R,6,none⟩ (.int .i64 ((x.many:Int)+1))).setCell ⟨w.heap.size+1,0,none⟩ (.int .i64 0)).setCell ⟨w.heap.size+1,1,none⟩ (.int .i64 0)=WF:=⟨_,rfl⟩
        rw[hWF]at hFF hGF hSF;rw[show ((d+2:Nat):Int)=(d:Int)+2 from rfl]at hWF;rw[hWF];clear hWF r0 r1 rf rl v0 v1 vf vl;obtain⟨q0,q1,qf,ql⟩:=hFF;rw[←hXX];refine bodyPost_ret (v:=f0) (by simp[results,Tryz.results46,go_sem,q0,q1,qf,ql]) rfl ⟨rfl,nvE,_,ownE,{ x with sec:=L'.length,dep:=d+2,many:=x.many+1 },rfl,rfl,⟨hGF,?_,?_,rfl,by show x.many+1=g'.many+1;rw[HGM.out.many]⟩,hSF,fun k hk=>?_⟩
        · rw[nds_sub _ i ri (by rw[List.getElem?_append_left hi];exact hri),List.map_append,HGM.out.nd];have e1:L'.length=g'.nds.length:=by rw[←HGM.out.nd,List.length_map]
          rw[e1];rfl
        · show L'.length=g'.nds.length;rw[←HGM.out.nd,List.length_map]
        refine Z209 ?_;intro hz7;rcases HONE.out k hk with h|h
        · exact (HON.out k h).imp id (fun h=>by have:=HG.out.size;omega)
        exact .inr (by rw[show W7.drew.heap.size=W7.heap.size from rfl]at h;have:=HG.out.size;omega)
      exact J57
    have s4:((sh:Int) != 4)=true:=by simp;omega
    rw[if_neg h4]at hXX;clear h4;have hE':=(HE.out.gr G7.out)
    obtain⟨r0,r1,rf,rl⟩:=id hE';go_wp2_with fail;have hF:=hE'.set (.int .i64 5) (.int .i64 a);have sF7:=(((HG.out.st).trans HST.out).gr G7.out)
    have sF:St (FV own) (FV own') w _:=(sF7.setCell (p:=⟨w.heap.size+1,0,none⟩) (.inr (by simp only;omega)) (.int .i64 5)).setCell (p:=⟨w.heap.size+1,1,none⟩) (.inr (by simp only;omega)) (.int .i64 a);have hc2:((W7.setCell ⟨w.heap.size+1,0,none⟩ (.int .i64 5)).setCell ⟨w.heap.size+1,1,none⟩ (.int .i64 a)).cell? ⟨R,2,none⟩=some (.string s):=by
     exact J66
    obtain⟨WF,hWF⟩:∃W',((W7.setCell ⟨w.heap.size+1,0,none⟩ (.int .i64 5)).setCell ⟨w.heap.size+1,1,none⟩ (.int .i64 a))=W':=⟨_,rfl⟩
    rw[hWF]at hF sF hc2;rw[hWF];clear hWF;obtain⟨q0,q1,qf,ql⟩:=hF;rw[←hXX];exact bodyPost_ret (v:=fv 5 a) (by simp[results,Tryz.results46,go_sem,q0,q1,qf,ql]) rfl ⟨rfl,by decide,own',sF,hc2,fun k hk=>(HON.out k hk).imp id (fun h=>by have:=HG.out.size;omega)⟩
   | no =>
    have s0:((-1:Int) != -1)=false:=by simp
    simp only at hXX;dsimp only [gsubRes];by_cases hdp:256<d+2
    · exact J103
    have s2:decide ((256:Int)<(d:Int)+2)=false:=by simp;omega
    rw[if_neg hdp]at hXX;by_cases hgr:(Pl.grown8 g' n && Pl.room g'.nds)=true
    · rw[if_pos hgr]at hXX;rw[Bool.and_eq_true]at hgr;obtain⟨hg8,hroom⟩:=hgr;unfold Pl.grown8 at hg8;rw[Bool.and_eq_true]at hg8;obtain⟨hk8,hso8⟩:=hg8;have hkind:=hk8;unfold Pl.kind8 at hkind;rw[Bool.and_eq_true,decide_eq_true_eq]at hkind;obtain⟨hnl,hkk⟩:=hkind;obtain⟨r,hr⟩:∃r,L'[n]?=some r:=by
       cases hr:L'[n]? with
       | some r=>exact⟨r,rfl⟩
       | none =>
        rw[←HGM.out.nd,List.getElem?_map,hr]at hkk;cases hkk
      have hrn:g'.nds[n]?=some r.nd:=by rw[←HGM.out.nd,List.getElem?_map,hr];rfl
      rw[hrn]at hkk;simp only[Bool.and_eq_true,decide_eq_true_eq]at hkk;obtain⟨⟨⟨_,hc1⟩,hc2⟩,hc3⟩:=hkk;have hnL:n<L'.length:=(List.getElem?_eq_some_iff.1 hr).1;have hr1:(L'++[growR 7])[n]?=some r:=by rw[List.getElem?_append_left hnL];exact hr
      have hsl:g'.srt.length=L'.length:=HGM.out.v.sl;have hG1:Grown (g'.srt++[(4,0)]) n:=by
       have h1:(g'.srt++[(4,0)]).getD n (0,0)=g'.srt.getD n (0,0):=by
        exact J58
       unfold Grown;rw[h1];intro h2;unfold Pl.sortOf at hso8;rw[h2]at hso8;cases hso8
      have hR0:FV own R:=by unfold FV;rw[H.out.v.oR];omega
      refine Z274 ?_;intro hE0;have hSPz:=HSP.out.2.2.2;have oS:own' w6.heap.size=0:=Decidable.byContradiction fun h=>by have h1:=(HGM.out.v.lt _ h).2;have:=G56.out.size;omega
      go_wp2_with fail;refine (gr_grow W7 R B base s 0 nv' L' own' g'.srt x HMG7.out.v (by omega) hm 7 (4,0)).mono ?_;rintro e w9 ⟨he,nv1,own1,GV1,ST1,ON1⟩;subst he;have hfree:∀k,own' k=0→k<W7.heap.size→own1 k=0:=fun k h1 h2=>Decidable.byContradiction fun h=>(ON1 _ h).elim (fun h=>h h1) (fun h=>by omega)
      have x5:=(F5.out.gr G7.out).st ST1 (fun h=>h z5);have xS:=HSP.out.st ST1 (fun h=>h oS);have X5:=Lib.hid x5;have XS:=Lib.hid xS;obtain⟨e0,e1,ef,el⟩:=x5;obtain⟨y0,y1,yf,yl⟩:=xS;have HPUT:=Lib.hid (gr_put w9 R B base s 0 nv1 (L'++[growR 7]) own1 (g'.srt++[(4,0)]) x GV1 (by rw[List.length_append];simp only[List.length_singleton];omega) n r hr1 hG1 hc1 hc2 hc3 ⟨wt.toArray⟩ a b L'.length);have m5:=hfree b5 z5 (F5.out.gr G7.out).2.2.2;have m6:=hfree b6 z6 (F6.out.gr G7.out).2.2.2;have mE:=hfree (w.heap.size+1) hE0 (HE.out.gr G7.out).2.2.2;have hST1:=Lib.hid ST1;have hON1:=Lib.hid ON1;have h9:=ST1.size;clear hr1 hrn hG1 GV1 ST1 ON1 hfree;go_wp2_with fail;refine HPUT.out.mono ?_;rintro e w10 ⟨he,own2,kv,sv,uv,GV2,ST2,ON2⟩;subst he;have hfree:∀k,own1 k=0→k<w9.heap.size→own2 k=0:=fun k h1 h2=>Decidable.byContradiction fun h=>(ON2 _ h).elim (fun h=>h h1) (fun h=>by omega)
      have x5:=X5.out.st ST2 (fun h=>h m5);have xE:=((HE.out.gr G7.out).st hST1.out (fun h=>h hE0)).st ST2 (fun h=>h mE);have x6:=((F6.out.gr G7.out).st hST1.out (fun h=>h z6)).st ST2 (fun h=>h m6);have hst10:=((((HG.out.st).trans HST.out).gr G7.out).trans hST1.out).trans ST2;have k5:=hfree b5 m5 X5.out.2.2.2;have k6:=hfree b6 m6 (Nat.lt_of_lt_of_le (F6.out.gr G7.out).2.2.2 h9);have kE:=hfree (w.heap.size+1) mE (Nat.lt_of_lt_of_le (HE.out.gr G7.out).2.2.2 h9);have X5':=Lib.hid x5;have XE:=Lib.hid xE;have X6:=Lib.hid x6;obtain⟨LP,hLP⟩:∃LP,(L'++[growR 7]).set n ⟨Pl.putNd r.nd (bs ⟨wt.toArray⟩) (a,b) L'.length,kv,sv,uv⟩=LP:=⟨_,rfl⟩
      rw[hLP]at GV2;have hLPn:LP.map (·.nd)=(Pl.putG (Pl.growG g' 7 (4,0)) n wt (a,b) g'.nds.length).nds:=by
       rw[←hLP,nds_put _ n r (by rw[List.getElem?_append_left hnL];exact hr),show bs (⟨wt.toArray⟩:ByteArray)=wt by simp[bs],List.map_append,HGM.out.nd,show L'.length=g'.nds.length from by rw[←HGM.out.nd,List.length_map]];rfl
      have hlp:LP.length≤20000002:=by rw[←hLP];simp;omega
      have HLPl:=Lib.hid (show LP.length=L'.length+1 by rw[←hLP];simp);have hri:LP[L'.length]?=some (growR 7):=by
       rw[←hLP,List.getElem?_set_ne (by omega),List.getElem?_append_right (Nat.le_refl _),Nat.sub_self];rfl
      have h8:Grown (g'.srt++[(4,0)]) L'.length:=by
       unfold Grown;rw[List.getD_eq_getElem?_getD,←hsl,List.getElem?_append_right (Nat.le_refl _),Nat.sub_self];decide
      have hst2:=Lib.hid ST2;have hON2:=Lib.hid ON2;have h10:=ST2.size;have HGV2:=Lib.hid GV2;have hR10:=GV2.R_lt.2;clear x5 xE x6 ST2 ON2 GV2 hfree hLP e0 e1 ef el y0 y1 yf yl HPUT
      go_upto_region 13 with fail
      have hS5:FX b5 (.int .i64 n) (.int .i64 d) w10.drew:=(X5'.out).gr (Gr.refl w10).drew;have hEx:=(XE.out)
      have hFx:=(X6.out)
      have hSx:=(hst10)
      have HELEM:=Lib.hid (gr_element w10.drew R B base s _ _ _ _ x (HGV2.out).drew (hlp) hm (L'.length) (growR 7) (hri) (h8) (by simp[growR,Pl.growNd]));refine Z309 ?_;rintro e w12 ⟨he,nvE,ownE,kvE,svE,uvE,GVE,STE,ONE⟩;subst he;have hS6:=hS5.st STE (fun e=>e k5);refine Z80 ?_;refine Z60 ?_;obtain⟨⟨c0,c1,c2,c3,c4,c5,c6⟩,c7,c8,fz⟩:=GVE.cells;have hE12:=(hEx.gr (Gr.refl w10).drew).st STE (fun e=>e kE);have hF12:=(hFx.gr (Gr.refl w10).drew).st STE (fun e=>e k6);have hS12:=hSx.drew.trans STE;have hEz:ownE (w.heap.size+1)=0:=Decidable.byContradiction fun h=>(ONE _ h).elim (fun h=>h kE) (fun h=>by have h1:=hEx.2.2.2;rw[show w10.drew.heap.size=w10.heap.size from rfl]at h;omega)
      have hME:=more_end GVE hE12 hEz hS12 (Nat.le_succ _) hR0 LP.length (d+2);refine Z241 ?_;intro wm;have hR12:=GVE.R_lt.2;have HME:=Lib.hid hME;have HONE:=Lib.hid ONE;obtain⟨r0,r1,rf,rl⟩:=hE12;obtain⟨v0,v1,vf,vl⟩:=hF12;clear hME GVE STE ONE hS12 hEx hFx hSx c0 c1 c2 c3 c7 c8;refine Reg.on 10 ?_;refine Z292 ?_;go_wp2_with fail;obtain⟨hFF,hGF,hSF⟩:=HME.out;obtain⟨WF,hWF⟩:∃WF,((((w12.setCell ⟨R,4,none⟩ (.int .i64 LP.length)).setCell ⟨R,5,none⟩ (.int .i64 ((d+2:Nat):Int))).setCell ⟨R,6,none⟩ (.int .i64 ((x.many:Int)+1))).setCell ⟨w.heap.size+1,0,none⟩ (.int .i64 0)).setCell ⟨w.heap.size+1,1,none⟩ (.int .i64 0)=WF:=⟨_,rfl⟩
      rw[hWF]at hFF hGF hSF;rw[show ((d+2:Nat):Int)=(d:Int)+2 from rfl]at hWF;rw[hWF];clear hWF r0 r1 rf rl v0 v1 vf vl;obtain⟨q0,q1,qf,ql⟩:=hFF;rw[←hXX];refine bodyPost_ret (v:=f0) (by simp[results,Tryz.results46,go_sem,q0,q1,qf,ql]) rfl ⟨rfl,nvE,_,ownE,{ x with sec:=LP.length,dep:=d+2,many:=x.many+1 },rfl,rfl,⟨hGF,?_,?_,rfl,by show x.many+1=g'.many+1;rw[HGM.out.many]⟩,hSF,fun k hk=>?_⟩
      · rw[nds_sub _ L'.length (growR 7) (by rw[List.getElem?_append_left (by have:=HLPl.out;omega)];exact hri),List.map_append,hLPn];have e1:L'.length=g'.nds.length:=by rw[←HGM.out.nd,List.length_map]
        have e2:LP.length=(Pl.putG (Pl.growG g' 7 (4,0)) n wt (a,b) g'.nds.length).nds.length:=by rw[←hLPn,List.length_map]
        rw[e1,e2];rfl
      · show LP.length=(Pl.putG (Pl.growG g' 7 (4,0)) n wt (a,b) g'.nds.length).nds.length;rw[←hLPn,List.length_map]
      refine Z209 ?_;intro hz7;have hz:=HG.out.size;rcases HONE.out k hk with h|h
      · rcases hON2.out k h with h|h
        · rcases hON1.out k h with h|h
          · exact (HON.out k h).imp id (fun h=>by omega)
          exact J38
        exact J38
      exact .inr (by rw[show w10.drew.heap.size=w10.heap.size from rfl]at h;omega)
    exact J57
end Go.Proofs.YtfogfaagjpebcaaGreatDoor
