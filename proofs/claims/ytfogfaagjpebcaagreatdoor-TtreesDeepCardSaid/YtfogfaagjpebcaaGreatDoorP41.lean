/-
 The walks and plain laws that the claim rests on, part 41.
-/
import Derived.Test.YtfogfaagjpebcaaGreatDoorP00
import Derived.Test.YtfogfaagjpebcaaGreatDoorP39
import Derived.Test.YtfogfaagjpebcaaGreatDoorP40
set_option maxHeartbeats 16000000
set_option linter.all false
set_option linter.unusedVariables false
set_option linter.unusedSimpArgs false
namespace Go.Proofs.YtfogfaagjpebcaaGreatDoor
open Go.RowKit Go.Shelf Go.Joins
attribute [local go_sem] Oper.semAt_some
def TabG (w:World) (R B base:Nat) (s:ByteArray) (own:Nat→Nat) (iv nsv:Value) (X:Pl.Res Pl.Gst) (e:Ending) (w':World):Prop:=match X with
 | .non=>True
 | .bad c p=>e = .returned (fv c p)∧c≠0∧∃own',St (FV own) (FV own') w w'∧w'.cell? ⟨R,2,none⟩=some (.string s)∧(∀k,own' k≠0→own k≠0∨w.heap.size≤k)
 | .ok g'=>e = .returned f0∧∃nv' L' own' x',x'.iv=iv∧x'.nsv=nsv∧GM w' R B base s nv' L' own' x' g'∧St (FV own) (FV own') w w'∧(∀k,own' k≠0→own k≠0∨w.heap.size≤k)
def TabR (w:World) (R B base:Nat) (s:ByteArray) (own:Nat→Nat) (x:GrX) (Y:Pl.Res (Nat × Nat × Pl.Gst)) (s5 s6:Value) (w':World):Prop :=
 ∃b5 b6:Nat,s5 = .pointer (some ⟨b5,0,none⟩)∧s6 = .pointer (some ⟨b6,0,none⟩)∧b5≠b6∧w.heap.size≤b5∧w.heap.size≤b6∧match Y with
  | .non=>True
  | .bad c p=>(∃n d:Int,FX b5 (.int .i64 n) (.int .i64 d) w')∧FX b6 (.int .i64 c) (.int .i64 p) w'∧c≠0∧∃own',St (FV own) (FV own') w w'∧w'.cell? ⟨R,2,none⟩=some (.string s)∧(∀k,own' k≠0→own k≠0∨w.heap.size≤k)
  | .ok (n,d,g')=>FX b5 (.int .i64 n) (.int .i64 d) w'∧FX b6 (.int .i64 0) (.int .i64 0) w'∧∃nv' L' own',own' b5=0∧own' b6=0∧GM w' R B base s nv' L' own' x g'∧St (FV own) (FV own') w w'∧(∀k,own' k≠0→own k≠0∨w.heap.size≤k)
theorem StepG.open {V w2:World} {R B base:Nat} {s:ByteArray} {own:Nat→Nat} {x:GrX} {Y:Pl.Res (Nat × Nat × Pl.Gst)} {e:Ending} (h:StepG V R B base s own x Y e w2) (hn:Y ≠ .non) :
    ∃(n d c q:Int),e = .returned (.tuple #[.agg #[.int .i64 n,.int .i64 d],.agg #[.int .i64 c,.int .i64 q]])∧∃own',St (FV own) (FV own') V w2:=by
 cases Y with
 | non=>exact absurd rfl hn
 | bad c p =>
  obtain⟨⟨n,d,he⟩,_,own',hst,_⟩:=h;exact⟨n,d,c,p,he,own',hst⟩
 | ok r =>
  obtain⟨n,d,g'⟩:=r;obtain⟨he,_,_,own',_,hst,_⟩:=h;exact⟨n,d,0,0,he,own',hst⟩
theorem tabR_of {W V w2 w3:World} {R B base:Nat} {s:ByteArray} {own:Nat→Nat} {x:GrX} {Y:Pl.Res (Nat × Nat × Pl.Gst)} {n d c q:Int} (h:StepG V R B base s own x Y (.returned (.tuple #[.agg #[.int .i64 n,.int .i64 d],.agg #[.int .i64 c,.int .i64 q]])) w2)
    (gV:Gr W V) (g3:Gr w2 w3) (hlt:∀k,own k≠0→k<W.heap.size) (hR:R<W.heap.size) {b5 b6:Nat} (hne:b5≠b6) (h5:W.heap.size≤b5) (h6:W.heap.size≤b6) (o5:b5<V.heap.size∨w2.heap.size≤b5) (o6:b6<V.heap.size∨w2.heap.size≤b6)
    {x5 y5 x6 y6:Value} (f5:FX b5 x5 y5 w3) (f6:FX b6 x6 y6 w3) :
    TabR W R B base s own x Y (.pointer (some ⟨b5,0,none⟩)) (.pointer (some ⟨b6,0,none⟩)) ((((w3.setCell ⟨b5,0,none⟩ (.int .i64 n)).setCell ⟨b5,1,none⟩ (.int .i64 d)).setCell ⟨b6,0,none⟩ (.int .i64 c)).setCell ⟨b6,1,none⟩ (.int .i64 q)):=by
 refine⟨b5,b6,rfl,rfl,hne,h5,h6,?_⟩;cases Y with
 | non=>trivial
 | bad c' p' =>
  obtain⟨⟨n',d',he⟩,hc,own',hst,hs,hon⟩:=h;have h1:n=n'∧d=d'∧c=(c':Int)∧q=(p':Int):=by simpa [fv,and_assoc]using he
  obtain⟨rfl,rfl,rfl,rfl⟩:=h1;have hz:=gV.size;obtain⟨a1,a2,a3,a4,a5⟩:=fx2s f5 f6 hne ((gV.st).trans (hst.gr g3)) h5 h6 (.int .i64 n) (.int .i64 d) (.int .i64 c') (.int .i64 p');refine⟨⟨n,d,a1⟩,a2,hc,own',a3,?_,fun k hk=>(hon k hk).imp id (fun h=>by omega)⟩;have hz2:=hst.size;exact (World.cell?_of_block (w:=w3) (a:=⟨R,2,none⟩) (a4 R (by omega) (by omega))).trans ((g3.use.1 _ _ (by omega)).trans hs)
 | ok r =>
  obtain⟨n',d',g'⟩:=r;obtain⟨he,nv',L',own',hgm,hst,hon⟩:=h;have h1:n=(n':Int)∧d=(d':Int)∧c=0∧q=0:=by simpa [f0,and_assoc]using he
  obtain⟨rfl,rfl,rfl,rfl⟩:=h1;have hz:=gV.size;obtain⟨a1,a2,a3,a4,a5⟩:=fx2s f5 f6 hne ((gV.st).trans (hst.gr g3)) h5 h6 (.int .i64 n') (.int .i64 d') (.int .i64 0) (.int .i64 0);have hz:∀b,W.heap.size≤b→(b<V.heap.size∨w2.heap.size≤b)→own' b=0:=fun b hb ho=>Decidable.byContradiction fun hk=>by
   rcases ho with ho|ho
   · rcases hon b hk with h|h
     · have:=hlt b h;omega
     omega
   have:=(hgm.v.lt b hk).2;omega
  have z5:=hz b5 h5 o5;have z6:=hz b6 h6 o6;refine⟨a1,a2,nv',L',own',z5,z6,⟨(hgm.v.gr g3).kept (fun k hk=>a4 k (fun e=>hk (by rw[e];exact z5)) (fun e=>hk (by rw[e];exact z6))) a5,hgm.nd,hgm.sec,hgm.dep,hgm.many⟩,a3,fun k hk=>(hon k hk).imp id (fun h=>?_)⟩;have:=gV.size;omega
theorem wayG_ok (t:Nat × Nat) (over:Pl.Gst→Nat→Nat→Pl.Ov) (hd2:∀g d i n d',over g d i = .go n d'→d'≤d+2):∀(ks:List Pl.KW) (an d:Nat) (g:Pl.Gst) (n d2:Nat) (g2:Pl.Gst),Pl.wayG t over ks an d g = .ok (n,d2,g2)→g.nds.length≤20000001→g2.nds.length≤20000001∧d2≤d+2*ks.length
 | [],an,d,g,n,d2,g2,h,hl=>by
  unfold Pl.wayG at h;cases h;exact⟨hl,by omega⟩
 | (w,a,b)::ks,an,d,g,n,d2,g2,h,hl=>by
  unfold Pl.wayG at h
  split at h
  · cases h
  · cases h
  rename_i n1 d1 g1 hs
  obtain⟨h1,h2⟩:=stepG_ok hs (fun i n' d' e=>hd2 g d i n' d' e) hl;obtain⟨h3,h4⟩:=wayG_ok t over hd2 ks n1 d1 g1 n d2 g2 h h1;refine⟨h3,?_⟩;rw[List.length_cons];omega
theorem stepG_grown {g g2:Pl.Gst} {an d n d2:Nat} {w:Pl.Bs} {a b:Nat} {t:Nat × Nat} {over:Nat→Pl.Ov} (h:Pl.stepG g an d w a b t over = .ok (n,d2,g2)) (ht:t.1≠0) (hov:∀i n' d',over i = .go n' d'→Grown g.srt n') (hl:g.srt.length=g.nds.length):Grown g2.srt n:=by
 unfold Pl.stepG at h
 split at h
 · cases h
 · split at h
   · cases h
   · cases h
   rename_i h1
   cases h;exact hov _ _ _ h1
 split at h
 · cases h
 split at h
 · cases h;unfold Grown;show ((g.srt++[t]).getD g.nds.length (0,0)).1≠0;rw[←hl,List.getD_eq_getElem?_getD,List.getElem?_append_right (Nat.le_refl _),Nat.sub_self];exact ht
 cases h
structure TbS (R B z t:Nat) (n:Nat) (w:World):Prop where
 g:w.cell? ⟨z,0,none⟩=some (.pointer (some ⟨R,0,none⟩))
 c3:w.cell? ⟨R,3,none⟩=some (.map (some B))
 t:w.cell? ⟨t,0,none⟩=some (.int .i64 n)
structure TabS (z R:Nat) (k1 k2:Value) (w:World):Prop where
 g:w.cell? ⟨z,0,none⟩=some (.pointer (some ⟨R,0,none⟩))
 k:FX (z+1) k1 k2 w
 r:w.cell? ⟨R,1,none⟩=some (.int .i64 0)
 zl:z<w.heap.size
 rl:R<w.heap.size
theorem TabS.gr {z R:Nat} {k1 k2:Value} {w w':World} (h:TabS z R k1 k2 w) (g:Gr w w'):TabS z R k1 k2 w' :=
 ⟨(g.use.1 _ _ h.zl).trans h.g,h.k.gr g,(g.use.1 _ _ h.rl).trans h.r,Nat.lt_of_lt_of_le h.zl g.size,Nat.lt_of_lt_of_le h.rl g.size⟩
set_option maxRecDepth 100000 in
theorem gr_table (w:World) (R B base:Nat) (s:ByteArray) (nv:Value) (L:List NdR) (own:Nat→Nat) (x:GrX) (g:Pl.Gst) (h:GM w R B base s nv L own x g)
    (hL:L.length≤20000001) (hm:x.many≤30000000) (gk gs ck cs:Nat) (ws:List Pl.KW) (la:Nat) (hla:ws.length=la+1) (hl2:la≤30000000)
    (hgk:gk<w.heap.size) (hgs:gs<w.heap.size) (hk0:own gk=0) (hs0:own gs=0) 
    (hrows:∀(j:Nat) (t:Pl.Bs) (a b:Nat),ws[j]?=some (t,a,b)→w.cell? ⟨gk,j,none⟩=some (strV t)∧w.cell? ⟨gs,j*2,none⟩=some (.int .i64 a)∧w.cell? ⟨gs,j*2+1,none⟩=some (.int .i64 b))
    (X:Pl.Res Pl.Gst) (hX:Pl.tableG g ws=X) (hne:X ≠ .non) :
    Calls Tryz.prog 47 #[.pointer (some ⟨R,0,none⟩),.agg #[.slice (some ⟨gk,0,none⟩) ws.length ck,.slice (some ⟨gs,0,none⟩) ws.length cs]] w (TabG w R B base s own x.iv x.nsv X):=by
 have H:=Lib.hid h;have HX:=Lib.hid hX;have HRO:=Lib.hid hrows;clear h hX hrows;have HLA:=Lib.hid hla;clear hla;go_enter Tryz.func47,Tryz.ntmps47
 go_upto_region 1 with fail
 obtain⟨W,hW⟩:∃W,((w.alloc (.cells #[.pointer (some ⟨R,0,none⟩)] 54)).alloc (.cells #[.slice (some ⟨gk,0,none⟩) ws.length ck,.slice (some ⟨gs,0,none⟩) ws.length cs] 77)).alloc (.cells #[.int .i64 0,.int .i64 0] 31)=W:=⟨_,rfl⟩
 obtain⟨hS0,hE0,gW,hz⟩:TabS w.heap.size R (.slice (some ⟨gk,0,none⟩) ws.length ck) (.slice (some ⟨gs,0,none⟩) ws.length cs) W∧FX (w.heap.size+1+1) (.int .i64 0) (.int .i64 0) W∧Gr w W∧W.heap.size=w.heap.size+1+1+1:=by
  obtain⟨w1,h1⟩:∃w1,w.alloc (.cells #[.pointer (some ⟨R,0,none⟩)] 54)=w1:=⟨_,rfl⟩
  rw[h1]at hW;have g1:Gr w w1:=by rw[←h1];exact (Gr.refl _).alloc _
  have z1:w1.heap.size=w.heap.size+1:=by rw[←h1];simp
  have c1:w1.cell? ⟨w.heap.size,0,none⟩=some (.pointer (some ⟨R,0,none⟩)):=by rw[←h1];simp
  obtain⟨f1,g2,z2⟩:=bx2 w1 (.slice (some ⟨gk,0,none⟩) ws.length ck) (.slice (some ⟨gs,0,none⟩) ws.length cs) 77;obtain⟨w2,h2⟩:∃w2,w1.alloc (.cells #[.slice (some ⟨gk,0,none⟩) ws.length ck,.slice (some ⟨gs,0,none⟩) ws.length cs] 77)=w2:=⟨_,rfl⟩
  rw[h2]at hW f1 g2 z2;refine Z304 ?_;intro f2 g3 z3;rw[hW]at f2 g3 z3;rw[z1]at f1 z2;rw[z2]at f2 z3;have hR:=H.out.v.R_lt;refine⟨⟨((g2.trans g3).use.1 _ _ (by omega)).trans c1,f1.gr g3,((g1.trans (g2.trans g3)).use.1 _ _ hR.2).trans H.out.v.cells.1.2.1,by omega,by omega⟩,f2,g1.trans (g2.trans g3),z3⟩
 rw[hW];clear hW;have HS0:=Lib.hid hS0;have HE0:=Lib.hid hE0;have HG:=Lib.hid gW;clear hS0 hE0 gW;obtain⟨Y,hY⟩:∃Y,Pl.wayG (2,0) Pl.ledG ws.dropLast 0 1 g=Y:=⟨_,rfl⟩
 have HY:=Lib.hid hY;have hYn:Y ≠ .non:=fun e=>by
  have:=HX.out;unfold Pl.tableG at this;rw[HY.out,e]at this;exact hne this.symm
 clear hY;have HWAY:=Lib.hid (fun V (q:Gr w V)=>gr_way_led V R B base s nv L own x g (H.out.gr q) 0 1 (2,0) hL hm (by omega) gk gs ck cs ws la HLA.out hl2 (Nat.lt_of_lt_of_le hgk q.size) (Nat.lt_of_lt_of_le hgs q.size) hk0 hs0
  (fun j t a b hj=>⟨(q.use.1 _ _ hgk).trans (HRO.out j t a b hj).1,(q.use.1 _ _ hgs).trans (HRO.out j t a b hj).2.1,(q.use.1 _ _ hgs).trans (HRO.out j t a b hj).2.2⟩) Y HY.out hYn)
 refine Z212 ?_;intro hlt HZ;clear hz
 go_cut [5,6] (fun s5 s6 W'=>TabR W R B base s own x Y s5 s6 W')
 case first =>
  have hS:=HS0.out.gr (Gr.refl W).drew;refine Reg.begin' (W:=fun i=>i != 11 && i != 17 && i != 18) (S:=TabS w.heap.size R (.slice (some ⟨gk,0,none⟩) ws.length ck) (.slice (some ⟨gs,0,none⟩) ws.length cs)) (by kernel_rfl) ?_;refine Reg.tl 0 hS ?_ (hy:=by intro w hSw;obtain⟨s1,⟨s2,s3,s4,s5⟩,s6,s7,s8⟩:=hSw;go_simp;try with_reducible rfl);refine Reg.tl 1 hS ?_ (hy:=by intro w hSw;obtain⟨s1,⟨s2,s3,s4,s5⟩,s6,s7,s8⟩:=hSw;go_simp;try with_reducible rfl);refine Reg.ty 2 ?_;refine Z42 ?_;refine Reg.tl 5 hS ?_ (hy:=by intro w hSw;obtain⟨s1,⟨s2,s3,s4,s5⟩,s6,s7,s8⟩:=hSw;go_simp;try with_reducible rfl);refine Reg.ty 6 ?_;refine Reg.tl 7 hS ?_ (hy:=by intro w hSw;obtain⟨s1,⟨s2,s3,s4,s5⟩,s6,s7,s8⟩:=hSw;go_simp;try with_reducible rfl);refine Reg.ty 8 ?_;refine Reg.tl 9 hS ?_ (hy:=by intro w hSw;obtain⟨s1,⟨s2,s3,s4,s5⟩,s6,s7,s8⟩:=hSw;go_simp;try with_reducible rfl);refine Reg.ty 10 ?_;exact J78
 case rest =>
  obtain⟨b5,b6,rfl,rfl,hne56,h5,h6,hYY⟩:=hcut;have hXX:=HX.out;unfold Pl.tableG at hXX;rw[HY.out]at hXX;have hRw:=H.out.v.R_lt;cases Y with
  | non=>exact absurd rfl hYn
  | bad c p =>
   simp only at hXX;obtain⟨⟨n,d,f5⟩,f6,hc0,own2,st2,hs2,on2⟩:=hYY;have hE:=HE0.out.st st2 (fun e=>by have:=(H.out.v.lt _ e).2;omega);obtain⟨k0,k1,kf,kl⟩:=id f6;have hEh:=Lib.hid hE;have F6:=Lib.hid f6;have ST2:=Lib.hid st2;clear hE f5 f6;go_wp2_with fail;refine (tt_fine_no c p (by omega) wc).mono ?_;rintro e w5 ⟨rfl,g5⟩;have f6':=F6.out.gr g5;have hE':=hEh.out.gr g5;obtain⟨v0,v1,vf,vl⟩:=id f6';obtain⟨r0,r1,rf,rl⟩:=id hE';clear k0 k1 kf kl;go_wp2_with fail;have hF:=hE'.set (.int .i64 c) (.int .i64 p);have sF:St (FV own) (FV own2) w _:=((((HG.out.st).trans ST2.out).gr g5).setCell (p:=⟨w.heap.size+1+1,0,none⟩) (.inr (by simp only;omega)) (.int .i64 c)).setCell (p:=⟨w.heap.size+1+1,1,none⟩) (.inr (by simp only;omega)) (.int .i64 p);have hc2:((w5.setCell ⟨w.heap.size+1+1,0,none⟩ (.int .i64 c)).setCell ⟨w.heap.size+1+1,1,none⟩ (.int .i64 p)).cell? ⟨R,2,none⟩=some (.string s):=by
    exact J60
   obtain⟨WF,hWF⟩:∃W',((w5.setCell ⟨w.heap.size+1+1,0,none⟩ (.int .i64 c)).setCell ⟨w.heap.size+1+1,1,none⟩ (.int .i64 p))=W':=⟨_,rfl⟩
   rw[hWF]at hF sF hc2;rw[hWF];clear hWF;obtain⟨q0,q1,qf,ql⟩:=hF;rw[←hXX];exact bodyPost_ret (v:=fv c p) (by simp[results,Tryz.results47,go_sem,q0,q1,qf,ql]) rfl ⟨rfl,hc0,own2,sF,hc2,fun k hk=>(on2 k hk).imp id (fun h=>by have:=HG.out.size;omega)⟩
  | ok r =>
   obtain⟨n,d,g'⟩:=r;simp only at hXX;obtain⟨f5,f6,nv',L',own',z5,z6,hgm,hst,hon⟩:=hYY;have hnew:∀k,w.heap.size≤k→k<W.heap.size→¬FV own k:=fun k h1 h2 e=>by have:=(H.out.v.lt k e).2;omega
   have hz:=HZ.out;have hE:=HE0.out.st hst (hnew _ (by omega) (by omega));have hKx:=HS0.out.k.st hst (hnew _ (by omega) (by omega));have hgb:wc.cell? ⟨w.heap.size,0,none⟩=some (.pointer (some ⟨R,0,none⟩)):=((hst.use _ HS0.out.zl (hnew _ (by omega) (by omega))).1 _).trans HS0.out.g;have hgbl:w.heap.size<wc.heap.size:=Nat.lt_of_lt_of_le HS0.out.zl hst.size;have HE:=Lib.hid hE;have HKX:=Lib.hid hKx;have HGB:=Lib.hid hgb;refine Z134 ?_;intro F5 F6 HST HGM HON k0 k1 kf kl wt a b hwl;have hgl:ws.getLast?=some (wt,a,b):=by rw[List.getLast?_eq_getElem?,HLA.out];exact hwl
   rw[hgl]at hXX;simp only at hXX;have HXX:=Lib.hid hXX;have HWL:=Lib.hid hwl;clear hE hKx hgb f5 f6 hst hgm hon hwl hgl hXX hz hnew;go_wp2_with fail;refine (tt_fine_yes wc).mono ?_;rintro e w5 ⟨rfl,g5⟩;obtain⟨x0,x1,xf,xl⟩:=HKX.out.gr g5;clear k0 k1 kf kl;go_wp2_with fail;have hgkW:=Nat.lt_of_lt_of_le hgk HG.out.size;have hgsW:=Nat.lt_of_lt_of_le hgs HG.out.size;have tok:∀o,w5.cell? ⟨gk,o,none⟩=w.cell? ⟨gk,o,none⟩:=fun o=>(g5.use.1 _ _ (Nat.lt_of_lt_of_le hgkW HST.out.size)).trans (((HST.out.use gk hgkW (fun e=>e hk0)).1 _).trans (HG.out.use.1 _ _ hgk))
   have tos:∀o,w5.cell? ⟨gs,o,none⟩=w.cell? ⟨gs,o,none⟩:=fun o=>(g5.use.1 _ _ (Nat.lt_of_lt_of_le hgsW HST.out.size)).trans (((HST.out.use gs hgsW (fun e=>e hs0)).1 _).trans (HG.out.use.1 _ _ hgs))
   refine Z63 ?_;intro r1 r2 r3 w6 g6 g56 hLAST;obtain⟨e0,e1,ef,el⟩:=F5.out.gr g56;have hg6:=(g56.use.1 _ _ hgbl).trans HGB.out;have hgl6:=Nat.lt_of_lt_of_le hgbl g56.size;have G56:=Lib.hid g56;clear x0 x1 xf xl tok tos r1 r2 r3 hLAST g5 g6 g56;have hwk:=wayG_ok _ _ (fun _ _ _ _ _ e=>ledG_d e) _ _ _ _ _ _ _ HY.out (by rw[←H.out.nd,List.length_map];exact hL);have hLL:L'.length≤20000001:=by have:=hwk.1;rw[←HGM.out.nd,List.length_map]at this;exact this
   have hdd:d≤100000000:=by have:=hwk.2;rw[List.length_dropLast,HLA.out]at this;omega
   clear hwk;obtain⟨X',hX'⟩:∃X',Pl.stepG g' n d wt a b (1,0) (fun i=>if (Pl.sortOf g' i).1=2 then .go i (d+1) else .no)=X':=⟨_,rfl⟩
   have hXx:=HXX.out;rw[hX']at hXx;have hXn:X' ≠ .non:=fun e=>by rw[e]at hXx;exact hne hXx.symm
   have hbt:bs (⟨wt.toArray⟩:ByteArray)=wt:=by simp[bs]
   refine Z141 ?_;intro W7 hW7 G7 hsp g7 z7;have hS7:∀o,W7.cell? ⟨b5,o,none⟩=wc.cell? ⟨b5,o,none⟩:=fun o=>G7.out.use.1 _ _ F5.out.2.2.2
   have hSTEP:=gr_step 65 (fun _ _=>rfl) (.pointer (some ⟨b5,0,none⟩)) (.pointer (some ⟨w.heap.size,0,none⟩)) (fun i=>if (Pl.sortOf g' i).1=2 then .go i (d+1) else .no) W7 R B base s nv' L' own' x g' (HGM.out.gr G7.out)
    (fun W2 q2 i hi _=>gr_tab1 W2 R B base s nv' L' own' x g' (HGM.out.gr (G7.out.trans q2)) b5 w.heap.size n d i hi (by omega) (by omega) (F5.out.gr (G7.out.trans q2)) (((G7.out.trans q2).use.1 _ _ hgbl).trans HGB.out) (Nat.lt_of_lt_of_le hgbl (G7.out.trans q2).size))
    n d ⟨wt.toArray⟩ a b (1,0) hLL hm (by omega) X' (by rw[hbt];exact hX') hXn
   have HSTEP:=Lib.hid hSTEP;have HXX':=Lib.hid hXx;have HX':=Lib.hid hX';clear hSTEP hXx hX' hS7 g7 e0 e1 ef el hg6 hgl6;obtain⟨e0,e1,ef,el⟩:=F5.out.gr G7.out;have hg7:=(G7.out.use.1 _ _ hgbl).trans HGB.out;obtain⟨y0,y1,yf,yl⟩:=hsp;go_wp2_with fail;refine HSTEP.out.mono ?_;clear HSTEP;cases X' with
   | non=>exact absurd rfl hXn
   | bad c q =>
    rintro e w8 ⟨⟨n2,d2,he⟩,hc0,own2,hst2,hs2,hon2⟩;subst he;refine Z192 ?_;intro f6' hnE hE' k0 k1 kf kl hb6;have h6w:w.heap.size≤b6:=by have:=HG.out.size;omega
    have hF9':=f6'.set (.int .i64 c) (.int .i64 q);have sF9':St (FV own) (FV own2) w _:=(((((HG.out.st).trans HST.out).gr G7.out).trans hst2).setCell (p:=⟨b6,0,none⟩) (.inr h6w) (.int .i64 c)).setCell (p:=⟨b6,1,none⟩) (.inr h6w) (.int .i64 q);have bF8:∀k,k≠b6→((w8.setCell ⟨b6,0,none⟩ (.int .i64 c)).setCell ⟨b6,1,none⟩ (.int .i64 q)).heap[k]?=w8.heap[k]?:=fun k hk=>by rw[Below.heap_setCell _ _ _ _ hk,Below.heap_setCell _ _ _ _ hk]
    have z8:((w8.setCell ⟨b6,0,none⟩ (.int .i64 c)).setCell ⟨b6,1,none⟩ (.int .i64 q)).heap.size=w8.heap.size:=by simp[World.setCell]
    clear y0 y1 yf yl e0 e1 ef el hg7;go_wp2_with fail;obtain⟨W8,hW8⟩:∃W8,(w8.setCell ⟨b6,0,none⟩ (.int .i64 c)).setCell ⟨b6,1,none⟩ (.int .i64 q)=W8:=⟨_,rfl⟩
    rw[hW8]at hF9' sF9' bF8 z8 ⊢;clear hW8 k0 k1 kf kl;refine Z165 ?_;intro W9 hF9 sF9 hE9 g9 hT9 z9;refine (tt_fine_no c q (by omega) W9).mono ?_;rintro e w10 ⟨rfl,g10⟩;have f6t:=hF9.gr g10;have hEt:=hE9.gr g10;have sF10:=sF9.gr g10;have hRc:w10.cell? ⟨R,2,none⟩=some (.string s):=by
     have hR8:R<w8.heap.size:=Nat.lt_of_lt_of_le (HGM.out.gr G7.out).v.R_lt.2 hst2.size;have hRb6:R≠b6:=fun e=>by have h1:=HGM.out.v.oR;rw[e,z6]at h1;omega
     exact ((g9.trans g10).use.1 _ _ (by omega)).trans ((World.cell?_of_block (w:=w8) (a:=⟨R,2,none⟩) (bF8 R hRb6)).trans hs2)
    obtain⟨v0,v1,vf,vl⟩:=id f6t;obtain⟨r0,r1,rf,rl⟩:=id hEt;go_wp2_with fail;have hF:=hEt.set (.int .i64 c) (.int .i64 q);have sF:St (FV own) (FV own2) w _:=(sF10.setCell (p:=⟨w.heap.size+1+1,0,none⟩) (.inr (by simp only;omega)) (.int .i64 c)).setCell (p:=⟨w.heap.size+1+1,1,none⟩) (.inr (by simp only;omega)) (.int .i64 q);have hc2:((w10.setCell ⟨w.heap.size+1+1,0,none⟩ (.int .i64 c)).setCell ⟨w.heap.size+1+1,1,none⟩ (.int .i64 q)).cell? ⟨R,2,none⟩=some (.string s):=by
     refine Z90 ?_;exact hRc
    obtain⟨WF,hWF⟩:∃W',((w10.setCell ⟨w.heap.size+1+1,0,none⟩ (.int .i64 c)).setCell ⟨w.heap.size+1+1,1,none⟩ (.int .i64 q))=W':=⟨_,rfl⟩
    rw[hWF]at hF sF hc2;rw[hWF];clear hWF;obtain⟨q0,q1,qf,ql⟩:=hF;have hXX:=HXX'.out
    try simp only at hXX
    rw[←hXX];refine bodyPost_ret (v:=fv c q) (by simp[results,Tryz.results47,go_sem,q0,q1,qf,ql]) rfl ⟨rfl,hc0,own2,sF,hc2,fun k hk=>?_⟩;refine Z209 ?_;intro hz7;rcases hon2 k hk with h|h
    · exact (HON.out k h).imp id (fun h=>by have:=HG.out.size;omega)
    exact .inr (by have:=HG.out.size;omega)
   | ok r2 =>
    obtain⟨n2,d2,g2⟩:=r2;rintro e w8 ⟨he,nv2,L2,own2,hgm2,hst2,hon2⟩;subst he;refine Z192 ?_;intro f6' hnE hE' k0 k1 kf kl hb6;have h6w:w.heap.size≤b6:=by have:=HG.out.size;omega
    have hF9':=f6'.set (.int .i64 0) (.int .i64 0);have sF9':St (FV own) (FV own2) w _:=(((((HG.out.st).trans HST.out).gr G7.out).trans hst2).setCell (p:=⟨b6,0,none⟩) (.inr h6w) (.int .i64 0)).setCell (p:=⟨b6,1,none⟩) (.inr h6w) (.int .i64 0);have bF8:∀k,k≠b6→((w8.setCell ⟨b6,0,none⟩ (.int .i64 0)).setCell ⟨b6,1,none⟩ (.int .i64 0)).heap[k]?=w8.heap[k]?:=fun k hk=>by rw[Below.heap_setCell _ _ _ _ hk,Below.heap_setCell _ _ _ _ hk]
    have z8:((w8.setCell ⟨b6,0,none⟩ (.int .i64 0)).setCell ⟨b6,1,none⟩ (.int .i64 0)).heap.size=w8.heap.size:=by simp[World.setCell]
    clear y0 y1 yf yl e0 e1 ef el hg7;go_wp2_with fail;obtain⟨W8,hW8⟩:∃W8,(w8.setCell ⟨b6,0,none⟩ (.int .i64 0)).setCell ⟨b6,1,none⟩ (.int .i64 0)=W8:=⟨_,rfl⟩
    rw[hW8]at hF9' sF9' bF8 z8 ⊢;clear hW8 k0 k1 kf kl;refine Z165 ?_;intro W9 hF9 sF9 hE9 g9 hT9 z9;refine (tt_fine_yes W9).mono ?_;rintro e w10 ⟨rfl,g10⟩;have hso:=stepG_ok HX'.out (fun i n' d' e=>by
     split at e
     · cases e;omega
     cases e) (by rw[←HGM.out.nd,List.length_map];exact hLL)
    have hgrn:Grown g2.srt n2:=stepG_grown HX'.out (by decide) (fun i n' d' e=>by
     split at e
     · rename_i h2
       cases e;unfold Grown;have h3:(Pl.sortOf g' i).1=2:=h2;unfold Pl.sortOf at h3;rw[h3];decide
     cases e) (by rw[←HGM.out.nd,List.length_map];exact HGM.out.v.sl)
    have o6:own2 b6=0:=Decidable.byContradiction fun hk=>(hon2 b6 hk).elim (fun h=>h z6) (fun h=>by have h1:=(F6.out.gr G7.out).2.2.2;omega)
    have GV10:=(((hgm2.v.kept (w':=W8) (fun k hk=>bF8 k (fun e=>hk (by rw[e];exact o6))) (Nat.le_of_eq z8.symm)).gr g9).gr g10)
    have hL2:g2.srt.length≤20000001:=by have h1:=hso.1;rw[←hgm2.nd,List.length_map]at h1;rw[hgm2.v.sl];exact h1
    have hn2:=hgrn.lt;have hT10:=hT9.gr g10;have f6t:=hF9.gr g10;have hEt:=hE9.gr g10;have hnz:¬FV own' w.heap.size:=fun e=>(HON.out _ e).elim (fun h=>by have:=(H.out.v.lt _ h).2;omega) (fun h=>by have:=HZ.out;omega)
    have hgz7:=Nat.lt_of_lt_of_le hgbl G7.out.size;have hg8:w8.cell? ⟨w.heap.size,0,none⟩=some (.pointer (some ⟨R,0,none⟩)):=((hst2.use w.heap.size hgz7 hnz).1 0).trans ((G7.out.use.1 _ _ hgbl).trans HGB.out);have hgz8:w.heap.size<w8.heap.size:=Nat.lt_of_lt_of_le hgz7 hst2.size;have hg10:w10.cell? ⟨w.heap.size,0,none⟩=some (.pointer (some ⟨R,0,none⟩)):=((g9.trans g10).use.1 _ _ (by omega)).trans ((World.cell?_of_block (w:=w8) (a:=⟨w.heap.size,0,none⟩) (bF8 w.heap.size (by have:=HG.out.size;have:=HZ.out;omega))).trans hg8);have sF10:=(sF9.gr g10).drew;obtain⟨⟨c0,c1,c2,c3,c4,c5,c6⟩,c7,c8,fz⟩:=GV10.cells;have hS:TbS R B w.heap.size w8.heap.size n2 w10.drew:=⟨hg10,c3,hT10.1⟩
    obtain⟨D,hD1,hD2⟩:=GV10.map;have hm2:w10.drew.ownsMap Tryz.prog 3 sortR B (g2.srt.length+x.many) D:=ownsMapS_of_block hD1 rfl;obtain⟨w3,hrun,hm3,hg3⟩:=hm2.update (Maps.int_keyed Tryz.underlying3) Tryz.underlying58 (by unfold maxLen;omega) (key := .int .i64 (n2:Int)) (kl := .int .i64 (n2:Int)) (Maps.keyOf_int_mk Tryz.underlying3 (by simp[Lit.wf,IntKind.min,IntKind.max,IntKind.signed,IntKind.bits];omega)) (sortR_mk (1,0));have GVF:=GV10.drew.sectioned n2 hgrn hD2 hm3 hg3 n2 d2;have hB0:FV own B:=by unfold FV;rw[H.out.v.oB];omega
    have hR0:FV own R:=by unfold FV;rw[H.out.v.oR];omega
    have sF3:=sF10.grown hg3 (fun k e=>by cases e;exact .inl hB0);have hb3:∀k,k<w10.heap.size→k≠B→w3.heap[k]?=w10.heap[k]?:=fun k hk hne=>hg3.block k hk (fun e=>hne (Option.some.inj e))
    have hz3:w10.heap.size≤w3.heap.size:=hg3.size;have hRB:R≠B:=fun e=>by have h1:=H.out.v.oR;rw[e,H.out.v.oB]at h1;omega
    have hBz:B<w.heap.size:=H.out.v.B_lt.2;have hRlt:R<w10.heap.size:=GV10.R_lt.2;have tk3:∀k,k<w10.heap.size→k≠B→∀o,w3.cell? ⟨k,o,none⟩=w10.cell? ⟨k,o,none⟩:=fun k hk hne o=>World.cell?_of_block (w:=w10) (a:=⟨k,o,none⟩) (hb3 k hk hne)
    have fk3:∀k,k<w10.heap.size→k≠B→∀o,w3.frozen? ⟨k,o,none⟩=w10.frozen? ⟨k,o,none⟩:=fun k hk hne o=>World.frozen?_of_block (w:=w10) (a:=⟨k,o,none⟩) (hb3 k hk hne)
    have j4:=(tk3 R hRlt hRB 4).trans c4;have j5:=(tk3 R hRlt hRB 5).trans c5;have j6:=(tk3 R hRlt hRB 6).trans c6;have jf:∀o,w3.frozen? ⟨R,o,none⟩=false:=fun o=>(fk3 R hRlt hRB o).trans (fz o)
    have hg3':=(tk3 w.heap.size (by have:=g9.size;have:=g10.size;omega) (by omega) 0).trans hg10;have hT3:=hT10.of_block (hb3 _ hT10.2.2.2 (by omega)) hz3;have f63:=f6t.of_block (hb3 _ f6t.2.2.2 (by omega)) hz3;have hE3:=hEt.of_block (hb3 _ hEt.2.2.2 (by omega)) hz3;refine Z241 ?_;intro wm;have HGVF:=Lib.hid GVF;have HSF3:=Lib.hid sF3;have HGM2:=Lib.hid hgm2;have HON2:=Lib.hid hon2;have HE3:=Lib.hid hE3;have hrl3:R<w3.heap.size:=Nat.lt_of_lt_of_le hRlt hz3;have hgl3:w.heap.size<w3.heap.size:=by have:=g9.size;have:=g10.size;omega
    rw[show sortV (1,0) = .agg #[.int .u8 1,.int .i64 0] from rfl]at hrun;clear GVF sF3 hgm2 hon2 hst2 sF10 GV10 hD1 hD2 hm2 hm3 hg3 tk3 fk3 c0 c1 c2 c3 c4 c5 c6 c7 c8 fz hg10 hg8 hEt f6t hT10 hT9 hF9 hE9 sF9 sF9' hF9' f6' hE' bF8
    go_upto_region 7 with fail
    refine Reg.begin' (W:=fun i=>i != 7) (S:=TbS R B w.heap.size w8.heap.size n2) (by kernel_rfl) ?_;refine Reg.tl 0 hS ?_ (hy:=by intro w hSw;obtain⟨s1,s2,s3⟩:=hSw;go_simp;try with_reducible rfl);refine Reg.ty 1 ?_;refine Reg.ty 2 ?_;refine Reg.tl 3 hS ?_ (hy:=by intro w hSw;obtain⟨s1,s2,s3⟩:=hSw;go_simp;try with_reducible rfl);refine Reg.ty 4 ?_;refine Reg.tl 5 hS ?_ (hy:=by intro w hSw;obtain⟨s1,s2,s3⟩:=hSw;go_simp;try with_reducible rfl);refine Reg.ty 6 ?_;refine Reg.on 7 ?_;refine Z292 ?_;obtain⟨t0,t1,tf,tl⟩:=hT3;obtain⟨v0,v1,vf,vl⟩:=f63;obtain⟨r0,r1,rf,rl⟩:=hE3;go_wp2_with fail;obtain⟨W4,hW4⟩:∃W4,((w3.setCell ⟨R,4,none⟩ (.int .i64 n2)).setCell ⟨R,5,none⟩ (.int .i64 d2)).setCell ⟨R,6,none⟩ (.int .i64 ((x.many:Int)+1))=W4:=⟨_,rfl⟩
    have hGV4:GrV W4 R B base s 0 nv2 L2 own2 (g2.srt.set n2 (1,0)) { x with sec:=n2,dep:=d2,many:=x.many+1 }:=by rw[←hW4];exact HGVF.out
    have hRE:R≠w.heap.size+1+1:=by omega
    have hE4:FX (w.heap.size+1+1) (.int .i64 0) (.int .i64 0) W4:=by rw[←hW4];exact ((HE3.out.other hRE _).other hRE _).other hRE _
    have sF4:St (FV own) (FV own2) w W4:=by rw[←hW4];exact ((HSF3.out.setCell (p:=⟨R,4,none⟩) (.inl hR0) _).setCell (p:=⟨R,5,none⟩) (.inl hR0) _).setCell (p:=⟨R,6,none⟩) (.inl hR0) _
    rw[hW4];clear hW4;have hF:=hE4.set (.int .i64 0) (.int .i64 0);have sF:St (FV own) (FV own2) w _:=(sF4.setCell (p:=⟨w.heap.size+1+1,0,none⟩) (.inr (by simp only;omega)) (.int .i64 0)).setCell (p:=⟨w.heap.size+1+1,1,none⟩) (.inr (by simp only;omega)) (.int .i64 0);have bF:∀k,k≠w.heap.size+1+1→((W4.setCell ⟨w.heap.size+1+1,0,none⟩ (.int .i64 0)).setCell ⟨w.heap.size+1+1,1,none⟩ (.int .i64 0)).heap[k]?=W4.heap[k]?:=fun k hk=>by rw[Below.heap_setCell _ _ _ _ hk,Below.heap_setCell _ _ _ _ hk]
    have zF:((W4.setCell ⟨w.heap.size+1+1,0,none⟩ (.int .i64 0)).setCell ⟨w.heap.size+1+1,1,none⟩ (.int .i64 0)).heap.size=W4.heap.size:=by simp[World.setCell]
    obtain⟨WF,hWF⟩:∃W',((W4.setCell ⟨w.heap.size+1+1,0,none⟩ (.int .i64 0)).setCell ⟨w.heap.size+1+1,1,none⟩ (.int .i64 0))=W':=⟨_,rfl⟩
    rw[hWF]at hF sF bF zF;rw[hWF];clear hWF;refine Z209 ?_;intro hz7;have hO2:∀k,own2 k≠0→own k≠0∨W.heap.size≤k:=fun k hk=>by
     rcases HON2.out k hk with h|h
     · exact HON.out k h
     exact .inr (by omega)
    have hE2:own2 (w.heap.size+1+1)=0:=Decidable.byContradiction fun hk=>(hO2 _ hk).elim (fun h=>by have:=(H.out.v.lt _ h).2;omega) (fun h=>by have:=HZ.out;omega)
    have GVW:=hGV4.kept (w':=WF) (fun k hk=>bF k (fun e=>hk (by rw[e];exact hE2))) (Nat.le_of_eq zF.symm);have hXX:=HXX'.out
    try simp only at hXX
    rw[←hXX];obtain⟨q0,q1,qf,ql⟩:=hF;exact bodyPost_ret (v:=f0) (by simp[results,Tryz.results47,go_sem,q0,q1,qf,ql]) rfl ⟨rfl,nv2,L2,own2,{ x with sec:=n2,dep:=d2,many:=x.many+1 },rfl,rfl,⟨GVW,HGM2.out.nd,rfl,rfl,by show x.many+1=g2.many+1;rw[HGM2.out.many]⟩,sF,fun k hk=>(hO2 k hk).imp id (fun h=>by have:=HG.out.size;omega)⟩
end Go.Proofs.YtfogfaagjpebcaaGreatDoor
namespace Go.Proofs.YtfogfaagjpebcaaGreatDoor
open Go.RowKit Go.Shelf Go.Joins
attribute [local go_sem] Oper.semAt_some
structure PaiS (z R:Nat) (k1 k2:Value) (sec dep many:Nat) (w:World):Prop where
 k:FX z k1 k2 w
 c4:w.cell? ⟨R,4,none⟩=some (.int .i64 sec)
 c5:w.cell? ⟨R,5,none⟩=some (.int .i64 dep)
 c6:w.cell? ⟨R,6,none⟩=some (.int .i64 many)
 rl:R<w.heap.size
theorem PaiS.gr {z R:Nat} {k1 k2:Value} {sec dep many:Nat} {w w':World} (h:PaiS z R k1 k2 sec dep many w) (g:Gr w w'):PaiS z R k1 k2 sec dep many w' :=
 ⟨h.k.gr g,(g.use.1 _ _ h.rl).trans h.c4,(g.use.1 _ _ h.rl).trans h.c5,(g.use.1 _ _ h.rl).trans h.c6,Nat.lt_of_lt_of_le h.rl g.size⟩
set_option maxRecDepth 100000 in
theorem gr_pair (w:World) (R B base:Nat) (s:ByteArray) (nv:Value) (L:List NdR) (own:Nat→Nat) (x:GrX) (g:Pl.Gst) (h:GM w R B base s nv L own x g) (hdep:g.dep≤100000000)
    (hL:L.length≤20000001) (hm:x.many≤30000000) (gk gs ck cs:Nat) (ws:List Pl.KW) (la:Nat) (hla:ws.length=la+1) (hl2:la≤30000000)
    (hgk:gk<w.heap.size) (hgs:gs<w.heap.size) (hk0:own gk=0) (hs0:own gs=0) 
    (hrows:∀(j:Nat) (t:Pl.Bs) (a b:Nat),ws[j]?=some (t,a,b)→w.cell? ⟨gk,j,none⟩=some (strV t)∧w.cell? ⟨gs,j*2,none⟩=some (.int .i64 a)∧w.cell? ⟨gs,j*2+1,none⟩=some (.int .i64 b))
    (X:Pl.Res (Nat × Nat × Pl.Gst)) (hX:Pl.pairG g ws=X) (hne:X ≠ .non) :
    Calls Tryz.prog 48 #[.pointer (some ⟨R,0,none⟩),.agg #[.slice (some ⟨gk,0,none⟩) ws.length ck,.slice (some ⟨gs,0,none⟩) ws.length cs]] w (StepG w R B base s own x X):=by
 have H:=Lib.hid h;have HX:=Lib.hid hX;have HRO:=Lib.hid hrows;clear h hX hrows;have HLA:=Lib.hid hla;clear hla;go_enter Tryz.func48,Tryz.ntmps48
 go_upto_region 1 with fail
 obtain⟨W,hW⟩:∃W,((w.alloc (.cells #[.slice (some ⟨gk,0,none⟩) ws.length ck,.slice (some ⟨gs,0,none⟩) ws.length cs] 77)).alloc (.cells #[.int .i64 0,.int .i64 0] 60)).alloc (.cells #[.int .i64 0,.int .i64 0] 31)=W:=⟨_,rfl⟩
 obtain⟨hS0,hE0,hE1,gW,hz⟩:PaiS w.heap.size R (.slice (some ⟨gk,0,none⟩) ws.length ck) (.slice (some ⟨gs,0,none⟩) ws.length cs) g.sec g.dep g.many W∧FX (w.heap.size+1) (.int .i64 0) (.int .i64 0) W∧FX (w.heap.size+1+1) (.int .i64 0) (.int .i64 0) W∧Gr w W∧W.heap.size=w.heap.size+1+1+1:=by
  refine Z195 ?_;intro f1 g1 z1 w1 h1;rw[h1]at hW f1 g1 z1;obtain⟨f2,g2,z2⟩:=bx2 w1 (.int .i64 0) (.int .i64 0) 60;obtain⟨w2,h2⟩:∃w2,w1.alloc (.cells #[.int .i64 0,.int .i64 0] 60)=w2:=⟨_,rfl⟩
  rw[h2]at hW f2 g2 z2;refine Z304 ?_;intro f3 g3 z3;rw[hW]at f3 g3 z3;rw[z1]at f2 z2;rw[z2]at f3 z3;have hR:=H.out.v.R_lt;obtain⟨⟨c0,c1,c2,c3,c4,c5,c6⟩,_⟩:=H.out.v.cells;have gg:=g1.trans (g2.trans g3);rw[H.out.sec]at c4;rw[H.out.dep]at c5;rw[H.out.many]at c6;exact⟨⟨f1.gr (g2.trans g3),(gg.use.1 _ _ hR.2).trans c4,(gg.use.1 _ _ hR.2).trans c5,(gg.use.1 _ _ hR.2).trans c6,by omega⟩,f2.gr g3,f3,gg,z3⟩
 rw[hW];clear hW;have HS0:=Lib.hid hS0;have HE0:=Lib.hid hE0;have HE1:=Lib.hid hE1;have HG:=Lib.hid gW;clear hS0 hE0 hE1 gW;obtain⟨Y,hY⟩:∃Y,Pl.wayG (3,g.many) Pl.innerG ws.dropLast g.sec g.dep g=Y:=⟨_,rfl⟩
 have HY:=Lib.hid hY;have hYn:Y ≠ .non:=fun e=>by
  have:=HX.out;unfold Pl.pairG at this;rw[HY.out,e]at this;exact hne this.symm
 clear hY;have HWAY:=Lib.hid (fun V (q:Gr w V)=>gr_way_inner V R B base s nv L own x g (H.out.gr q) g.sec g.dep (3,g.many) hL hm hdep gk gs ck cs ws la HLA.out hl2 (Nat.lt_of_lt_of_le hgk q.size) (Nat.lt_of_lt_of_le hgs q.size) hk0 hs0
  (fun j t a b hj=>⟨(q.use.1 _ _ hgk).trans (HRO.out j t a b hj).1,(q.use.1 _ _ hgs).trans (HRO.out j t a b hj).2.1,(q.use.1 _ _ hgs).trans (HRO.out j t a b hj).2.2⟩) Y HY.out hYn)
 refine Z212 ?_;intro hlt HZ;clear hz
 go_cut [6,7] (fun s5 s6 W'=>TabR W R B base s own x Y s5 s6 W')
 case first =>
  have hS:=HS0.out.gr (Gr.refl W).drew;refine Reg.begin' (W:=fun i=>i != 13 && i != 19 && i != 20) (S:=PaiS w.heap.size R (.slice (some ⟨gk,0,none⟩) ws.length ck) (.slice (some ⟨gs,0,none⟩) ws.length cs) g.sec g.dep g.many) (by kernel_rfl) ?_;refine Z40 ?_;refine Reg.ty 3 ?_;refine Reg.tl 4 hS ?_ (hy:=by intro w hSw;obtain⟨⟨s2,s3,s4,s5⟩,s6,s7,s8,s9⟩:=hSw;go_simp;try with_reducible rfl);refine Reg.tl 5 hS ?_ (hy:=by intro w hSw;obtain⟨⟨s2,s3,s4,s5⟩,s6,s7,s8,s9⟩:=hSw;go_simp;try with_reducible rfl);refine Reg.ty 6 ?_;refine Reg.ty 7 ?_;refine Reg.ty 8 ?_;refine Reg.tl 9 hS ?_ (hy:=by intro w hSw;obtain⟨⟨s2,s3,s4,s5⟩,s6,s7,s8,s9⟩:=hSw;go_simp;try with_reducible rfl);refine Z65 ?_;refine Reg.ty 12 ?_;refine Reg.all (rs:=[13,17,18]) (by kernel_rfl) (by simp) ?_;refine Z14 ?_;intro j hj;rcases hj with rfl|rfl|rfl
  · skip;refine Reg.one (i:=13) rfl (by rfl) ?_;refine Z286 ?_;rintro e w2 hpost;obtain⟨n,d,c,q,rfl,own2,hst⟩:=hpost.open hYn;dsimp only;refine Z77 ?_;refine Reg.all (rs:=[17,18]) (by kernel_rfl) (by simp) ?_;refine Z14 ?_;intro j hj;rcases hj with rfl|rfl
    · skip;refine Reg.one (i:=17) rfl (by rfl) ?_;refine Z7 ?_;refine Reg.on 18 ?_;refine Z7 ?_;refine Z38 ?_;exact J145
    skip;refine Reg.one (i:=18) rfl (by rfl) ?_;refine Z7 ?_;refine Reg.on 17 ?_;refine Z7 ?_;refine Z37 ?_;exact J145
  · skip;refine Reg.one (i:=17) rfl (by rfl) ?_;refine Z76 ?_;refine Reg.all (rs:=[13,18]) (by kernel_rfl) (by simp) ?_;refine Z14 ?_;intro j hj;rcases hj with rfl|rfl
    · skip;refine Reg.one (i:=13) rfl (by rfl) ?_;refine Z148 ?_;rintro e w2 hpost;obtain⟨n,d,c,q,rfl,own2,hst⟩:=hpost.open hYn;dsimp only;refine Z77 ?_;refine Reg.on 18 ?_;refine Z7 ?_;refine Z30 ?_;intro hv fa ga za fa2 hv2 W3 r0 r1 rf rl k0 k1 kf kl f5 f6 gb;refine Z313 ?_;exact J64
    skip;refine Reg.one (i:=18) rfl (by rfl) ?_;refine Z54 ?_;refine Reg.on 13 ?_;refine Z97 ?_;rintro e w2 hpost;obtain⟨n,d,c,q,rfl,own2,hst⟩:=hpost.open hYn;dsimp only;refine Z77 ?_;refine Z28 ?_;intro hv fa ga za gb f5 f6 r0 r1 rf rl k0 k1 kf kl fb zb;refine Z313 ?_;exact J63
  skip;refine Reg.one (i:=18) rfl (by rfl) ?_;refine Z75 ?_;refine Reg.all (rs:=[13,17]) (by kernel_rfl) (by simp) ?_;refine Z14 ?_;intro j hj;rcases hj with rfl|rfl
  · skip;refine Reg.one (i:=13) rfl (by rfl) ?_;refine Z147 ?_;rintro e w2 hpost;obtain⟨n,d,c,q,rfl,own2,hst⟩:=hpost.open hYn;dsimp only;refine Z77 ?_;refine Reg.on 17 ?_;refine Z7 ?_;refine Z29 ?_;intro hv fa ga za fa2 hv2 W3 r0 r1 rf rl k0 k1 kf kl f5 f6 gb;refine Z313 ?_;exact J62
  skip;refine Reg.one (i:=17) rfl (by rfl) ?_;refine Z53 ?_;refine Reg.on 13 ?_;refine Z96 ?_;rintro e w2 hpost;obtain⟨n,d,c,q,rfl,own2,hst⟩:=hpost.open hYn;dsimp only;refine Z77 ?_;refine Z27 ?_;intro hv fa ga za gb f6 f5 r0 r1 rf rl k0 k1 kf kl fb zb;refine Z313 ?_;exact J61
 case rest =>
  obtain⟨b5,b6,rfl,rfl,hne56,h5,h6,hYY⟩:=hcut;have hXX:=HX.out;unfold Pl.pairG at hXX;rw[HY.out]at hXX;have hRw:=H.out.v.R_lt;have hz:=HZ.out;cases Y with
  | non=>exact absurd rfl hYn
  | bad c p =>
   simp only at hXX;obtain⟨⟨n,d,f5⟩,f6,hc0,own2,st2,hs2,on2⟩:=hYY;have hnF:∀k,w.heap.size≤k→¬FV own k:=fun k h1 e=>by have:=(H.out.v.lt k e).2;omega
   have hA0:=HE0.out.st st2 (hnF _ (by omega));have hB0:=HE1.out.st st2 (hnF _ (by omega));obtain⟨k0,k1,kf,kl⟩:=id f6;have HA0:=Lib.hid hA0;have HB0:=Lib.hid hB0;have F5:=Lib.hid f5;have F6:=Lib.hid f6;have ST2:=Lib.hid st2;clear hA0 hB0 f5 f6;go_wp2_with fail;refine (tt_fine_no c p (by omega) wc).mono ?_;rintro e w5 ⟨rfl,g5⟩;have hP5:=F5.out.gr g5;have hP6:=F6.out.gr g5;have hA:=HA0.out.gr g5;have hB:=HB0.out.gr g5;have hSF:=((HG.out.st).trans ST2.out).gr g5;clear k0 k1 kf kl
   go_upto_region 3 with fail
   have hS:FX b5 (.int .i64 n) (.int .i64 d) w5.drew∧FX b6 (.int .i64 c) (.int .i64 p) w5.drew:=⟨hP5.gr (Gr.refl w5).drew,hP6.gr (Gr.refl w5).drew⟩
   obtain⟨r0,r1,rf,rl⟩:=id hA;obtain⟨k0',k1',kf',kl'⟩:=id hB;refine Reg.begin' (W:=fun i=>i != 3) (S:=fun W=>FX b5 (.int .i64 n) (.int .i64 d) W∧FX b6 (.int .i64 c) (.int .i64 p) W) (by kernel_rfl) ?_;refine Z83 ?_;refine Z36 ?_;refine Z189 ?_;refine Z2 ?_;refine Z12 ?_;go_wp2_with fail;have hXF:=fx2s hA hB (by omega) hSF (by omega) (by omega) (.int .i64 n) (.int .i64 d) (.int .i64 c) (.int .i64 p);obtain⟨WF,hWF⟩:∃W',((((w5.setCell ⟨w.heap.size+1,0,none⟩ (.int .i64 n)).setCell ⟨w.heap.size+1,1,none⟩ (.int .i64 d)).setCell ⟨w.heap.size+1+1,0,none⟩ (.int .i64 c)).setCell ⟨w.heap.size+1+1,1,none⟩ (.int .i64 p))=W':=⟨_,rfl⟩
   rw[hWF]at hXF;rw[hWF];obtain⟨hFa,hFb,sF,bF,zF⟩:=hXF;clear hWF;refine Z254 ?_;intro q0 q1 qf ql y0 y1 yf yl;rw[←hXX];refine bodyPost_ret (v := .tuple #[.agg #[.int .i64 n,.int .i64 d],fv c p]) (by simp[results,Tryz.results48,go_sem,q0,q1,qf,ql,y0,y1,yf,yl]) rfl ⟨⟨n,d,rfl⟩,hc0,own2,sF.drew,?_,fun k hk=>(on2 k hk).imp id (fun h=>by have:=HG.out.size;omega)⟩;exact (World.cell?_of_block (w:=w5) (a:=⟨R,2,none⟩) (bF R (by omega) (by omega))).trans ((g5.use.1 _ _ (Nat.lt_of_lt_of_le HS0.out.rl ST2.out.size)).trans hs2)
  | ok r =>
   obtain⟨n,d,g'⟩:=r;simp only at hXX;obtain⟨f5,f6,nv',L',own',z5,z6,hgm,hst,hon⟩:=hYY;have hnew:∀k,w.heap.size≤k→k<W.heap.size→¬FV own k:=fun k h1 h2 e=>by have:=(H.out.v.lt k e).2;omega
   have hE:=HE0.out.st hst (hnew _ (by omega) (by omega));have hE':=HE1.out.st hst (hnew _ (by omega) (by omega));have hKx:=HS0.out.k.st hst (hnew _ (by omega) (by omega));have HE:=Lib.hid hE;have HEb:=Lib.hid hE';have HKX:=Lib.hid hKx;refine Z134 ?_;intro F5 F6 HST HGM HON k0 k1 kf kl wt a b hwl;have hgl:ws.getLast?=some (wt,a,b):=by rw[List.getLast?_eq_getElem?,HLA.out];exact hwl
   rw[hgl]at hXX;simp only at hXX;have HXX:=Lib.hid hXX;have HWL:=Lib.hid hwl;clear hE hE' hKx f5 f6 hst hgm hon hwl hgl hXX hnew;go_wp2_with fail;refine (tt_fine_yes wc).mono ?_;rintro e w5 ⟨rfl,g5⟩;obtain⟨x0,x1,xf,xl⟩:=HKX.out.gr g5;clear k0 k1 kf kl;go_wp2_with fail;have hgkW:=Nat.lt_of_lt_of_le hgk HG.out.size;have hgsW:=Nat.lt_of_lt_of_le hgs HG.out.size;have tok:∀o,w5.cell? ⟨gk,o,none⟩=w.cell? ⟨gk,o,none⟩:=fun o=>(g5.use.1 _ _ (Nat.lt_of_lt_of_le hgkW HST.out.size)).trans (((HST.out.use gk hgkW (fun e=>e hk0)).1 _).trans (HG.out.use.1 _ _ hgk))
   have tos:∀o,w5.cell? ⟨gs,o,none⟩=w.cell? ⟨gs,o,none⟩:=fun o=>(g5.use.1 _ _ (Nat.lt_of_lt_of_le hgsW HST.out.size)).trans (((HST.out.use gs hgsW (fun e=>e hs0)).1 _).trans (HG.out.use.1 _ _ hgs))
   refine Z63 ?_;intro r1 r2 r3 w6 g6 g56 hLAST;have G56:=Lib.hid g56;clear x0 x1 xf xl tok tos r1 r2 r3 hLAST g5 g6 g56;obtain⟨XS,hXS⟩:∃X,Pl.subOf g'.nds n wt=X:=⟨_,rfl⟩
   have hXX:=HXX.out;rw[hXS]at hXX;have hXSn:XS ≠ .non:=fun e=>by rw[e]at hXX;exact hne hXX.symm
   refine Z141 ?_;intro W7 hW7 G7 hsp g7 z7;have HMG7:=Lib.hid (HGM.out.gr G7.out);have HSUB:=Lib.hid (gr_sub W7 R B base s 0 nv' L' own' g'.srt x HMG7.out.v n ⟨wt.toArray⟩ XS (by rw[HGM.out.nd,show bs (⟨wt.toArray⟩:ByteArray)=wt by simp[bs]];exact hXS) hXSn);have HSP:=Lib.hid hsp;obtain⟨e0,e1,ef,el⟩:=F5.out.gr G7.out;obtain⟨y0,y1,yf,yl⟩:=hsp;clear hXS;go_wp2_with fail;refine HSUB.out.mono ?_;refine Z48 ?_;clear HSUB e0 e1 ef el y0 y1 yf yl;have hP5:=F5.out.gr G7.out;have hP6:=F6.out.gr G7.out;have hA:=HE.out.gr G7.out;have hB:=HEb.out.gr G7.out;have hSP:=HSP.out;have hSF:=(((HG.out.st).trans HST.out).gr G7.out)
   have hzA:own' (w.heap.size+1)=0:=Decidable.byContradiction fun h=>(HON.out _ h).elim (fun h=>by have:=(H.out.v.lt _ h).2;omega) (fun h=>by omega)
   have hzB:own' (w.heap.size+1+1)=0:=Decidable.byContradiction fun h=>(HON.out _ h).elim (fun h=>by have:=(H.out.v.lt _ h).2;omega) (fun h=>by omega)
   have hwz:=HG.out.size;refine Z209 ?_;intro hz7;have hSPn:w6.heap.size≠w.heap.size+1∧w6.heap.size≠w.heap.size+1+1:=by have:=HST.out.size;have:=G56.out.size;omega
   cases XS with
   | non=>exact absurd rfl hXSn
   | yes i =>
    have s0:((i:Int) != -1)=true:=by simp
    simp only at hXX;dsimp only [gsubRes]
    go_upto_region 6 with fail
    have hS:FX b5 (.int .i64 n) (.int .i64 d) W7.drew∧FX w6.heap.size (.int .i64 a) (.int .i64 b) W7.drew:=⟨hP5.gr (Gr.refl W7).drew,hSP.gr (Gr.refl W7).drew⟩
    obtain⟨r0,r1,rf,rl⟩:=id hA;obtain⟨k0',k1',kf',kl'⟩:=id hB;refine Reg.begin' (W:=fun i=>i != 5) (S:=fun W=>FX b5 (.int .i64 n) (.int .i64 d) W∧FX w6.heap.size (.int .i64 a) (.int .i64 b) W) (by kernel_rfl) ?_;refine Z319 ?_;refine Reg.ty 1 ?_;refine Reg.tl 2 hS ?_ (hy:=by intro w hSw;obtain⟨⟨s0,s1,sf,sl⟩,⟨s2,s3,sf2,sl2⟩⟩:=hSw;go_simp;try with_reducible rfl);refine Reg.ty 3 ?_;have hP6':=hSP;clear hP6;have hP6:=hP6';refine Reg.on 4 ?_;refine Z36 ?_;refine Reg.on 5 ?_;refine Z292 ?_;go_wp2_with fail;have hXF:=fx2s hA hB (by omega) hSF (by omega) (by omega) (.int .i64 n) (.int .i64 d) (.int .i64 5) (.int .i64 a);obtain⟨WF,hWF⟩:∃W',((((W7.setCell ⟨w.heap.size+1,0,none⟩ (.int .i64 n)).setCell ⟨w.heap.size+1,1,none⟩ (.int .i64 d)).setCell ⟨w.heap.size+1+1,0,none⟩ (.int .i64 5)).setCell ⟨w.heap.size+1+1,1,none⟩ (.int .i64 a))=W':=⟨_,rfl⟩
    rw[hWF]at hXF;rw[hWF];obtain⟨hFa,hFb,sF,bF,zF⟩:=hXF;clear hWF;refine Z254 ?_;intro q0 q1 qf ql y0 y1 yf yl;rw[←hXX];refine bodyPost_ret (v := .tuple #[.agg #[.int .i64 n,.int .i64 d],fv 5 a]) (by simp[results,Tryz.results48,go_sem,q0,q1,qf,ql,y0,y1,yf,yl]) rfl ⟨⟨n,d,rfl⟩,by decide,own',sF.drew,?_,fun k hk=>(HON.out k hk).imp id (fun h=>by omega)⟩;exact (World.cell?_of_block (w:=W7) (a:=⟨R,2,none⟩) (bF R (by omega) (by omega))).trans HMG7.out.v.cells.1.2.2.1
   | no =>
    have s0:((-1:Int) != -1)=false:=by simp
    simp only at hXX;dsimp only [gsubRes]
    go_upto_region 7 with fail
    have hS:FX b5 (.int .i64 n) (.int .i64 d) W7.drew∧FX b6 (.int .i64 0) (.int .i64 0) W7.drew:=⟨hP5.gr (Gr.refl W7).drew,hP6.gr (Gr.refl W7).drew⟩
    obtain⟨r0,r1,rf,rl⟩:=id hA;obtain⟨k0',k1',kf',kl'⟩:=id hB;refine Reg.begin' (W:=fun i=>i != 3) (S:=fun W=>FX b5 (.int .i64 n) (.int .i64 d) W∧FX b6 (.int .i64 0) (.int .i64 0) W) (by kernel_rfl) ?_;refine Z83 ?_;refine Z36 ?_;refine Z189 ?_;refine Z2 ?_;refine Z12 ?_;go_wp2_with fail;have hXF:=fx2s hA hB (by omega) hSF (by omega) (by omega) (.int .i64 n) (.int .i64 d) (.int .i64 0) (.int .i64 0);obtain⟨WF,hWF⟩:∃W',((((W7.setCell ⟨w.heap.size+1,0,none⟩ (.int .i64 n)).setCell ⟨w.heap.size+1,1,none⟩ (.int .i64 d)).setCell ⟨w.heap.size+1+1,0,none⟩ (.int .i64 0)).setCell ⟨w.heap.size+1+1,1,none⟩ (.int .i64 0))=W':=⟨_,rfl⟩
    rw[hWF]at hXF;rw[hWF];obtain⟨hFa,hFb,sF,bF,zF⟩:=hXF;clear hWF;refine Z254 ?_;intro q0 q1 qf ql y0 y1 yf yl;rw[←hXX];have GVF:=(HMG7.out.v.kept (w':=WF) (fun k hk=>bF k (fun e=>hk (by rw[e];exact hzA)) (fun e=>hk (by rw[e];exact hzB))) zF).drew;exact bodyPost_ret (v := .tuple #[.agg #[.int .i64 n,.int .i64 d],f0]) (by simp[results,Tryz.results48,go_sem,q0,q1,qf,ql,y0,y1,yf,yl]) rfl ⟨rfl,nv',L',own',⟨GVF,HGM.out.nd,HGM.out.sec,HGM.out.dep,HGM.out.many⟩,sF.drew,fun k hk=>(HON.out k hk).imp id (fun h=>by omega)⟩
end Go.Proofs.YtfogfaagjpebcaaGreatDoor
