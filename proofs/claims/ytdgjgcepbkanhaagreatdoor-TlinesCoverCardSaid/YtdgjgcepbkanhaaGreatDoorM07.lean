/-
 The walks and plain laws that the claim rests on, part 7.
-/
import Derived.Test.YtdgjgcepbkanhaaGreatDoorM06
import Derived.Deep.RegionHeld3
import Derived.StillTailTactics
import Derived.Deep.DrawnRows
import Derived.Lib.ConvBytes
set_option maxHeartbeats 16000000
set_option linter.all false
set_option linter.unusedVariables false
set_option linter.unusedSimpArgs false
namespace Go.Proofs.YtdgjgcepbkanhaaGreatDoor
open Go.RowKit Go.Joins
def CommonPost (R:Nat) (s:ByteArray) (a:Nat) (q:UInt8) (out:List UInt8) (ov:Value) (w:World) (c:Option Pl.SR) (e:Ending) (w':World):Prop :=
 match c with
 | none=>e = .returned (.tuple #[.bool false,.bool false,f0])∧Gr w w'
 | some (.go n t over)=>e = .returned (.tuple #[.bool true,.bool over,f0])∧∃ov',RdQ w' R s (a+n) q (out++t) ov'∧St (FQ R ov) (FQ R ov') w w'
 | some (.bad p)=>e = .returned (.tuple #[.bool true,.bool false,fv 3 (a+p)])∧Gr w w'
theorem marks_go (q:UInt8) (l:List UInt8):∃n t b,Pl.marks q l = .go n t b:=by
 unfold Pl.marks;simp only;split <;> exact⟨_,_,_,rfl⟩
theorem keep2 {w:World} {b:Nat} {x y u v:Value} (h0:w.cell? ⟨b,0,none⟩=some u) (h1:w.cell? ⟨b,1,none⟩=some v) :
    ((w.setCell ⟨b,0,none⟩ x).setCell ⟨b,1,none⟩ y).cell? ⟨b,0,none⟩=some x∧((w.setCell ⟨b,0,none⟩ x).setCell ⟨b,1,none⟩ y).cell? ⟨b,1,none⟩=some y:=by
 refine⟨?_,?_⟩
 · rw[World.cell?_setCell_other _ _ _ _ (by simp),World.cell?_setCell_same' _ _ _ (by rw[h0];rfl)]
 rw[World.cell?_setCell_same' _ _ _ (by rw[World.cell?_setCell_other _ _ _ _ (by simp),h1];rfl)]
theorem keep2d {w:World} {b:Nat} {x y u v:Value} (h0:w.cell? ⟨b,0,none⟩=some u) (h1:w.cell? ⟨b,1,none⟩=some v) :
    ((w.setCell ⟨b,0,none⟩ x).setCell ⟨b,1,none⟩ y).drew.cell? ⟨b,0,none⟩=some x∧((w.setCell ⟨b,0,none⟩ x).setCell ⟨b,1,none⟩ y).drew.cell? ⟨b,1,none⟩=some y:=keep2 h0 h1
theorem tq_common_mark (w:World) (R:Nat) (s:ByteArray) (a:Nat) (q:UInt8) (out:List UInt8) (ov:Value) (h:RdQ w R s a q out ov)
    (hlt:a<s.size) (hs:s.size≤20000000) (ho:out.length≤a) (hm:(s[a].toNat==q.toNat)=true) :
    Calls Tryz.prog 230 #[.pointer (some ⟨R,0,none⟩)] w (CommonPost R s a q out ov w (Pl.common q ((bs s).drop a))):=by
 have hcm:Pl.common q ((bs s).drop a)=some (Pl.marks q ((bs s).drop a)):=by
  rw[idx_bs s a hlt];unfold Pl.common;simp only;rw[if_pos hm]
 obtain⟨n,t,b,hmk⟩:=marks_go q ((bs s).drop a);rw[hcm,hmk];obtain⟨X,hX⟩:∃X:Ending→World→Prop,X=CommonPost R s a q out ov w (some (.go n t b)):=⟨_,rfl⟩
 rw[←hX];have HX:=Lib.hid hX;have HM:=Lib.hid hmk;obtain⟨b1,b2⟩:=beqs _ _ _ hm;obtain⟨c0,c1,c2,c3,fz⟩:=h.cells;have hR:=h.lt;have HS:=Lib.hid h;clear fz h hm hmk hcm hX c3;go_enter Tryz.func230,Tryz.ntmps230;go_wp2_with fail
 go_quiet (fail)
 go_wp2_with fail
 go_region_held3 (fun w'=>w'.cell? ⟨w.heap.size,0,none⟩=some (.int .i64 0)∧w'.cell? ⟨w.heap.size,1,none⟩=some (.int .i64 0)) (first|go_keep|exact keep2 (by assumption) (by assumption)|exact keep2d (by assumption) (by assumption))
  (first|(go_at_call 231;refine (tq_marks _ R s a q out ov (RdQ.auto HS.out) hlt hs ho).mono ?_;rw[HM.out];rintro e w1 ⟨rfl,ov',hr,hst⟩;have hb3:=hst.use w.heap.size (by simp) (fun hF=>by have:=HS.out.own_lt hF;omega);obtain⟨hc1,hf1⟩:=hb3;have e0:w1.cell? ⟨w.heap.size,0,none⟩=some (.int .i64 0):=(by rw[hc1];simp[go_sem]);have e1:w1.cell? ⟨w.heap.size,1,none⟩=some (.int .i64 0):=(by rw[hc1];simp[go_sem]);have e2:w1.frozen? ⟨w.heap.size,0,none⟩=false:=(by rw[hf1];simp[go_sem]);have e3:w1.frozen? ⟨w.heap.size,1,none⟩=false:=(by rw[hf1];simp[go_sem]);clear hc1 hf1;have HR:=Lib.hid hr;have HT:=Lib.hid hst;clear hr hst))
 all_goals go_wp2_with fail
 refine bodyPost_ret (v := .tuple #[.bool true,.bool b,f0]) (by simp[results,Tryz.results230,go_sem,e0,e1]) rfl ?_;rw[HX.out];have hst:=HT.out;have hn3:¬FQ R ov' w.heap.size:=fun hF=>by
  rcases HT.out.own _ hF with hF|hF
  · have:=HS.out.own_lt hF;omega
  simp at hF;omega
 exact⟨rfl,ov',RdQ.auto HR.out,St.auto⟩
theorem tq_common_none (w:World) (R:Nat) (s:ByteArray) (a:Nat) (q:UInt8) (out:List UInt8) (ov:Value) (h:RdQ w R s a q out ov)
    (hlt:a<s.size) (hs:s.size≤20000000) (hm:(s[a].toNat==q.toNat)=false) (hf:Pl.feed ((bs s).drop a) = .ok 0) :
    Calls Tryz.prog 230 #[.pointer (some ⟨R,0,none⟩)] w fun e w'=>e = .returned (.tuple #[.bool false,.bool false,f0])∧Gr w w':=by
 have HF:=Lib.hid hf;obtain⟨b1,b2⟩:=beqs _ _ _ hm;obtain⟨c0,c1,c2,c3,fz⟩:=h.cells;have hR:=h.lt;have HS:=Lib.hid h;clear fz h hm hf c3;go_enter Tryz.func230,Tryz.ntmps230;go_wp2_with fail
 go_quiet (fail)
 go_wp2_with fail;refine (tq_feed _ R s a q out ov (RdQ.auto HS.out) hlt hs).mono ?_;rw[HF.out];rintro e w1 ⟨rfl,g1⟩;obtain⟨hc1,hf1,hz1⟩:=g1.use;simp at hz1;have e0:w1.cell? ⟨w.heap.size,0,none⟩=some (.int .i64 0):=(by rw[hc1 _ _ (by simp)];simp[go_sem])
 have e1:w1.cell? ⟨w.heap.size,1,none⟩=some (.int .i64 0):=(by rw[hc1 _ _ (by simp)];simp[go_sem])
 have e2:w1.frozen? ⟨w.heap.size,0,none⟩=false:=(by rw[hf1 _ _ (by simp)];simp[go_sem])
 have e3:w1.frozen? ⟨w.heap.size,1,none⟩=false:=(by rw[hf1 _ _ (by simp)];simp[go_sem])
 clear hc1 hf1;go_wp2_with fail;have k2:=keep2 (x := .int .i64 0) (y := .int .i64 0) e0 e1;have k3:∀o,((w1.setCell ⟨w.heap.size,0,none⟩ (.int .i64 0)).setCell ⟨w.heap.size,1,none⟩ (.int .i64 0)).frozen? ⟨w.heap.size,o,none⟩=w1.frozen? ⟨w.heap.size,o,none⟩:=by
  intro o;rw[World.frozen?_setCell,World.frozen?_setCell]
 have g2:Gr w ((w1.setCell ⟨w.heap.size,0,none⟩ (.int .i64 0)).setCell ⟨w.heap.size,1,none⟩ (.int .i64 0)):=Gr.auto;generalize (w1.setCell ⟨w.heap.size,0,none⟩ (.int .i64 0)).setCell ⟨w.heap.size,1,none⟩ (.int .i64 0)=W2 at *;obtain⟨m0,m1⟩:=k2;have m2:=(k3 0).trans e2;have m3:=(k3 1).trans e3;clear e0 e1 e2 e3 k3 hz1
 set_option maxRecDepth 100000 in
 go_still_tail 10,(by kernel_rfl)
 go_wp2_with fail;exact bodyPost_ret (v := .tuple #[.bool false,.bool false,f0]) (by simp[results,Tryz.results230,go_sem,m0,m1]) rfl ⟨rfl,Gr.auto⟩
theorem tq_common_bad (w:World) (R:Nat) (s:ByteArray) (a:Nat) (q:UInt8) (out:List UInt8) (ov:Value) (h:RdQ w R s a q out ov)
    (hlt:a<s.size) (hs:s.size≤20000000) (hm:(s[a].toNat==q.toNat)=false) (hf:Pl.feed ((bs s).drop a) = .bad 3 1) :
    Calls Tryz.prog 230 #[.pointer (some ⟨R,0,none⟩)] w fun e w'=>e = .returned (.tuple #[.bool true,.bool false,fv 3 (a+1)])∧Gr w w':=by
 have HF:=Lib.hid hf;obtain⟨b1,b2⟩:=beqs _ _ _ hm;obtain⟨c0,c1,c2,c3,fz⟩:=h.cells;have hR:=h.lt;have HS:=Lib.hid h;clear fz h hm hf c3;go_enter Tryz.func230,Tryz.ntmps230;go_wp2_with fail
 go_quiet (fail)
 go_wp2_with fail;refine (tq_feed _ R s a q out ov (RdQ.auto HS.out) hlt hs).mono ?_;rw[HF.out];rintro e w1 ⟨rfl,g1⟩;obtain⟨hc1,hf1,hz1⟩:=g1.use;simp at hz1;have e0:w1.cell? ⟨w.heap.size,0,none⟩=some (.int .i64 0):=(by rw[hc1 _ _ (by simp)];simp[go_sem])
 have e1:w1.cell? ⟨w.heap.size,1,none⟩=some (.int .i64 0):=(by rw[hc1 _ _ (by simp)];simp[go_sem])
 have e2:w1.frozen? ⟨w.heap.size,0,none⟩=false:=(by rw[hf1 _ _ (by simp)];simp[go_sem])
 have e3:w1.frozen? ⟨w.heap.size,1,none⟩=false:=(by rw[hf1 _ _ (by simp)];simp[go_sem])
 clear hc1 hf1;go_wp2_with fail;have k2:=keep2 (x := .int .i64 3) (y := .int .i64 ((a:Int)+1)) e0 e1;have k3:∀o,((w1.setCell ⟨w.heap.size,0,none⟩ (.int .i64 3)).setCell ⟨w.heap.size,1,none⟩ (.int .i64 ((a:Int)+1))).frozen? ⟨w.heap.size,o,none⟩=w1.frozen? ⟨w.heap.size,o,none⟩:=by
  intro o;rw[World.frozen?_setCell,World.frozen?_setCell]
 have g2:Gr w ((w1.setCell ⟨w.heap.size,0,none⟩ (.int .i64 3)).setCell ⟨w.heap.size,1,none⟩ (.int .i64 ((a:Int)+1))):=Gr.auto;generalize (w1.setCell ⟨w.heap.size,0,none⟩ (.int .i64 3)).setCell ⟨w.heap.size,1,none⟩ (.int .i64 ((a:Int)+1))=W2 at *;obtain⟨m0,m1⟩:=k2;have m2:=(k3 0).trans e2;have m3:=(k3 1).trans e3;clear e0 e1 e2 e3 k3 hz1
 set_option maxRecDepth 100000 in
 go_still_tail 10,(by kernel_rfl)
 go_wp2_with fail;exact bodyPost_ret (v := .tuple #[.bool true,.bool false,fv 3 (a+1)]) (by simp[results,Tryz.results230,go_sem,m0,m1]) rfl ⟨rfl,Gr.auto⟩
attribute [local go_sem ↓] Go.wp_at_zero Go.wp_at_succ
theorem tq_take' (w:World) (R:Nat) (s:ByteArray) (a:Nat) (q:UInt8) (out:List UInt8) (ov:Value) (h:RdQ w R s a q out ov)
    (i:Int) (m:Nat) (hi:i=m) (ha:a+m≤30000000) (nb:List UInt8) (tb tof c l:Nat) (hl:l=nb.length) (hne:nb≠[]) (had:tb≠R)
    (hnews:∀j u,(nb.map byteV)[j]?=some u→w.cell? ⟨tb,tof+j,none⟩=some u) (hlen:out.length+nb.length≤30000000) :
    Calls Tryz.prog 222 #[.pointer (some ⟨R,0,none⟩),.int .i64 i,.slice (some ⟨tb,tof,none⟩) l c] w fun e w' =>
     e = .returned (.tuple #[])∧∃ov',RdQ w' R s (a+m) q (out++nb) ov'∧St (FQ R ov) (FQ R ov') w w':=by
 subst hl;exact tq_take w R s a q out ov h i m hi ha nb tb tof c hne had hnews hlen
theorem RdQ.bytes {w R s a q out ov} (h:RdQ w R s a q out ov) (e:TypeId) (x:ByteArray):RdQ (Lib.bytesWorld w e x) R s a q out ov:=h.gr (below_bytesWorld _ _ _ _ (Nat.le_refl _))
theorem Gr.bytes {a b:World} (h:Gr a b) (e:TypeId) (x:ByteArray):Gr a (Lib.bytesWorld b e x):=h.trans (below_bytesWorld _ _ _ _ (Nat.le_refl _))
theorem bs_slice (s:ByteArray) (a n:Nat) (h:a+n≤s.size):bs (s.extract a (a+n))=((bs s).drop a).take n:=by
 simp only[bs,Lib.extract_data];congr 1;omega
theorem news_bytes (W:World) (s:ByteArray) (a n:Nat) (h:a+n≤s.size) (b:Nat) (hb:b=W.heap.size) :
    ∀j u,((((bs s).drop a).take n).map byteV)[j]?=some u→(Lib.bytesWorld W 5 (s.extract a (a+n))).cell? ⟨b,0+j,none⟩=some u:=by
 subst hb;intro j u hu;rw[←bs_slice s a n h]at hu;have hj:j<(s.extract a (a+n)).size:=by
  have:=(List.getElem?_eq_some_iff.1 hu).1;rw[List.length_map,bs_length]at this;exact this
 rw[Nat.zero_add,Lib.bytesWorld_cell _ _ _ j hj,←hu];rw[List.getElem?_map,List.getD_eq_getElem?_getD];have:(bs (s.extract a (a+n)))[j]?=some ((bs (s.extract a (a+n)))[j]'(by rw[bs_length];exact hj)):=List.getElem?_eq_getElem _;rw[this];rfl
theorem tq_common_go (w:World) (R:Nat) (s:ByteArray) (a:Nat) (q:UInt8) (out:List UInt8) (ov:Value) (h:RdQ w R s a q out ov)
    (hlt:a<s.size) (hs:s.size≤20000000) (ho:out.length≤a) (hm:(s[a].toNat==q.toNat)=false) (n:Nat) (hn:0<n) (hna:a+n≤s.size) (hf:Pl.feed ((bs s).drop a) = .ok n) :
    Calls Tryz.prog 230 #[.pointer (some ⟨R,0,none⟩)] w fun e w'=>e = .returned (.tuple #[.bool true,.bool false,f0])∧∃ov',RdQ w' R s (a+n) q (out++((bs s).drop a).take n) ov'∧St (FQ R ov) (FQ R ov') w w':=by
 have HF:=Lib.hid hf;obtain⟨b1,b2⟩:=beqs _ _ _ hm;obtain⟨c0,c1,c2,c3,fz⟩:=h.cells;have hR:=h.lt;have HS:=Lib.hid h;have hw:=IntWalk.i64_in ((a:Int)+n) (by omega);have hk1:(0:Int)≤(a:Int)+n:=by omega
 have hk2:(a:Int)+n≤(s.size:Int):=by omega
 have hk3:((a:Int)+n).toNat=a+n:=by omega
 have hcv:=fun (w:World) (s:ByteArray)=>Lib.run_convert_string_bytes (P:=Tryz.prog) w 9 23 5 s Tryz.underlying9 Tryz.underlying23 Tryz.underlying5
 clear fz h hm hf c3;go_enter Tryz.func230,Tryz.ntmps230;go_wp2_with fail
 go_quiet (fail)
 go_wp2_with fail;refine (tq_feed _ R s a q out ov (RdQ.auto HS.out) hlt hs).mono ?_;rw[HF.out];rintro e w1 ⟨rfl,g1⟩;obtain⟨hc1,hf1,hz1⟩:=g1.use;simp at hz1;have e0:w1.cell? ⟨w.heap.size,0,none⟩=some (.int .i64 0):=(by rw[hc1 _ _ (by simp)];simp[go_sem])
 have e1:w1.cell? ⟨w.heap.size,1,none⟩=some (.int .i64 0):=(by rw[hc1 _ _ (by simp)];simp[go_sem])
 have e2:w1.frozen? ⟨w.heap.size,0,none⟩=false:=(by rw[hf1 _ _ (by simp)];simp[go_sem])
 have e3:w1.frozen? ⟨w.heap.size,1,none⟩=false:=(by rw[hf1 _ _ (by simp)];simp[go_sem])
 clear hc1 hf1;go_wp2_with fail;have k2:=keep2 (x := .int .i64 0) (y := .int .i64 0) e0 e1;have k3:∀o,((w1.setCell ⟨w.heap.size,0,none⟩ (.int .i64 0)).setCell ⟨w.heap.size,1,none⟩ (.int .i64 0)).frozen? ⟨w.heap.size,o,none⟩=w1.frozen? ⟨w.heap.size,o,none⟩:=by
  intro o;rw[World.frozen?_setCell,World.frozen?_setCell]
 have g2:Gr w ((w1.setCell ⟨w.heap.size,0,none⟩ (.int .i64 0)).setCell ⟨w.heap.size,1,none⟩ (.int .i64 0)):=Gr.auto;have hz2:((w1.setCell ⟨w.heap.size,0,none⟩ (.int .i64 0)).setCell ⟨w.heap.size,1,none⟩ (.int .i64 0)).heap.size=w1.heap.size:=by simp[World.setCell]
 generalize (w1.setCell ⟨w.heap.size,0,none⟩ (.int .i64 0)).setCell ⟨w.heap.size,1,none⟩ (.int .i64 0)=W2 at *;obtain⟨m0,m1⟩:=k2;have m2:=(k3 0).trans e2;have m3:=(k3 1).trans e3;have hz3:w.heap.size+1≤W2.heap.size:=by omega
 have hrd2:=HS.out.gr g2;obtain⟨d0,d1,d2,d3,dz⟩:=hrd2.cells;have hR2:=hrd2.lt;have HS2:=Lib.hid hrd2;clear e0 e1 e2 e3 k3 hz1 hz2 hrd2 dz d3 c0 c1 c2;have hsz:n=(((bs s).drop a).take n).length:=by
  rw[List.length_take,List.length_drop,bs_length];omega
 have HSZ:=Lib.hid hsz;clear hsz;have HD:Hid (RdQ W2.drew R s a q out ov):=HS2.out.drew
 set_option maxRecDepth 100000 in
 go_region_with (go_at_call 222;refine (tq_take' _ R s a q out ov (HD.out.bytes _ _) n n rfl (by omega) (((bs s).drop a).take n) _ 0 _ _ HSZ.out (by intro e;have:=HSZ.out;rw[e]at this;simp at this;omega) (by omega) (news_bytes _ s a n (by omega) _ (by simp)) (by rw[←HSZ.out];omega)).mono ?_;rintro e w3 ⟨rfl,ov',hr,hst⟩;have HR:=Lib.hid hr;have HT:=Lib.hid hst;clear hr hst)
 all_goals (
  have hu:=HT.out.use w.heap.size (by rw[Lib.bytesWorld_size];simp;omega) (fun hF=>by have:=HS.out.own_lt hF;omega);have hob:=Lib.bytesWorld_at_old W2.drew 5 (s.extract a (a+n)) w.heap.size (by simp;omega);have p0:w3.cell? ⟨w.heap.size,0,none⟩=some (.int .i64 0):=(hu.1 0).trans ((World.cell?_of_block (w:=W2.drew) (a:=⟨w.heap.size,0,none⟩) hob).trans m0);have p1:w3.cell? ⟨w.heap.size,1,none⟩=some (.int .i64 0):=(hu.1 1).trans ((World.cell?_of_block (w:=W2.drew) (a:=⟨w.heap.size,1,none⟩) hob).trans m1);have p2:w3.frozen? ⟨w.heap.size,0,none⟩=false:=(hu.2 0).trans ((World.frozen?_of_block (w:=W2.drew) (a:=⟨w.heap.size,0,none⟩) hob).trans m2);have p3:w3.frozen? ⟨w.heap.size,1,none⟩=false:=(hu.2 1).trans ((World.frozen?_of_block (w:=W2.drew) (a:=⟨w.heap.size,1,none⟩) hob).trans m3);have hn3:¬FQ R ov' w.heap.size:=fun hF=>by
   rcases HT.out.own _ hF with hF|hF
   · have:=HS.out.own_lt hF;omega
   rw[Lib.bytesWorld_size]at hF;simp at hF;omega
  have hgW:Gr w (Lib.bytesWorld W2.drew 5 (s.extract a (a+n))):=g2.drew.bytes _ _;have hgt:decide (0<(n:Int))=true:=by simp;omega
  clear hu hob m0 m1 m2 m3 d0 d1 d2 hw;go_wp2_with fail
  set_option maxRecDepth 100000 in
  go_still_tail 10,(by kernel_rfl)
  go_wp2_with fail;refine bodyPost_ret (v := .tuple #[.bool true,.bool false,f0]) (by simp[results,Tryz.results230,go_sem,p0,p1]) rfl ⟨rfl,ov',RdQ.auto HR.out,?_⟩;have hst:=HT.out;exact St.auto)
end Go.Proofs.YtdgjgcepbkanhaaGreatDoor
namespace Go.Proofs.YtdgjgcepbkanhaaGreatDoor
open Go.RowKit Go.Joins
theorem tq_common (w:World) (R:Nat) (s:ByteArray) (a:Nat) (q:UInt8) (out:List UInt8) (ov:Value) (h:RdQ w R s a q out ov)
    (hlt:a<s.size) (hs:s.size≤20000000) (ho:out.length≤a) :
    Calls Tryz.prog 230 #[.pointer (some ⟨R,0,none⟩)] w (CommonPost R s a q out ov w (Pl.common q ((bs s).drop a))):=by
 cases hm:(s[a].toNat==q.toNat)
 · have hc:∀X,Pl.feed ((bs s).drop a)=X→Pl.common q ((bs s).drop a)=match X with
       | .ok 0=>none
       | .ok (n+1)=>some (.go (n+1) (((bs s).drop a).take (n+1)) false)
       | .bad _ p=>some (.bad p):=by
    intro X hX;rw[idx_bs s a hlt]at hX ⊢;unfold Pl.common;simp only;rw[if_neg (by rw[hm];simp),hX]
    all_goals (cases X with
     | bad=>rfl
     | ok n=>cases n <;> rfl)
   cases hf:Pl.feed ((bs s).drop a) with
   | bad c p =>
    rw[hc _ hf];obtain⟨rfl,rfl⟩:=Pl.feed_bad _ _ _ hf;exact tq_common_bad w R s a q out ov h hlt hs hm hf
   | ok n =>
    rw[hc _ hf];cases n with
    | zero=>exact tq_common_none w R s a q out ov h hlt hs hm hf
    | succ n =>
     have hl:=Pl.feed_le _ _ hf;rw[List.length_drop,bs_length]at hl;exact tq_common_go w R s a q out ov h hlt hs ho hm (n+1) (by omega) (by omega) hf
 exact tq_common_mark w R s a q out ov h hlt hs ho hm
theorem itself_at (s:ByteArray) (a:Nat) (hlt:a<s.size):Pl.itself ((bs s).drop a)=if Pl.isPlain s[a]=true then .go 1 [s[a]] false else .bad 0:=by
 rw[idx_bs s a hlt];rfl
theorem tq_itself (w:World) (R:Nat) (s:ByteArray) (a:Nat) (q:UInt8) (out:List UInt8) (ov:Value) (h:RdQ w R s a q out ov)
    (hlt:a<s.size) (hs:s.size≤20000000) (ho:out.length≤a) :
    Calls Tryz.prog 221 #[.pointer (some ⟨R,0,none⟩)] w (StepPost R s a q out ov w (Pl.itself ((bs s).drop a))):=by
 rw[itself_at s a hlt];cases hp:Pl.isPlain s[a]
 · rw[if_neg (by simp)];exact (tq_itself_no w R s a q out ov h hlt hs hp).mono fun e w' ⟨he,hg⟩=>⟨he,_,hg.st⟩
 rw[if_pos rfl];exact tq_itself_yes w R s a q out ov h hlt hs ho hp
theorem tq_literal_step (w:World) (R:Nat) (s:ByteArray) (a:Nat) (q:UInt8) (out:List UInt8) (ov:Value) (h:RdQ w R s a q out ov)
    (hlt:a<s.size) (hs:s.size≤20000000) (ho:out.length≤a) :
    Calls Tryz.prog 220 #[.agg #[.pointer (some ⟨R,0,none⟩)]] w (StepPost R s a q out ov w (Pl.stepLit q ((bs s).drop a))):=by
 have hstep:Pl.stepLit q ((bs s).drop a)=if (s[a].toNat==q.toNat)=true then .go 1 [] true else Pl.itself ((bs s).drop a):=by
  rw[idx_bs s a hlt];rfl
 rw[hstep];have hR:=h.lt;cases hm:(s[a].toNat==q.toNat)
 · rw[if_neg (by simp)];obtain⟨X,hX⟩:∃X:Pl.SR,X=Pl.itself ((bs s).drop a):=⟨_,rfl⟩
   rw[←hX];have HX:=Lib.hid hX;have HS:=Lib.hid h;have HM:=Lib.hid hm;clear hX h hm hstep;go_enter Tryz.func220,Tryz.ntmps220;go_wp2_with fail;refine (tq_end_no _ R s a q out ov (RdQ.auto HS.out) hlt hs HM.out).mono ?_;rintro e w1 ⟨rfl,g1⟩;obtain⟨hc1,hf1,hz1⟩:=g1.use;simp at hz1;go_wp2_with fail;cases X with
   | bad p =>
    refine (tq_itself _ R s a q out ov (RdQ.auto HS.out) hlt hs ho).mono ?_;rw[←HX.out];rintro e w2 ⟨rfl,F',hst⟩;have hu:=hst.use (w.heap.size+1) (by omega) (fun hF=>by have:=HS.out.own_lt hF;omega);have hz2:=hst.size;obtain⟨hc2,hf2⟩:=hu;have HT:=Lib.hid hst;clear hst;go_wp2_with fail;refine bodyPost_ret (v := .tuple #[.bool false,fv 3 (a+p)]) (by simp[results,Tryz.results220,go_sem,hc2,hc1]) rfl ⟨rfl,F',?_⟩;have hst:=HT.out;exact St.auto
   | go n t over =>
    refine (tq_itself _ R s a q out ov (RdQ.auto HS.out) hlt hs ho).mono ?_;rw[←HX.out];rintro e w2 ⟨rfl,ov',hr,hst⟩;have hu:=hst.use (w.heap.size+1) (by omega) (fun hF=>by have:=HS.out.own_lt hF;omega);have hz2:=hst.size;obtain⟨hc2,hf2⟩:=hu;have HR:=Lib.hid hr;have HT:=Lib.hid hst;have hn3:¬FQ R ov' (w.heap.size+1):=fun hF=>by
     rcases HT.out.own _ hF with hF|hF
     · have:=HS.out.own_lt hF;omega
     omega
    clear hr hst;go_wp2_with fail;refine bodyPost_ret (v := .tuple #[.bool over,f0]) (by simp[results,Tryz.results220,go_sem,hc2,hc1]) rfl ⟨rfl,ov',RdQ.auto HR.out,?_⟩;have hst:=HT.out;exact St.auto
 rw[if_pos rfl];have HS:=Lib.hid h;have HM:=Lib.hid hm;clear h hm hstep;go_enter Tryz.func220,Tryz.ntmps220;go_wp2_with fail;refine (tq_end_yes _ R s a q out ov (RdQ.auto HS.out) hlt hs HM.out).mono ?_;rintro e w2 ⟨rfl,hr,hst⟩;have hu:=hst.use (w.heap.size+1) (by simp) (fun hF=>by have:=HS.out.own_lt hF;omega);have hz2:=hst.size;simp at hz2;obtain⟨hc2,hf2⟩:=hu;have HR:=Lib.hid hr;have HT:=Lib.hid hst;have hn3:¬FQ R ov (w.heap.size+1):=fun hF=>by have:=HS.out.own_lt hF;omega
 clear hr hst;go_wp2_with fail;refine bodyPost_ret (v := .tuple #[.bool true,f0]) (by simp[results,Tryz.results220,go_sem,hc2]) rfl ⟨rfl,ov,by rw[List.append_nil];exact RdQ.auto HR.out,?_⟩;have hst:=HT.out;exact St.auto
end Go.Proofs.YtdgjgcepbkanhaaGreatDoor
namespace Go.Proofs.YtdgjgcepbkanhaaGreatDoor
open Go.RowKit Go.Joins
theorem tq_longLiteral_step (w:World) (R:Nat) (s:ByteArray) (a:Nat) (q:UInt8) (out:List UInt8) (ov:Value) (h:RdQ w R s a q out ov)
    (hlt:a<s.size) (hs:s.size≤20000000) (ho:out.length≤a) :
    Calls Tryz.prog 229 #[.agg #[.pointer (some ⟨R,0,none⟩)]] w (StepPost R s a q out ov w (Pl.stepLongLit q ((bs s).drop a))):=by
 unfold Pl.stepLongLit;obtain⟨C,hC⟩:∃C,C=Pl.common q ((bs s).drop a):=⟨_,rfl⟩
 rw[←hC];have HC:=Lib.hid hC;clear hC;have hR:=h.lt;have HS:=Lib.hid h;clear h;cases C with
 | some X =>
  simp only;cases X with
  | bad p =>
   go_enter Tryz.func229,Tryz.ntmps229;go_wp2_with fail;refine (tq_common _ R s a q out ov (RdQ.auto HS.out) hlt hs ho).mono ?_;rw[←HC.out];rintro e w2 ⟨rfl,g1⟩;obtain⟨hc2,hf2,hz2⟩:=g1.use;simp at hz2;have hy1:w.heap.size<w2.heap.size:=by omega
   have hy2:w.heap.size+1<w2.heap.size:=by omega
   go_wp2_with fail
   go_region
   go_wp2_with fail;exact bodyPost_ret (v := .tuple #[.bool false,fv 3 (a+p)]) (by simp[results,Tryz.results229,go_sem,hc2,hy1,hy2]) rfl ⟨rfl,FQ R ov,St.auto⟩
  | go n t over =>
   go_enter Tryz.func229,Tryz.ntmps229;go_wp2_with fail;refine (tq_common _ R s a q out ov (RdQ.auto HS.out) hlt hs ho).mono ?_;rw[←HC.out];rintro e w2 ⟨rfl,ov',hr,hst⟩;have hu:=hst.use (w.heap.size+1) (by simp) (fun hF=>by have:=HS.out.own_lt hF;omega);have hz2:=hst.size;simp at hz2;obtain⟨hc2,hf2⟩:=hu;have HR:=Lib.hid hr;have HT:=Lib.hid hst;have hn3:¬FQ R ov' (w.heap.size+1):=fun hF=>by
    rcases HT.out.own _ hF with hF|hF
    · have:=HS.out.own_lt hF;omega
    simp at hF;omega
   clear hr hst;have hy1:w.heap.size<w2.heap.size:=by omega
   have hy2:w.heap.size+1<w2.heap.size:=by omega
   go_wp2_with fail
   go_region
   go_wp2_with fail;refine bodyPost_ret (v := .tuple #[.bool over,f0]) (by simp[results,Tryz.results229,go_sem,hc2,hy1,hy2]) rfl ⟨rfl,ov',RdQ.auto HR.out,?_⟩;have hst:=HT.out;exact St.auto
 | none =>
  simp only;obtain⟨X,hX⟩:∃X:Pl.SR,X=Pl.itself ((bs s).drop a):=⟨_,rfl⟩
  rw[←hX];have HX:=Lib.hid hX;clear hX;go_enter Tryz.func229,Tryz.ntmps229;go_wp2_with fail;refine (tq_common _ R s a q out ov (RdQ.auto HS.out) hlt hs ho).mono ?_;rw[←HC.out];rintro e w1 ⟨rfl,g1⟩;obtain⟨hc1,hf1,hz1⟩:=g1.use;simp at hz1;have hy1:w.heap.size<w1.heap.size:=by omega
  have hy2:w.heap.size+1<w1.heap.size:=by omega
  go_wp2_with fail;cases X with
  | bad p =>
   refine (tq_itself _ R s a q out ov (RdQ.auto HS.out) hlt hs ho).mono ?_;rw[←HX.out];rintro e w2 ⟨rfl,F',hst⟩;have hu:=hst.use (w.heap.size+1) (by simp;omega) (fun hF=>by have:=HS.out.own_lt hF;omega);have hz2:=hst.size;simp at hz2;obtain⟨hc2,hf2⟩:=hu;have HT:=Lib.hid hst;clear hst;go_wp2_with fail;refine bodyPost_ret (v := .tuple #[.bool false,fv 3 (a+p)]) (by simp[results,Tryz.results229,go_sem,hc2,hc1,hy1,hy2]) rfl ⟨rfl,F',?_⟩;have hst:=HT.out;exact St.auto
  | go n t over =>
   refine (tq_itself _ R s a q out ov (RdQ.auto HS.out) hlt hs ho).mono ?_;rw[←HX.out];rintro e w2 ⟨rfl,ov',hr,hst⟩;have hu:=hst.use (w.heap.size+1) (by simp;omega) (fun hF=>by have:=HS.out.own_lt hF;omega);have hz2:=hst.size;simp at hz2;obtain⟨hc2,hf2⟩:=hu;have HR:=Lib.hid hr;have HT:=Lib.hid hst;have hn3:¬FQ R ov' (w.heap.size+1):=fun hF=>by
    rcases HT.out.own _ hF with hF|hF
    · have:=HS.out.own_lt hF;omega
    simp at hF;omega
   clear hr hst;go_wp2_with fail;refine bodyPost_ret (v := .tuple #[.bool over,f0]) (by simp[results,Tryz.results229,go_sem,hc2,hc1,hy1,hy2]) rfl ⟨rfl,ov',RdQ.auto HR.out,?_⟩;have hst:=HT.out;exact St.auto
end Go.Proofs.YtdgjgcepbkanhaaGreatDoor
namespace Go.Proofs.YtdgjgcepbkanhaaGreatDoor
open Go.RowKit Go.Joins
theorem blank_idx (c:UInt8):(0≤Lib.indexByte [32,9] c) ↔ Pl.isBlank c=true:=by
 by_cases h1:c=32
 · subst h1;decide
 by_cases h2:c=9
 · subst h2;decide
 have e1:¬c.toNat=32:=fun e=>h1 (by rw[←UInt8.toNat_inj,e];rfl)
 have e2:¬c.toNat=9:=fun e=>h2 (by rw[←UInt8.toNat_inj,e];rfl)
 simp[Pl.isBlank,e1,e2];have e3:((32:UInt8)==c)=false:=by simp;exact fun e=>h1 e.symm
 have e4:((9:UInt8)==c)=false:=by simp;exact fun e=>h2 e.symm
 simp[Lib.indexByte,e3,e4]
def posW (R:Nat) (w:World):Nat:=(intOf ((w.cell? ⟨R,1,none⟩).getD undef)).toNat
theorem posW_eq {w R s a q out ov} (h:RdQ w R s a q out ov):posW R w=a:=by
 unfold posW;rw[h.cells.2.1];simp[intOf]
theorem indexByte_blank (c:UInt8) (b:Bool) (h:Pl.isBlank c=b) (w:World) :
    Calls Tryz.prog 61 #[.string ⟨#[32,9]⟩,.int .u8 c.toNat] w fun e w'=>e = .returned (.int .i64 (Lib.indexByte [32,9] c))∧w=w':=by
 refine (Tryz.strings_IndexByte _ _ w).mono ?_;rintro e w' ⟨rfl,rfl⟩;refine⟨ret_int ?_,rfl⟩;rw[show (⟨#[32,9]⟩:ByteArray).data.toList=[32,9] from rfl];congr 1;simp
theorem blanksAt_more (l:List UInt8) (m:Nat) (h:m<l.length) (hb:Pl.isBlank (l[m]'h)=true):Pl.blanksAt l m=Pl.blanksAt l (m+1):=by
 unfold Pl.blanksAt Pl.blanks;rw[List.drop_eq_getElem_cons h,List.takeWhile_cons,if_pos hb];simp;omega
theorem blanksAt_here (l:List UInt8) (m:Nat) (h:∀h:m<l.length,Pl.isBlank (l[m]'h)=false):Pl.blanksAt l m=m:=by
 unfold Pl.blanksAt Pl.blanks;by_cases hm:m<l.length
 · rw[List.drop_eq_getElem_cons hm,List.takeWhile_cons,if_neg (by rw[h hm];simp)];rfl
 rw[List.drop_eq_nil_of_le (by omega)];rfl
theorem tq_fold (w:World) (R:Nat) (s:ByteArray) (a:Nat) (q:UInt8) (out:List UInt8) (ov:Value) (h:RdQ w R s a q out ov)
    (hlt:a<s.size) (hs:s.size≤20000000) :
    Calls Tryz.prog 233 #[.pointer (some ⟨R,0,none⟩)] w fun e w'=>match Pl.foldAt true (bs s) (a+1) with
     | .ok n=>e = .returned f0∧n≤s.size∧RdQ w' R s n q out ov∧St (FQ R ov) (FQ R ov) w w'
     | .bad c p=>e = .returned (fv c p)∧St (FQ R ov) (FQ R ov) w w':=by
 obtain⟨X,hX⟩:∃X:Ending→World→Prop,X=fun e w'=>match Pl.foldAt true (bs s) (a+1) with
     | .ok n=>e = .returned f0∧n≤s.size∧RdQ w' R s n q out ov∧St (FQ R ov) (FQ R ov) w w'
     | .bad c p=>e = .returned (fv c p)∧St (FQ R ov) (FQ R ov) w w':=⟨_,rfl⟩
 rw[←hX];have HX:=Lib.hid hX;obtain⟨c0,c1,c2,c3,fz⟩:=h.cells;have fz1:=fz 1;have hR:=h.lt;have hRne:¬w.heap.size=R:=by omega
 have HS:=Lib.hid h;clear fz h hX c3;go_enter Tryz.func233,Tryz.ntmps233;go_wp2_with fail
 go_loopw [3] (fun l wr=>∃(n j:Nat),l = .int .i64 j∧n≤s.size∧j≤n∧Pl.foldAt (j==0) (bs s) n=Pl.foldAt true (bs s) (a+1)∧RdQ wr R s n q out ov∧St (FQ R ov) (FQ R ov) w wr∧w.heap.size+1≤wr.heap.size ∧
     wr.cell? ⟨w.heap.size,0,none⟩=some (.int .i64 0)∧wr.cell? ⟨w.heap.size,1,none⟩=some (.int .i64 0)∧wr.frozen? ⟨w.heap.size,0,none⟩=false∧wr.frozen? ⟨w.heap.size,1,none⟩=false)
  (fun _ wr=>s.size-posW R wr)
 case atStart =>
  have e:(↑a+1:Int)=((a+1:Nat):Int):=by omega
  refine⟨a+1,0,rfl,by omega,by omega,rfl,?_,?_,by simp[World.setCell],?_,?_,?_,?_⟩
  · rw[e];exact (HS.out.setAt (a+1)).alloc _
  · exact ((St.refl _ _).setCell (.inl (.inl rfl)) _).alloc _
  all_goals simp[go_sem]
 case round =>
  obtain⟨n,j,rfl,hn,hj,hF,hr,hst,hz,m0,m1,m2,m3⟩:=hrel;have hbl:=Pl.blanksAt_le (bs s) n (by rw[bs_length];exact hn);rw[bs_length]at hbl;have HF:=Lib.hid hF;have HR:=Lib.hid hr;have HT:=Lib.hid hst;have hRr:=hr.lt;clear hF hr hst c0 c1 c2 fz1;go_wp2_with fail;obtain⟨wo,rfl⟩:∃wo:World,wo=wr:=⟨_,rfl⟩
  go_loopw [13] (fun _ w2=>∃m:Nat,n≤m∧m≤Pl.blanksAt (bs s) n∧Pl.blanksAt (bs s) m=Pl.blanksAt (bs s) n∧RdQ w2 R s m q out ov∧St (FQ R ov) (FQ R ov) wo w2) (fun _ w2=>s.size-posW R w2)
  case atStart=>exact⟨n,by omega,by omega,rfl,HR.out,St.refl _ _⟩
  case round =>
   obtain⟨m,h1,h2,h3,hr2,hst2⟩:=hrel;obtain⟨d0,d1,d2,d3,dz⟩:=hr2.cells;have dz1:=dz 1;have hR2:=hr2.lt;have hp2:=posW_eq hr2;have HR2:=Lib.hid hr2;have HT2:=Lib.hid hst2;have H3:=Lib.hid h3;have HP2:=Lib.hid hp2;clear hr2 hst2 h3 dz d3 hp2;by_cases hm:m<s.size
   · have hd1:decide (m<s.size)=true:=by simp;omega
     cases hb:Pl.isBlank s[m]
     · have hI:decide (0≤Lib.indexByte [32,9] s[m])=false:=by
        rw[decide_eq_false_iff_not,blank_idx,hb];simp
       have HB:=Lib.hid hb;clear hb;go_wp2_with fail
       go_quiet ((go_at_call 61;exact quiet_any (indexByte_blank _ false HB.out _) ⟨_,rfl⟩))
       have hme:m=Pl.blanksAt (bs s) n:=by
        rw[←H3.out];exact (blanksAt_here (bs s) m (fun _=>HB.out)).symm
       obtain⟨S1,S2,S3,S4,S5⟩:=Pl.foldAt_step (j==0) (bs s) n m (by rw[bs_length];exact hn) hme;have hbq:((m:Int)==(s.size:Int))=false:=by simp;omega
       have hml:m<(bs s).length:=by rw[bs_length];exact hm
       have S2':=S2 hml;have S3':=S3 hml;have S4':=S4 hml;have S5':=S5 hml;clear S1 S2 S3 S4 S5 hme;have hu:=HT2.out.use w.heap.size (by omega) (fun hF=>by have:=HS.out.own_lt hF;omega);have n0:wr.cell? ⟨w.heap.size,0,none⟩=some (.int .i64 0):=(hu.1 0).trans m0;have n1:wr.cell? ⟨w.heap.size,1,none⟩=some (.int .i64 0):=(hu.1 1).trans m1;have n2:wr.frozen? ⟨w.heap.size,0,none⟩=false:=(hu.2 0).trans m2;have n3:wr.frozen? ⟨w.heap.size,1,none⟩=false:=(hu.2 1).trans m3;have hsz2:=HT2.out.size;clear hu m0 m1 m2 m3;go_wp2_with fail
       go_quiet (fail)
       go_wp2_with fail;cases hfd:Pl.feed ((bs s).drop m) with
       | bad c p =>
        obtain⟨rfl,rfl⟩:=Pl.feed_bad _ _ _ hfd;have HE:=Lib.hid ((S4' _ _ hfd).symm.trans HF.out);have HFD:=Lib.hid hfd;clear hfd S2' S3' S4' S5';refine (tq_feed _ R s m q out ov (RdQ.auto HR2.out) hm hs).mono ?_;rw[HFD.out];rintro e w1 ⟨rfl,g1⟩;obtain⟨hc1,hf1,hz1⟩:=g1.use;simp at hz1;have hy2:w.heap.size<w1.heap.size:=by omega
        have hyn:¬w.heap.size=w1.heap.size:=by omega
        have q0:w1.cell? ⟨w.heap.size,0,none⟩=some (.int .i64 0):=(hc1 _ _ (by simp;omega)).trans n0;have q1:w1.cell? ⟨w.heap.size,1,none⟩=some (.int .i64 0):=(hc1 _ _ (by simp;omega)).trans n1;have q2:w1.frozen? ⟨w.heap.size,0,none⟩=false:=(hf1 _ _ (by simp;omega)).trans n2;have q3:w1.frozen? ⟨w.heap.size,1,none⟩=false:=(hf1 _ _ (by simp;omega)).trans n3;have hR1:=HR2.out.gr (((Gr.refl wr).drewN _).trans g1);obtain⟨x0,x1,x2,x3,xz⟩:=hR1.cells;have xz1:=xz 1;have hR3:=hR1.lt;have hR4:¬R=w1.heap.size:=by omega
        have HR1:=Lib.hid hR1;clear hc1 hf1 n0 n1 n2 n3 hR1 x3 xz d0 d1 d2 dz1;go_wp2_with fail;refine bodyPost_ret (v:=fv 3 (m+1)) (by simp[results,Tryz.results233,go_sem,q0,q1,hy2,hyn]) rfl ?_;rw[HX.out,←HE.out];have hst:=HT.out;have hst2:=HT2.out;exact⟨rfl,St.auto⟩
       | ok k =>
        cases k with
        | zero =>
         cases hj0:(j==0)
         · have HE:=Lib.hid ((S3' hfd hj0).symm.trans HF.out);have HFD:=Lib.hid hfd;obtain⟨b1,b2⟩:=beqs _ 0 _ hj0;clear hfd S2' S3' S4' S5';refine (tq_feed _ R s m q out ov (RdQ.auto HR2.out) hm hs).mono ?_;rw[HFD.out];rintro e w1 ⟨rfl,g1⟩;obtain⟨hc1,hf1,hz1⟩:=g1.use;simp at hz1;have hy2:w.heap.size<w1.heap.size:=by omega
           have hyn:¬w.heap.size=w1.heap.size:=by omega
           have q0:w1.cell? ⟨w.heap.size,0,none⟩=some (.int .i64 0):=(hc1 _ _ (by simp;omega)).trans n0;have q1:w1.cell? ⟨w.heap.size,1,none⟩=some (.int .i64 0):=(hc1 _ _ (by simp;omega)).trans n1;have q2:w1.frozen? ⟨w.heap.size,0,none⟩=false:=(hf1 _ _ (by simp;omega)).trans n2;have q3:w1.frozen? ⟨w.heap.size,1,none⟩=false:=(hf1 _ _ (by simp;omega)).trans n3;have hR1:=HR2.out.gr (((Gr.refl wr).drewN _).trans g1);obtain⟨x0,x1,x2,x3,xz⟩:=hR1.cells;have xz1:=xz 1;have hR3:=hR1.lt;have hR4:¬R=w1.heap.size:=by omega
           have HR1:=Lib.hid hR1;clear hc1 hf1 n0 n1 n2 n3 hR1 x3 xz d0 d1 d2 dz1;go_wp2_with fail;refine bodyPost_ret (v:=f0) (by simp[results,Tryz.results233,go_sem,q0,q1,hy2,hyn]) rfl ?_;rw[HX.out,←HE.out];have hst:=HT.out;have hst2:=HT2.out;have hn3:¬FQ R ov w.heap.size:=fun hF=>by have:=HS.out.own_lt hF;omega
           refine⟨rfl,?_,?_,?_⟩
           · omega
           · exact RdQ.auto HR1.out
           exact St.auto
         have HE:=Lib.hid ((S2' hfd hj0).symm.trans HF.out);have HFD:=Lib.hid hfd;obtain⟨b1,b2⟩:=beqs _ 0 _ hj0;clear hfd S2' S3' S4' S5';refine (tq_feed _ R s m q out ov (RdQ.auto HR2.out) hm hs).mono ?_;rw[HFD.out];rintro e w1 ⟨rfl,g1⟩;obtain⟨hc1,hf1,hz1⟩:=g1.use;simp at hz1;have hy2:w.heap.size<w1.heap.size:=by omega
         have hyn:¬w.heap.size=w1.heap.size:=by omega
         have q0:w1.cell? ⟨w.heap.size,0,none⟩=some (.int .i64 0):=(hc1 _ _ (by simp;omega)).trans n0;have q1:w1.cell? ⟨w.heap.size,1,none⟩=some (.int .i64 0):=(hc1 _ _ (by simp;omega)).trans n1;have q2:w1.frozen? ⟨w.heap.size,0,none⟩=false:=(hf1 _ _ (by simp;omega)).trans n2;have q3:w1.frozen? ⟨w.heap.size,1,none⟩=false:=(hf1 _ _ (by simp;omega)).trans n3;have hR1:=HR2.out.gr (((Gr.refl wr).drewN _).trans g1);obtain⟨x0,x1,x2,x3,xz⟩:=hR1.cells;have xz1:=xz 1;have hR3:=hR1.lt;have hR4:¬R=w1.heap.size:=by omega
         have HR1:=Lib.hid hR1;clear hc1 hf1 n0 n1 n2 n3 hR1 x3 xz d0 d1 d2 dz1;go_wp2_with fail;refine (tq_wrong _ m (by omega) _).mono ?_;rintro e w4 ⟨rfl,g4⟩;obtain⟨hc4,hf4,hz4⟩:=g4.use;simp at hz4;have r0:w4.cell? ⟨w.heap.size,0,none⟩=some (.int .i64 0):=by rw[hc4 _ _ (by simp;omega)];simp[go_sem,q0,hy2,hyn]
         have r1:w4.cell? ⟨w.heap.size,1,none⟩=some (.int .i64 0):=by rw[hc4 _ _ (by simp;omega)];simp[go_sem,q1,hy2,hyn]
         have r2:w4.frozen? ⟨w.heap.size,0,none⟩=false:=by rw[hf4 _ _ (by simp;omega)];simp[go_sem,q2,hy2,hyn]
         have r3:w4.frozen? ⟨w.heap.size,1,none⟩=false:=by rw[hf4 _ _ (by simp;omega)];simp[go_sem,q3,hy2,hyn]
         clear hc4 hf4;go_wp2_with fail;refine bodyPost_ret (v:=fv 3 m) (by simp[results,Tryz.results233,go_sem,r0,r1]) rfl ?_;rw[HX.out,←HE.out];have hst:=HT.out;have hst2:=HT2.out;exact⟨rfl,St.auto⟩
        | succ k =>
         have HE:=Lib.hid ((S5' _ hfd).symm.trans HF.out);have HFD:=Lib.hid hfd;have hkl:=Pl.feed_le _ _ hfd;rw[List.length_drop,bs_length]at hkl;have hk0:((k:Int)+1==0)=false:=by simp;omega
         clear hfd S2' S3' S4' S5';refine (tq_feed _ R s m q out ov (RdQ.auto HR2.out) hm hs).mono ?_;rw[HFD.out];rintro e w1 ⟨rfl,g1⟩;obtain⟨hc1,hf1,hz1⟩:=g1.use;simp at hz1;have hy2:w.heap.size<w1.heap.size:=by omega
         have hyn:¬w.heap.size=w1.heap.size:=by omega
         have q0:w1.cell? ⟨w.heap.size,0,none⟩=some (.int .i64 0):=(hc1 _ _ (by simp;omega)).trans n0;have q1:w1.cell? ⟨w.heap.size,1,none⟩=some (.int .i64 0):=(hc1 _ _ (by simp;omega)).trans n1;have q2:w1.frozen? ⟨w.heap.size,0,none⟩=false:=(hf1 _ _ (by simp;omega)).trans n2;have q3:w1.frozen? ⟨w.heap.size,1,none⟩=false:=(hf1 _ _ (by simp;omega)).trans n3;have hR1:=HR2.out.gr (((Gr.refl wr).drewN _).trans g1);obtain⟨x0,x1,x2,x3,xz⟩:=hR1.cells;have xz1:=xz 1;have hR3:=hR1.lt;have hR4:¬R=w1.heap.size:=by omega
         have HR1:=Lib.hid hR1;clear hc1 hf1 n0 n1 n2 n3 hR1 x3 xz d0 d1 d2 dz1
         set_option maxRecDepth 100000 in
         go_wp2_with fail;have hk3:(↑m+(↑k+1):Int)=((m+(k+1):Nat):Int):=by omega
         go_roundw
         case rel =>
          rw[hk3];refine⟨m+(k+1),j+1,by go_num,by omega,by omega,?_,(HR1.out.setAt (m+(k+1))).alloc _,?_,by simp[World.setCell];omega,?_,?_,?_,?_⟩
          · rw[show ((j+1)==0)=false from by simp,HE.out]
          · exact ((((HT.out.trans HT2.out).gr (((Gr.refl wr).drewN _).trans g1)).setCell (.inl (.inl rfl)) _).alloc _)
          all_goals simp[go_sem,q0,q1,q2,q3,hy2,hyn,hRne]
         case measure =>
          rw[hk3,posW_eq ((HR1.out.setAt (m+(k+1))).alloc _),posW_eq HR.out];omega
     have hI:decide (0≤Lib.indexByte [32,9] s[m])=true:=by
      rw[decide_eq_true_iff,blank_idx,hb]
     have HB:=Lib.hid hb;clear hb;go_wp2_with fail
     go_quiet ((go_at_call 61;exact quiet_any (indexByte_blank _ true HB.out _) ⟨_,rfl⟩))
     go_wp2_with fail;have e1:(↑m+1:Int)=((m+1:Nat):Int):=by omega
     have hmo:=blanksAt_more (bs s) m (by rw[bs_length];exact hm) HB.out;have hm1:=Pl.blanksAt_le (bs s) (m+1) (by rw[bs_length];omega);have h3:=H3.out;have hrn:RdQ ((wr.setCell ⟨R,1,none⟩ (.int .i64 ((m+1:Nat):Int))).drewN nq) R s (m+1) q out ov:=(HR2.out.setAt (m+1)).drewN nq
     go_roundw
     case rel =>
      rw[e1];refine⟨m+1,by omega,by omega,by rw[←hmo,h3],?_,?_⟩
      · first|exact hrn|exact (HR2.out.drewN nq).setAt (m+1)
      exact St.trans HT2.out (by first|exact ((St.refl _ _).setCell (.inl (.inl rfl)) _).drewN _|exact ((St.refl _ _).drewN _).setCell (.inl (.inl rfl)) _)
     case measure =>
      rw[e1,HP2.out]
      first|rw[posW_eq hrn]|rw[posW_eq ((HR2.out.drewN nq).setAt (m+1))]
      omega
   have hd1:decide (m<s.size)=false:=by simp;omega
   have hme:m=Pl.blanksAt (bs s) n:=by
    rw[←H3.out];exact (blanksAt_here (bs s) m (fun h=>absurd h (by rw[bs_length];exact hm))).symm
   obtain⟨S1,S2,S3,S4,S5⟩:=Pl.foldAt_step (j==0) (bs s) n m (by rw[bs_length];exact hn) hme;have HE:=Lib.hid ((S1 (by rw[bs_length];omega)).symm.trans HF.out);have hbq:((m:Int)==(s.size:Int))=true:=by simp;omega
   clear S1 S2 S3 S4 S5 hme;have hu:=HT2.out.use w.heap.size (by omega) (fun hF=>by have:=HS.out.own_lt hF;omega);have n0:wr.cell? ⟨w.heap.size,0,none⟩=some (.int .i64 0):=(hu.1 0).trans m0;have n1:wr.cell? ⟨w.heap.size,1,none⟩=some (.int .i64 0):=(hu.1 1).trans m1;have n2:wr.frozen? ⟨w.heap.size,0,none⟩=false:=(hu.2 0).trans m2;have n3:wr.frozen? ⟨w.heap.size,1,none⟩=false:=(hu.2 1).trans m3;have hsz2:=HT2.out.size;clear hu m0 m1 m2 m3;go_wp2_with fail
   go_quiet (fail)
   go_wp2_with fail
   go_quiet (fail)
   go_wp2_with fail;refine bodyPost_ret (v:=f0) (by simp[results,Tryz.results233,go_sem,n0,n1]) rfl ?_;rw[HX.out,←HE.out];have hst:=HT.out;have hst2:=HT2.out;have hn3:¬FQ R ov w.heap.size:=fun hF=>by have:=HS.out.own_lt hF;omega
   refine⟨rfl,?_,?_,?_⟩
   · omega
   · exact RdQ.auto HR2.out
   exact St.auto
end Go.Proofs.YtdgjgcepbkanhaaGreatDoor
