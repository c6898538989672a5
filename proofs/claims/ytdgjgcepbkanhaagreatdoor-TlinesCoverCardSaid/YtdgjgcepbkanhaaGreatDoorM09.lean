/-
 The walks and plain laws that the claim rests on, part 9.
-/
import Derived.Test.YtdgjgcepbkanhaaGreatDoorM05
import Derived.Test.YtdgjgcepbkanhaaGreatDoorM07
import Derived.Test.YtdgjgcepbkanhaaGreatDoorM08
set_option maxHeartbeats 16000000
set_option linter.all false
set_option linter.unusedVariables false
set_option linter.unusedSimpArgs false
namespace Go.Proofs.YtdgjgcepbkanhaaGreatDoor
open Go.RowKit Go.Joins
namespace Pl
def escIdx (T:Nat→UInt8 × UInt8) (c:UInt8) (k:Nat):Nat→Option Nat
 | 0=>none
 | n+1=>if c.toNat=(T k).1.toNat then some k else escIdx T c (k+1) n
theorem escIdx_hit (T:Nat→UInt8 × UInt8) (c:UInt8) (k n:Nat) (h:(c.toNat==(T k).1.toNat)=true):escIdx T c k (n+1)=some k:=by
 simp at h;simp[escIdx,h]
theorem escIdx_miss (T:Nat→UInt8 × UInt8) (c:UInt8) (k n:Nat) (h:(c.toNat==(T k).1.toNat)=false):escIdx T c k (n+1)=escIdx T c (k+1) n:=by
 simp at h;simp[escIdx,h]
def escAt (T:Nat→UInt8 × UInt8) (l:List UInt8) (a:Nat):Out (List UInt8 × Nat) :=
 match l.drop (a+1) with
 | [] => .bad 3 l.length
 | c::_=>match escIdx T c 0 7 with
  | some k => .ok ([(T k).2],a+2)
  | none =>
   if c.toNat=117 then match unitAt l (a+2) 4 with|.ok n => .ok (runeBytes n,a+2+4)|.bad c p => .bad c p
   else if c.toNat=85 then match unitAt l (a+2) 8 with|.ok n => .ok (runeBytes n,a+2+8)|.bad c p => .bad c p
   else .bad 3 (a+1)
theorem escAt_end (T) (l:List UInt8) (a:Nat) (h:l.length=a+1):escAt T l a = .bad 3 (a+1):=by
 unfold escAt;rw[List.drop_of_length_le (by omega),h]
theorem escAt_in (T) (l:List UInt8) (a:Nat) (c:UInt8) (r:List UInt8) (h:l.drop (a+1)=c::r):escAt T l a=match escIdx T c 0 7 with
    | some k => .ok ([(T k).2],a+2)
    | none =>
     if c.toNat=117 then match unitAt l (a+2) 4 with|.ok n => .ok (runeBytes n,a+2+4)|.bad c p => .bad c p
     else if c.toNat=85 then match unitAt l (a+2) 8 with|.ok n => .ok (runeBytes n,a+2+8)|.bad c p => .bad c p
     else .bad 3 (a+1):=by
 unfold escAt;rw[h]
end Pl
def shC (T:Nat→UInt8 × UInt8):Array Value:=#[byteV (T 0).1,byteV (T 0).2,byteV (T 1).1,byteV (T 1).2,byteV (T 2).1,byteV (T 2).2,byteV (T 3).1,byteV (T 3).2,byteV (T 4).1,byteV (T 4).2,byteV (T 5).1,byteV (T 5).2,byteV (T 6).1,byteV (T 6).2]
def ShW (T:Nat→UInt8 × UInt8) (w:World):Prop:=∀j v,(shC T)[j]?=some v→w.cell? ⟨0,j,none⟩=some v
theorem ShW.gr {T} {w w':World} (h:ShW T w) (g:Gr w w'):ShW T w':=fun j v hj=>(g.use.1 _ _ (Lib.lt_of_cell (h j v hj))).trans (h j v hj)
set_option maxRecDepth 1000000 in
theorem sh_index (T:Nat→UInt8 × UInt8) (k:Nat) (hk:k<7) (W:World) :
    (Instr.index 109 (.agg (shC T)) (.int .i64 k)).run Tryz.prog W = .ok (.agg #[byteV (T k).1,byteV (T k).2]) W:=by
 have:k=0∨k=1∨k=2∨k=3∨k=4∨k=5∨k=6:=by omega
 rcases this with rfl|rfl|rfl|rfl|rfl|rfl|rfl
 all_goals (show _=_;first|kernel_rfl|rfl)
set_option maxRecDepth 100000 in
theorem tq_escaped (w:World) (R:Nat) (s:ByteArray) (a:Nat) (q:UInt8) (out:List UInt8) (ov:Value) (h:RdQ w R s a q out ov) (hv:EsV w)
    (T:Nat→UInt8 × UInt8) (ht:ShW T w) (hlt:a<s.size) (hs:s.size≤20000000) (hlen:out.length≤29000000) :
    Calls Tryz.prog 224 #[.pointer (some ⟨R,0,none⟩)] w fun e w'=>match Pl.escAt T (bs s) a with
     | .ok r=>e = .returned f0∧∃ov',RdQ w' R s r.2 q (out++r.1) ov'∧St (FQ R ov) (FQ R ov') w w'
     | .bad c p=>e = .returned (fv c p)∧St (FQ R ov) (FQ R ov) w w':=by
 obtain⟨X,hX⟩:∃X:Ending→World→Prop,X=fun e w'=>match Pl.escAt T (bs s) a with
     | .ok r=>e = .returned f0∧∃ov',RdQ w' R s r.2 q (out++r.1) ov'∧St (FQ R ov) (FQ R ov') w w'
     | .bad c p=>e = .returned (fv c p)∧St (FQ R ov) (FQ R ov) w w':=⟨_,rfl⟩
 rw[←hX];have HX:=Lib.hid hX;obtain⟨c0,c1,c2,c3,fz⟩:=h.cells;have hR:=h.lt;have HS:=Lib.hid h;have HV:=Lib.hid hv;have HT:=Lib.hid ht;clear fz h hX c3 hv ht;have hw1:=IntWalk.i64_in ((a:Int)+1) (by omega);have hk1:((a:Int)+1).toNat=a+1:=by omega
 by_cases hend:s.size=a+1
 · have hb:((a:Int)+1==(s.size:Int))=true:=by simp;omega
   have HU:=Lib.hid (Pl.escAt_end T (bs s) a (by rw[bs_length];exact hend));go_enter Tryz.func224,Tryz.ntmps224;go_wp2_with fail
   go_quiet (fail)
   go_wp2_with fail;refine (tq_wrong _ (a+1) (by omega) _).mono ?_;rintro e w1 ⟨rfl,g1⟩;obtain⟨hc1,hf1,hz1⟩:=g1.use;simp at hz1;have q0:w1.cell? ⟨w.heap.size,0,none⟩=some (.int .i64 0):=(hc1 _ _ (by simp)).trans (by simp);have q1:w1.cell? ⟨w.heap.size,1,none⟩=some (.int .i64 0):=(hc1 _ _ (by simp)).trans (by simp);have q2:w1.frozen? ⟨w.heap.size,0,none⟩=false:=(hf1 _ _ (by simp)).trans (by simp[go_sem]);have q3:w1.frozen? ⟨w.heap.size,1,none⟩=false:=(hf1 _ _ (by simp)).trans (by simp[go_sem]);have hy1:w.heap.size<w1.heap.size:=by omega
   clear hc1 hf1;go_wp2_with fail;refine bodyPost_ret (v:=fv 3 (a+1)) (by simp[results,Tryz.results224,go_sem,q0,q1]) rfl ?_;rw[HX.out,HU.out];exact⟨rfl,St.auto⟩
 have hb:((a:Int)+1==(s.size:Int))=false:=by simp;omega
 have hin:a+1<s.size:=by omega
 have hi1:(0:Int)≤(a:Int)+1:=by omega
 have hi2:(a:Int)+1<(s.size:Int):=by omega
 have t0:w.cell? ⟨0,0,none⟩=some (.int .u8 (T 0).1.toNat):=HT.out 0 _ rfl;have t1:w.cell? ⟨0,1,none⟩=some (.int .u8 (T 0).2.toNat):=HT.out 1 _ rfl;have t2:w.cell? ⟨0,2,none⟩=some (.int .u8 (T 1).1.toNat):=HT.out 2 _ rfl;have t3:w.cell? ⟨0,3,none⟩=some (.int .u8 (T 1).2.toNat):=HT.out 3 _ rfl;have t4:w.cell? ⟨0,4,none⟩=some (.int .u8 (T 2).1.toNat):=HT.out 4 _ rfl;have t5:w.cell? ⟨0,5,none⟩=some (.int .u8 (T 2).2.toNat):=HT.out 5 _ rfl;have t6:w.cell? ⟨0,6,none⟩=some (.int .u8 (T 3).1.toNat):=HT.out 6 _ rfl;have t7:w.cell? ⟨0,7,none⟩=some (.int .u8 (T 3).2.toNat):=HT.out 7 _ rfl;have t8:w.cell? ⟨0,8,none⟩=some (.int .u8 (T 4).1.toNat):=HT.out 8 _ rfl;have t9:w.cell? ⟨0,9,none⟩=some (.int .u8 (T 4).2.toNat):=HT.out 9 _ rfl;have t10:w.cell? ⟨0,10,none⟩=some (.int .u8 (T 5).1.toNat):=HT.out 10 _ rfl;have t11:w.cell? ⟨0,11,none⟩=some (.int .u8 (T 5).2.toNat):=HT.out 11 _ rfl;have t12:w.cell? ⟨0,12,none⟩=some (.int .u8 (T 6).1.toNat):=HT.out 12 _ rfl;have t13:w.cell? ⟨0,13,none⟩=some (.int .u8 (T 6).2.toNat):=HT.out 13 _ rfl;have hlg:0<w.heap.size:=Lib.lt_of_cell t0;have HE:=Lib.hid (Pl.escAt_in T (bs s) a s[a+1] _ (idx_bs s (a+1) hin));obtain⟨c,hce⟩:∃c,c=s[a+1]:=⟨_,rfl⟩
 rw[←hce]at HE;go_enter Tryz.func224,Tryz.ntmps224;go_wp2_with fail
 go_quiet (fail)
 go_wp2_with fail
 go_quiet (fail)
 rw[←hce];clear hce;go_wp2_with fail
 go_loopw [34] (fun v wr=>∃k:Nat,v = .int .i64 k∧k≤7∧Pl.escIdx T c 0 7=Pl.escIdx T c k (7-k)∧Gr w wr∧w.heap.size+1≤wr.heap.size ∧
  wr.cell? ⟨w.heap.size,0,none⟩=some (.int .i64 0)∧wr.cell? ⟨w.heap.size,1,none⟩=some (.int .i64 0)∧wr.frozen? ⟨w.heap.size,0,none⟩=false∧wr.frozen? ⟨w.heap.size,1,none⟩=false)
  (fun v _=>7-(intOf v).toNat)
 case atStart =>
  refine⟨0,rfl,by omega,rfl,Gr.auto,by simp,?_,?_,?_,?_⟩
  all_goals simp[go_sem]
 case round =>
  obtain⟨k,rfl,hk,hi,hg,hz,m0,m1,m2,m3⟩:=hrel;have hr:=HS.out.gr hg;obtain⟨d0,d1,d2,d3,dz⟩:=hr.cells;have HR:=Lib.hid hr;have HG:=Lib.hid hg;have HI:=Lib.hid hi;have hn:¬FQ R ov wr.heap.size:=fun hF=>by have:=HR.out.own_lt hF;omega
  have hn0:¬FQ R ov w.heap.size:=fun hF=>by have:=HS.out.own_lt hF;omega
  have hlw:w.heap.size<wr.heap.size:=by omega
  have hlne:¬w.heap.size=wr.heap.size:=by omega
  clear hr hg hi d3 dz c0 c1 c2;by_cases hk7:k<7
  · have i0:∀W,(Instr.index 109 (.agg (shC T)) (.int .i64 k)).run Tryz.prog W = .ok (.agg #[byteV (T k).1,byteV (T k).2]) W:=fun W=>sh_index T k hk7 W
    simp only[shC,byteV]at i0;have hd:decide (k<7)=true:=by simp;omega
    cases hc:(c.toNat==(T k).1.toNat)
    · have hm:=Lib.hid (Pl.escIdx_miss T c k (6-k) hc);obtain⟨b1,b2⟩:=beqs _ _ _ hc;clear hc;go_wp2_with fail;refine⟨⟨k+1,by simp,by omega,?_,Gr.auto,?_,?_,?_,?_,?_⟩,by simp[intOf];omega⟩
      · rw[HI.out,show 7-k=6-k+1 by omega,hm.out,show 6-k=7-(k+1) by omega]
      · simp;omega
      all_goals simp[go_sem,m0,m1,m2,m3,hlw,hlne]
    have hm:=Lib.hid (Pl.escIdx_hit T c k (6-k) hc);obtain⟨b1,b2⟩:=beqs _ _ _ hc;clear hc;go_wp2_with fail;refine (tq_take _ R s a q out ov (RdQ.auto HR.out) 2 2 rfl (by omega) [(T k).2] (wr.heap.size+1) 0 1 (by simp) (by omega) (news_one _ _ _ _ (by simp)) (by simp;omega)).mono ?_;rintro e w1 ⟨rfl,ov',hr,hst⟩;obtain⟨hc1,hf1⟩:=hst.use w.heap.size (by simp;omega) hn0;have hz1:=hst.size;simp at hz1;have r0:w1.cell? ⟨w.heap.size,0,none⟩=some (.int .i64 0):=(hc1 _).trans (by simp[go_sem,m0,hlw,hlne]);have r1:w1.cell? ⟨w.heap.size,1,none⟩=some (.int .i64 0):=(hc1 _).trans (by simp[go_sem,m1,hlw,hlne]);have r2:w1.frozen? ⟨w.heap.size,0,none⟩=false:=(hf1 _).trans (by simp[go_sem,m2,hlw,hlne]);have r3:w1.frozen? ⟨w.heap.size,1,none⟩=false:=(hf1 _).trans (by simp[go_sem,m3,hlw,hlne]);have HR1:=Lib.hid hr;have HST:=Lib.hid hst;clear hr hst hc1 hf1 m0 m1 m2 m3;go_wp2_with fail;refine bodyPost_ret (v:=f0) (by simp[results,Tryz.results224,go_sem,r0,r1]) rfl ?_;rw[HX.out,HE.out,HI.out,show 7-k=6-k+1 by omega,hm.out];refine⟨rfl,ov',?_,?_⟩
    · have hn3:¬FQ R ov' w.heap.size:=fun hF=>by
       rcases HST.out.own _ hF with hF|hF
       · exact hn0 hF
       simp at hF;omega
      have hrd:=HR1.out;exact RdQ.auto hrd
    have hst0:St (FQ R ov) (FQ R ov') w w1:=(Gr.st Gr.auto).trans HST.out;have hst:=hst0;exact St.auto
  obtain rfl:k=7:=by omega
  have hd:decide ((7:Nat)<7)=false:=by simp
  have HN:RowKit.Hid (Pl.escIdx T c 0 7=none):=Lib.hid HI.out;cases hu:(c.toNat==117)
  · obtain⟨b1,b2⟩:=beqs _ 117 _ hu;have hu':¬c.toNat=117:=by simpa using hu
    cases hU:(c.toNat==85)
    · obtain⟨b3,b4⟩:=beqs _ 85 _ hU;have hU':¬c.toNat=85:=by simpa using hU
      have HF:Pl.escAt T (bs s) a = .bad 3 (a+1):=by rw[HE.out,HN.out];simp[hu',hU']
      have HQ:=Lib.hid HF;clear HF hu hU hu' hU';go_wp2_with fail;refine (tq_wrong _ (a+1) (by omega) _).mono ?_;rintro e w1 ⟨rfl,g1⟩;obtain⟨hc1,hf1,hz1⟩:=g1.use;have r0:w1.cell? ⟨w.heap.size,0,none⟩=some (.int .i64 0):=(hc1 _ _ hlw).trans m0;have r1:w1.cell? ⟨w.heap.size,1,none⟩=some (.int .i64 0):=(hc1 _ _ hlw).trans m1;have r2:w1.frozen? ⟨w.heap.size,0,none⟩=false:=(hf1 _ _ hlw).trans m2;have r3:w1.frozen? ⟨w.heap.size,1,none⟩=false:=(hf1 _ _ hlw).trans m3;clear hc1 hf1 m0 m1 m2 m3;go_wp2_with fail;refine bodyPost_ret (v:=fv 3 (a+1)) (by simp[results,Tryz.results224,go_sem,r0,r1]) rfl ?_;rw[HX.out,HQ.out];have hst:St (FQ R ov) (FQ R ov) w w1:=(HG.out.trans g1).st;exact⟨rfl,St.auto⟩
    obtain⟨b3,b4⟩:=beqs _ 85 _ hU;have hU':c.toNat=85:=by simpa using hU
    clear hu hU;have HF:Pl.escAt T (bs s) a=match Pl.unitAt (bs s) (a+2) 8 with|.ok n => .ok (Pl.runeBytes n,a+2+8)|.bad c p => .bad c p:=by
     rw[HE.out,HN.out];simp[hu',hU']
    clear hu' hU';go_wp2_with fail;refine (tq_unit _ R s a q out ov HR.out (HV.out.gr HG.out) 8 (by omega) hlt hs hlen).mono ?_;intro e w1 hp;cases hq:Pl.unitAt (bs s) (a+2) 8 with
    | ok n =>
     rw[hq]at hp HF;obtain⟨rfl,ov',hr,hst⟩:=hp;obtain⟨hc1,hf1⟩:=hst.use w.heap.size (by omega) hn0;have hz1:=hst.size;have r0:w1.cell? ⟨w.heap.size,0,none⟩=some (.int .i64 0):=(hc1 _).trans m0;have r1:w1.cell? ⟨w.heap.size,1,none⟩=some (.int .i64 0):=(hc1 _).trans m1;have r2:w1.frozen? ⟨w.heap.size,0,none⟩=false:=(hf1 _).trans m2;have r3:w1.frozen? ⟨w.heap.size,1,none⟩=false:=(hf1 _).trans m3;have HR1:=Lib.hid hr;have HST:=Lib.hid hst;have HQ:=Lib.hid HF;clear hr hst hc1 hf1 m0 m1 m2 m3 hq HF;go_wp2_with fail;refine bodyPost_ret (v:=f0) (by simp[results,Tryz.results224,go_sem,r0,r1]) rfl ?_;rw[HX.out,HQ.out];refine⟨rfl,ov',?_,?_⟩
     · have hn3:¬FQ R ov' w.heap.size:=fun hF=>by
        rcases HST.out.own _ hF with hF|hF
        · exact hn0 hF
        omega
       have hrd:=HR1.out;exact RdQ.auto hrd
     have hst0:St (FQ R ov) (FQ R ov') w w1:=HG.out.st.trans HST.out;have hst:=hst0;exact St.auto
    | bad c' p =>
     rw[hq]at hp HF;obtain⟨rfl,hst⟩:=hp;obtain⟨hc1,hf1⟩:=hst.use w.heap.size (by omega) hn0;have hz1:=hst.size;have r0:w1.cell? ⟨w.heap.size,0,none⟩=some (.int .i64 0):=(hc1 _).trans m0;have r1:w1.cell? ⟨w.heap.size,1,none⟩=some (.int .i64 0):=(hc1 _).trans m1;have r2:w1.frozen? ⟨w.heap.size,0,none⟩=false:=(hf1 _).trans m2;have r3:w1.frozen? ⟨w.heap.size,1,none⟩=false:=(hf1 _).trans m3;have HST:=Lib.hid hst;have HQ:=Lib.hid HF;clear hst hc1 hf1 m0 m1 m2 m3 hq HF;go_wp2_with fail;refine bodyPost_ret (v:=fv c' p) (by simp[results,Tryz.results224,go_sem,r0,r1]) rfl ?_;rw[HX.out,HQ.out];have hst0:St (FQ R ov) (FQ R ov) w w1:=HG.out.st.trans HST.out;have hst:=hst0;exact⟨rfl,St.auto⟩
  obtain⟨b1,b2⟩:=beqs _ 117 _ hu;have hu':c.toNat=117:=by simpa using hu
  clear hu;have HF:Pl.escAt T (bs s) a=match Pl.unitAt (bs s) (a+2) 4 with|.ok n => .ok (Pl.runeBytes n,a+2+4)|.bad c p => .bad c p:=by
   rw[HE.out,HN.out];simp[hu']
  clear hu';go_wp2_with fail;refine (tq_unit _ R s a q out ov HR.out (HV.out.gr HG.out) 4 (by omega) hlt hs hlen).mono ?_;intro e w1 hp;cases hq:Pl.unitAt (bs s) (a+2) 4 with
  | ok n =>
   rw[hq]at hp HF;obtain⟨rfl,ov',hr,hst⟩:=hp;obtain⟨hc1,hf1⟩:=hst.use w.heap.size (by omega) hn0;have hz1:=hst.size;have r0:w1.cell? ⟨w.heap.size,0,none⟩=some (.int .i64 0):=(hc1 _).trans m0;have r1:w1.cell? ⟨w.heap.size,1,none⟩=some (.int .i64 0):=(hc1 _).trans m1;have r2:w1.frozen? ⟨w.heap.size,0,none⟩=false:=(hf1 _).trans m2;have r3:w1.frozen? ⟨w.heap.size,1,none⟩=false:=(hf1 _).trans m3;have HR1:=Lib.hid hr;have HST:=Lib.hid hst;have HQ:=Lib.hid HF;clear hr hst hc1 hf1 m0 m1 m2 m3 hq HF;go_wp2_with fail;refine bodyPost_ret (v:=f0) (by simp[results,Tryz.results224,go_sem,r0,r1]) rfl ?_;rw[HX.out,HQ.out];refine⟨rfl,ov',?_,?_⟩
   · have hn3:¬FQ R ov' w.heap.size:=fun hF=>by
      rcases HST.out.own _ hF with hF|hF
      · exact hn0 hF
      omega
     have hrd:=HR1.out;exact RdQ.auto hrd
   have hst0:St (FQ R ov) (FQ R ov') w w1:=HG.out.st.trans HST.out;have hst:=hst0;exact St.auto
  | bad c' p =>
   rw[hq]at hp HF;obtain⟨rfl,hst⟩:=hp;obtain⟨hc1,hf1⟩:=hst.use w.heap.size (by omega) hn0;have hz1:=hst.size;have r0:w1.cell? ⟨w.heap.size,0,none⟩=some (.int .i64 0):=(hc1 _).trans m0;have r1:w1.cell? ⟨w.heap.size,1,none⟩=some (.int .i64 0):=(hc1 _).trans m1;have r2:w1.frozen? ⟨w.heap.size,0,none⟩=false:=(hf1 _).trans m2;have r3:w1.frozen? ⟨w.heap.size,1,none⟩=false:=(hf1 _).trans m3;have HST:=Lib.hid hst;have HQ:=Lib.hid HF;clear hst hc1 hf1 m0 m1 m2 m3 hq HF;go_wp2_with fail;refine bodyPost_ret (v:=fv c' p) (by simp[results,Tryz.results224,go_sem,r0,r1]) rfl ?_;rw[HX.out,HQ.out];have hst0:St (FQ R ov) (FQ R ov) w w1:=HG.out.st.trans HST.out;have hst:=hst0;exact⟨rfl,St.auto⟩
end Go.Proofs.YtdgjgcepbkanhaaGreatDoor
namespace Go.Proofs.YtdgjgcepbkanhaaGreatDoor
open Go.RowKit Go.Joins
namespace Pl
def escSR (T:Nat→UInt8 × UInt8) (l:List UInt8):SR :=
 match escAt T l 0 with
 | .ok r => .go r.2 r.1 false
 | .bad _ p => .bad p
theorem unitAt_rel (l:List UInt8) (a p d:Nat):unitAt l (a+p) d=match unitAt (l.drop a) p d with|.ok n => .ok n|.bad c k => .bad c (a+k):=by
 unfold unitAt;rw[List.drop_drop]
 split
 · simp;omega
 split <;> simp
theorem unitAt_code (l:List UInt8) (p d:Nat) {c k:Nat} (h:unitAt l p d = .bad c k):c=3:=by
 unfold unitAt at h
 split at h
 · simp at h;exact h.1.symm
 split at h
 · simp at h
 simp at h;exact h.1.symm
theorem escAt_rel (T) (l:List UInt8) (a:Nat) (h:a≤l.length):escAt T l a=match escSR T (l.drop a) with|.go n t _ => .ok (t,a+n)|.bad p => .bad 3 (a+p):=by
 unfold escSR escAt;rw[List.drop_drop,Nat.zero_add,Nat.zero_add];cases hd:l.drop (a+1) with
 | nil=>simp;omega
 | cons c r =>
  simp only[];cases escIdx T c 0 7 with
  | some k=>simp
  | none =>
   simp only[]
   split
   · rw[unitAt_rel l a 2 4];cases hu:unitAt (l.drop a) 2 4 with
     | ok n=>simp <;> omega
     | bad c k=>simp[unitAt_code _ _ _ hu]
   split
   · rw[unitAt_rel l a 2 8];cases hu:unitAt (l.drop a) 2 8 with
     | ok n=>simp <;> omega
     | bad c k=>simp[unitAt_code _ _ _ hu]
   simp
theorem escSR_len (T) (l:List UInt8) (n:Nat) (t:List UInt8) (o:Bool) (h:escSR T l = .go n t o):t.length≤n∧1≤n∧n≤l.length:=by
 have hu:∀d k,unitAt l (0+2) d = .ok k→1≤d→2+d≤l.length∧(runeBytes k).length≤4:=by
  intro d k hk hd;unfold unitAt at hk;have h1:=hexRun_le (l.drop (0+2)) d;rw[List.length_drop]at h1
  split at hk
  · simp at hk
  refine⟨by omega,?_⟩;have h2:=Lib.runeCells_le k;rw[Lib.runeCells_length]at h2;exact h2.2
 unfold escSR escAt at h;cases hd:l.drop (0+1) with
 | nil=>rw[hd]at h;simp at h
 | cons c r =>
  have hl:2≤l.length:=by
   have:=congrArg List.length hd;rw[List.length_drop]at this;simp at this;omega
  rw[hd]at h;simp only[]at h;cases he:escIdx T c 0 7 with
  | some k=>rw[he]at h;simp at h;obtain⟨rfl,rfl,_⟩:=h;simp;omega
  | none =>
   rw[he]at h;simp only[]at h
   split at h
   · rename_i x hx
     split at hx
     · cases hq:unitAt l (0+2) 4 with
       | ok k=>rw[hq]at hx;have:=hu 4 k hq (by omega);simp at hx h;subst hx;simp at h;obtain⟨rfl,rfl,_⟩:=h;omega
       | bad c p=>rw[hq]at hx;simp at hx
     split at hx
     · cases hq:unitAt l (0+2) 8 with
       | ok k=>rw[hq]at hx;have:=hu 8 k hq (by omega);simp at hx h;subst hx;simp at h;obtain⟨rfl,rfl,_⟩:=h;omega
       | bad c p=>rw[hq]at hx;simp at hx
     simp at hx
   simp at h
theorem escSR_over (T) (l:List UInt8) (n:Nat) (t:List UInt8) (o:Bool) (h:escSR T l = .go n t o):o=false:=by
 unfold escSR at h
 split at h
 · simp at h;exact h.2.2
 simp at h
end Pl
structure QW (T:Nat→UInt8 × UInt8) (w:World):Prop where
 es:EsV w
 sh:ShW T w
theorem QW.gr {T} {w w':World} (h:QW T w) (g:Gr w w'):QW T w':=⟨h.es.gr g,h.sh.gr g⟩
set_option maxRecDepth 100000 in
theorem tq_basic_esc (w:World) (R:Nat) (s:ByteArray) (a:Nat) (q:UInt8) (out:List UInt8) (ov:Value) (h:RdQ w R s a q out ov) (hv:EsV w)
    (T:Nat→UInt8 × UInt8) (ht:ShW T w) (hlt:a<s.size) (hs:s.size≤20000000) (ho:out.length≤a) (hm:(s[a].toNat==q.toNat)=false) (he:(s[a].toNat==92)=true) :
    Calls Tryz.prog 223 #[.agg #[.pointer (some ⟨R,0,none⟩)]] w (StepPost R s a q out ov w (Pl.escSR T ((bs s).drop a))):=by
 have hR:=h.lt;obtain⟨b1,b2⟩:=beqs _ 92 _ he;have hX:=Pl.escAt_rel T (bs s) a (by rw[bs_length];omega);have hov:=Pl.escSR_over T ((bs s).drop a);obtain⟨sr,hsr⟩:∃sr,sr=Pl.escSR T ((bs s).drop a):=⟨_,rfl⟩
 rw[←hsr]at hX hov ⊢;have HO:=Lib.hid hov;have HX:=Lib.hid hX;have HS:=Lib.hid h;have HM:=Lib.hid hm;have HV:=Lib.hid hv;have HT0:=Lib.hid ht;clear hsr hX h hm he hv ht hov;go_enter Tryz.func223,Tryz.ntmps223;go_wp2_with fail;refine (tq_end_no _ R s a q out ov (RdQ.auto HS.out) hlt hs HM.out).mono ?_;rintro e w1 ⟨rfl,g1⟩;obtain⟨hc1,hf1,hz1⟩:=g1.use;simp at hz1;have hg:Hid (Gr w w1):=by
  have h1:Gr w ((w.alloc (.cells #[.pointer (some ⟨R,0,none⟩)] 201)).alloc (.cells #[.int .i64 0,.int .i64 0] 31)):=Gr.auto;exact h1.trans g1
 have hRd:Hid (RdQ w1 R s a q out ov):=HS.out.gr hg.out;have c0:w1.cell? ⟨R,0,none⟩=some (.string s):=hRd.out.cells.1;have c1:w1.cell? ⟨R,1,none⟩=some (.int .i64 a):=hRd.out.cells.2.1;go_wp2_with fail
 go_quiet (fail)
 go_wp2_with fail;refine (tq_escaped _ R s a q out ov (RdQ.auto hRd.out) (HV.out.gr (hg.out.drewN _)) T (HT0.out.gr (hg.out.drewN _)) hlt hs (by omega)).mono ?_;rw[HX.out];cases sr with
 | bad p =>
  rintro e w2 ⟨rfl,hst⟩;have hu:=hst.use (w.heap.size+1) (by simp;omega) (fun hF=>by have:=HS.out.own_lt hF;omega);have hz2:=hst.size;simp at hz2;obtain⟨hc2,hf2⟩:=hu;have HT:=Lib.hid hst;clear hst;go_wp2_with fail;refine bodyPost_ret (v := .tuple #[.bool false,fv 3 (a+p)]) (by simp[results,Tryz.results223,go_sem,hc2,hc1]) rfl ⟨rfl,FQ R ov,?_⟩;have hst:St (FQ R ov) (FQ R ov) w w2:=(hg.out.drewN _).st.trans HT.out;exact St.auto
 | go n t over =>
  obtain rfl:=HO.out n t over rfl;rintro e w2 ⟨rfl,ov',hr,hst⟩;have hu:=hst.use (w.heap.size+1) (by simp;omega) (fun hF=>by have:=HS.out.own_lt hF;omega);have hz2:=hst.size;simp at hz2;obtain⟨hc2,hf2⟩:=hu;have HR:=Lib.hid hr;have HT:=Lib.hid hst;have hn3:¬FQ R ov' (w.heap.size+1):=fun hF=>by
   rcases HT.out.own _ hF with hF|hF
   · have:=HS.out.own_lt hF;omega
   simp at hF;omega
  clear hr hst;go_wp2_with fail;refine bodyPost_ret (v := .tuple #[.bool false,f0]) (by simp[results,Tryz.results223,go_sem,hc2,hc1]) rfl ⟨rfl,ov',RdQ.auto HR.out,?_⟩;have hst:St (FQ R ov) (FQ R ov') w w2:=(hg.out.drewN _).st.trans HT.out;exact St.auto
end Go.Proofs.YtdgjgcepbkanhaaGreatDoor
namespace Go.Proofs.YtdgjgcepbkanhaaGreatDoor
open Go.RowKit Go.Joins
theorem long_pre (l:List UInt8):Pl.long l=(Pl.pre l [34,34,34] || Pl.pre l [39,39,39]):=by
 match l with
 | []=>rfl
 | [a]=>simp[Pl.long,Pl.pre]
 | [a,b]=>simp[Pl.long,Pl.pre]
 | a::b::c::l =>
  unfold Pl.long
  split
  · rename_i h;simp only[List.cons.injEq]at h;obtain⟨rfl,rfl,rfl,_⟩:=h;simp[Pl.pre]
  · rename_i h;simp only[List.cons.injEq]at h;obtain⟨rfl,rfl,rfl,_⟩:=h;simp[Pl.pre]
  rename_i h1 h2
  simp only[Pl.pre,Bool.and_true];symm;rw[Bool.eq_false_iff];intro h;simp only[Bool.or_eq_true,Bool.and_eq_true,beq_iff_eq]at h;rcases h with⟨rfl,rfl,rfl⟩|⟨rfl,rfl,rfl⟩
  · exact h1 _ rfl
  exact h2 _ rfl
theorem tq_Long (s:ByteArray) (i:Int) (n:Nat) (hi:i=n) (hn:n≤s.size) (hs:s.size≤20000000) (w:World) :
    Calls Tryz.prog 105 #[.string s,.int .i64 i] w fun e w'=>e = .returned (.bool (Pl.longAt (bs s) n))∧w=w':=by
 subst hi;unfold Pl.longAt;rw[long_pre];have hd0:decide ((0:Int)≤(n:Int))=true:=by simp
 have hd1:decide ((n:Int)≤(s.size:Int))=true:=by simp;omega
 cases h1:Pl.pre ((bs s).drop n) [34,34,34]
 · cases h2:Pl.pre ((bs s).drop n) [39,39,39]
   all_goals
    have H1:=Lib.hid h1;have H2:=Lib.hid h2;clear h1 h2;go_enter Tryz.func105,Tryz.ntmps105;go_wp2_with (go_at_call 44;first|(with_reducible refine (prefix_at s ⟨#[34,34,34]⟩ n false H1.out _).mono ?_;rintro e w3 ⟨rfl,rfl⟩)|(with_reducible refine (prefix_at s ⟨#[39,39,39]⟩ n _ H2.out _).mono ?_;rintro e w3 ⟨rfl,rfl⟩))
    go_ret
    exact⟨rfl,rfl⟩
 have H1:=Lib.hid h1;clear h1;go_enter Tryz.func105,Tryz.ntmps105;go_wp2_with (go_at_call 44;(with_reducible refine (prefix_at s ⟨#[34,34,34]⟩ n true H1.out _).mono ?_;rintro e w3 ⟨rfl,rfl⟩))
 go_ret
 exact⟨rfl,rfl⟩
namespace Pl
def stepBas (T:Nat→UInt8 × UInt8) (q:UInt8):List UInt8→Option SR
 | []=>some (.bad 0)
 | c::r=>if c.toNat==q.toNat then some (.go 1 [] true) else if c.toNat==92 then some (escSR T (c::r)) else some (itself (c::r))
end Pl
theorem tq_basic_step (w:World) (R:Nat) (s:ByteArray) (a:Nat) (q:UInt8) (out:List UInt8) (ov:Value) (h:RdQ w R s a q out ov)
    (hlt:a<s.size) (hs:s.size≤20000000) (ho:out.length≤a) (T:Nat→UInt8 × UInt8) (hQ:QW T w) (sr:Pl.SR) (hsr:Pl.stepBas T q ((bs s).drop a)=some sr) :
    Calls Tryz.prog 223 #[.agg #[.pointer (some ⟨R,0,none⟩)]] w (StepPost R s a q out ov w sr):=by
 rw[idx_bs s a hlt]at hsr;unfold Pl.stepBas at hsr;dsimp only at hsr;have hR:=h.lt;cases hm:(s[a].toNat==q.toNat)
 · rw[hm]at hsr;cases he:(s[a].toNat==92)
   · rw[he]at hsr;simp only[Bool.false_eq_true,if_false,Option.some.injEq]at hsr;rw[←idx_bs s a hlt]at hsr;obtain⟨b1,b2⟩:=beqs _ 92 _ he;have HX:=Lib.hid hsr;have HS:=Lib.hid h;have HM:=Lib.hid hm;clear hsr h hm he;go_enter Tryz.func223,Tryz.ntmps223;go_wp2_with fail;refine (tq_end_no _ R s a q out ov (RdQ.auto HS.out) hlt hs HM.out).mono ?_;rintro e w1 ⟨rfl,g1⟩;obtain⟨hc1,hf1,hz1⟩:=g1.use;simp at hz1;have hRd:Hid (RdQ w1 R s a q out ov):=by
      have h1:RdQ ((w.alloc (.cells #[.pointer (some ⟨R,0,none⟩)] 201)).alloc (.cells #[.int .i64 0,.int .i64 0] 31)) R s a q out ov:=RdQ.auto HS.out;exact h1.gr g1
     have c0:w1.cell? ⟨R,0,none⟩=some (.string s):=hRd.out.cells.1;have c1:w1.cell? ⟨R,1,none⟩=some (.int .i64 a):=hRd.out.cells.2.1;go_wp2_with fail
     go_quiet (fail)
     go_wp2_with fail;cases sr with
     | bad p =>
      refine (tq_itself _ R s a q out ov (RdQ.auto hRd.out) hlt hs ho).mono ?_;rw[HX.out];rintro e w2 ⟨rfl,F',hst⟩;have hu:=hst.use (w.heap.size+1) (by simp;omega) (fun hF=>by have:=HS.out.own_lt hF;omega);have hz2:=hst.size;simp at hz2;obtain⟨hc2,hf2⟩:=hu;have HT:=Lib.hid hst;clear hst;go_wp2_with fail;refine bodyPost_ret (v := .tuple #[.bool false,fv 3 (a+p)]) (by simp[results,Tryz.results223,go_sem,hc2,hc1]) rfl ⟨rfl,F',?_⟩;have hst:=HT.out;exact St.auto
     | go n t over =>
      refine (tq_itself _ R s a q out ov (RdQ.auto hRd.out) hlt hs ho).mono ?_;rw[HX.out];rintro e w2 ⟨rfl,ov',hr,hst⟩;have hu:=hst.use (w.heap.size+1) (by simp;omega) (fun hF=>by have:=HS.out.own_lt hF;omega);have hz2:=hst.size;simp at hz2;obtain⟨hc2,hf2⟩:=hu;have HR:=Lib.hid hr;have HT:=Lib.hid hst;have hn3:¬FQ R ov' (w.heap.size+1):=fun hF=>by
       rcases HT.out.own _ hF with hF|hF
       · have:=HS.out.own_lt hF;omega
       simp at hF;omega
      clear hr hst;go_wp2_with fail;refine bodyPost_ret (v := .tuple #[.bool over,f0]) (by simp[results,Tryz.results223,go_sem,hc2,hc1]) rfl ⟨rfl,ov',RdQ.auto HR.out,?_⟩;have hst:=HT.out;exact St.auto
   rw[he]at hsr;simp only[Bool.false_eq_true,if_false,if_true,Option.some.injEq]at hsr;rw[←idx_bs s a hlt]at hsr;rw[←hsr];exact tq_basic_esc w R s a q out ov h hQ.es T hQ.sh hlt hs ho hm he
 rw[hm]at hsr;simp only[if_true,Option.some.injEq]at hsr;subst hsr;have HS:=Lib.hid h;have HM:=Lib.hid hm;clear h hm;go_enter Tryz.func223,Tryz.ntmps223;go_wp2_with fail;refine (tq_end_yes _ R s a q out ov (RdQ.auto HS.out) hlt hs HM.out).mono ?_;rintro e w2 ⟨rfl,hr,hst⟩;have hu:=hst.use (w.heap.size+1) (by simp) (fun hF=>by have:=HS.out.own_lt hF;omega);have hz2:=hst.size;simp at hz2;obtain⟨hc2,hf2⟩:=hu;have HR:=Lib.hid hr;have HT:=Lib.hid hst;have hn3:¬FQ R ov (w.heap.size+1):=fun hF=>by have:=HS.out.own_lt hF;omega
 clear hr hst;go_wp2_with fail;refine bodyPost_ret (v := .tuple #[.bool true,f0]) (by simp[results,Tryz.results223,go_sem,hc2]) rfl ⟨rfl,ov,by rw[List.append_nil];exact RdQ.auto HR.out,?_⟩;have hst:=HT.out;exact St.auto
end Go.Proofs.YtdgjgcepbkanhaaGreatDoor
namespace Go.Proofs.YtdgjgcepbkanhaaGreatDoor
open Go.RowKit
theorem indexByte_step (c b:UInt8) (l:List UInt8) (h:(c==b)=false) (k:Int) (hk:Lib.indexByte l b=k):Lib.indexByte (c::l) b=if k = -1 then -1 else k+1:=by
 unfold Lib.indexByte;rw[h,hk];simp only[Bool.false_eq_true,if_false,beq_iff_eq]
theorem indexByte_cases (l:List UInt8) (b:UInt8):Lib.indexByte l b = -1∨∃i:Nat,Lib.indexByte l b=i:=by
 induction l with
 | nil=>exact .inl rfl
 | cons c l ih =>
  cases hc:(c==b) with
  | true=>exact .inr ⟨0,by unfold Lib.indexByte;rw[hc];rfl⟩
  | false =>
   rcases ih with h|⟨i,h⟩
   · rw[indexByte_step c b l hc _ h];exact .inl rfl
   rw[indexByte_step c b l hc _ h,if_neg (by omega)];exact .inr ⟨i+1,by omega⟩
theorem indexByte_has (l:List UInt8) (c:UInt8):decide (0≤Lib.indexByte l c)=l.contains c:=by
 induction l with
 | nil=>rfl
 | cons b l ih =>
  rw[List.contains_cons];cases hc:(b==c) with
  | true =>
   have:b=c:=by simpa using hc
   subst this;unfold Lib.indexByte;simp
  | false =>
   have h2:(c==b)=false:=by
    have:¬b=c:=by simpa using hc
    simpa using fun e=>this e.symm
   rw[h2,Bool.false_or,←ih];rcases indexByte_cases l c with h|⟨i,h⟩
   · rw[indexByte_step b c l hc _ h,h];rfl
   rw[indexByte_step b c l hc _ h,h,if_neg (by omega)];simp;omega
theorem indexByte_at (set:ByteArray) (c:UInt8) (b:Bool) (h:(bs set).contains c=b) (w:World) :
    Calls Tryz.prog 61 #[.string set,.int .u8 c.toNat] w fun e w'=>(∃i:Int,e = .returned (.int .i64 i)∧decide (0≤i)=b)∧w=w':=by
 refine (Tryz.strings_IndexByte _ _ w).mono ?_;rintro e w' ⟨rfl,rfl⟩;refine⟨⟨Lib.indexByte (bs set) c,ret_int (by congr 1;simp),?_⟩,rfl⟩;rw[indexByte_has,h]
end Go.Proofs.YtdgjgcepbkanhaaGreatDoor
