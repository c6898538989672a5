/-
 The walks and plain laws that the claim rests on, part 12.
-/
import Derived.Test.YtfogfaagjpebcaaGreatDoorP00
import Derived.Test.YtfogfaagjpebcaaGreatDoorP01
import Derived.Test.YtfogfaagjpebcaaGreatDoorP04
import Derived.Test.YtfogfaagjpebcaaGreatDoorP05
import Derived.Deep.QuietTactic
import Derived.BigQuiet
import Derived.Deep.RegionHeld3
import Derived.StillTailTactics
import Derived.Deep.DrawnRows
import Derived.Lib.ConvBytes
set_option maxHeartbeats 16000000
set_option linter.all false
set_option linter.unusedVariables false
set_option linter.unusedSimpArgs false
namespace Go.Proofs.YtfogfaagjpebcaaGreatDoor
open Go.RowKit Go.Joins
def StepPost (R:Nat) (s:ByteArray) (a:Nat) (q:UInt8) (out:List UInt8) (ov:Value) (w:World) (sr:Pl.SR) (e:Ending) (w':World):Prop :=
 match sr with
 | .go n t over=>e = .returned (.tuple #[.bool over,f0])∧∃ov',RdQ w' R s (a+n) q (out++t) ov'∧St (FQ R ov) (FQ R ov') w w'
 | .bad p=>e = .returned (.tuple #[.bool false,fv 3 (a+p)])∧∃F',St (FQ R ov) F' w w'
theorem tq_itself_no (w:World) (R:Nat) (s:ByteArray) (a:Nat) (q:UInt8) (out:List UInt8) (ov:Value) (h:RdQ w R s a q out ov)
    (hlt:a<s.size) (hs:s.size≤20000000) (hp:Pl.isPlain s[a]=false) :
    Calls Tryz.prog 229 #[.pointer (some ⟨R,0,none⟩)] w fun e w'=>e = .returned (.tuple #[.bool false,fv 3 a])∧Gr w w':=by
 refine Z232 ?_;intro c0 c1 c2 c3 fz hR;have HP:=Lib.hid hp;clear fz h hp c3;go_enter Tryz.func229,Tryz.ntmps229;go_wp2_with fail
 go_quiet (fail)
 go_wp2_with (first|(go_at_call 230;refine (tq_plain _ _).mono ?_;rw[HP.out];rintro e w1 ⟨rfl,rfl⟩)|(go_at_call 109;refine (tq_wrong _ a rfl _).mono ?_;rintro e w1 ⟨rfl,g1⟩;obtain⟨hc1,hf1,hz1⟩:=g1.use));exact bodyPost_ret (v := .tuple #[.bool false,fv 3 a]) (by simp[results,Tryz.results229,go_sem,hc1]) rfl ⟨rfl,Gr.auto⟩
theorem tq_itself_yes (w:World) (R:Nat) (s:ByteArray) (a:Nat) (q:UInt8) (out:List UInt8) (ov:Value) (h:RdQ w R s a q out ov)
    (hlt:a<s.size) (hs:s.size≤20000000) (ho:out.length≤a) (hp:Pl.isPlain s[a]=true) :
    Calls Tryz.prog 229 #[.pointer (some ⟨R,0,none⟩)] w fun e w'=>e = .returned (.tuple #[.bool false,f0])∧∃ov',RdQ w' R s (a+1) q (out++[s[a]]) ov'∧St (FQ R ov) (FQ R ov') w w':=by
 refine Z232 ?_;intro c0 c1 c2 c3 fz hR;have HP:=Lib.hid hp;have HS:=Lib.hid h;clear fz h hp c3;go_enter Tryz.func229,Tryz.ntmps229;go_wp2_with fail
 go_quiet (fail)
 go_wp2_with (first|(go_at_call 230;refine (tq_plain _ _).mono ?_;rw[HP.out];rintro e w1 ⟨rfl,rfl⟩));refine (tq_take _ R s a q out ov (RdQ.auto HS.out) 1 1 rfl (by omega) [s[a]] (w.heap.size+1) 0 1 (by simp) (by omega) (news_one _ _ _ _ (by simp)) (by simp;omega)).mono ?_;rintro e w1 ⟨rfl,ov',hr,hst⟩;have hb3:=hst.use w.heap.size (by simp;omega) (fun hF=>by have:=HS.out.own_lt hF;omega);have hz:=hst.size;simp at hz;obtain⟨hc1,hf1⟩:=hb3;refine Z163 ?_;intro HR HT;clear hr hst;go_wp2_with fail;refine bodyPost_ret (v := .tuple #[.bool false,f0]) (by simp[results,Tryz.results229,go_sem,hc1]) rfl ⟨rfl,ov',?_,?_⟩
 · have hn3:¬FQ R ov' w.heap.size:=fun hF=>by
    rcases HT.out.own _ hF with hF|hF
    · have:=HS.out.own_lt hF;omega
    simp at hF;omega
   exact RdQ.auto HR.out
 exact J15
theorem tq_end_no (w:World) (R:Nat) (s:ByteArray) (a:Nat) (q:UInt8) (out:List UInt8) (ov:Value) (h:RdQ w R s a q out ov)
    (hlt:a<s.size) (hs:s.size≤20000000) (hp:((s[a]).toNat==q.toNat)=false) :
    Calls Tryz.prog 227 #[.pointer (some ⟨R,0,none⟩)] w fun e w'=>e = .returned (.bool false)∧Gr w w':=by
 refine Z232 ?_;intro c0 c1 c2 c3 fz hR;obtain⟨b1,b2⟩:=beqs _ _ _ hp;clear fz h hp c3;go_enter Tryz.func227,Tryz.ntmps227;go_wp2_with fail
 go_quiet (fail)
 exact J16
theorem tq_end_yes (w:World) (R:Nat) (s:ByteArray) (a:Nat) (q:UInt8) (out:List UInt8) (ov:Value) (h:RdQ w R s a q out ov)
    (hlt:a<s.size) (hs:s.size≤20000000) (hp:((s[a]).toNat==q.toNat)=true) :
    Calls Tryz.prog 227 #[.pointer (some ⟨R,0,none⟩)] w fun e w'=>e = .returned (.bool true)∧RdQ w' R s (a+1) q out ov∧St (FQ R ov) (FQ R ov) w w':=by
 refine Z232 ?_;intro c0 c1 c2 c3 fz hR;obtain⟨b1,b2⟩:=beqs _ _ _ hp;have fz1:=fz 1;have HS:=Lib.hid h;have HP:=Lib.hid hp;clear fz h hp c3;go_enter Tryz.func227,Tryz.ntmps227;go_wp2_with fail
 go_quiet (fail)
 go_wp2_with fail
 go_ret
 have e:(↑a+1:Int)=((a+1:Nat):Int):=by omega
 rw[e];exact⟨rfl,by first|exact (HS.out.setAt (a+1)).drewN _|exact (HS.out.setAt (a+1)),by first|exact ((St.refl _ _).setCell (.inl (.inl rfl)) _).drewN _|exact ((St.refl _ _).setCell (.inl (.inl rfl)) _)⟩
theorem feed_at (s:ByteArray) (a:Nat) (hlt:a<s.size) :
    Pl.feed ((bs s).drop a)=if (s[a].toNat==10)=true then .ok 1 else if (s[a].toNat==13)=true then (if Pl.pre ((bs s).drop (a+1)) [10]=true then .ok 2 else .bad 3 1) else .ok 0:=by
 rw[idx_bs s a hlt];generalize (bs s).drop (a+1)=l;generalize s[a]=c;by_cases h10:c=10
 · subst h10;simp[Pl.feed]
 by_cases h13:c=13
 · subst h13;cases l with
   | nil=>simp[Pl.feed,Pl.pre]
   | cons b l =>
    by_cases hb:b=10
    · subst hb;simp[Pl.feed,Pl.pre]
    have:Pl.feed (13::b::l) = .bad 3 1:=by
     unfold Pl.feed;split <;> simp_all
    rw[this];simp[Pl.pre,hb]
 have:Pl.feed (c::l) = .ok 0:=by
  unfold Pl.feed;split <;> simp_all
 have e1:¬c.toNat=10:=fun e=>h10 (by rw[←UInt8.toNat_inj,e];rfl)
 have e2:¬c.toNat=13:=fun e=>h13 (by rw[←UInt8.toNat_inj,e];rfl)
 rw[this];simp[e1,e2]
theorem tq_feed (w:World) (R:Nat) (s:ByteArray) (a:Nat) (q:UInt8) (out:List UInt8) (ov:Value) (h:RdQ w R s a q out ov)
    (hlt:a<s.size) (hs:s.size≤20000000) :
    Calls Tryz.prog 111 #[.pointer (some ⟨R,0,none⟩)] w fun e w'=>(match Pl.feed ((bs s).drop a) with
     | .ok n=>e = .returned (.tuple #[.int .i64 n,f0])
     | .bad c p=>e = .returned (.tuple #[.int .i64 0,fv c (a+p)]))∧Gr w w':=by
 refine Z232 ?_;intro c0 c1 c2 c3 fz hR;rw[feed_at s a hlt];have HS:=Lib.hid h;clear fz h c3;cases h10:(s[a].toNat==10)
 · obtain⟨b1,b2⟩:=beqs _ 10 _ h10;cases h13:(s[a].toNat==13)
   · obtain⟨b3,b4⟩:=beqs _ 13 _ h13;clear h10 h13;simp only[Bool.false_eq_true,if_false];go_enter Tryz.func111,Tryz.ntmps111;go_wp2_with fail
     go_quiet (fail)
     go_wp2_with fail
     go_quiet (fail)
     go_wp2_with fail;exact bodyPost_ret (v := .tuple #[.int .i64 0,f0]) (by simp[results,Tryz.results111,go_sem]) rfl ⟨rfl,Gr.auto⟩
   obtain⟨b3,b4⟩:=beqs _ 13 _ h13;clear h10 h13;cases hp:Pl.pre ((bs s).drop (a+1)) [10]
   · refine Z277 ?_;have HP:=Lib.hid hp;clear hp;have hw:=IntWalk.i64_in ((a:Int)+1) (by omega);refine Z130 ?_;intro hk1 hk2 hk3;go_enter Tryz.func111,Tryz.ntmps111;go_wp2_with fail
     go_quiet (fail)
     go_wp2_with fail
     go_quiet (fail)
     go_wp2_with fail
     go_quiet ((go_at_call 9;exact quiet_any2 (prefix_at s ⟨#[10]⟩ (a+1) false HP.out _) ⟨_,rfl⟩))
     clear hw hk1 hk2 hk3;go_wp2_with (go_at_call 109;refine (tq_wrong _ (a+1) (by omega) _).mono ?_;rintro e w1 ⟨rfl,g1⟩;obtain⟨hc1,hf1,hz1⟩:=g1.use);exact bodyPost_ret (v := .tuple #[.int .i64 0,fv 3 (a+1)]) (by simp[results,Tryz.results111,go_sem,hc1]) rfl ⟨rfl,Gr.auto⟩
   refine Z277 ?_;have HP:=Lib.hid hp;clear hp;have hw:=IntWalk.i64_in ((a:Int)+1) (by omega);refine Z130 ?_;intro hk1 hk2 hk3;go_enter Tryz.func111,Tryz.ntmps111;go_wp2_with fail
   go_quiet (fail)
   go_wp2_with fail
   go_quiet (fail)
   go_wp2_with fail
   go_quiet ((go_at_call 9;exact quiet_any2 (prefix_at s ⟨#[10]⟩ (a+1) true HP.out _) ⟨_,rfl⟩))
   clear hw hk1 hk2 hk3;go_wp2_with fail;exact bodyPost_ret (v := .tuple #[.int .i64 2,f0]) (by simp[results,Tryz.results111,go_sem]) rfl ⟨rfl,Gr.auto⟩
 obtain⟨b1,b2⟩:=beqs _ 10 _ h10;clear h10;simp only[if_true];go_enter Tryz.func111,Tryz.ntmps111;go_wp2_with fail
 go_quiet (fail)
 go_wp2_with fail;exact bodyPost_ret (v := .tuple #[.int .i64 1,f0]) (by simp[results,Tryz.results111,go_sem]) rfl ⟨rfl,Gr.auto⟩
end Go.Proofs.YtfogfaagjpebcaaGreatDoor
namespace Go.Proofs.YtfogfaagjpebcaaGreatDoor
open Go.RowKit Go.Joins
theorem infoStr:(Tryz.prog.info? 9).map (fun i=>(i.zero,i.size,i.bytes))=some (some (.string ⟨#[]⟩),1,16):=by kernel_rfl
theorem infoSpan:(Tryz.prog.info? 73).map (fun i=>(i.zero,i.size,i.bytes))=some (some (.agg #[.int .i64 0,.int .i64 0]),2,16):=by kernel_rfl
theorem infoInt:(Tryz.prog.info? 3).map (fun i=>(i.zero,i.size,i.bytes))=some (some (.int .i64 0),1,8):=by kernel_rfl
def PutS (g i T0:Nat) (r:NdR) (a b:Nat) (w':World):Prop :=
 w'.cell? ⟨g,i*7+2,none⟩=some r.kv∧w'.cell? ⟨g,i*7+3,none⟩=some r.sv∧w'.cell? ⟨g,i*7+4,none⟩=some r.uv∧w'.cell? ⟨T0,0,none⟩=some (.int .i64 a)∧w'.cell? ⟨T0,1,none⟩=some (.int .i64 b)
def PutC (w:World) (own:Nat→Nat) (g i:Nat) (r:NdR):Prop :=
 g<w.heap.size∧own g=3∧w.cell? ⟨g,i*7+2,none⟩=some r.kv∧w.cell? ⟨g,i*7+3,none⟩=some r.sv∧w.cell? ⟨g,i*7+4,none⟩=some r.uv∧(∀o,w.frozen? ⟨g,o,none⟩=false)
section
variable {w V:World} {base g i T0:Nat} {own:Nat→Nat} {r:NdR} {a b:Nat} {kv sv uv:Value} {nk ns nu:Nat} {xk xs xu:List Value}
theorem putF_of (H:Rows3 w V base (FI own i) kv sv uv nk ns nu xk xs xu) (hc:PutC w own g i r) :
    V.cell? ⟨g,i*7+2,none⟩=some r.kv∧V.cell? ⟨g,i*7+3,none⟩=some r.sv∧V.cell? ⟨g,i*7+4,none⟩=some r.uv∧(∀o,V.frozen? ⟨g,o,none⟩=false):=by
 obtain⟨h1,h2,h3,h4,h5,h6⟩:=hc;have hu:=H.st.use g h1 (fun e=>by unfold FI at e;omega);exact⟨(hu.1 _).trans h3,(hu.1 _).trans h4,(hu.1 _).trans h5,fun o=>(hu.2 o).trans (h6 o)⟩
theorem putS_of (H:Rows3 w V base (FI own i) kv sv uv nk ns nu xk xs xu) (N:NewB V T0 #[.int .i64 a,.int .i64 b] 73 kv sv uv) (hc:PutC w own g i r):PutS g i T0 r a b V:=by
 obtain⟨h1,h2,h3,_⟩:=putF_of H hc;exact⟨h1,h2,h3,by rw[cell_of_block N.blk];rfl,by rw[cell_of_block N.blk];rfl⟩
end
theorem bs_mk (s:ByteArray):(⟨(bs s).toArray⟩:ByteArray)=s:=by cases s;simp[bs]
theorem strV_bs (s:ByteArray):strV (bs s) = .string s:=by show Value.string _=_;rw[bs_mk]
set_option maxRecDepth 100000 in
theorem tv_put (w:World) (R B base:Nat) (s:ByteArray) (root:Int) (nv:Value) (L:List NdR) (own:Nat→Nat) (h:RdV w R B base s root nv L own) (hL:L.length≤30000000)
    (i:Nat) (r:NdR) (hr:L[i]?=some r) (h8:r.nd.kind=8) (hrk:r.nd.keys.length≤30000000) (hrs:r.nd.spots.length≤30000000) (hru:r.nd.subs.length≤30000000) (key:ByteArray) (a b n:Nat) :
    Calls Tryz.prog 131 #[.pointer (some ⟨R,0,none⟩),.int .i64 i,.string key,.agg #[.int .i64 a,.int .i64 b],.int .i64 n] w fun e w' =>
     e = .returned (.tuple #[])∧PutMore w w' R B base s root nv L own i (Pl.putNd r.nd (bs key) (a,b) n):=by
 have hi:i<L.length:=(List.getElem?_eq_some_iff.1 hr).1;obtain⟨g,cap,cur,rfl,hgb,hgl,hgo,hgR,hgB,hgh,hcs,hLc,hcm,htk⟩:=h.form (by omega);obtain⟨c0,c1,c2,c3,fz⟩:=h.cells;obtain⟨n0,n1,n2,n3,n4,n5,n6,nf⟩:=h.ndCells rfl i r hr;have HC:Hid (PutC w own g i r):=⟨hgl,hgo,n2,n3,n4,nf⟩
 have hR:=h.R_lt;have hbase:base≤w.heap.size:=by omega
 have HEND:Hid (∀V kv sv uv,Rows3 w V base (FI own i) kv sv uv (r.nd.keys.length+1) (r.nd.spots.length+1) (r.nd.subs.length+1) (keysV r.nd.keys++[.string key]) (spotsV r.nd.spots++[.int .i64 a,.int .i64 b]) (subsV r.nd.subs++[.int .i64 n]) →
     PutMore w (((V.setCell ⟨g,i*7+2,none⟩ kv).setCell ⟨g,i*7+3,none⟩ sv).setCell ⟨g,i*7+4,none⟩ uv) R B base s root (.slice (some ⟨g,0,none⟩) L.length cap) L own i (Pl.putNd r.nd (bs key) (a,b) n)):=by
  intro V kv sv uv H;refine h.putDone i r hr (Pl.putNd r.nd (bs key) (a,b) n) rfl rfl rfl rfl ?_;exact J12
 refine Z102 ?_;intro HST iK k1 k2 k3 k4 iS s1 s2 s3 s4 iU u1 u2 u3 u4 HIK HIS HIU hi1 hi2;clear h8 k1 k2 k3 k4 s1 s2 s3 s4 u1 u2 u3 u4 fz h hgh hcs htk hr n0 n1 n2 n3 n4 n5 n6 nf;go_enter Tryz.func131,Tryz.ntmps131;exact J149
end Go.Proofs.YtfogfaagjpebcaaGreatDoor
namespace Go.Proofs.YtfogfaagjpebcaaGreatDoor
open Go.RowKit Go.Joins
theorem tq_marks (w:World) (R:Nat) (s:ByteArray) (a:Nat) (q:UInt8) (out:List UInt8) (ov:Value) (h:RdQ w R s a q out ov)
    (hlt:a<s.size) (hs:s.size≤20000000) (ho:out.length≤a) :
    Calls Tryz.prog 240 #[.pointer (some ⟨R,0,none⟩)] w fun e w'=>match Pl.marks q ((bs s).drop a) with
     | .go n t over=>e = .returned (.bool over)∧∃ov',RdQ w' R s (a+n) q (out++t) ov'∧St (FQ R ov) (FQ R ov') w w'
     | .bad _=>False:=by
 obtain⟨X,hX⟩:∃X:Ending→World→Prop,X=fun e w'=>match Pl.marks q ((bs s).drop a) with
     | .go n t over=>e = .returned (.bool over)∧∃ov',RdQ w' R s (a+n) q (out++t) ov'∧St (FQ R ov) (FQ R ov') w w'
     | .bad _=>False:=⟨_,rfl⟩
 rw[←hX];have HX:=Lib.hid hX;clear hX;obtain⟨c0,c1,c2,c3,fz⟩:=h.cells;have fz1:=fz 1;have hR:=h.lt;have HS:=Lib.hid h;clear fz h;go_enter Tryz.func240,Tryz.ntmps240;go_wp2_with fail
 go_loopw [3] (fun n wr=>∃k:Nat,n = .int .i64 k∧k≤5∧k≤Pl.run q ((bs s).drop a)∧∃m,wr=w.drewN m) (fun n _=>5-(intOf n).toNat)
 case atStart=>exact⟨0,rfl,by omega,by omega,0,rfl⟩
 case round =>
  obtain⟨k,rfl,hk5,hkr,m,rfl⟩:=hrel;have hw:=IntWalk.i64_in ((a:Int)+k) (by omega);have hk1:(0:Int)≤(a:Int)+k:=by omega
  have hk3:((a:Int)+k).toNat=a+k:=by omega
  rcases Pl.run_drop q (bs s) a k (by rw[bs_length];omega) hkr with⟨h1,h2,h3,h4⟩|hstop
  · have h1':a+k<s.size:=by rw[←bs_length];exact h1
    obtain⟨b1,b2⟩:=beqs _ _ _ (show ((s[a+k]'h1').toNat==q.toNat)=true from h3);have hd5:decide ((k:Int)<5)=true:=by simp;omega
    clear h3;have hk2:(a:Int)+k<(s.size:Int):=by omega
    go_wp2_with fail
    go_quiet (fail)
    clear hw;go_wp2_with fail
    go_roundw
    case rel=>exact⟨k+1,by go_num,by omega,h4,_,rfl⟩
    case measure=>simp[intOf];omega
  obtain⟨hM,hst⟩:=hstop hk5;have HM:=Lib.hid hM;clear hM hstop;rcases hst with h1|⟨h1,h2⟩|⟨h1,h2,h3⟩
  all_goals first
   | (have h3':=h3;have h1':a+k<s.size:=by { rw[←bs_length];exact h1 };obtain⟨b1,b2⟩:=beqs _ _ _ (show ((s[a+k]'h1').toNat==q.toNat)=false from h3);clear h3 h3';have hd5:decide ((k:Int)<5)=true:=by { simp;omega };have hk2:(a:Int)+k<(s.size:Int):=by omega)
   | (have h2':=h2;rw[bs_length]at h1;have hd5:decide ((k:Int)<5)=false:=by { simp;omega };have hdA:decide ((a:Int)+k<(s.size:Int))=true:=by { simp;omega })
   | (rw[bs_length]at h1;have hdA:decide ((a:Int)+k<(s.size:Int))=false:=by { simp;omega })
  all_goals
   go_wp2_with fail
   go_quiet (fail)
   clear hw;by_cases hk:3≤k
   · have hd3:decide (3≤(k:Int))=true:=by simp;omega
     go_wp2_with fail
     go_loopw [48] (fun i wr=>∃(j:Nat) (ov1:Value),i = .int .i64 j∧j≤(k-3)∧RdQ wr R s (a+j) q (out++List.replicate j q) ov1∧St (FQ R ov) (FQ R ov1) w wr) (fun i _=>(k-3)-(intOf i).toNat)
     case atStart=>exact⟨0,ov,rfl,by omega,by simpa using (HS.out.drewN _),St.auto⟩
     case round =>
      obtain⟨j,ov1,rfl,hj,hrd,hst1⟩:=hrel;obtain⟨d0,d1,d2,d3,gz⟩:=hrd.cells;have gz1:=gz 1;have hr1:=hrd.lt;have HD:=Lib.hid hrd;have HT:=Lib.hid hst1;clear hrd hst1 gz c0 c1 c2 c3 d0 d3;by_cases hjk:j<(k-3)
      · go_wp2_with fail;refine (tq_take _ R s (a+j) q (out++List.replicate j q) ov1 (RdQ.auto HD.out) 1 1 rfl (by omega) [q] wr.heap.size 0 1 (by simp) (by omega) (news_one _ _ _ _ (by simp)) (by simp;omega)).mono ?_;rintro e w1 ⟨rfl,ov2,hr2,hst2⟩;have HR2:=Lib.hid hr2;have HT2:=Lib.hid hst2;clear hr2 hst2;go_wp2_with fail
        go_roundw
        case rel =>
         refine⟨j+1,ov2,by go_num,by omega,?_,?_⟩
         · have:=HR2.out;rw[List.append_assoc,show List.replicate j q++[q]=List.replicate (j+1) q from by rw[List.replicate_succ']]at this;exact this
         have h1:=HT.out;have h2:=HT2.out;exact St.auto
        case measure=>simp[intOf];omega
      have hjk':¬(j:Int)<((k:Int)-3):=by omega
      go_wp2_with fail;have e3:j=k-3:=by omega
      have hrd:=HD.out;have hst1:=HT.out;rw[HX.out];unfold Pl.marks;rw[HM.out];simp only;rw[if_pos hk];have e4:(↑a + ↑j+3:Int)=((a+k:Nat):Int):=by omega
      rw[e3]at hrd;refine⟨rfl,ov1,?_,?_⟩
      · rw[e4];exact hrd.setAt (a+k)
      exact hst1.setCell (.inl (.inl rfl)) _
   first
    | (exfalso;omega)
    | (have hd3:decide (3≤(k:Int))=false:=by simp;omega
       go_wp2_with fail
       go_loopw [48] (fun i wr=>∃(j:Nat) (ov1:Value),i = .int .i64 j∧j≤k∧RdQ wr R s (a+j) q (out++List.replicate j q) ov1∧St (FQ R ov) (FQ R ov1) w wr) (fun i _=>k-(intOf i).toNat)
       case atStart=>exact⟨0,ov,rfl,by omega,by simpa using (HS.out.drewN _),St.auto⟩
       case round =>
        obtain⟨j,ov1,rfl,hj,hrd,hst1⟩:=hrel;obtain⟨d0,d1,d2,d3,gz⟩:=hrd.cells;have gz1:=gz 1;have hr1:=hrd.lt;have HD:=Lib.hid hrd;have HT:=Lib.hid hst1;clear hrd hst1 gz c0 c1 c2 c3 d0 d3;by_cases hjk:j<k
        · go_wp2_with fail;refine (tq_take _ R s (a+j) q (out++List.replicate j q) ov1 (RdQ.auto HD.out) 1 1 rfl (by omega) [q] wr.heap.size 0 1 (by simp) (by omega) (news_one _ _ _ _ (by simp)) (by simp;omega)).mono ?_;rintro e w1 ⟨rfl,ov2,hr2,hst2⟩;have HR2:=Lib.hid hr2;have HT2:=Lib.hid hst2;clear hr2 hst2;go_wp2_with fail
          go_roundw
          case rel =>
           refine⟨j+1,ov2,by go_num,by omega,?_,?_⟩
           · have:=HR2.out;rw[List.append_assoc,show List.replicate j q++[q]=List.replicate (j+1) q from by rw[List.replicate_succ']]at this;exact this
           have h1:=HT.out;have h2:=HT2.out;exact St.auto
          case measure=>simp[intOf];omega
        have hjk':¬(j:Int)<(k:Int):=by omega
        go_wp2_with fail;have e3:j=k:=by omega
        have hrd:=HD.out;have hst1:=HT.out;rw[HX.out];unfold Pl.marks;rw[HM.out];simp only;rw[if_neg hk];rw[e3]at hrd;exact⟨rfl,ov1,hrd,hst1⟩)
end Go.Proofs.YtfogfaagjpebcaaGreatDoor
namespace Go.Proofs.YtfogfaagjpebcaaGreatDoor
open Go.RowKit Go.Joins
def CommonPost (R:Nat) (s:ByteArray) (a:Nat) (q:UInt8) (out:List UInt8) (ov:Value) (w:World) (c:Option Pl.SR) (e:Ending) (w':World):Prop :=
 match c with
 | none=>e = .returned (.tuple #[.bool false,.bool false,f0])∧Gr w w'
 | some (.go n t over)=>e = .returned (.tuple #[.bool true,.bool over,f0])∧∃ov',RdQ w' R s (a+n) q (out++t) ov'∧St (FQ R ov) (FQ R ov') w w'
 | some (.bad p)=>e = .returned (.tuple #[.bool true,.bool false,fv 3 (a+p)])∧Gr w w'
theorem marks_go (q:UInt8) (l:List UInt8):∃n t b,Pl.marks q l = .go n t b:=by
 unfold Pl.marks;simp only;split <;> exact⟨_,_,_,rfl⟩
theorem keep2 {w:World} {b:Nat} {x y u v:Value} (h0:w.cell? ⟨b,0,none⟩=some u) (h1:w.cell? ⟨b,1,none⟩=some v) :
    ((w.setCell ⟨b,0,none⟩ x).setCell ⟨b,1,none⟩ y).cell? ⟨b,0,none⟩=some x∧((w.setCell ⟨b,0,none⟩ x).setCell ⟨b,1,none⟩ y).cell? ⟨b,1,none⟩=some y:=by
 refine⟨?_,?_⟩
 · exact J18
 exact J17
theorem keep2d {w:World} {b:Nat} {x y u v:Value} (h0:w.cell? ⟨b,0,none⟩=some u) (h1:w.cell? ⟨b,1,none⟩=some v) :
    ((w.setCell ⟨b,0,none⟩ x).setCell ⟨b,1,none⟩ y).drew.cell? ⟨b,0,none⟩=some x∧((w.setCell ⟨b,0,none⟩ x).setCell ⟨b,1,none⟩ y).drew.cell? ⟨b,1,none⟩=some y:=keep2 h0 h1
theorem tq_common_mark (w:World) (R:Nat) (s:ByteArray) (a:Nat) (q:UInt8) (out:List UInt8) (ov:Value) (h:RdQ w R s a q out ov)
    (hlt:a<s.size) (hs:s.size≤20000000) (ho:out.length≤a) (hm:(s[a].toNat==q.toNat)=true) :
    Calls Tryz.prog 239 #[.pointer (some ⟨R,0,none⟩)] w (CommonPost R s a q out ov w (Pl.common q ((bs s).drop a))):=by
 have hcm:Pl.common q ((bs s).drop a)=some (Pl.marks q ((bs s).drop a)):=by
  rw[idx_bs s a hlt];unfold Pl.common;simp only;rw[if_pos hm]
 obtain⟨n,t,b,hmk⟩:=marks_go q ((bs s).drop a);rw[hcm,hmk];obtain⟨X,hX⟩:∃X:Ending→World→Prop,X=CommonPost R s a q out ov w (some (.go n t b)):=⟨_,rfl⟩
 rw[←hX];have HX:=Lib.hid hX;have HM:=Lib.hid hmk;obtain⟨b1,b2⟩:=beqs _ _ _ hm;refine Z232 ?_;intro c0 c1 c2 c3 fz hR;have HS:=Lib.hid h;clear fz h hm hmk hcm hX c3;go_enter Tryz.func239,Tryz.ntmps239;go_wp2_with fail
 go_quiet (fail)
 go_wp2_with fail
 go_region_held3 (fun w'=>w'.cell? ⟨w.heap.size,0,none⟩=some (.int .i64 0)∧w'.cell? ⟨w.heap.size,1,none⟩=some (.int .i64 0)) (first|go_keep|exact keep2 (by assumption) (by assumption)|exact keep2d (by assumption) (by assumption))
  (first|(go_at_call 240;refine (tq_marks _ R s a q out ov (RdQ.auto HS.out) hlt hs ho).mono ?_;rw[HM.out];rintro e w1 ⟨rfl,ov',hr,hst⟩;have hb3:=hst.use w.heap.size (by simp) (fun hF=>by have:=HS.out.own_lt hF;omega);obtain⟨hc1,hf1⟩:=hb3;have e0:w1.cell? ⟨w.heap.size,0,none⟩=some (.int .i64 0):=(by rw[hc1];simp[go_sem]);have e1:w1.cell? ⟨w.heap.size,1,none⟩=some (.int .i64 0):=(by rw[hc1];simp[go_sem]);have e2:w1.frozen? ⟨w.heap.size,0,none⟩=false:=(by rw[hf1];simp[go_sem]);have e3:w1.frozen? ⟨w.heap.size,1,none⟩=false:=(by rw[hf1];simp[go_sem]);clear hc1 hf1;have HR:=Lib.hid hr;have HT:=Lib.hid hst;clear hr hst))
 all_goals go_wp2_with fail
 refine bodyPost_ret (v := .tuple #[.bool true,.bool b,f0]) (by simp[results,Tryz.results239,go_sem,e0,e1]) rfl ?_;rw[HX.out];have hst:=HT.out;have hn3:¬FQ R ov' w.heap.size:=fun hF=>by
  rcases HT.out.own _ hF with hF|hF
  · have:=HS.out.own_lt hF;omega
  simp at hF;omega
 exact⟨rfl,ov',RdQ.auto HR.out,St.auto⟩
theorem tq_common_none (w:World) (R:Nat) (s:ByteArray) (a:Nat) (q:UInt8) (out:List UInt8) (ov:Value) (h:RdQ w R s a q out ov)
    (hlt:a<s.size) (hs:s.size≤20000000) (hm:(s[a].toNat==q.toNat)=false) (hf:Pl.feed ((bs s).drop a) = .ok 0) :
    Calls Tryz.prog 239 #[.pointer (some ⟨R,0,none⟩)] w fun e w'=>e = .returned (.tuple #[.bool false,.bool false,f0])∧Gr w w':=by
 have HF:=Lib.hid hf;obtain⟨b1,b2⟩:=beqs _ _ _ hm;refine Z232 ?_;intro c0 c1 c2 c3 fz hR;have HS:=Lib.hid h;clear fz h hm hf c3;go_enter Tryz.func239,Tryz.ntmps239;go_wp2_with fail
 go_quiet (fail)
 go_wp2_with fail;refine Z281 ?_;refine Z88 ?_;intro w1 g1 hc1 hf1 hz1;have e0:w1.cell? ⟨w.heap.size,0,none⟩=some (.int .i64 0):=(by rw[hc1 _ _ (by simp)];simp[go_sem])
 have e1:w1.cell? ⟨w.heap.size,1,none⟩=some (.int .i64 0):=(by rw[hc1 _ _ (by simp)];simp[go_sem])
 have e2:w1.frozen? ⟨w.heap.size,0,none⟩=false:=(by rw[hf1 _ _ (by simp)];simp[go_sem])
 have e3:w1.frozen? ⟨w.heap.size,1,none⟩=false:=(by rw[hf1 _ _ (by simp)];simp[go_sem])
 clear hc1 hf1;go_wp2_with fail;refine Z129 ?_;intro k2 k3 g2;generalize (w1.setCell ⟨w.heap.size,0,none⟩ (.int .i64 0)).setCell ⟨w.heap.size,1,none⟩ (.int .i64 0)=W2 at *;obtain⟨m0,m1⟩:=k2;have m2:=(k3 0).trans e2;have m3:=(k3 1).trans e3;clear e0 e1 e2 e3 k3 hz1
 set_option maxRecDepth 100000 in
 go_still_tail 10,(by kernel_rfl)
 go_wp2_with fail;exact bodyPost_ret (v := .tuple #[.bool false,.bool false,f0]) (by simp[results,Tryz.results239,go_sem,m0,m1]) rfl ⟨rfl,Gr.auto⟩
theorem tq_common_bad (w:World) (R:Nat) (s:ByteArray) (a:Nat) (q:UInt8) (out:List UInt8) (ov:Value) (h:RdQ w R s a q out ov)
    (hlt:a<s.size) (hs:s.size≤20000000) (hm:(s[a].toNat==q.toNat)=false) (hf:Pl.feed ((bs s).drop a) = .bad 3 1) :
    Calls Tryz.prog 239 #[.pointer (some ⟨R,0,none⟩)] w fun e w'=>e = .returned (.tuple #[.bool true,.bool false,fv 3 (a+1)])∧Gr w w':=by
 have HF:=Lib.hid hf;obtain⟨b1,b2⟩:=beqs _ _ _ hm;refine Z232 ?_;intro c0 c1 c2 c3 fz hR;have HS:=Lib.hid h;clear fz h hm hf c3;go_enter Tryz.func239,Tryz.ntmps239;go_wp2_with fail
 go_quiet (fail)
 go_wp2_with fail;refine Z281 ?_;refine Z88 ?_;intro w1 g1 hc1 hf1 hz1;have e0:w1.cell? ⟨w.heap.size,0,none⟩=some (.int .i64 0):=(by rw[hc1 _ _ (by simp)];simp[go_sem])
 have e1:w1.cell? ⟨w.heap.size,1,none⟩=some (.int .i64 0):=(by rw[hc1 _ _ (by simp)];simp[go_sem])
 have e2:w1.frozen? ⟨w.heap.size,0,none⟩=false:=(by rw[hf1 _ _ (by simp)];simp[go_sem])
 have e3:w1.frozen? ⟨w.heap.size,1,none⟩=false:=(by rw[hf1 _ _ (by simp)];simp[go_sem])
 clear hc1 hf1;go_wp2_with fail;have k2:=keep2 (x := .int .i64 3) (y := .int .i64 ((a:Int)+1)) e0 e1;have k3:∀o,((w1.setCell ⟨w.heap.size,0,none⟩ (.int .i64 3)).setCell ⟨w.heap.size,1,none⟩ (.int .i64 ((a:Int)+1))).frozen? ⟨w.heap.size,o,none⟩=w1.frozen? ⟨w.heap.size,o,none⟩:=by
  exact J19
 have g2:Gr w ((w1.setCell ⟨w.heap.size,0,none⟩ (.int .i64 3)).setCell ⟨w.heap.size,1,none⟩ (.int .i64 ((a:Int)+1))):=Gr.auto;generalize (w1.setCell ⟨w.heap.size,0,none⟩ (.int .i64 3)).setCell ⟨w.heap.size,1,none⟩ (.int .i64 ((a:Int)+1))=W2 at *;obtain⟨m0,m1⟩:=k2;have m2:=(k3 0).trans e2;have m3:=(k3 1).trans e3;clear e0 e1 e2 e3 k3 hz1
 set_option maxRecDepth 100000 in
 go_still_tail 10,(by kernel_rfl)
 go_wp2_with fail;exact bodyPost_ret (v := .tuple #[.bool true,.bool false,fv 3 (a+1)]) (by simp[results,Tryz.results239,go_sem,m0,m1]) rfl ⟨rfl,Gr.auto⟩
attribute [local go_sem ↓] Go.wp_at_zero Go.wp_at_succ
theorem tq_take' (w:World) (R:Nat) (s:ByteArray) (a:Nat) (q:UInt8) (out:List UInt8) (ov:Value) (h:RdQ w R s a q out ov)
    (i:Int) (m:Nat) (hi:i=m) (ha:a+m≤30000000) (nb:List UInt8) (tb tof c l:Nat) (hl:l=nb.length) (hne:nb≠[]) (had:tb≠R)
    (hnews:∀j u,(nb.map byteV)[j]?=some u→w.cell? ⟨tb,tof+j,none⟩=some u) (hlen:out.length+nb.length≤30000000) :
    Calls Tryz.prog 231 #[.pointer (some ⟨R,0,none⟩),.int .i64 i,.slice (some ⟨tb,tof,none⟩) l c] w fun e w' =>
     e = .returned (.tuple #[])∧∃ov',RdQ w' R s (a+m) q (out++nb) ov'∧St (FQ R ov) (FQ R ov') w w':=by
 subst hl;exact tq_take w R s a q out ov h i m hi ha nb tb tof c hne had hnews hlen
theorem RdQ.bytes {w R s a q out ov} (h:RdQ w R s a q out ov) (e:TypeId) (x:ByteArray):RdQ (Lib.bytesWorld w e x) R s a q out ov:=h.gr (below_bytesWorld _ _ _ _ (Nat.le_refl _))
theorem Gr.bytes {a b:World} (h:Gr a b) (e:TypeId) (x:ByteArray):Gr a (Lib.bytesWorld b e x):=h.trans (below_bytesWorld _ _ _ _ (Nat.le_refl _))
theorem bs_slice (s:ByteArray) (a n:Nat) (h:a+n≤s.size):bs (s.extract a (a+n))=((bs s).drop a).take n:=by
 simp only[bs,Lib.extract_data];congr 1;omega
theorem news_bytes (W:World) (s:ByteArray) (a n:Nat) (h:a+n≤s.size) (b:Nat) (hb:b=W.heap.size) :
    ∀j u,((((bs s).drop a).take n).map byteV)[j]?=some u→(Lib.bytesWorld W 5 (s.extract a (a+n))).cell? ⟨b,0+j,none⟩=some u:=by
 subst hb;intro j u hu;rw[←bs_slice s a n h]at hu;have hj:j<(s.extract a (a+n)).size:=by
  have:=(List.getElem?_eq_some_iff.1 hu).1;rw[List.length_map,bs_length]at this;exact this
 rw[Nat.zero_add,Lib.bytesWorld_cell _ _ _ j hj,←hu];rw[List.getElem?_map,List.getD_eq_getElem?_getD];have:(bs (s.extract a (a+n)))[j]?=some ((bs (s.extract a (a+n)))[j]'(by rw[bs_length];exact hj)):=List.getElem?_eq_getElem _;rw[this];rfl
theorem tq_common_go (w:World) (R:Nat) (s:ByteArray) (a:Nat) (q:UInt8) (out:List UInt8) (ov:Value) (h:RdQ w R s a q out ov)
    (hlt:a<s.size) (hs:s.size≤20000000) (ho:out.length≤a) (hm:(s[a].toNat==q.toNat)=false) (n:Nat) (hn:0<n) (hna:a+n≤s.size) (hf:Pl.feed ((bs s).drop a) = .ok n) :
    Calls Tryz.prog 239 #[.pointer (some ⟨R,0,none⟩)] w fun e w'=>e = .returned (.tuple #[.bool true,.bool false,f0])∧∃ov',RdQ w' R s (a+n) q (out++((bs s).drop a).take n) ov'∧St (FQ R ov) (FQ R ov') w w':=by
 have HF:=Lib.hid hf;obtain⟨b1,b2⟩:=beqs _ _ _ hm;refine Z232 ?_;intro c0 c1 c2 c3 fz hR;have HS:=Lib.hid h;have hw:=IntWalk.i64_in ((a:Int)+n) (by omega);have hk1:(0:Int)≤(a:Int)+n:=by omega
 have hk2:(a:Int)+n≤(s.size:Int):=by omega
 have hk3:((a:Int)+n).toNat=a+n:=by omega
 have hcv:=fun (w:World) (s:ByteArray)=>Lib.run_convert_string_bytes (P:=Tryz.prog) w 9 34 5 s Tryz.underlying9 Tryz.underlying34 Tryz.underlying5
 clear fz h hm hf c3;go_enter Tryz.func239,Tryz.ntmps239;go_wp2_with fail
 go_quiet (fail)
 go_wp2_with fail;refine Z281 ?_;refine Z88 ?_;intro w1 g1 hc1 hf1 hz1;have e0:w1.cell? ⟨w.heap.size,0,none⟩=some (.int .i64 0):=(by rw[hc1 _ _ (by simp)];simp[go_sem])
 have e1:w1.cell? ⟨w.heap.size,1,none⟩=some (.int .i64 0):=(by rw[hc1 _ _ (by simp)];simp[go_sem])
 have e2:w1.frozen? ⟨w.heap.size,0,none⟩=false:=(by rw[hf1 _ _ (by simp)];simp[go_sem])
 have e3:w1.frozen? ⟨w.heap.size,1,none⟩=false:=(by rw[hf1 _ _ (by simp)];simp[go_sem])
 clear hc1 hf1;go_wp2_with fail;refine Z129 ?_;intro k2 k3 g2;have hz2:((w1.setCell ⟨w.heap.size,0,none⟩ (.int .i64 0)).setCell ⟨w.heap.size,1,none⟩ (.int .i64 0)).heap.size=w1.heap.size:=by simp[World.setCell]
 generalize (w1.setCell ⟨w.heap.size,0,none⟩ (.int .i64 0)).setCell ⟨w.heap.size,1,none⟩ (.int .i64 0)=W2 at *;obtain⟨m0,m1⟩:=k2;have m2:=(k3 0).trans e2;have m3:=(k3 1).trans e3;have hz3:w.heap.size+1≤W2.heap.size:=by omega
 have hrd2:=HS.out.gr g2;obtain⟨d0,d1,d2,d3,dz⟩:=hrd2.cells;have hR2:=hrd2.lt;have HS2:=Lib.hid hrd2;clear e0 e1 e2 e3 k3 hz1 hz2 hrd2 dz d3 c0 c1 c2;have hsz:n=(((bs s).drop a).take n).length:=by
  rw[List.length_take,List.length_drop,bs_length];omega
 have HSZ:=Lib.hid hsz;clear hsz;have HD:Hid (RdQ W2.drew R s a q out ov):=HS2.out.drew
 set_option maxRecDepth 100000 in
 go_region_with (go_at_call 231;refine (tq_take' _ R s a q out ov (HD.out.bytes _ _) n n rfl (by omega) (((bs s).drop a).take n) _ 0 _ _ HSZ.out (by intro e;have:=HSZ.out;rw[e]at this;simp at this;omega) (by omega) (news_bytes _ s a n (by omega) _ (by simp)) (by rw[←HSZ.out];omega)).mono ?_;rintro e w3 ⟨rfl,ov',hr,hst⟩;have HR:=Lib.hid hr;have HT:=Lib.hid hst;clear hr hst)
 all_goals (
  have hu:=HT.out.use w.heap.size (by rw[Lib.bytesWorld_size];simp;omega) (fun hF=>by have:=HS.out.own_lt hF;omega);have hob:=Lib.bytesWorld_at_old W2.drew 5 (s.extract a (a+n)) w.heap.size (by simp;omega);have p0:w3.cell? ⟨w.heap.size,0,none⟩=some (.int .i64 0):=(hu.1 0).trans ((World.cell?_of_block (w:=W2.drew) (a:=⟨w.heap.size,0,none⟩) hob).trans m0);have p1:w3.cell? ⟨w.heap.size,1,none⟩=some (.int .i64 0):=(hu.1 1).trans ((World.cell?_of_block (w:=W2.drew) (a:=⟨w.heap.size,1,none⟩) hob).trans m1);have p2:w3.frozen? ⟨w.heap.size,0,none⟩=false:=(hu.2 0).trans ((World.frozen?_of_block (w:=W2.drew) (a:=⟨w.heap.size,0,none⟩) hob).trans m2);have p3:w3.frozen? ⟨w.heap.size,1,none⟩=false:=(hu.2 1).trans ((World.frozen?_of_block (w:=W2.drew) (a:=⟨w.heap.size,1,none⟩) hob).trans m3);have hn3:¬FQ R ov' w.heap.size:=fun hF=>by
   rcases HT.out.own _ hF with hF|hF
   · have:=HS.out.own_lt hF;omega
   rw[Lib.bytesWorld_size]at hF;simp at hF;omega
  have hgW:Gr w (Lib.bytesWorld W2.drew 5 (s.extract a (a+n))):=g2.drew.bytes _ _;have hgt:decide (0<(n:Int))=true:=by simp;omega
  clear hu hob m0 m1 m2 m3 d0 d1 d2 hw;go_wp2_with fail
  set_option maxRecDepth 100000 in
  go_still_tail 10,(by kernel_rfl)
  go_wp2_with fail;refine bodyPost_ret (v := .tuple #[.bool true,.bool false,f0]) (by simp[results,Tryz.results239,go_sem,p0,p1]) rfl ⟨rfl,ov',RdQ.auto HR.out,?_⟩;have hst:=HT.out;exact St.auto)
end Go.Proofs.YtfogfaagjpebcaaGreatDoor
namespace Go.Proofs.YtfogfaagjpebcaaGreatDoor
open Go.RowKit Go.Joins
theorem tq_common (w:World) (R:Nat) (s:ByteArray) (a:Nat) (q:UInt8) (out:List UInt8) (ov:Value) (h:RdQ w R s a q out ov)
    (hlt:a<s.size) (hs:s.size≤20000000) (ho:out.length≤a) :
    Calls Tryz.prog 239 #[.pointer (some ⟨R,0,none⟩)] w (CommonPost R s a q out ov w (Pl.common q ((bs s).drop a))):=by
 cases hm:(s[a].toNat==q.toNat)
 · have hc:∀X,Pl.feed ((bs s).drop a)=X→Pl.common q ((bs s).drop a)=match X with
       | .ok 0=>none
       | .ok (n+1)=>some (.go (n+1) (((bs s).drop a).take (n+1)) false)
       | .bad _ p=>some (.bad p):=by
    intro X hX;rw[idx_bs s a hlt]at hX ⊢;unfold Pl.common;simp only;rw[if_neg (by rw[hm];simp),hX]
    all_goals (cases X with
     | bad=>rfl
     | ok n=>cases n <;> rfl)
   cases hf:Pl.feed ((bs s).drop a) with
   | bad c p =>
    rw[hc _ hf];obtain⟨rfl,rfl⟩:=Pl.feed_bad _ _ _ hf;exact tq_common_bad w R s a q out ov h hlt hs hm hf
   | ok n =>
    rw[hc _ hf];cases n with
    | zero=>exact tq_common_none w R s a q out ov h hlt hs hm hf
    | succ n =>
     have hl:=Pl.feed_le _ _ hf;rw[List.length_drop,bs_length]at hl;exact tq_common_go w R s a q out ov h hlt hs ho hm (n+1) (by omega) (by omega) hf
 exact tq_common_mark w R s a q out ov h hlt hs ho hm
theorem itself_at (s:ByteArray) (a:Nat) (hlt:a<s.size):Pl.itself ((bs s).drop a)=if Pl.isPlain s[a]=true then .go 1 [s[a]] false else .bad 0:=by
 rw[idx_bs s a hlt];rfl
theorem tq_itself (w:World) (R:Nat) (s:ByteArray) (a:Nat) (q:UInt8) (out:List UInt8) (ov:Value) (h:RdQ w R s a q out ov)
    (hlt:a<s.size) (hs:s.size≤20000000) (ho:out.length≤a) :
    Calls Tryz.prog 229 #[.pointer (some ⟨R,0,none⟩)] w (StepPost R s a q out ov w (Pl.itself ((bs s).drop a))):=by
 rw[itself_at s a hlt];cases hp:Pl.isPlain s[a]
 · rw[if_neg (by simp)];exact (tq_itself_no w R s a q out ov h hlt hs hp).mono fun e w' ⟨he,hg⟩=>⟨he,_,hg.st⟩
 rw[if_pos rfl];exact tq_itself_yes w R s a q out ov h hlt hs ho hp
theorem tq_literal_step (w:World) (R:Nat) (s:ByteArray) (a:Nat) (q:UInt8) (out:List UInt8) (ov:Value) (h:RdQ w R s a q out ov)
    (hlt:a<s.size) (hs:s.size≤20000000) (ho:out.length≤a) :
    Calls Tryz.prog 228 #[.agg #[.pointer (some ⟨R,0,none⟩)]] w (StepPost R s a q out ov w (Pl.stepLit q ((bs s).drop a))):=by
 have hstep:Pl.stepLit q ((bs s).drop a)=if (s[a].toNat==q.toNat)=true then .go 1 [] true else Pl.itself ((bs s).drop a):=by
  rw[idx_bs s a hlt];rfl
 rw[hstep];have hR:=h.lt;cases hm:(s[a].toNat==q.toNat)
 · rw[if_neg (by simp)];refine Z243 ?_;intro X hX HX;have HS:=Lib.hid h;have HM:=Lib.hid hm;clear hX h hm hstep;go_enter Tryz.func228,Tryz.ntmps228;go_wp2_with fail;refine Z310 ?_;intro w1 g1 hc1 hf1 hz1;go_wp2_with fail;cases X with
   | bad p =>
    refine Z197 ?_;rintro e w2 ⟨rfl,F',hst⟩;have hu:=hst.use (w.heap.size+1) (by omega) (fun hF=>by have:=HS.out.own_lt hF;omega);have hz2:=hst.size;obtain⟨hc2,hf2⟩:=hu;have HT:=Lib.hid hst;clear hst;go_wp2_with fail;refine bodyPost_ret (v := .tuple #[.bool false,fv 3 (a+p)]) (by simp[results,Tryz.results228,go_sem,hc2,hc1]) rfl ⟨rfl,F',?_⟩;exact J15
   | go n t over =>
    refine Z197 ?_;rintro e w2 ⟨rfl,ov',hr,hst⟩;have hu:=hst.use (w.heap.size+1) (by omega) (fun hF=>by have:=HS.out.own_lt hF;omega);have hz2:=hst.size;obtain⟨hc2,hf2⟩:=hu;refine Z163 ?_;intro HR HT;have hn3:¬FQ R ov' (w.heap.size+1):=fun hF=>by
     rcases HT.out.own _ hF with hF|hF
     · have:=HS.out.own_lt hF;omega
     omega
    clear hr hst;go_wp2_with fail;refine bodyPost_ret (v := .tuple #[.bool over,f0]) (by simp[results,Tryz.results228,go_sem,hc2,hc1]) rfl ⟨rfl,ov',RdQ.auto HR.out,?_⟩;exact J15
 rw[if_pos rfl];have HS:=Lib.hid h;have HM:=Lib.hid hm;clear h hm hstep;go_enter Tryz.func228,Tryz.ntmps228;go_wp2_with fail;refine (tq_end_yes _ R s a q out ov (RdQ.auto HS.out) hlt hs HM.out).mono ?_;rintro e w2 ⟨rfl,hr,hst⟩;refine Z219 ?_;intro hu;have hz2:=hst.size;simp at hz2;obtain⟨hc2,hf2⟩:=hu;have HR:=Lib.hid hr;have HT:=Lib.hid hst;have hn3:¬FQ R ov (w.heap.size+1):=fun hF=>by have:=HS.out.own_lt hF;omega
 clear hr hst;go_wp2_with fail;refine bodyPost_ret (v := .tuple #[.bool true,f0]) (by simp[results,Tryz.results228,go_sem,hc2]) rfl ⟨rfl,ov,by rw[List.append_nil];exact RdQ.auto HR.out,?_⟩;exact J15
end Go.Proofs.YtfogfaagjpebcaaGreatDoor
namespace Go.Proofs.YtfogfaagjpebcaaGreatDoor
open Go.RowKit Go.Joins
theorem tq_longLiteral_step (w:World) (R:Nat) (s:ByteArray) (a:Nat) (q:UInt8) (out:List UInt8) (ov:Value) (h:RdQ w R s a q out ov)
    (hlt:a<s.size) (hs:s.size≤20000000) (ho:out.length≤a) :
    Calls Tryz.prog 238 #[.agg #[.pointer (some ⟨R,0,none⟩)]] w (StepPost R s a q out ov w (Pl.stepLongLit q ((bs s).drop a))):=by
 unfold Pl.stepLongLit;obtain⟨C,hC⟩:∃C,C=Pl.common q ((bs s).drop a):=⟨_,rfl⟩
 rw[←hC];have HC:=Lib.hid hC;clear hC;have hR:=h.lt;have HS:=Lib.hid h;clear h;cases C with
 | some X =>
  simp only;cases X with
  | bad p =>
   go_enter Tryz.func238,Tryz.ntmps238;go_wp2_with fail;refine Z121 ?_;rw[←HC.out];refine Z88 ?_;intro w2 g1 hc2 hf2 hz2;refine Z131 ?_;intro hy1 hy2;go_wp2_with fail
   go_region
   go_wp2_with fail;exact bodyPost_ret (v := .tuple #[.bool false,fv 3 (a+p)]) (by simp[results,Tryz.results238,go_sem,hc2,hy1,hy2]) rfl ⟨rfl,FQ R ov,St.auto⟩
  | go n t over =>
   go_enter Tryz.func238,Tryz.ntmps238;go_wp2_with fail;refine Z121 ?_;rw[←HC.out];rintro e w2 ⟨rfl,ov',hr,hst⟩;refine Z219 ?_;intro hu;have hz2:=hst.size;simp at hz2;obtain⟨hc2,hf2⟩:=hu;have HR:=Lib.hid hr;have HT:=Lib.hid hst;have hn3:¬FQ R ov' (w.heap.size+1):=fun hF=>by
    rcases HT.out.own _ hF with hF|hF
    · have:=HS.out.own_lt hF;omega
    simp at hF;omega
   clear hr hst;refine Z131 ?_;intro hy1 hy2;go_wp2_with fail
   go_region
   go_wp2_with fail;refine bodyPost_ret (v := .tuple #[.bool over,f0]) (by simp[results,Tryz.results238,go_sem,hc2,hy1,hy2]) rfl ⟨rfl,ov',RdQ.auto HR.out,?_⟩;exact J15
 | none =>
  simp only;refine Z243 ?_;intro X hX HX;clear hX;go_enter Tryz.func238,Tryz.ntmps238;go_wp2_with fail;refine Z121 ?_;rw[←HC.out];refine Z88 ?_;intro w1 g1 hc1 hf1 hz1;refine Z169 ?_;intro hy1 hy2;go_wp2_with fail;cases X with
  | bad p =>
   refine Z197 ?_;rintro e w2 ⟨rfl,F',hst⟩;refine Z18 ?_;intro hc2 hf2 hz2;have HT:=Lib.hid hst;clear hst;go_wp2_with fail;refine bodyPost_ret (v := .tuple #[.bool false,fv 3 (a+p)]) (by simp[results,Tryz.results238,go_sem,hc2,hc1,hy1,hy2]) rfl ⟨rfl,F',?_⟩;exact J15
  | go n t over =>
   refine Z197 ?_;rintro e w2 ⟨rfl,ov',hr,hst⟩;refine Z18 ?_;intro hc2 hf2 hz2;refine Z163 ?_;intro HR HT;have hn3:¬FQ R ov' (w.heap.size+1):=fun hF=>by
    rcases HT.out.own _ hF with hF|hF
    · have:=HS.out.own_lt hF;omega
    simp at hF;omega
   clear hr hst;go_wp2_with fail;refine bodyPost_ret (v := .tuple #[.bool over,f0]) (by simp[results,Tryz.results238,go_sem,hc2,hc1,hy1,hy2]) rfl ⟨rfl,ov',RdQ.auto HR.out,?_⟩;exact J15
end Go.Proofs.YtfogfaagjpebcaaGreatDoor
