/-
  TtreesDeep answers true at every two numbers of 16 bits; proved for every start at which the listed package variables hold what the program's text lays in them (the tied card).
-/
import Derived.Test.YtfogfaagjpebcaaGreatDoorP00
import Derived.Test.YtfogfaagjpebcaaGreatDoorP15
import Derived.Test.YtfogfaagjpebcaaGreatDoorP30
import Derived.Test.YtfogfaagjpebcaaGreatDoorP45
import Derived.Lib.SlBytesConst
import Derived.Test.YtfogfaagjpebcaaGreatDoorCards
import Derived.Test.YtfogfaagjpebcaaGreatDoorTie
import Derived.WalkKit
import Derived.ChangeMaps5
import Derived.ProofKit
import Derived.OpenShut
import Derived.LaidMore
import Derived.Lib.LaidPrint
import Derived.Lib.LaidU8T
import Derived.Lay
import Derived.Deep.DeepHandedRow
import Derived.SevenTiedAt
import Derived.Stop.Joined
set_option maxHeartbeats 16000000
set_option linter.all false
set_option linter.unusedVariables false
set_option linter.unusedSimpArgs false
namespace Go.Proofs.YtfogfaagjpebcaaGreatDoor
open Go.RowKit Go.Shelf Go.Joins
attribute [local go_sem] Oper.semAt_some
theorem live_tells (Tb:Nat→UInt8 × UInt8) (PT:Lib.PrintTabs) (w:World) (hRW:RW Tb w) (hTX:TxW PT w):Calls Tryz.prog 15 #[.string ⟨Pl.liveA.toArray⟩,.string ⟨Pl.liveW.toArray⟩] w fun e w'=>e = .returned (.bool true)∧Gr w w':=by
 obtain⟨g,h1,h2,h3,h4⟩:=Pl.isTold_eq (live_A Tb PT);exact tx_tells Tb PT w hRW hTX ⟨Pl.liveA.toArray⟩ ⟨Pl.liveW.toArray⟩ (by decide) g h1 h2 h3 9 h4 (by decide)
theorem live_fC (Tb:Nat→UInt8 × UInt8) (w:World) (hRW:RW Tb w):Calls Tryz.prog 5 #[.string ⟨Pl.liveC.toArray⟩,.int .i64 5,.int .i64 6] w fun e w'=>e = .returned (.bool true)∧Gr w w' :=
 tx_fails Tb w hRW ⟨Pl.liveC.toArray⟩ (by decide) 5 6 (by decide) (Pl.isBad_eq (live_C Tb))
theorem live_fD (Tb:Nat→UInt8 × UInt8) (w:World) (hRW:RW Tb w):Calls Tryz.prog 5 #[.string ⟨Pl.liveD.toArray⟩,.int .i64 5,.int .i64 5] w fun e w'=>e = .returned (.bool true)∧Gr w w' :=
 tx_fails Tb w hRW ⟨Pl.liveD.toArray⟩ (by decide) 5 5 (by decide) (Pl.isBad_eq (live_D Tb))
theorem live_fE (Tb:Nat→UInt8 × UInt8) (w:World) (hRW:RW Tb w):Calls Tryz.prog 5 #[.string ⟨Pl.liveE.toArray⟩,.int .i64 5,.int .i64 9] w fun e w'=>e = .returned (.bool true)∧Gr w w' :=
 tx_fails Tb w hRW ⟨Pl.liveE.toArray⟩ (by decide) 5 9 (by decide) (Pl.isBad_eq (live_E Tb))
theorem conv_lit (w:World) (l:List UInt8) (n c:Nat) (hn:l.length=n) (fz:Nat × Nat) (W:World) (q:Gr (w.alloc (.cells (l.map byteV).toArray 5 fz)) W):(convert 34 9 (.slice (some ⟨w.heap.size,0,none⟩) n c)).run Tryz.prog W = .ok (.string ⟨l.toArray⟩) W:=by
 subst hn;refine Z118 ?_;intro e0;have hcell:∀i,i<l.length→W.cell? ⟨w.heap.size,0+i,none⟩=some (.int .u8 ((l.map fun x=>(x.toNat:Int)).getD i 0)):=by
  intro i hi;have h:(w.alloc (.cells (l.map byteV).toArray 5 fz)).cell? ⟨w.heap.size,i,none⟩=some (byteV l[i]):=by
   have hb:=heap_alloc_new w (.cells (l.map byteV).toArray 5 fz);unfold World.cell?;rw[hb];simp[hi]
  have:=(q.use.1 _ _ (Lib.lt_of_cell h)).trans h;rw[Nat.zero_add,this];simp[List.getD,List.getElem?_eq_getElem hi,byteV]
 rw[run_convert_bytes_arg W 34 5 Tryz.underlying34 Tryz.underlying5 w.heap.size 0 l.length c (l.map fun x=>(x.toNat:Int)) (by rw[List.length_map]) hcell 9 Tryz.underlying9,e0]
set_option maxRecDepth 100000 in
theorem tx_lives (Tb:Nat→UInt8 × UInt8) (PT:Lib.PrintTabs) (w:World) (hRW:RW Tb w) (hTX:TxW PT w):Calls Tryz.prog 6 #[] w fun e w'=>e = .returned (.bool true)∧Gr w w':=by
 have HT:=Lib.hid (live_tells Tb PT w hRW hTX);have HC:=Lib.hid (fun W (g:Gr w W)=>live_fC Tb W (hRW.gr g));have HD:=Lib.hid (fun W (g:Gr w W)=>live_fD Tb W (hRW.gr g));have HE:=Lib.hid (fun W (g:Gr w W)=>live_fE Tb W (hRW.gr g));have HRW:=Lib.hid hRW;clear hRW hTX;go_enter Tryz.func6,Tryz.ntmps6;go_wp2_with fail;refine HT.out.mono ?_;rintro e w1 ⟨rfl,g1⟩;have HG1:=Lib.hid g1;have kc:=fun (w:World) (C:Array Value) (n c:Nat)=>Lib.run_convert_bytes_const (P:=Tryz.prog) w 34 5 C n c Tryz.underlying34 Tryz.underlying5
 obtain⟨g,hg⟩:=Pl.isOk_eq (live_B Tb);have gA:Gr w1 (w1.alloc (.cells #[.int .u8 97,.int .u8 46,.int .u8 98,.int .u8 32,.int .u8 61,.int .u8 32,.int .u8 49,.int .u8 10,.int .u8 91,.int .u8 97,.int .u8 46,.int .u8 99,.int .u8 93] 5 (13,14))):=(Gr.refl w1).alloc _;have HPARSE:=Lib.hid (tt_Parse Tb _ (HRW.out.gr (g1.trans gA)) ⟨Pl.liveB.toArray⟩ (by decide) (some ⟨w1.heap.size,0,none⟩) 13 13 (fun W q=>conv_lit w1 Pl.liveB 13 13 rfl (13,14) W q) _ hg (by simp));have HGA0:=Lib.hid (g1.trans gA);clear g1 gA hg;go_wp2_with fail;refine HPARSE.out.mono ?_;rintro e w2 ⟨gn,L,he,_,_,g2⟩;subst he;refine Z225 ?_;intro W0 hW0 hA gA zA;refine Z103 ?_;intro W1 hW1 gB hB zB;have HGA:=Lib.hid ((HGA0.out.trans g2).trans (gA.trans gB));have HB:=Lib.hid hB;refine Z268 ?_;intro HW1;clear HPARSE hA hB gA gB zA zB hW0 hW1 g2 kc
 go_upto_region 5 with fail
 refine Z259 ?_;go_wp2_with fail;refine (HC.out _ HGA.out).mono ?_;rintro e w5 ⟨rfl,g5⟩;have HG5:=Lib.hid g5;clear g5;go_wp2_with fail;refine (HD.out _ (HGA.out.trans HG5.out)).mono ?_;rintro e w6 ⟨rfl,g6⟩;have HG6:=Lib.hid (HG5.out.trans g6);clear g6;go_wp2_with fail;refine (HE.out _ (HGA.out.trans HG6.out)).mono ?_;rintro e w7 ⟨rfl,g7⟩;have HG7:=Lib.hid (HG6.out.trans g7);obtain⟨q0,q1,qf,ql⟩:=HB.out.gr HG7.out;clear g7;go_wp2_with fail;exact bodyPost_ret (v := .bool true) (by simp[results,Tryz.results6,go_sem]) rfl ⟨rfl,HGA.out.trans HG7.out⟩
end Go.Proofs.YtfogfaagjpebcaaGreatDoor
namespace Go.Proofs.YtfogfaagjpebcaaGreatDoor
open Go.RowKit Go.Shelf Go.Joins
attribute [local go_sem] Oper.semAt_some
theorem rep_any (s:ByteArray) (c:Nat) (w:World) (h0:0<s.size) (hs:s.size≤3) (hc:c≤300) :
    Calls Tryz.prog 4 #[.string s,.int .i64 c] w fun e w'=>∃r:ByteArray,e = .returned (.string r)∧bs r=Lib.repeatL (bs s) c∧Gr w w':=by
 match c,hc with
 | 0,_ =>
  refine (show Calls Tryz.prog 4 #[.string s,.int .i64 0] w _ from Tryz.strings_Repeat_zero s w).mono ?_;refine Z48 ?_;exact⟨⟨#[]⟩,rfl,rfl,Gr.refl _⟩
 | 1,_ =>
  refine (show Calls Tryz.prog 4 #[.string s,.int .i64 1] w _ from Tryz.strings_Repeat_one s w).mono ?_;refine Z48 ?_;exact⟨s,rfl,by simp[Lib.repeatL],Gr.refl _⟩
 | c+2,hc =>
  refine (Tryz.strings_Repeat_main s (c+2) w (by omega) (by omega) ?_ h0).mono ?_
  · have:s.size*(c+2)≤3*300:=Nat.mul_le_mul hs hc;omega
  rintro e w' ⟨rfl,hb⟩;exact⟨_,rfl,by simp[bs],hb⟩
theorem rep_one (b:UInt8):∀n,Lib.repeatL [b] n=List.replicate n b
 | 0=>rfl
 | n+1=>by rw[Lib.repeatL,rep_one b n];rfl
theorem rep_w:∀m,Lib.repeatL [97,46] m++[97]=Pl.wB m
 | 0=>rfl
 | m+1=>by
  rw[Lib.repeatL,Pl.wB,←rep_w m];simp
theorem rep_v (k:Nat):Lib.repeatL [91] k++[49]++Lib.repeatL [93] k=Pl.vB k:=by rw[rep_one,rep_one];simp[Pl.vB]
set_option maxRecDepth 100000 in
theorem law_tdeep (Tb:Nat→UInt8 × UInt8) (PT:Lib.PrintTabs) (w:World) (hRW:RW Tb w) (hTX:TxW PT w) (a b:Nat) (ha:a≤65535) (hb:b≤65535) :
    Calls Tryz.prog 3 #[.int .u16 a,.int .u16 b] w fun e w'=>e = .returned (.bool true)∧Gr w w':=by
 have HF:=Lib.hid (fun W (g:Gr w W) s hs c p hc hX=>tx_fails Tb W (hRW.gr g) s hs c p hc hX);have HL:=Lib.hid (fun W (g:Gr w W)=>tx_lives Tb PT W (hRW.gr g) (hTX.gr g));have HP:=Lib.hid (fun W (g:Gr w W) s hs X hX hne=>tt_Parse Tb (Lib.bytesWorld W 5 s) (hRW.gr (g.trans (gr_bytesWorld W 5 s))) s hs (some ⟨W.heap.size,0,none⟩) s.size (grownCap W s.size 0 5) (fun V q=>conv_back W s _ V q) X hX hne);have HCV:=Lib.hid (fun (s:ByteArray) W=>Lib.run_convert_string_bytes (P:=Tryz.prog) W 9 34 5 s (u := .string) (by kernel_rfl) (by kernel_rfl) (by kernel_rfl));clear hRW hTX;obtain⟨m,hm⟩:∃m,a % 260=m:=⟨_,rfl⟩
 obtain⟨k,hk⟩:∃k,b % 260=k:=⟨_,rfl⟩
 obtain⟨n,hn⟩:∃n,m+1=n:=⟨_,rfl⟩
 have hm3:m<260:=by omega
 have hk3:k<260:=by omega
 have wa:IntKind.i64.wrap (a:Int)=(a:Int):=IntWalk.i64_in _ ⟨by omega,by omega⟩;have wb:IntKind.i64.wrap (b:Int)=(b:Int):=IntWalk.i64_in _ ⟨by omega,by omega⟩;have ma:(a:Int).tmod 260=(m:Int):=by rw[Int.tmod_eq_emod_of_nonneg (by omega)];omega
 have mb:(b:Int).tmod 260=(k:Int):=by rw[Int.tmod_eq_emod_of_nonneg (by omega)];omega
 have wk:IntKind.i64.wrap (k:Int)=(k:Int):=IntWalk.i64_in _ ⟨by omega,by omega⟩;refine Z288 ?_;intro wm;have wn:IntKind.i64.wrap (1+(m:Int))=(n:Int):=by rw[IntWalk.i64_in _ ⟨by omega,by omega⟩];omega
 have wn1:IntKind.i64.wrap ((n:Int)-1)=(m:Int):=by rw[IntWalk.i64_in _ ⟨by omega,by omega⟩];omega
 have HN:=Lib.hid hn;have HM:=Lib.hid hm;have HK:=Lib.hid hk;clear hn hm hk;go_enter Tryz.func3,Tryz.ntmps3;go_wp2_with fail;refine (rep_any ⟨#[97,46]⟩ m w (by decide) (by decide) (by omega)).mono ?_;rintro e w1 ⟨r1,rfl,hr1,g1⟩;have hz1:r1.size=m*2:=by rw[←bs_length,hr1,Lib.repeatL_length];simp
 have HR1:=Lib.hid hr1;clear hr1
 go_upto_region 4 with fail
 obtain⟨wd,hwd⟩:∃wd,r1++({ data:=#[97] }:ByteArray)=wd:=⟨_,rfl⟩
 have hbw:bs wd=Pl.wB m:=by rw[←hwd,bs_app,HR1.out];exact rep_w m
 have hzw:wd.size=2*m+1:=by rw[←bs_length,hbw,Pl.wB_len]
 rw[hwd];have HBW:=Lib.hid hbw;clear hwd hz1 HR1 hbw;go_wp2_with fail;refine (rep_any ⟨#[91]⟩ k w1 (by decide) (by decide) (by omega)).mono ?_;rintro e w2 ⟨r2,rfl,hr2,g2⟩;have hz2:r2.size=k:=by rw[←bs_length,hr2,Lib.repeatL_length];simp
 have HR2:=Lib.hid hr2;clear hr2;go_wp2_with fail;refine (rep_any ⟨#[93]⟩ k w2 (by decide) (by decide) (by omega)).mono ?_;rintro e w3 ⟨r3,rfl,hr3,g3⟩;have hz3:r3.size=k:=by rw[←bs_length,hr3,Lib.repeatL_length];simp
 have HR3:=Lib.hid hr3;have hG:=(g1.trans g2).trans g3;have HG:=Lib.hid hG;clear hr3 g1 g2 g3
 go_upto_region 5 with fail
 obtain⟨vl,hvl⟩:∃vl,r2++({ data:=#[49] }:ByteArray)++r3=vl:=⟨_,rfl⟩
 have hbv:bs vl=Pl.vB k:=by rw[←hvl,bs_app,bs_app,HR2.out,HR3.out];exact rep_v k
 have hzv:vl.size=2*k+1:=by rw[←bs_length,hbv,Pl.vB_len]
 rw[hvl];have HBV:=Lib.hid hbv;clear hvl hz2 hz3 HR2 HR3 hbv;by_cases hd:255≤m
 · have b1:decide ((255:Int)<(n:Int))=true:=by have:=HN.out;simp;omega
   have HD:=Lib.hid hd;clear hd;have h1:=HF.out w3 HG.out (({ data:=#[91] }:ByteArray)++wd++{ data:=#[93] }) (by rw[←bs_length,bs_app,bs_app,HBW.out];simp[bs,Pl.wB_len];omega) 4 511 (by decide) (by rw[bs_app,bs_app,HBW.out];exact Pl.doc1 _ m HD.out);have HF1:=Lib.hid h1;have HF2:=Lib.hid (fun W g=>HF.out W g (({ data:=#[120,32,61,32,49,10,91] }:ByteArray)++wd++{ data:=#[93,10,121,32,61,32,49] }) (by rw[←bs_length,bs_app,bs_app,HBW.out];simp[bs,Pl.wB_len];omega) 4 517 (by decide) (by rw[bs_app,bs_app,HBW.out];have:=Pl.doc2 ⟨Pl.strS Tb,Pl.scalS⟩ rfl m HD.out;rw[←List.append_assoc]at this;simpa [bs]using this));clear h1;go_wp2_with fail;refine HF1.out.mono ?_;rintro e w4 ⟨rfl,g4⟩;have HG4:=Lib.hid (HG.out.trans g4);clear g4;go_wp2_with fail;refine (HF2.out _ HG4.out).mono ?_;rintro e w5 ⟨rfl,g5⟩;have HG5:=Lib.hid (HG4.out.trans g5);clear g5;exact J169
 have b1:decide ((255:Int)<(n:Int))=false:=by have:=HN.out;simp;omega
 go_upto_region 9 with fail
 obtain⟨sd,hsd⟩:∃sd,({ data:=#[91] }:ByteArray)++wd++{ data:=#[93,10,120,32,61,32] }++vl=sd:=⟨_,rfl⟩
 have hbs:bs sd=91::(Pl.wB m++93::([10,120,32,61,32]++Pl.vB k)):=by rw[←hsd,bs_app,bs_app,bs_app,HBW.out,HBV.out];simp[bs]
 have hzs:sd.size=2*m+2*k+9:=by rw[←bs_length,hbs];simp[Pl.wB_len,Pl.vB_len];omega
 rw[hsd];obtain⟨S,hS⟩:∃S,2*m+2*k+9=S:=⟨_,rfl⟩
 obtain⟨V,hV⟩:∃V,2*k+1=V:=⟨_,rfl⟩
 obtain⟨F,hF⟩:∃F,2*m+8=F:=⟨_,rfl⟩
 obtain⟨G,hGG⟩:∃G,F+255=G:=⟨_,rfl⟩
 obtain⟨Q,hQ⟩:∃Q,2*m+8+(254-m)=Q:=⟨_,rfl⟩
 obtain⟨n1,hn1⟩:∃n1,m+2=n1:=⟨_,rfl⟩
 obtain⟨q,hq⟩:∃q,m+2+k=q:=⟨_,rfl⟩
 have hnn:=HN.out;rw[hS]at hzs;rw[hV]at hzv;have wF:IntKind.i64.wrap ((S:Int)-(V:Int))=(F:Int):=by rw[IntWalk.i64_in _ ⟨by omega,by omega⟩];omega
 have wG:IntKind.i64.wrap ((F:Int)+255)=(G:Int):=by rw[IntWalk.i64_in _ ⟨by omega,by omega⟩];omega
 have wQ:IntKind.i64.wrap ((G:Int)-(n:Int))=(Q:Int):=by rw[IntWalk.i64_in _ ⟨by omega,by omega⟩];omega
 have wn1':IntKind.i64.wrap (1+(n:Int))=(n1:Int):=by rw[IntWalk.i64_in _ ⟨by omega,by omega⟩];omega
 have wq:IntKind.i64.wrap ((n1:Int)+(k:Int))=(q:Int):=by rw[IntWalk.i64_in _ ⟨by omega,by omega⟩];omega
 have hsl:sd.size≤20000000:=by omega
 have HSL:=Lib.hid hsl;have HBS:=Lib.hid hbs;have HQ:=Lib.hid (And.intro hQ hq);have HD:=Lib.hid (show m≤254 by omega);have hd3:=Pl.doc3 ⟨Pl.strS Tb,Pl.scalS⟩ rfl m k HD.out (by omega);rw[←HBS.out]at hd3;have HD3:=Lib.hid hd3;clear hS hV hF hGG hQ hn1 hq hnn hsd hbs hsl hd hd3
 go_upto_region 10 with fail
 clear hzs;by_cases hdq:256<q
 · have b2:decide ((256:Int)<(q:Int))=true:=by simp;omega
   have hX:=HD3.out.1 (by have:=HQ.out.2;omega);rw[HQ.out.1]at hX;have HF1:=Lib.hid (HF.out w3 HG.out sd HSL.out 4 Q (by decide) hX);clear hX hdq;go_wp2_with fail;refine HF1.out.mono ?_;rintro e w4 ⟨rfl,g4⟩;have HG4:=Lib.hid (HG.out.trans g4);clear g4;go_wp2_with fail;refine (HL.out _ HG4.out).mono ?_;rintro e w6 ⟨rfl,g6⟩;have HG6:=Lib.hid (HG4.out.trans g6);clear g6;exact J113
 have b2:decide ((256:Int)<(q:Int))=false:=by simp;omega
 obtain⟨gt,hX⟩:=HD3.out.2 (by have:=HQ.out.2;omega);have HPA:=Lib.hid (HP.out w3 HG.out sd HSL.out _ hX (by simp));clear hX hdq;have hcv:=HCV.out sd;go_wp2_with fail;clear hcv;refine HPA.out.mono ?_;rintro e w4 ⟨gn,L,he,_,_,g4⟩;subst he;have hG4:=HG.out.trans ((gr_bytesWorld w3 5 sd).trans g4);obtain⟨hA,gA,zA⟩:=bx2 w4 (.slice (some ⟨gn,0,none⟩) L.length L.length) (.int .i64 0) 29;obtain⟨W0,hW0⟩:∃W0,w4.alloc (.cells #[.slice (some ⟨gn,0,none⟩) L.length L.length,.int .i64 0] 29)=W0:=⟨_,rfl⟩
 rw[hW0]at hA gA zA;refine Z103 ?_;intro W1 hW1 gB hB zB;have HGA:=Lib.hid (hG4.trans (gA.trans gB));have HB:=Lib.hid hB;have HZ4:=Lib.hid hG4.size;have HW1:=Lib.hid (show (w4.alloc (.cells #[.slice (some ⟨gn,0,none⟩) L.length L.length,.int .i64 0] 29)).alloc (.cells #[.int .i64 0,.int .i64 0] 31)=W1 by rw[hW0,hW1]);clear HPA hA hB gA gB zA zB hW0 hW1 g4 hG4
 go_upto_region 13 with fail
 rw[show (w4.alloc (.cells #[.slice (some ⟨gn,0,none⟩) L.length L.length,.int .i64 0] 29)).alloc (.cells #[.int .i64 0,.int .i64 0] 31)=W1 from HW1.out];obtain⟨q0,q1,qf,ql⟩:=id HB.out;by_cases hm4:m=254
 · have b3:decide ((254:Int)<(n:Int))=true:=by have:=HN.out;simp;omega
   have w2m:IntKind.i64.wrap (2*(m:Int))=508:=by rw[IntWalk.i64_in _ ⟨by omega,by omega⟩];omega
   have HM4:=Lib.hid hm4;have HF1:=Lib.hid (fun W g=>HF.out W g (({ data:=#[91,91] }:ByteArray)++wd++{ data:=#[93,93] }) (by rw[←bs_length,bs_app,bs_app,HBW.out];simp[bs,Pl.wB_len];omega) 4 510 (by decide) (by rw[bs_app,bs_app,HBW.out,HM4.out];exact Pl.doc4 _));clear hm4;go_wp2_with fail;refine (HF1.out _ HGA.out).mono ?_;rintro e w5 ⟨rfl,g5⟩;have HG5:=Lib.hid (HGA.out.trans g5);clear g5;exact J169
 have b3:decide ((254:Int)<(n:Int))=false:=by have:=HN.out;have:=HD.out;simp;omega
 obtain⟨g2,hX⟩:=Pl.doc5 ⟨Pl.strS Tb,Pl.scalS⟩ rfl m (by have:=HD.out;omega);obtain⟨s2,hs2⟩:∃s2,({ data:=#[91,91] }:ByteArray)++wd++{ data:=#[93,93,10,120,32,61,32,49] }=s2:=⟨_,rfl⟩
 have hb2:bs s2=91::91::(Pl.wB m++93::[93,10,120,32,61,32,49]):=by rw[←hs2,bs_app,bs_app,HBW.out];simp[bs]
 rw[←hb2]at hX;have HPA:=Lib.hid (HP.out W1 HGA.out s2 (by rw[←bs_length,hb2];simp[Pl.wB_len];omega) _ hX (by simp));have HS2:=Lib.hid hs2;clear hX hm4 hs2 hb2
 go_upto_region 17 with fail
 have hs2:=HS2.out;have hcv:=HCV.out s2;go_wp2_with fail;clear hs2 hcv;refine HPA.out.mono ?_;rintro e w5 ⟨gn2,L2,he,_,_,g5⟩;subst he;have g51:=(gr_bytesWorld W1 5 s2).trans g5;have HG5:=Lib.hid (HGA.out.trans g51);have hB5:=HB.out.gr g51;have HB5:=Lib.hid hB5;obtain⟨q0,q1,qf,ql⟩:=hB5;clear g5 g51
 go_upto_region 18 with fail
 rw[setCell_self HB5.out.1,setCell_self HB5.out.2.1];exact J169
end Go.Proofs.YtfogfaagjpebcaaGreatDoor
namespace Go.Proofs.YtfogfaagjpebcaaGreatDoor
open Go.ChangeShapes Go.WideShapes Go.ChangeAt Go.RowKit Go.Shelf Go.Lib
theorem ownNoneD:ownKnob Tryz.prog.godebug=none:=by kernel_rfl
theorem post_plainD {H:Type} {enc:TypeId × Value→H} {P:Program} {f:Func} {s:ChangeSpec} {apart fresh handsOn again:Bool} {W W':World} {args:Array Value} {v:Value} {ds gs:List (DataW H)}
    (hW:DataW.Whole enc P f.params.toList s.vars apart W args.toList ds gs [])
    (hres:∀(b:Nat) (sp:Nat→Bool) (hd:Bool),DataW.TrodAll enc P W' b sp hd f.resultTypes.toList (v.resultList f.resultTypes.size) (s.fn H (ds++gs)).results [])
    (hargs:∀sp:Nat→Bool,DataW.TrodAll enc P W' 0 sp true f.params.toList args.toList (s.fn H (ds++gs)).args [])
    (hvars:∀sp:Nat→Bool,DataW.TrodVars enc P W' sp s.vars (s.fn H (ds++gs)).vars [])
    (hb:Below W.heap.size W W')
    (hok:∀(j:Nat) (t:TypeId) (r:Value),f.resultTypes[j]?=some t→(v.resultList f.resultTypes.size)[j]?=some r→Value.okWide P W' .any 0 t r) :
    s.post enc P f apart fresh handsOn again W args v W':=by
 refine⟨ds,gs,[],[],[],[],hW,hres _ _ _,hargs _,hvars _,hb.frame _,fun _=>?_⟩;refine⟨hok,_,_,[],⟨[],[],trodAll_append (hargs _) (hres _ _ _),hvars _,rfl,fun b off hp=>by (simp at hp),fun _=>List.nodup_nil⟩,fun p hp _=>by (simp at hp)⟩
theorem rw_ofD {W:World} (hL:laidMet Tryz.prog Rows.ttreesDeepRow.laid W) (hS:W.ShapedOpen Tryz.prog):∃T,RW T W:=by
 have e4:=err_head hL.tail.tail.tail.tail (show Tryz.prog.globalNamed "strconv.ErrRange" = some 11 by kernel_rfl) (by kernel_rfl);obtain⟨p,e5⟩:=err_head hL.tail.tail.tail.tail.tail (show Tryz.prog.globalNamed "strconv.ErrSyntax" = some 13 by kernel_rfl) (by kernel_rfl);obtain⟨T,hT⟩:=sh_any hS;exact⟨T,⟨rad_of hL (by simp[Rows.ttreesDeepRow]),
     Go.Proofs.cell_of_shapedOpen_int (zero:=#[.int .i64 0]) (t:=3) hS (by decide +kernel) (by kernel_rfl) rfl (by kernel_rfl) (by kernel_rfl) Tryz.underlying3,e4,
     pow_of hL (by simp[Rows.ttreesDeepRow])⟩,
  ⟨⟨_,e5,.inr ⟨_,_,rfl⟩⟩,hT⟩⟩
set_option maxRecDepth 100000 in
theorem pr_ofD {W:World} (hL:laidMet Tryz.prog Rows.ttreesDeepRow.laid W):Lib.PrintTabsAt 4 5 6 7 goPrintTabs W:=by
 have h20:=Lib.laidMet.reads hL (show ("strconv.isPrint16",Rows.laid_strconv_isPrint16)∈Rows.ttreesDeepRow.laid by simp[Rows.ttreesDeepRow]);have h21:=Lib.laidMet.reads hL (show ("strconv.isNotPrint16",Rows.laid_strconv_isNotPrint16)∈Rows.ttreesDeepRow.laid by simp[Rows.ttreesDeepRow]);have h22:=Lib.laidMet.reads hL (show ("strconv.isPrint32",Rows.laid_strconv_isPrint32)∈Rows.ttreesDeepRow.laid by simp[Rows.ttreesDeepRow]);have h23:=Lib.laidMet.reads hL (show ("strconv.isNotPrint32",Rows.laid_strconv_isNotPrint32)∈Rows.ttreesDeepRow.laid by simp[Rows.ttreesDeepRow]);rw[show Rows.laid_strconv_isPrint16=sliceData .u16 goPrintTabs.p16 by kernel_rfl]at h20;rw[show Rows.laid_strconv_isNotPrint16=sliceData .u16 goPrintTabs.n16 by kernel_rfl]at h21;rw[show Rows.laid_strconv_isPrint32=sliceData .u32 goPrintTabs.p32 by kernel_rfl]at h22;rw[show Rows.laid_strconv_isNotPrint32=sliceData .u16 goPrintTabs.n32 by kernel_rfl]at h23;exact⟨tabSlice_of_reads (by kernel_rfl) (show _=some 192 by kernel_rfl) Tryz.underlying192 Tryz.underlying22 (by kernel_rfl) (by decide +kernel) h20,
  tabSlice_of_reads (by kernel_rfl) (show _=some 192 by kernel_rfl) Tryz.underlying192 Tryz.underlying22 (by kernel_rfl) (by decide +kernel) h21,
  tabSlice_of_reads (by kernel_rfl) (show _=some 195 by kernel_rfl) Tryz.underlying195 Tryz.underlying63 (by kernel_rfl) (by decide +kernel) h22,
  tabSlice_of_reads (by kernel_rfl) (show _=some 192 by kernel_rfl) Tryz.underlying192 Tryz.underlying22 (by kernel_rfl) (by decide +kernel) h23,
  by decide +kernel,by decide +kernel,by decide +kernel⟩
def u8Ren:Go.Shelf.Ren:=⟨fun x=>x,fun|5=>5|119=>188|138=>190|139=>191|n=>n,fun|3=>2|4=>3|n=>n⟩
theorem u8_ofD {W:World} (hL:laidMet Tryz.prog Rows.ttreesDeepRow.laid W):Lib.Utf8Tabs 2 3 W:=by
 have h3:=Lib.laidMet.reads hL (show ("unicode/utf8.first",Rows.laid_unicode_utf8_first)∈Rows.ttreesDeepRow.laid by simp[Rows.ttreesDeepRow]);have h4:=Lib.laidMet.reads hL (show ("unicode/utf8.acceptRanges",Rows.laid_unicode_utf8_acceptRanges)∈Rows.ttreesDeepRow.laid by simp[Rows.ttreesDeepRow]);rw[show Rows.laid_unicode_utf8_first=Lib.firstData by kernel_rfl]at h3;rw[show Rows.laid_unicode_utf8_acceptRanges=Lib.acceptData by kernel_rfl]at h4;exact utf8Tabs_of_readsT (P:=Tryz.prog) (ρ := u8Ren) ⟨Tryz.underlying5,by kernel_rfl,by kernel_rfl,by kernel_rfl⟩ ⟨by kernel_rfl,by kernel_rfl,by kernel_rfl,by kernel_rfl,by kernel_rfl,by kernel_rfl,by kernel_rfl⟩ h3 h4
set_option maxRecDepth 100000 in
theorem deepContract (H:Type) (enc:TypeId × Value→H) (W:World) (base:Nat) (args:Array Value) (ds gs:List (DataW H)) (before:List MemPlace)
    (hval:∀(j:Nat) t v,Tryz.f3.params[j]?=some t→args[j]?=some v→Value.okWide Tryz.prog W .any base t v)
    (hW:DataW.Whole enc Tryz.prog Tryz.f3.params.toList Rows.ttreesDeepSpec.vars false W args.toList ds gs before) (hL:laidMetH Tryz.prog Rows.ttreesDeepRow.laid W) (hS:W.ShapedOpen Tryz.prog) :
    Calls Tryz.prog 3 args W fun e W'=>∃v,e = .returned v∧Rows.ttreesDeepSpec.post enc Tryz.prog Tryz.f3 false true false false W args v W':=by
 have hW':=hW;rw[MakeChecks.laidMetH_plain _ _ _ (by kernel_rfl)]at hL;obtain⟨p,q,hA0,hV,rfl,hfz,hnd⟩:=hW;have hA:DataW.TrodAll enc Tryz.prog W 0 (fun _=>true) true Tryz.f3.params.toList args.toList ds p:=hA0;rw[Tryz.params3]at hA hval;obtain⟨v0,v1,d0,d1,p0,p1,rfl,rfl,rfl,h0,h1⟩:=trodAll_two hA;obtain⟨rfl,rfl⟩:=trodVars_none hV;obtain⟨x,rfl,rfl,rfl,hx⟩:=open_int Tryz.underlying22 (hval 0 22 v0 (by simp) (by simp)) h0;obtain⟨y,rfl,rfl,rfl,hy⟩:=open_int Tryz.underlying22 (hval 1 22 v1 (by simp) (by simp)) h1;have bx:0≤x∧x≤65535:=by
  simp[Lit.wf,IntKind.min,IntKind.max,IntKind.signed,IntKind.bits]at hx;omega
 have hy2:0≤y∧y≤65535:=by
  simp[Lit.wf,IntKind.min,IntKind.max,IntKind.signed,IntKind.bits]at hy;omega
 clear hA0;simp only[List.append_nil]at hW';obtain⟨a,rfl⟩:∃a:Nat,x=a:=⟨x.toNat,by omega⟩
 obtain⟨b,rfl⟩:∃b:Nat,y=b:=⟨y.toNat,by omega⟩
 obtain⟨T,hT⟩:=rw_ofD hL hS;refine (law_tdeep T goPrintTabs W hT ⟨hT.int,pr_ofD hL,u8_ofD hL⟩ a b (by omega) (by omega)).mono fun e W' ⟨he,hg⟩=>?_
 subst he;exact⟨_,rfl,post_plainD hW' (fun _ _ _=>trodAll_mk1 (shut_bool Tryz.underlying4 _)) (fun _=>trodAll_mk2 (shut_int Tryz.underlying22 hx) (shut_int Tryz.underlying22 hy)) (fun _=>rfl) hg (ok_one (by kernel_rfl) rfl (okWide_bool_mk Tryz.underlying4 _))⟩
theorem deepReads (os:Os) {H:Type} (enc:TypeId × Value→H):∃places,DataW.whole enc Tryz.prog ((World.laidAll Tryz.prog os Rows.ttreesDeepRow.laid).forCall (fun _ _=>0) ⟨#[],#[.int .u16 0,.int .u16 0],[]⟩).memory Tryz.f3.params.toList Rows.ttreesDeepSpec.vars false #[Value.int .u16 0,.int .u16 0].toList 8=some ([.lit (.int .u16 0),.lit (.int .u16 0)],[],places) :=
 ⟨[],by kernel_rfl⟩
theorem deepLaid (os:Os):laidMetH Tryz.prog Rows.ttreesDeepRow.laid ((World.laidAll Tryz.prog os Rows.ttreesDeepRow.laid).forCall (fun _ _=>0) ⟨#[],#[.int .u16 0,.int .u16 0],[]⟩).memory:=by
 rw[MakeChecks.laidMetH_plain _ _ _ (by kernel_rfl)];exact laidMet_laidAll _ (by kernel_rfl) (by kernel_rfl)
set_option maxRecDepth 100000 in
theorem deepLifted (os:Os) (started:os.Started) (H:Type) (enc:TypeId × Value→H) (F:Stop.Interp) :
    ReturnsInHanded {} Tryz.checked os 3 .any ((OpenSpec.ofChange Rows.ttreesDeepSpec).preRow enc Tryz.prog Tryz.f3 Rows.ttreesDeepRow.domain false Rows.ttreesDeepRow.laid) (((OpenSpec.ofChange Rows.ttreesDeepSpec).at F).post enc Tryz.prog Tryz.f3 false true false false):=by
 obtain⟨places,hx⟩:=deepReads os enc;have hok:Input.okWideB Tryz.checked.prog ((World.laidAll Tryz.prog os Rows.ttreesDeepRow.laid).forCall (fun _ _=>0) ⟨#[],#[.int .u16 0,.int .u16 0],[]⟩) 3 ⟨#[],#[.int .u16 0,.int .u16 0],[]⟩=true:=by kernel_rfl
 refine returnsInHanded_of_row (C:=Tryz.checked) (s:=OpenSpec.ofChange Rows.ttreesDeepSpec) ownNoneD started (by kernel_rfl) Tryz.func3
  ⟨World.laidAll Tryz.prog os Rows.ttreesDeepRow.laid,fun _ _=>0,⟨#[],#[.int .u16 0,.int .u16 0],[]⟩,World.laidAll_os _ _ _,World.shaped_of_ZipB (by kernel_rfl) (by kernel_rfl),(Input.okWide_of_okWideB (base:=0) hok).1,(Input.okWide_of_okWideB hok).2,
   OpenSpec.preRow_of_cond 8 hx (by kernel_rfl) (fun k hk=>by cases hk) (by kernel_rfl) (deepLaid os),by
    simp only[Assume.holds];exact⟨by simp,by simp,fun _=>Modest.zero,by simp,by simp⟩⟩ ?_
 intro W base args ds gs before hval hW _ _ _ hL hS _;exact deepContract H enc W base args ds gs before hval hW hL hS
theorem deepSaid:Rows.TtreesDeepSaid :=
 OpenClaim.holds_of_cond 3 Tryz.f3 rfl rfl rfl rfl rfl rfl rfl ⟨rfl,rfl,rfl,rfl,rfl⟩ rfl rfl rfl rfl rfl (by kernel_rfl) Tryz.func3 (by kernel_rfl)
  (of_decide_eq_true (by kernel_rfl)) (by unfold Func.isWrapper;first|(rw[if_pos (by decide +kernel)];kernel_rfl)|(rw[if_neg (by decide +kernel)];exact⟨rfl,rfl⟩))
  (fun os started H enc _ F=>by rw[OpenClaim.pre_eq_preRow];exact deepLifted os started H enc F)
theorem deepPlain (f:FuncId) (fn:Func) (hf:Tryz.pinned.checked.prog.funcNamed "inarch/inarchlaw13.TtreesDeep" = some f) (hfn:Tryz.pinned.checked.prog.funcs[f]?=some fn) :
    true=Tryz.pinned.checked.prog.looks []∧∀(j:Nat) t,fn.params[j]?=some t→Tryz.pinned.checked.prog.wantsStandIn t=false:=by
 obtain rfl:f=3:=Option.some.inj ((show Tryz.prog.funcNamed "inarch/inarchlaw13.TtreesDeep" = some 3 by kernel_rfl).symm.trans hf) |>.symm;obtain rfl:fn=Tryz.f3:=(Option.some.inj (Tryz.func3.symm.trans hfn)).symm;refine⟨by kernel_rfl,fun j t ht=>?_⟩;rw[Tryz.params3]at ht;have hm:t∈[22,22]:=by simpa using Array.mem_of_getElem? ht
 have hall:([22,22].all fun u => !Tryz.prog.wantsStandIn u)=true:=by kernel_rfl
 have:=List.all_eq_true.1 hall t hm;show Tryz.prog.wantsStandIn t=false;exact J14
theorem deepCard:Rows.TtreesDeepCardSaid :=
 Claim7.holds_tied_plain_at .later [] _ _ _ _ deepSaid (fun _ h=>by cases h) (by kernel_rfl) (fun _ h=>by cases h) ttreesDeep_row_tie rfl ⟨rfl,rfl⟩ (by kernel_rfl) rfl deepPlain (by kernel_rfl)
end Go.Proofs.YtfogfaagjpebcaaGreatDoor
