/-
 The walks and plain laws that the claim rests on, part 25.
-/
import Derived.Test.YtkplelejagpkmaaGreatDoorP20
import Derived.Test.YtkplelejagpkmaaGreatDoorP21
set_option maxHeartbeats 16000000
set_option linter.all false
set_option linter.unusedVariables false
set_option linter.unusedSimpArgs false
namespace Go.Proofs.YtkplelejagpkmaaGreatDoor
open Go.RowKit Go.Shelf Go.Joins
attribute [local go_sem] Oper.semAt_some
abbrev radC3 (bg:ByteArray) (bb:Nat) (ds:ByteArray) (b:Nat) (w:World):Prop:=(w.cell? ⟨b,0,none⟩=some (.string bg)∧w.cell? ⟨b,1,none⟩=some (.int .i64 bb)∧w.cell? ⟨b,2,none⟩=some (.string ds))∧b<w.heap.size
theorem radC3.gr {bg bb ds} {b:Nat} {w w':World} (h:radC3 bg bb ds b w) (g:Gr w w'):radC3 bg bb ds b w':=by
 obtain⟨⟨h0,h1,h2⟩,hl⟩:=h;have hc:=g.use.1;exact⟨⟨(hc _ _ hl).trans h0,(hc _ _ hl).trans h1,(hc _ _ hl).trans h2⟩,Nat.lt_of_lt_of_le hl g.size⟩
def IntPost (X:Pl.Out Pl.Bs) (e:Ending):Prop:=match X with
 | .ok x=>e = .returned (.tuple #[.string ⟨x.toArray⟩,.int .i64 0])
 | .bad c _=>e = .returned (.tuple #[.string ⟨#[]⟩,.int .i64 c])
def intY (Y:Lib.NumEnd Int):Pl.Out Pl.Bs:=match Y with
 | .ok v => .ok (Lib.itoa v)
 | .range => .bad 8 0
 | Lib.NumEnd.syntax => .bad 3 0
theorem post_bad {X:Pl.Out Pl.Bs} {c:Nat} (h:X = .bad c 0):IntPost X (.returned (.tuple #[.string ⟨#[]⟩,.int .i64 c])):=by rw[h];rfl
theorem post_ok {X:Pl.Out Pl.Bs} {v:Int} (h:X=intY (.ok v)):IntPost X (.returned (.tuple #[.string ⟨(Lib.itoa v).toArray⟩,.int .i64 0])):=by rw[h];rfl
set_option maxRecDepth 100000 in
theorem in_read_F (bg:ByteArray) (bb:Nat) (ds:ByteArray) (s:ByteArray) (hs:s.size≤20000000) (hrv:radOfV (bs s)=radV bg bb ds) (hbz:bg.size≤s.size) (q:∀W,(Go.binOp .eql 163 (radV bg bb ds) tensV).run Tryz.prog W = .ok (.bool false) W)
    (D:ByteArray) (hD:s.extract bg.size s.size=D) (r:Bool) (hr:∀w,Calls Tryz.prog 96 #[radV bg bb ds,.string D] w fun e w'=>e = .returned (.bool r)∧Gr w w')
    (L:ByteArray) (hL:L=⟨(Lib.replaceAll (bs D) [95] []).toArray⟩) (Y:Lib.NumEnd Int) (hY:r=true→Y≠Lib.NumEnd.syntax∧(∀v,Y = .ok v → -9223372036854775808≤v∧v≤9223372036854775807)∧∀w ep,w.cell? ⟨2,0,none⟩=some (.iface 258 (.pointer (some ep)))→Calls Tryz.prog 97 #[.string L,.int .i64 bb,.int .i64 64] w (ParsePost ep w Y)) (w:World) (hw:IntW w) :
    Calls Tryz.prog 72 #[.string s] w fun e w'=>IntPost (if r=false then .bad 3 0 else intY Y) e∧Gr w w':=by
 have HW:=Lib.hid hw;have HRV:=Lib.hid hrv;have HR:=Lib.hid hr;have HL:=Lib.hid hL;have hDz:D.size≤20000000:=by rw[←hD];simp;omega
 have hLz:L.size≤D.size:=by
  have h1:=Pl.lowless_len (bs D);rw[bs_length]at h1;rw[hL];show (Pl.lowless (bs D)).toArray.size≤_
  simpa using h1
 have hb1:(bg.size:Int)≤(s.size:Int):=by omega
 obtain⟨T,hT⟩:∃T,T=L:=⟨_,rfl⟩
 have hcat:(⟨#[]⟩:ByteArray)++L=T:=by rw[hT];apply ByteArray.ext;simp[ByteArray.data_append]
 rw[←hT]at hY;have hnb:¬ 9223372036854775807<L.size:=by omega
 have hnb2:¬ 9223372036854775807<(0+L.size):=by omega
 have hb2:(0:Int)≤(bg.size:Int):=by omega
 have HY:=Lib.hid hY;clear hw hrv hr hY hL hT;go_enter Tryz.func72,Tryz.ntmps72;go_wp2_with (go_at_call 94;refine (in_of_all s _ ((HW.out.gr Gr.auto).rad)).mono ?_;rw[HRV.out];rintro e w1 ⟨rfl,g1⟩);obtain⟨W0,hW0⟩:∃W0,w1.alloc (.cells #[.string bg,.int .i64 bb,.string ds] 163)=W0:=⟨_,rfl⟩
 have hR0:radC3 bg bb ds w1.heap.size W0:=by rw[←hW0];exact⟨⟨by simp,by simp,by simp⟩,by simp⟩
 have hG0:Gr w W0:=by rw[←hW0];exact g1.alloc _
 rw[hW0];clear hW0 g1;obtain⟨⟨c0,c1,c2⟩,hlt⟩:=hR0
 go_quiet (fail)
 have hGq:Gr w (W0.drewN nq):=hG0.drewN _;go_wp2_with fail;have hS0:radC3 bg bb ds w1.heap.size (W0.drewN nq).drew:=⟨⟨c0,c1,c2⟩,hlt⟩
 refine Reg.begin' (W:=fun _=>true) (S:=radC3 bg bb ds w1.heap.size) (by kernel_rfl) ?_;refine Reg.tl 0 hS0 ?_ (hy:=by intro w hSw;obtain⟨⟨q0,q1,q2⟩,ql⟩:=hSw;go_simp;try with_reducible rfl);refine Reg.on 1 ?_;go_simp;refine (in_tens _).mono ?_;rintro e w2 ⟨rfl,g2⟩;have hS1:=hS0.gr g2;refine⟨by first|exact hS1|exact fun _=>hS1|exact fun _ _=>hS1,?_⟩;refine Reg.pt ?_;refine Reg.ty 2 ?_;refine Reg.ty 3 ?_;refine Reg.sk 4 ?_;refine Reg.sk 5 ?_;refine Reg.ty 6 ?_;refine Reg.ty 7 ?_;refine Reg.sk 8 ?_;refine Reg.sk 9 ?_;refine Reg.sk 10 ?_;refine Reg.sk 11 ?_;refine Reg.sk 12 ?_;refine Reg.sk 13 ?_;refine Reg.sk 14 ?_;refine Reg.sk 15 ?_;refine Reg.ty 16 ?_;refine Reg.done (by kernel_rfl) ?_ _;have hG2:Gr w w2:=hGq.drew.trans g2;clear g2 hG0 hGq c0 c1 c2 hlt hS0;obtain⟨⟨c0,c1,c2⟩,hlt⟩:=hS1;go_wp2_with fail;have hS2:radC3 bg bb ds w1.heap.size w2.drew:=⟨⟨c0,c1,c2⟩,hlt⟩
 refine Reg.begin' (W:=fun _=>true) (S:=radC3 bg bb ds w1.heap.size) (by kernel_rfl) ?_;refine Reg.tl 0 hS2 ?_ (hy:=by intro w hSw;obtain⟨⟨q0,q1,q2⟩,ql⟩:=hSw;go_simp;try with_reducible rfl);refine Reg.ty 1 ?_;refine Reg.on 2 ?_;go_simp;refine (HR.out _).mono ?_;rintro e w3 ⟨rfl,g3⟩;have hS3:=hS2.gr g3;refine⟨by first|exact hS3|exact fun _=>hS3|exact fun _ _=>hS3,?_⟩;refine Reg.pt ?_;cases r with
 | false =>
  refine Reg.ty 3 ?_;refine Reg.ty 4 ?_;refine Reg.sk 5 ?_;refine Reg.sk 6 ?_;refine Reg.sk 7 ?_;refine Reg.sk 8 ?_;refine Reg.sk 9 ?_;refine Reg.sk 10 ?_;refine Reg.sk 11 ?_;refine Reg.sk 12 ?_;refine Reg.sk 13 ?_;refine Reg.sk 14 ?_;refine Reg.sk 15 ?_;refine Reg.sk 16 ?_;refine Reg.sk 17 ?_;refine Reg.ty 18 ?_;refine Reg.done (by kernel_rfl) ?_ _;have hG3:Gr w w3:=hG2.drew.trans g3;clear g3;go_wp2_with fail;exact bodyPost_ret (v := .tuple #[.string ⟨#[]⟩,.int .i64 3]) (by simp[results,Tryz.results72,go_sem]) rfl ⟨rfl,hG3⟩
 | true =>
  refine Reg.ty 3 ?_;refine Reg.ty 4 ?_;refine Reg.tl 5 hS3 ?_ (hy:=by intro w hSw;obtain⟨⟨q0,q1,q2⟩,ql⟩:=hSw;go_simp;try with_reducible rfl);refine Reg.on 6 ?_;go_simp;refine (in_tens _).mono ?_;rintro e w4 ⟨rfl,g4⟩;have hS4:=hS3.gr g4;refine⟨by first|exact hS4|exact fun _=>hS4|exact fun _ _=>hS4,?_⟩;refine Reg.pt ?_;refine Reg.ty 7 ?_;refine Reg.ty 8 ?_;refine Reg.sk 9 ?_;refine Reg.sk 10 ?_;refine Reg.sk 11 ?_;refine Reg.ty 12 ?_;refine Reg.ty 13 ?_;refine Reg.sk 14 ?_;refine Reg.sk 15 ?_;refine Reg.sk 16 ?_;refine Reg.ty 17 ?_;refine Reg.ty 18 ?_;refine Reg.done (by kernel_rfl) ?_ _;have hG4:Gr w w4:=(hG2.drew.trans g3).trans g4;clear g3 g4 hG2 c0 c1 c2 hlt hS2 hS3;obtain⟨⟨c0,c1,c2⟩,hlt⟩:=hS4;go_wp2_with fail;obtain⟨hYn,hYb,hYp⟩:=HY.out (by simp);cases Y with
  | ok v =>
   obtain⟨hv0,hv1⟩:=hYb v rfl;have HP:Hid (∀W,IntW W→Calls Tryz.prog 97 #[.string T,.int .i64 bb,.int .i64 64] W fun e w'=>e = .returned (.tuple #[.int .i64 v,.nilIface])∧Gr W w'):=fun W hW=>by
    obtain⟨ep,he⟩:=hW.err;exact hYp W ep he
   have HV:Hid (-9223372036854775808≤v∧v≤9223372036854775807):=⟨hv0,hv1⟩
   clear hYp hYb hYn HY hv0 hv1
   go_region_held3 (radC3 bg bb ds w1.heap.size) (first|exact⟨⟨c0,c1,c2⟩,hlt⟩|assumption|exact radC3.gr (by assumption) (by assumption)|go_keep) (first|(go_at_call 98;refine (replace_low D (by omega) _ (HW.out.gr Gr.auto)).mono ?_;rw[←HL.out];rintro e w5 ⟨rfl,g5⟩)|(go_at_call 97;refine (HP.out _ (HW.out.gr Gr.auto)).mono ?_;rintro e w6 ⟨rfl,g6⟩))
   have hG6:Gr w w6:=(hG4.drew.trans g5).trans g6;have hW6:=HW.out.gr hG6;obtain⟨ep,he⟩:=hW6.err;have HF:=Lib.hid (fun W (hW:IntW W)=>(Tryz.strconv_FormatInt_10 v HV.out.1 HV.out.2 W hW.pow));clear g5 g6 hG4;go_wp2_with (first|(go_at_call 99;refine (err_is_none _ _ _).mono ?_;rintro e w7 ⟨rfl,g7⟩)|(go_at_call 100;refine (HF.out _ (hW6.gr Gr.auto)).mono ?_;rintro e w8 ⟨rfl,k8,os8,rfl⟩));exact bodyPost_ret (v := .tuple #[.string ⟨(Lib.itoa v).toArray⟩,.int .i64 0]) (by simp[results,Tryz.results72,go_sem]) rfl ⟨by simp[IntPost,intY],(hG6.trans g7).trans (grow_gr _ _ _)⟩
  | range =>
   have HP:Hid (∀W,IntW W→Calls Tryz.prog 97 #[.string T,.int .i64 bb,.int .i64 64] W fun e w'=>(∃(k:Int) (N:Nat) (ep:Addr),e = .returned (.tuple #[.int .i64 k,.iface 217 (.pointer (some ⟨N,0,none⟩))])∧w'.cell? ⟨N,2,none⟩=some (.iface 258 (.pointer (some ep)))∧w'.cell? ⟨2,0,none⟩=some (.iface 258 (.pointer (some ep))))∧Gr W w'):=fun W hW=>by
    obtain⟨ep,he⟩:=hW.err;refine (hYp W ep he).mono ?_;rintro e w' ⟨⟨k,N,rfl,hN⟩,g⟩;exact⟨⟨k,N,ep,rfl,hN,(g.use.1 _ _ (Lib.lt_of_cell he)).trans he⟩,g⟩
   clear hYp hYb hYn HY
   go_region_held3 (radC3 bg bb ds w1.heap.size) (first|exact⟨⟨c0,c1,c2⟩,hlt⟩|assumption|exact radC3.gr (by assumption) (by assumption)|go_keep) (first|(go_at_call 98;refine (replace_low D (by omega) _ (HW.out.gr Gr.auto)).mono ?_;rw[←HL.out];rintro e w5 ⟨rfl,g5⟩)|(go_at_call 97;refine (HP.out _ (HW.out.gr Gr.auto)).mono ?_;rintro e w6 ⟨⟨k,N,ep,rfl,hN,hE⟩,g6⟩))
   have hG6:Gr w w6:=(hG4.drew.trans g5).trans g6;clear g5 g6 hG4;go_wp2_with (go_at_call 99;refine (is_range N ep _ hN).mono ?_;rintro e w7 ⟨rfl,rfl⟩);exact bodyPost_ret (v := .tuple #[.string ⟨#[]⟩,.int .i64 8]) (by simp[results,Tryz.results72,go_sem]) rfl ⟨by simp[IntPost,intY],hG6⟩
  | _=>exact absurd rfl hYn
set_option maxRecDepth 100000 in
theorem in_read_T3 (bg:ByteArray) (bb:Nat) (ds:ByteArray) (hbg:bg=⟨#[]⟩) (hbb:bb=10) (hds:ds=decD) (s:ByteArray) (hs:s.size≤20000000) (hrv:radOfV (bs s)=radV bg bb ds) (h0:0<s.size) (hc:(s[0]'h0).toNat=43) (D S:ByteArray) (hD:s.extract 1 s.size=D) (hS:s.extract 0 1=S) (r:Bool) (hr:∀w,Calls Tryz.prog 96 #[radV bg bb ds,.string D] w fun e w'=>e = .returned (.bool r)∧Gr w w')
    (L:ByteArray) (hL:L=⟨(Lib.replaceAll (bs D) [95] []).toArray⟩) (T:ByteArray) (hcat:S++L=T) (Y:Lib.NumEnd Int) (hY:r=true→Y≠Lib.NumEnd.syntax∧(∀v,Y = .ok v → -9223372036854775808≤v∧v≤9223372036854775807)∧∀w ep,w.cell? ⟨2,0,none⟩=some (.iface 258 (.pointer (some ep)))→Calls Tryz.prog 97 #[.string T,.int .i64 bb,.int .i64 64] w (ParsePost ep w Y))
    (X:Pl.Out Pl.Bs) (hXf:r=false→X = .bad 3 0) (hXz:1<D.size∧(bs D)[0]?=some 48→X = .bad 3 0) (hXt:r=true→¬(1<D.size∧(bs D)[0]?=some 48)→X=intY Y) (w:World) (hw:IntW w) :
    Calls Tryz.prog 72 #[.string s] w fun e w'=>IntPost X e∧Gr w w':=by
 have HW:=Lib.hid hw;have HRV:=Lib.hid hrv;have HR:=Lib.hid hr;have HY:=Lib.hid hY;have HL:=Lib.hid hL;have HXf:=Lib.hid hXf;have HXz:=Lib.hid hXz;have HXt:=Lib.hid hXt;have hDz:D.size≤20000000:=by rw[←hD];simp;omega
 have hSz:S.size≤1:=by rw[←hS];simp;omega
 have hne:¬s.toList=[]:=fun e=>by rw[Lib.toList_data]at e;have h2:=bs_length s;rw[show bs s=[] from e]at h2;simp at h2;omega
 have hemp:s.toList.isEmpty=false:=by simpa using hne
 have hp0:(0:Int)<(s.size:Int):=by omega
 have hp1:(1:Int)≤(s.size:Int):=by omega
 obtain⟨y1,y2⟩:=beqs (s[0]'h0).toNat 43 true (by simpa using hc);have hLz:L.size≤D.size:=by
  have h1:=Pl.lowless_len (bs D);rw[bs_length]at h1;rw[hL];show (Pl.lowless (bs D)).toArray.size≤_
  simpa using h1
 have hnb:¬ 9223372036854775807<L.size:=by omega
 have hnb2:¬ 9223372036854775807<(S.size+L.size):=by omega
 have q:∀W,(Go.binOp .eql 163 (radV bg bb ds) tensV).run Tryz.prog W = .ok (.bool true) W:=fun _=>by subst hbg hbb hds;kernel_rfl
 have hb1:(bg.size:Int)≤(s.size:Int):=by rw[hbg,show (⟨#[]⟩:ByteArray).size=0 from rfl];omega
 have hb2:(0:Int)≤(bg.size:Int):=by omega
 have hB:s.extract bg.size s.size=s:=by
  rw[hbg,show (⟨#[]⟩:ByteArray).size=0 from rfl];have h5:bs (s.extract 0 s.size)=bs s:=by rw[bs_extract];rfl
  exact ByteArray.ext (Array.toList_inj.1 h5)
 clear hbg hbb hds;clear hw hrv hr hY hL hXf hXz hXt;go_enter Tryz.func72,Tryz.ntmps72;go_wp2_with (go_at_call 94;refine (in_of_all s _ ((HW.out.gr Gr.auto).rad)).mono ?_;rw[HRV.out];rintro e w1 ⟨rfl,g1⟩);obtain⟨W0,hW0⟩:∃W0,w1.alloc (.cells #[.string bg,.int .i64 bb,.string ds] 163)=W0:=⟨_,rfl⟩
 have hR0:radC3 bg bb ds w1.heap.size W0:=by rw[←hW0];exact⟨⟨by simp,by simp,by simp⟩,by simp⟩
 have hG0:Gr w W0:=by rw[←hW0];exact g1.alloc _
 rw[hW0];clear hW0 g1;obtain⟨⟨c0,c1,c2⟩,hlt⟩:=hR0
 go_quiet (fail)
 have hGq:Gr w (W0.drewN nq):=hG0.drewN _;go_wp2_with fail;have hS0:radC3 bg bb ds w1.heap.size (W0.drewN nq).drew:=⟨⟨c0,c1,c2⟩,hlt⟩
 refine Reg.begin' (W:=fun _=>true) (S:=radC3 bg bb ds w1.heap.size) (by kernel_rfl) ?_;refine Reg.tl 0 hS0 ?_ (hy:=by intro w hSw;obtain⟨⟨q0,q1,q2⟩,ql⟩:=hSw;go_simp;try with_reducible rfl);refine Reg.on 1 ?_;go_simp;refine (in_tens _).mono ?_;rintro e w2 ⟨rfl,g2⟩;have hS1:=hS0.gr g2;refine⟨by first|exact hS1|exact fun _=>hS1|exact fun _ _=>hS1,?_⟩;refine Reg.pt ?_;refine Reg.ty 2 ?_;refine Reg.ty 3 ?_;refine Reg.ty 4 ?_;refine Reg.ty 5 ?_;refine Reg.ty 6 ?_;refine Reg.ty 7 ?_;refine Reg.ty 8 ?_;refine Reg.ty 9 ?_;refine Reg.ty 10 ?_;refine Reg.ty 11 ?_;refine Reg.sk 12 ?_;refine Reg.sk 13 ?_;refine Reg.sk 14 ?_;refine Reg.ty 15 ?_;refine Reg.ty 16 ?_;refine Reg.done (by kernel_rfl) ?_ _;have hG2:Gr w w2:=hGq.drew.trans g2;clear g2 hG0 hGq c0 c1 c2 hlt hS0;obtain⟨⟨c0,c1,c2⟩,hlt⟩:=hS1;go_wp2_with fail
 go_quiet (fail)
 obtain⟨W2,hW2⟩:∃W2,w2.drewN nq=W2:=⟨_,rfl⟩
 have hG5:Gr w W2:=by rw[←hW2];exact hG2.drewN _
 have k0:W2.cell? ⟨w1.heap.size,0,none⟩=some (.string bg):=by rw[←hW2];exact c0
 have k1:W2.cell? ⟨w1.heap.size,1,none⟩=some (.int .i64 bb):=by rw[←hW2];exact c1
 have k2:W2.cell? ⟨w1.heap.size,2,none⟩=some (.string ds):=by rw[←hW2];exact c2
 have kl:w1.heap.size<W2.heap.size:=by rw[←hW2];exact hlt
 rw[hW2];clear c0 c1 c2 hlt hG2 hW2;obtain⟨c0,c1,c2,hlt⟩:W2.cell? ⟨w1.heap.size,0,none⟩=some (.string bg)∧W2.cell? ⟨w1.heap.size,1,none⟩=some (.int .i64 bb)∧W2.cell? ⟨w1.heap.size,2,none⟩=some (.string ds)∧w1.heap.size<W2.heap.size:=⟨k0,k1,k2,kl⟩
 clear k0 k1 k2 kl;go_wp2_with fail;have hS2:radC3 bg bb ds w1.heap.size W2.drew:=⟨⟨c0,c1,c2⟩,hlt⟩
 refine Reg.begin' (W:=fun _=>true) (S:=radC3 bg bb ds w1.heap.size) (by kernel_rfl) ?_;refine Reg.tl 0 hS2 ?_ (hy:=by intro w hSw;obtain⟨⟨q0,q1,q2⟩,ql⟩:=hSw;go_simp;try with_reducible rfl);refine Reg.ty 1 ?_;refine Reg.on 2 ?_;go_simp;refine (HR.out _).mono ?_;rintro e w3 ⟨rfl,g3⟩;have hS3:=hS2.gr g3;refine⟨by first|exact hS3|exact fun _=>hS3|exact fun _ _=>hS3,?_⟩;refine Reg.pt ?_;cases r with
 | false =>
  refine Reg.ty 3 ?_;refine Reg.ty 4 ?_;refine Reg.sk 5 ?_;refine Reg.sk 6 ?_;refine Reg.sk 7 ?_;refine Reg.sk 8 ?_;refine Reg.sk 9 ?_;refine Reg.sk 10 ?_;refine Reg.sk 11 ?_;refine Reg.sk 12 ?_;refine Reg.sk 13 ?_;refine Reg.sk 14 ?_;refine Reg.sk 15 ?_;refine Reg.sk 16 ?_;refine Reg.sk 17 ?_;refine Reg.ty 18 ?_;refine Reg.done (by kernel_rfl) ?_ _;have hG3:Gr w w3:=hG5.drew.trans g3;clear g3;go_wp2_with fail;exact bodyPost_ret (v := .tuple #[.string ⟨#[]⟩,.int .i64 3]) (by simp[results,Tryz.results72,go_sem]) rfl ⟨post_bad (HXf.out (by simp)),hG3⟩
 | true =>
  by_cases h1:1<D.size
  · have e1:decide ((1:Int)<(D.size:Int))=true:=by simp;omega
    have H1:=Lib.hid h1;have e0:0<D.size:=by omega
    have e2:(0:Int)<(D.size:Int):=by omega
    cases hz:((D[0]'e0).toNat==48) with
    | true =>
     obtain⟨z1,z2⟩:=beqs _ 48 _ hz;have HZ:Hid ((bs D)[0]?=some 48):=Lib.hid (by
      have h2:=idx_bs D 0 e0;simp only[List.drop_zero]at h2;rw[h2];simp only[List.getElem?_cons_zero,Option.some.injEq,←UInt8.toNat_inj]
      simpa using hz)
     clear hz;refine Reg.ty 3 ?_;refine Reg.ty 4 ?_;refine Reg.tl 5 hS3 ?_ (hy:=by intro w hSw;obtain⟨⟨q0,q1,q2⟩,ql⟩:=hSw;go_simp;try with_reducible rfl);refine Reg.on 6 ?_;go_simp;refine (in_tens _).mono ?_;rintro e w4 ⟨rfl,g4⟩;have hS4:=hS3.gr g4;refine⟨by first|exact hS4|exact fun _=>hS4|exact fun _ _=>hS4,?_⟩;refine Reg.pt ?_;refine Reg.ty 7 ?_;refine Reg.ty 8 ?_;refine Reg.ty 9 ?_;refine Reg.ty 10 ?_;refine Reg.ty 11 ?_;refine Reg.ty 12 ?_;refine Reg.ty 13 ?_;refine Reg.ty 14 ?_;refine Reg.ty 15 ?_;refine Reg.ty 16 ?_;refine Reg.ty 17 ?_;refine Reg.ty 18 ?_;refine Reg.done (by kernel_rfl) ?_ _;have hG4:Gr w w4:=(hG5.drew.trans g3).trans g4;clear g3 g4;go_wp2_with fail;exact bodyPost_ret (v := .tuple #[.string ⟨#[]⟩,.int .i64 3]) (by simp[results,Tryz.results72,go_sem]) rfl ⟨post_bad (HXz.out ⟨H1.out,HZ.out⟩),hG4⟩
    | false =>
     obtain⟨z1,z2⟩:=beqs _ 48 _ hz;have HIF:Hid (¬(1<D.size∧(bs D)[0]?=some 48)):=Lib.hid (by
      rintro⟨_,h3⟩;have h2:=idx_bs D 0 e0;simp only[List.drop_zero]at h2;rw[h2]at h3;simp only[List.getElem?_cons_zero,Option.some.injEq]at h3;rw[h3]at hz;simp at hz)
     clear hz;refine Reg.ty 3 ?_;refine Reg.ty 4 ?_;refine Reg.tl 5 hS3 ?_ (hy:=by intro w hSw;obtain⟨⟨q0,q1,q2⟩,ql⟩:=hSw;go_simp;try with_reducible rfl);refine Reg.on 6 ?_;go_simp;refine (in_tens _).mono ?_;rintro e w4 ⟨rfl,g4⟩;have hS4:=hS3.gr g4;refine⟨by first|exact hS4|exact fun _=>hS4|exact fun _ _=>hS4,?_⟩;refine Reg.pt ?_;refine Reg.ty 7 ?_;refine Reg.ty 8 ?_;refine Reg.ty 9 ?_;refine Reg.ty 10 ?_;refine Reg.ty 11 ?_;refine Reg.ty 12 ?_;refine Reg.ty 13 ?_;refine Reg.ty 14 ?_;refine Reg.ty 15 ?_;refine Reg.ty 16 ?_;refine Reg.ty 17 ?_;refine Reg.ty 18 ?_;refine Reg.done (by kernel_rfl) ?_ _;have hG4:Gr w w4:=(hG5.drew.trans g3).trans g4;clear g3 g4 hG5 c0 c1 c2 hlt hS2 hS3;obtain⟨⟨c0,c1,c2⟩,hlt⟩:=hS4;go_wp2_with fail;obtain⟨hYn,hYb,hYp⟩:=HY.out (by simp);cases Y with
     | ok v =>
      obtain⟨hv0,hv1⟩:=hYb v rfl;have HP:Hid (∀W,IntW W→Calls Tryz.prog 97 #[.string T,.int .i64 bb,.int .i64 64] W fun e w'=>e = .returned (.tuple #[.int .i64 v,.nilIface])∧Gr W w'):=fun W hW=>by
       obtain⟨ep,he⟩:=hW.err;exact hYp W ep he
      have HV:Hid (-9223372036854775808≤v∧v≤9223372036854775807):=⟨hv0,hv1⟩
      clear hYp hYb hYn HY hv0 hv1
      go_region_held3 (radC3 bg bb ds w1.heap.size) (first|exact⟨⟨c0,c1,c2⟩,hlt⟩|assumption|exact radC3.gr (by assumption) (by assumption)|go_keep) (first|(go_at_call 98;refine (replace_low D (by omega) _ (HW.out.gr Gr.auto)).mono ?_;rw[←HL.out];rintro e w5 ⟨rfl,g5⟩)|(go_at_call 97;refine (HP.out _ (HW.out.gr Gr.auto)).mono ?_;rintro e w6 ⟨rfl,g6⟩))
      have hG6:Gr w w6:=(hG4.drew.trans g5).trans g6;have hW6:=HW.out.gr hG6;obtain⟨ep,he⟩:=hW6.err;have HF:=Lib.hid (fun W (hW:IntW W)=>(Tryz.strconv_FormatInt_10 v HV.out.1 HV.out.2 W hW.pow));clear g5 g6 hG4;go_wp2_with (first|(go_at_call 99;refine (err_is_none _ _ _).mono ?_;rintro e w7 ⟨rfl,g7⟩)|(go_at_call 100;refine (HF.out _ (hW6.gr Gr.auto)).mono ?_;rintro e w8 ⟨rfl,k8,os8,rfl⟩));exact bodyPost_ret (v := .tuple #[.string ⟨(Lib.itoa v).toArray⟩,.int .i64 0]) (by simp[results,Tryz.results72,go_sem]) rfl ⟨post_ok (HXt.out (by simp) HIF.out),(hG6.trans g7).trans (grow_gr _ _ _)⟩
     | range =>
      have HP:Hid (∀W,IntW W→Calls Tryz.prog 97 #[.string T,.int .i64 bb,.int .i64 64] W fun e w'=>(∃(k:Int) (N:Nat) (ep:Addr),e = .returned (.tuple #[.int .i64 k,.iface 217 (.pointer (some ⟨N,0,none⟩))])∧w'.cell? ⟨N,2,none⟩=some (.iface 258 (.pointer (some ep)))∧w'.cell? ⟨2,0,none⟩=some (.iface 258 (.pointer (some ep))))∧Gr W w'):=fun W hW=>by
       obtain⟨ep,he⟩:=hW.err;refine (hYp W ep he).mono ?_;rintro e w' ⟨⟨k,N,rfl,hN⟩,g⟩;exact⟨⟨k,N,ep,rfl,hN,(g.use.1 _ _ (Lib.lt_of_cell he)).trans he⟩,g⟩
      clear hYp hYb hYn HY
      go_region_held3 (radC3 bg bb ds w1.heap.size) (first|exact⟨⟨c0,c1,c2⟩,hlt⟩|assumption|exact radC3.gr (by assumption) (by assumption)|go_keep) (first|(go_at_call 98;refine (replace_low D (by omega) _ (HW.out.gr Gr.auto)).mono ?_;rw[←HL.out];rintro e w5 ⟨rfl,g5⟩)|(go_at_call 97;refine (HP.out _ (HW.out.gr Gr.auto)).mono ?_;rintro e w6 ⟨⟨k,N,ep,rfl,hN,hE⟩,g6⟩))
      have hG6:Gr w w6:=(hG4.drew.trans g5).trans g6;clear g5 g6 hG4;go_wp2_with (go_at_call 99;refine (is_range N ep _ hN).mono ?_;rintro e w7 ⟨rfl,rfl⟩);exact bodyPost_ret (v := .tuple #[.string ⟨#[]⟩,.int .i64 8]) (by simp[results,Tryz.results72,go_sem]) rfl ⟨post_bad (HXt.out (by simp) HIF.out),hG6⟩
     | _=>exact absurd rfl hYn
  have e1:decide ((1:Int)<(D.size:Int))=false:=by simp;omega
  have HIF:Hid (¬(1<D.size∧(bs D)[0]?=some 48)):=Lib.hid (fun h3=>h1 h3.1);refine Reg.ty 3 ?_;refine Reg.ty 4 ?_;refine Reg.tl 5 hS3 ?_ (hy:=by intro w hSw;obtain⟨⟨q0,q1,q2⟩,ql⟩:=hSw;go_simp;try with_reducible rfl);refine Reg.on 6 ?_;go_simp;refine (in_tens _).mono ?_;rintro e w4 ⟨rfl,g4⟩;have hS4:=hS3.gr g4;refine⟨by first|exact hS4|exact fun _=>hS4|exact fun _ _=>hS4,?_⟩;refine Reg.pt ?_;refine Reg.ty 7 ?_;refine Reg.ty 8 ?_;refine Reg.ty 9 ?_;refine Reg.ty 10 ?_;refine Reg.ty 11 ?_;refine Reg.ty 12 ?_;refine Reg.ty 13 ?_;refine Reg.sk 14 ?_;refine Reg.sk 15 ?_;refine Reg.sk 16 ?_;refine Reg.ty 17 ?_;refine Reg.ty 18 ?_;refine Reg.done (by kernel_rfl) ?_ _;have hG4:Gr w w4:=(hG5.drew.trans g3).trans g4;clear g3 g4 hG5 c0 c1 c2 hlt hS2 hS3;obtain⟨⟨c0,c1,c2⟩,hlt⟩:=hS4;go_wp2_with fail;obtain⟨hYn,hYb,hYp⟩:=HY.out (by simp);cases Y with
  | ok v =>
   obtain⟨hv0,hv1⟩:=hYb v rfl;have HP:Hid (∀W,IntW W→Calls Tryz.prog 97 #[.string T,.int .i64 bb,.int .i64 64] W fun e w'=>e = .returned (.tuple #[.int .i64 v,.nilIface])∧Gr W w'):=fun W hW=>by
    obtain⟨ep,he⟩:=hW.err;exact hYp W ep he
   have HV:Hid (-9223372036854775808≤v∧v≤9223372036854775807):=⟨hv0,hv1⟩
   clear hYp hYb hYn HY hv0 hv1
   go_region_held3 (radC3 bg bb ds w1.heap.size) (first|exact⟨⟨c0,c1,c2⟩,hlt⟩|assumption|exact radC3.gr (by assumption) (by assumption)|go_keep) (first|(go_at_call 98;refine (replace_low D (by omega) _ (HW.out.gr Gr.auto)).mono ?_;rw[←HL.out];rintro e w5 ⟨rfl,g5⟩)|(go_at_call 97;refine (HP.out _ (HW.out.gr Gr.auto)).mono ?_;rintro e w6 ⟨rfl,g6⟩))
   have hG6:Gr w w6:=(hG4.drew.trans g5).trans g6;have hW6:=HW.out.gr hG6;obtain⟨ep,he⟩:=hW6.err;have HF:=Lib.hid (fun W (hW:IntW W)=>(Tryz.strconv_FormatInt_10 v HV.out.1 HV.out.2 W hW.pow));clear g5 g6 hG4;go_wp2_with (first|(go_at_call 99;refine (err_is_none _ _ _).mono ?_;rintro e w7 ⟨rfl,g7⟩)|(go_at_call 100;refine (HF.out _ (hW6.gr Gr.auto)).mono ?_;rintro e w8 ⟨rfl,k8,os8,rfl⟩));exact bodyPost_ret (v := .tuple #[.string ⟨(Lib.itoa v).toArray⟩,.int .i64 0]) (by simp[results,Tryz.results72,go_sem]) rfl ⟨post_ok (HXt.out (by simp) HIF.out),(hG6.trans g7).trans (grow_gr _ _ _)⟩
  | range =>
   have HP:Hid (∀W,IntW W→Calls Tryz.prog 97 #[.string T,.int .i64 bb,.int .i64 64] W fun e w'=>(∃(k:Int) (N:Nat) (ep:Addr),e = .returned (.tuple #[.int .i64 k,.iface 217 (.pointer (some ⟨N,0,none⟩))])∧w'.cell? ⟨N,2,none⟩=some (.iface 258 (.pointer (some ep)))∧w'.cell? ⟨2,0,none⟩=some (.iface 258 (.pointer (some ep))))∧Gr W w'):=fun W hW=>by
    obtain⟨ep,he⟩:=hW.err;refine (hYp W ep he).mono ?_;rintro e w' ⟨⟨k,N,rfl,hN⟩,g⟩;exact⟨⟨k,N,ep,rfl,hN,(g.use.1 _ _ (Lib.lt_of_cell he)).trans he⟩,g⟩
   clear hYp hYb hYn HY
   go_region_held3 (radC3 bg bb ds w1.heap.size) (first|exact⟨⟨c0,c1,c2⟩,hlt⟩|assumption|exact radC3.gr (by assumption) (by assumption)|go_keep) (first|(go_at_call 98;refine (replace_low D (by omega) _ (HW.out.gr Gr.auto)).mono ?_;rw[←HL.out];rintro e w5 ⟨rfl,g5⟩)|(go_at_call 97;refine (HP.out _ (HW.out.gr Gr.auto)).mono ?_;rintro e w6 ⟨⟨k,N,ep,rfl,hN,hE⟩,g6⟩))
   have hG6:Gr w w6:=(hG4.drew.trans g5).trans g6;clear g5 g6 hG4;go_wp2_with (go_at_call 99;refine (is_range N ep _ hN).mono ?_;rintro e w7 ⟨rfl,rfl⟩);exact bodyPost_ret (v := .tuple #[.string ⟨#[]⟩,.int .i64 8]) (by simp[results,Tryz.results72,go_sem]) rfl ⟨post_bad (HXt.out (by simp) HIF.out),hG6⟩
  | _=>exact absurd rfl hYn
end Go.Proofs.YtkplelejagpkmaaGreatDoor
namespace Go.Proofs.YtkplelejagpkmaaGreatDoor
open Go.RowKit Go.Shelf Go.Joins
attribute [local go_sem] Oper.semAt_some
set_option maxRecDepth 100000 in
theorem in_read_T5 (bg:ByteArray) (bb:Nat) (ds:ByteArray) (hbg:bg=⟨#[]⟩) (hbb:bb=10) (hds:ds=decD) (s:ByteArray) (hs:s.size≤20000000) (hrv:radOfV (bs s)=radV bg bb ds) (h0:0<s.size) (hc:(s[0]'h0).toNat=45) (D S:ByteArray) (hD:s.extract 1 s.size=D) (hS:s.extract 0 1=S) (r:Bool) (hr:∀w,Calls Tryz.prog 96 #[radV bg bb ds,.string D] w fun e w'=>e = .returned (.bool r)∧Gr w w')
    (L:ByteArray) (hL:L=⟨(Lib.replaceAll (bs D) [95] []).toArray⟩) (T:ByteArray) (hcat:S++L=T) (Y:Lib.NumEnd Int) (hY:r=true→Y≠Lib.NumEnd.syntax∧(∀v,Y = .ok v → -9223372036854775808≤v∧v≤9223372036854775807)∧∀w ep,w.cell? ⟨2,0,none⟩=some (.iface 258 (.pointer (some ep)))→Calls Tryz.prog 97 #[.string T,.int .i64 bb,.int .i64 64] w (ParsePost ep w Y))
    (X:Pl.Out Pl.Bs) (hXf:r=false→X = .bad 3 0) (hXz:1<D.size∧(bs D)[0]?=some 48→X = .bad 3 0) (hXt:r=true→¬(1<D.size∧(bs D)[0]?=some 48)→X=intY Y) (w:World) (hw:IntW w) :
    Calls Tryz.prog 72 #[.string s] w fun e w'=>IntPost X e∧Gr w w':=by
 have HW:=Lib.hid hw;have HRV:=Lib.hid hrv;have HR:=Lib.hid hr;have HY:=Lib.hid hY;have HL:=Lib.hid hL;have HXf:=Lib.hid hXf;have HXz:=Lib.hid hXz;have HXt:=Lib.hid hXt;have hDz:D.size≤20000000:=by rw[←hD];simp;omega
 have hSz:S.size≤1:=by rw[←hS];simp;omega
 have hne:¬s.toList=[]:=fun e=>by rw[Lib.toList_data]at e;have h2:=bs_length s;rw[show bs s=[] from e]at h2;simp at h2;omega
 have hemp:s.toList.isEmpty=false:=by simpa using hne
 have hp0:(0:Int)<(s.size:Int):=by omega
 have hp1:(1:Int)≤(s.size:Int):=by omega
 obtain⟨y1,y2⟩:=beqs (s[0]'h0).toNat 43 false (by simp;omega);obtain⟨y3,y4⟩:=beqs (s[0]'h0).toNat 45 true (by simpa using hc);have hLz:L.size≤D.size:=by
  have h1:=Pl.lowless_len (bs D);rw[bs_length]at h1;rw[hL];show (Pl.lowless (bs D)).toArray.size≤_
  simpa using h1
 have hnb:¬ 9223372036854775807<L.size:=by omega
 have hnb2:¬ 9223372036854775807<(S.size+L.size):=by omega
 have q:∀W,(Go.binOp .eql 163 (radV bg bb ds) tensV).run Tryz.prog W = .ok (.bool true) W:=fun _=>by subst hbg hbb hds;kernel_rfl
 have hb1:(bg.size:Int)≤(s.size:Int):=by rw[hbg,show (⟨#[]⟩:ByteArray).size=0 from rfl];omega
 have hb2:(0:Int)≤(bg.size:Int):=by omega
 have hB:s.extract bg.size s.size=s:=by
  rw[hbg,show (⟨#[]⟩:ByteArray).size=0 from rfl];have h5:bs (s.extract 0 s.size)=bs s:=by rw[bs_extract];rfl
  exact ByteArray.ext (Array.toList_inj.1 h5)
 clear hbg hbb hds;clear hw hrv hr hY hL hXf hXz hXt;go_enter Tryz.func72,Tryz.ntmps72;go_wp2_with (go_at_call 94;refine (in_of_all s _ ((HW.out.gr Gr.auto).rad)).mono ?_;rw[HRV.out];rintro e w1 ⟨rfl,g1⟩);obtain⟨W0,hW0⟩:∃W0,w1.alloc (.cells #[.string bg,.int .i64 bb,.string ds] 163)=W0:=⟨_,rfl⟩
 have hR0:radC3 bg bb ds w1.heap.size W0:=by rw[←hW0];exact⟨⟨by simp,by simp,by simp⟩,by simp⟩
 have hG0:Gr w W0:=by rw[←hW0];exact g1.alloc _
 rw[hW0];clear hW0 g1;obtain⟨⟨c0,c1,c2⟩,hlt⟩:=hR0
 go_quiet (fail)
 have hGq:Gr w (W0.drewN nq):=hG0.drewN _;go_wp2_with fail;have hS0:radC3 bg bb ds w1.heap.size (W0.drewN nq).drew:=⟨⟨c0,c1,c2⟩,hlt⟩
 refine Reg.begin' (W:=fun _=>true) (S:=radC3 bg bb ds w1.heap.size) (by kernel_rfl) ?_;refine Reg.tl 0 hS0 ?_ (hy:=by intro w hSw;obtain⟨⟨q0,q1,q2⟩,ql⟩:=hSw;go_simp;try with_reducible rfl);refine Reg.on 1 ?_;go_simp;refine (in_tens _).mono ?_;rintro e w2 ⟨rfl,g2⟩;have hS1:=hS0.gr g2;refine⟨by first|exact hS1|exact fun _=>hS1|exact fun _ _=>hS1,?_⟩;refine Reg.pt ?_;refine Reg.ty 2 ?_;refine Reg.ty 3 ?_;refine Reg.ty 4 ?_;refine Reg.ty 5 ?_;refine Reg.ty 6 ?_;refine Reg.ty 7 ?_;refine Reg.ty 8 ?_;refine Reg.ty 9 ?_;refine Reg.ty 10 ?_;refine Reg.ty 11 ?_;refine Reg.ty 12 ?_;refine Reg.ty 13 ?_;refine Reg.ty 14 ?_;refine Reg.ty 15 ?_;refine Reg.ty 16 ?_;refine Reg.done (by kernel_rfl) ?_ _;have hG2:Gr w w2:=hGq.drew.trans g2;clear g2 hG0 hGq c0 c1 c2 hlt hS0;obtain⟨⟨c0,c1,c2⟩,hlt⟩:=hS1;go_wp2_with fail
 go_quiet (fail)
 obtain⟨W2,hW2⟩:∃W2,w2.drewN nq=W2:=⟨_,rfl⟩
 have hG5:Gr w W2:=by rw[←hW2];exact hG2.drewN _
 have k0:W2.cell? ⟨w1.heap.size,0,none⟩=some (.string bg):=by rw[←hW2];exact c0
 have k1:W2.cell? ⟨w1.heap.size,1,none⟩=some (.int .i64 bb):=by rw[←hW2];exact c1
 have k2:W2.cell? ⟨w1.heap.size,2,none⟩=some (.string ds):=by rw[←hW2];exact c2
 have kl:w1.heap.size<W2.heap.size:=by rw[←hW2];exact hlt
 rw[hW2];clear c0 c1 c2 hlt hG2 hW2;obtain⟨c0,c1,c2,hlt⟩:W2.cell? ⟨w1.heap.size,0,none⟩=some (.string bg)∧W2.cell? ⟨w1.heap.size,1,none⟩=some (.int .i64 bb)∧W2.cell? ⟨w1.heap.size,2,none⟩=some (.string ds)∧w1.heap.size<W2.heap.size:=⟨k0,k1,k2,kl⟩
 clear k0 k1 k2 kl;go_wp2_with fail;have hS2:radC3 bg bb ds w1.heap.size W2.drew:=⟨⟨c0,c1,c2⟩,hlt⟩
 refine Reg.begin' (W:=fun _=>true) (S:=radC3 bg bb ds w1.heap.size) (by kernel_rfl) ?_;refine Reg.tl 0 hS2 ?_ (hy:=by intro w hSw;obtain⟨⟨q0,q1,q2⟩,ql⟩:=hSw;go_simp;try with_reducible rfl);refine Reg.ty 1 ?_;refine Reg.on 2 ?_;go_simp;refine (HR.out _).mono ?_;rintro e w3 ⟨rfl,g3⟩;have hS3:=hS2.gr g3;refine⟨by first|exact hS3|exact fun _=>hS3|exact fun _ _=>hS3,?_⟩;refine Reg.pt ?_;cases r with
 | false =>
  refine Reg.ty 3 ?_;refine Reg.ty 4 ?_;refine Reg.sk 5 ?_;refine Reg.sk 6 ?_;refine Reg.sk 7 ?_;refine Reg.sk 8 ?_;refine Reg.sk 9 ?_;refine Reg.sk 10 ?_;refine Reg.sk 11 ?_;refine Reg.sk 12 ?_;refine Reg.sk 13 ?_;refine Reg.sk 14 ?_;refine Reg.sk 15 ?_;refine Reg.sk 16 ?_;refine Reg.sk 17 ?_;refine Reg.ty 18 ?_;refine Reg.done (by kernel_rfl) ?_ _;have hG3:Gr w w3:=hG5.drew.trans g3;clear g3;go_wp2_with fail;exact bodyPost_ret (v := .tuple #[.string ⟨#[]⟩,.int .i64 3]) (by simp[results,Tryz.results72,go_sem]) rfl ⟨post_bad (HXf.out (by simp)),hG3⟩
 | true =>
  by_cases h1:1<D.size
  · have e1:decide ((1:Int)<(D.size:Int))=true:=by simp;omega
    have H1:=Lib.hid h1;have e0:0<D.size:=by omega
    have e2:(0:Int)<(D.size:Int):=by omega
    cases hz:((D[0]'e0).toNat==48) with
    | true =>
     obtain⟨z1,z2⟩:=beqs _ 48 _ hz;have HZ:Hid ((bs D)[0]?=some 48):=Lib.hid (by
      have h2:=idx_bs D 0 e0;simp only[List.drop_zero]at h2;rw[h2];simp only[List.getElem?_cons_zero,Option.some.injEq,←UInt8.toNat_inj]
      simpa using hz)
     clear hz;refine Reg.ty 3 ?_;refine Reg.ty 4 ?_;refine Reg.tl 5 hS3 ?_ (hy:=by intro w hSw;obtain⟨⟨q0,q1,q2⟩,ql⟩:=hSw;go_simp;try with_reducible rfl);refine Reg.on 6 ?_;go_simp;refine (in_tens _).mono ?_;rintro e w4 ⟨rfl,g4⟩;have hS4:=hS3.gr g4;refine⟨by first|exact hS4|exact fun _=>hS4|exact fun _ _=>hS4,?_⟩;refine Reg.pt ?_;refine Reg.ty 7 ?_;refine Reg.ty 8 ?_;refine Reg.ty 9 ?_;refine Reg.ty 10 ?_;refine Reg.ty 11 ?_;refine Reg.ty 12 ?_;refine Reg.ty 13 ?_;refine Reg.ty 14 ?_;refine Reg.ty 15 ?_;refine Reg.ty 16 ?_;refine Reg.ty 17 ?_;refine Reg.ty 18 ?_;refine Reg.done (by kernel_rfl) ?_ _;have hG4:Gr w w4:=(hG5.drew.trans g3).trans g4;clear g3 g4;go_wp2_with fail;exact bodyPost_ret (v := .tuple #[.string ⟨#[]⟩,.int .i64 3]) (by simp[results,Tryz.results72,go_sem]) rfl ⟨post_bad (HXz.out ⟨H1.out,HZ.out⟩),hG4⟩
    | false =>
     obtain⟨z1,z2⟩:=beqs _ 48 _ hz;have HIF:Hid (¬(1<D.size∧(bs D)[0]?=some 48)):=Lib.hid (by
      rintro⟨_,h3⟩;have h2:=idx_bs D 0 e0;simp only[List.drop_zero]at h2;rw[h2]at h3;simp only[List.getElem?_cons_zero,Option.some.injEq]at h3;rw[h3]at hz;simp at hz)
     clear hz;refine Reg.ty 3 ?_;refine Reg.ty 4 ?_;refine Reg.tl 5 hS3 ?_ (hy:=by intro w hSw;obtain⟨⟨q0,q1,q2⟩,ql⟩:=hSw;go_simp;try with_reducible rfl);refine Reg.on 6 ?_;go_simp;refine (in_tens _).mono ?_;rintro e w4 ⟨rfl,g4⟩;have hS4:=hS3.gr g4;refine⟨by first|exact hS4|exact fun _=>hS4|exact fun _ _=>hS4,?_⟩;refine Reg.pt ?_;refine Reg.ty 7 ?_;refine Reg.ty 8 ?_;refine Reg.ty 9 ?_;refine Reg.ty 10 ?_;refine Reg.ty 11 ?_;refine Reg.ty 12 ?_;refine Reg.ty 13 ?_;refine Reg.ty 14 ?_;refine Reg.ty 15 ?_;refine Reg.ty 16 ?_;refine Reg.ty 17 ?_;refine Reg.ty 18 ?_;refine Reg.done (by kernel_rfl) ?_ _;have hG4:Gr w w4:=(hG5.drew.trans g3).trans g4;clear g3 g4 hG5 c0 c1 c2 hlt hS2 hS3;obtain⟨⟨c0,c1,c2⟩,hlt⟩:=hS4;go_wp2_with fail;obtain⟨hYn,hYb,hYp⟩:=HY.out (by simp);cases Y with
     | ok v =>
      obtain⟨hv0,hv1⟩:=hYb v rfl;have HP:Hid (∀W,IntW W→Calls Tryz.prog 97 #[.string T,.int .i64 bb,.int .i64 64] W fun e w'=>e = .returned (.tuple #[.int .i64 v,.nilIface])∧Gr W w'):=fun W hW=>by
       obtain⟨ep,he⟩:=hW.err;exact hYp W ep he
      have HV:Hid (-9223372036854775808≤v∧v≤9223372036854775807):=⟨hv0,hv1⟩
      clear hYp hYb hYn HY hv0 hv1
      go_region_held3 (radC3 bg bb ds w1.heap.size) (first|exact⟨⟨c0,c1,c2⟩,hlt⟩|assumption|exact radC3.gr (by assumption) (by assumption)|go_keep) (first|(go_at_call 98;refine (replace_low D (by omega) _ (HW.out.gr Gr.auto)).mono ?_;rw[←HL.out];rintro e w5 ⟨rfl,g5⟩)|(go_at_call 97;refine (HP.out _ (HW.out.gr Gr.auto)).mono ?_;rintro e w6 ⟨rfl,g6⟩))
      have hG6:Gr w w6:=(hG4.drew.trans g5).trans g6;have hW6:=HW.out.gr hG6;obtain⟨ep,he⟩:=hW6.err;have HF:=Lib.hid (fun W (hW:IntW W)=>(Tryz.strconv_FormatInt_10 v HV.out.1 HV.out.2 W hW.pow));clear g5 g6 hG4;go_wp2_with (first|(go_at_call 99;refine (err_is_none _ _ _).mono ?_;rintro e w7 ⟨rfl,g7⟩)|(go_at_call 100;refine (HF.out _ (hW6.gr Gr.auto)).mono ?_;rintro e w8 ⟨rfl,k8,os8,rfl⟩));exact bodyPost_ret (v := .tuple #[.string ⟨(Lib.itoa v).toArray⟩,.int .i64 0]) (by simp[results,Tryz.results72,go_sem]) rfl ⟨post_ok (HXt.out (by simp) HIF.out),(hG6.trans g7).trans (grow_gr _ _ _)⟩
     | range =>
      have HP:Hid (∀W,IntW W→Calls Tryz.prog 97 #[.string T,.int .i64 bb,.int .i64 64] W fun e w'=>(∃(k:Int) (N:Nat) (ep:Addr),e = .returned (.tuple #[.int .i64 k,.iface 217 (.pointer (some ⟨N,0,none⟩))])∧w'.cell? ⟨N,2,none⟩=some (.iface 258 (.pointer (some ep)))∧w'.cell? ⟨2,0,none⟩=some (.iface 258 (.pointer (some ep))))∧Gr W w'):=fun W hW=>by
       obtain⟨ep,he⟩:=hW.err;refine (hYp W ep he).mono ?_;rintro e w' ⟨⟨k,N,rfl,hN⟩,g⟩;exact⟨⟨k,N,ep,rfl,hN,(g.use.1 _ _ (Lib.lt_of_cell he)).trans he⟩,g⟩
      clear hYp hYb hYn HY
      go_region_held3 (radC3 bg bb ds w1.heap.size) (first|exact⟨⟨c0,c1,c2⟩,hlt⟩|assumption|exact radC3.gr (by assumption) (by assumption)|go_keep) (first|(go_at_call 98;refine (replace_low D (by omega) _ (HW.out.gr Gr.auto)).mono ?_;rw[←HL.out];rintro e w5 ⟨rfl,g5⟩)|(go_at_call 97;refine (HP.out _ (HW.out.gr Gr.auto)).mono ?_;rintro e w6 ⟨⟨k,N,ep,rfl,hN,hE⟩,g6⟩))
      have hG6:Gr w w6:=(hG4.drew.trans g5).trans g6;clear g5 g6 hG4;go_wp2_with (go_at_call 99;refine (is_range N ep _ hN).mono ?_;rintro e w7 ⟨rfl,rfl⟩);exact bodyPost_ret (v := .tuple #[.string ⟨#[]⟩,.int .i64 8]) (by simp[results,Tryz.results72,go_sem]) rfl ⟨post_bad (HXt.out (by simp) HIF.out),hG6⟩
     | _=>exact absurd rfl hYn
  have e1:decide ((1:Int)<(D.size:Int))=false:=by simp;omega
  have HIF:Hid (¬(1<D.size∧(bs D)[0]?=some 48)):=Lib.hid (fun h3=>h1 h3.1);refine Reg.ty 3 ?_;refine Reg.ty 4 ?_;refine Reg.tl 5 hS3 ?_ (hy:=by intro w hSw;obtain⟨⟨q0,q1,q2⟩,ql⟩:=hSw;go_simp;try with_reducible rfl);refine Reg.on 6 ?_;go_simp;refine (in_tens _).mono ?_;rintro e w4 ⟨rfl,g4⟩;have hS4:=hS3.gr g4;refine⟨by first|exact hS4|exact fun _=>hS4|exact fun _ _=>hS4,?_⟩;refine Reg.pt ?_;refine Reg.ty 7 ?_;refine Reg.ty 8 ?_;refine Reg.ty 9 ?_;refine Reg.ty 10 ?_;refine Reg.ty 11 ?_;refine Reg.ty 12 ?_;refine Reg.ty 13 ?_;refine Reg.sk 14 ?_;refine Reg.sk 15 ?_;refine Reg.sk 16 ?_;refine Reg.ty 17 ?_;refine Reg.ty 18 ?_;refine Reg.done (by kernel_rfl) ?_ _;have hG4:Gr w w4:=(hG5.drew.trans g3).trans g4;clear g3 g4 hG5 c0 c1 c2 hlt hS2 hS3;obtain⟨⟨c0,c1,c2⟩,hlt⟩:=hS4;go_wp2_with fail;obtain⟨hYn,hYb,hYp⟩:=HY.out (by simp);cases Y with
  | ok v =>
   obtain⟨hv0,hv1⟩:=hYb v rfl;have HP:Hid (∀W,IntW W→Calls Tryz.prog 97 #[.string T,.int .i64 bb,.int .i64 64] W fun e w'=>e = .returned (.tuple #[.int .i64 v,.nilIface])∧Gr W w'):=fun W hW=>by
    obtain⟨ep,he⟩:=hW.err;exact hYp W ep he
   have HV:Hid (-9223372036854775808≤v∧v≤9223372036854775807):=⟨hv0,hv1⟩
   clear hYp hYb hYn HY hv0 hv1
   go_region_held3 (radC3 bg bb ds w1.heap.size) (first|exact⟨⟨c0,c1,c2⟩,hlt⟩|assumption|exact radC3.gr (by assumption) (by assumption)|go_keep) (first|(go_at_call 98;refine (replace_low D (by omega) _ (HW.out.gr Gr.auto)).mono ?_;rw[←HL.out];rintro e w5 ⟨rfl,g5⟩)|(go_at_call 97;refine (HP.out _ (HW.out.gr Gr.auto)).mono ?_;rintro e w6 ⟨rfl,g6⟩))
   have hG6:Gr w w6:=(hG4.drew.trans g5).trans g6;have hW6:=HW.out.gr hG6;obtain⟨ep,he⟩:=hW6.err;have HF:=Lib.hid (fun W (hW:IntW W)=>(Tryz.strconv_FormatInt_10 v HV.out.1 HV.out.2 W hW.pow));clear g5 g6 hG4;go_wp2_with (first|(go_at_call 99;refine (err_is_none _ _ _).mono ?_;rintro e w7 ⟨rfl,g7⟩)|(go_at_call 100;refine (HF.out _ (hW6.gr Gr.auto)).mono ?_;rintro e w8 ⟨rfl,k8,os8,rfl⟩));exact bodyPost_ret (v := .tuple #[.string ⟨(Lib.itoa v).toArray⟩,.int .i64 0]) (by simp[results,Tryz.results72,go_sem]) rfl ⟨post_ok (HXt.out (by simp) HIF.out),(hG6.trans g7).trans (grow_gr _ _ _)⟩
  | range =>
   have HP:Hid (∀W,IntW W→Calls Tryz.prog 97 #[.string T,.int .i64 bb,.int .i64 64] W fun e w'=>(∃(k:Int) (N:Nat) (ep:Addr),e = .returned (.tuple #[.int .i64 k,.iface 217 (.pointer (some ⟨N,0,none⟩))])∧w'.cell? ⟨N,2,none⟩=some (.iface 258 (.pointer (some ep)))∧w'.cell? ⟨2,0,none⟩=some (.iface 258 (.pointer (some ep))))∧Gr W w'):=fun W hW=>by
    obtain⟨ep,he⟩:=hW.err;refine (hYp W ep he).mono ?_;rintro e w' ⟨⟨k,N,rfl,hN⟩,g⟩;exact⟨⟨k,N,ep,rfl,hN,(g.use.1 _ _ (Lib.lt_of_cell he)).trans he⟩,g⟩
   clear hYp hYb hYn HY
   go_region_held3 (radC3 bg bb ds w1.heap.size) (first|exact⟨⟨c0,c1,c2⟩,hlt⟩|assumption|exact radC3.gr (by assumption) (by assumption)|go_keep) (first|(go_at_call 98;refine (replace_low D (by omega) _ (HW.out.gr Gr.auto)).mono ?_;rw[←HL.out];rintro e w5 ⟨rfl,g5⟩)|(go_at_call 97;refine (HP.out _ (HW.out.gr Gr.auto)).mono ?_;rintro e w6 ⟨⟨k,N,ep,rfl,hN,hE⟩,g6⟩))
   have hG6:Gr w w6:=(hG4.drew.trans g5).trans g6;clear g5 g6 hG4;go_wp2_with (go_at_call 99;refine (is_range N ep _ hN).mono ?_;rintro e w7 ⟨rfl,rfl⟩);exact bodyPost_ret (v := .tuple #[.string ⟨#[]⟩,.int .i64 8]) (by simp[results,Tryz.results72,go_sem]) rfl ⟨post_bad (HXt.out (by simp) HIF.out),hG6⟩
  | _=>exact absurd rfl hYn
end Go.Proofs.YtkplelejagpkmaaGreatDoor
