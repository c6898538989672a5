/-
  TlinesJoin answers true at every text; proved for every start at which the listed package variables hold what the program's text lays in them (the tied card).
-/
import Derived.Test.YtdgjgcepbkanhaaGreatDoorM41
import Derived.Test.YtdgjgcepbkanhaaGreatDoorM52
import Derived.Test.YtdgjgcepbkanhaaGreatDoorM56
import Derived.Test.YtdgjgcepbkanhaaGreatDoorCards
import Derived.Test.YtdgjgcepbkanhaaGreatDoorTie
import Derived.WalkKit
import Derived.ChangeMaps5
import Derived.ProofKit
import Derived.OpenShut
import Derived.LaidMore
import Derived.Lay
import Derived.Deep.DeepHandedRow
import Derived.SevenTiedAt
import Derived.Stop.Joined
set_option maxHeartbeats 16000000
set_option linter.all false
set_option linter.unusedVariables false
set_option linter.unusedSimpArgs false
namespace Go.Proofs.YtdgjgcepbkanhaaGreatDoor
open Go.RowKit Go.Shelf Go.Joins
attribute [local go_sem] Oper.semAt_some
variable {Tb:Nat→UInt8 × UInt8}
theorem AllPost.form {s:ByteArray} {w w':World} {X:Pl.Res (List Pl.It)} {e:Ending} (h:AllPost s w X e w') (hne:X ≠ .non):∃(a:Option Addr) (n c:Nat) (y z:Int),e = .returned (.tuple #[.slice a n c,.agg #[.int .i64 y,.int .i64 z]])∧Gr w w':=by
 cases X with
 | non=>exact absurd rfl hne
 | bad c p=>exact⟨_,_,_,_,_,h.1,h.2.2⟩
 | ok l =>
  obtain⟨v,xs,rfl,_,hr,_,g⟩:=h;obtain⟨a,c,rfl⟩:=row_slice hr;exact⟨_,_,_,_,_,rfl,g⟩
theorem bs_append (a b:ByteArray):bs (a++b)=bs a++bs b:=by simp[bs]
theorem suffix_ten (a:ByteArray) (b:Bool) (h:(match (bs a).getLast? with|some c=>c==10|none=>false)=b) (w:World) (hs:a.size≤20000000) :
    Calls Tryz.prog 19 #[.string a,.string ⟨#[10]⟩] w fun e w'=>e = .returned (.bool b)∧w=w':=by
 refine (Tryz.strings_HasSuffix a ⟨#[10]⟩ w (by omega)).mono ?_;rintro e w' ⟨rfl,rfl⟩;refine⟨ret_bool ?_,rfl⟩;rw[←h];show Lib.hasSuffix (bs a) [10]=_;rcases List.eq_nil_or_concat (bs a) with e|⟨l,c,e⟩
 · rw[e];rfl
 rw[e];simp only[Lib.hasSuffix,List.concat_eq_append,List.getLast?_append,List.getLast?_singleton,Option.some_or];show ([10]:List UInt8).reverse.isPrefixOf ((l++[c]).reverse)=(c==10)
 rw[List.reverse_append];show ((10:UInt8)==c && true)=(c==10)
 rw[Bool.and_true,Bool.beq_comm]
theorem fin_of {a:ByteArray} (h:(match (bs a).getLast? with|some c=>c==10|none=>false)=true):Pl.byteAt (bs a) ((bs a).length-1)=10:=by
 cases hl:(bs a).getLast? with
 | none=>rw[hl]at h;cases h
 | some c =>
  rw[hl]at h;have hc:c=10:=by simpa using h
  rw[List.getLast?_eq_getElem?]at hl;unfold Pl.byteAt;rw[hl,hc];rfl
theorem all2_at {α β : Type} {R : α → β → Prop} {l:List α} {m:List β} (h:Pl.All2 R l m):∀(i:Nat) (x : α),l[i]?=some x→∃y,m[i]?=some y∧R x y:=by
 induction h with
 | nil=>intro i x hx;simp at hx
 | cons h _ ih =>
  intro i x hx;cases i with
  | zero=>simp at hx;subst hx;exact⟨_,rfl,h⟩
  | succ i=>exact ih i x (by simpa using hx)
structure RowI (w:World) (base:Nat) (g:Nat) (l:List Pl.It):Prop where
 lt:g<w.heap.size
 at':∀(i:Nat) it,l[i]?=some it→∃(k s n:Sl),ItM w base it k.v s.v n.v∧∀(j:Nat) v,(ydC ⟨.ok it,k,s,n⟩)[j]?=some v→w.cell? ⟨g,i*9+j,none⟩=some v
theorem RowI.gr {w w':World} {base g:Nat} {l:List Pl.It} (h:RowI w base g l) (k:Gr w w'):RowI w' base g l :=
 ⟨Nat.lt_of_lt_of_le h.lt k.size,fun i it hi=>by
  obtain⟨a,b,c,d,e⟩:=h.at' i it hi;exact⟨a,b,c,d.gr k,fun j v hv=>(k.use.1 _ _ h.lt).trans (e j v hv)⟩⟩
theorem AllPost.rows {s:ByteArray} {w w':World} {l:List Pl.It} {e:Ending} (h:AllPost s w (.ok l) e w'):∃(a:Option Addr) (c:Nat),e = .returned (.tuple #[.slice a l.length c,f0])∧Gr w w'∧(l≠[]→∃g,a=some ⟨g,0,none⟩∧RowI w' w.heap.size g l):=by
 obtain⟨v,xs,rfl,hxs,hr,hm,g⟩:=h;have hlen:xs.length=l.length:=by have:=congrArg List.length hxs;simpa using this
 obtain⟨a,c,rfl⟩:=row_slice hr;rw[hlen]at hr ⊢;refine⟨a,c,rfl,g,fun hne=>?_⟩;have hpos:=List.length_pos_iff.2 hne;obtain⟨g0,c0,hv,_,_⟩:=hr.form hpos;have hlt:=(hr.lt g0 (by rw[hv];rfl)).2;have hc:=hr.cells (g:=g0) (by rw[hv];rfl);simp only[Value.slice.injEq]at hv;refine⟨g0,hv.1,hlt,fun i it hi=>?_⟩;have hil:=(List.getElem?_eq_some_iff.1 hi).1;obtain⟨x,hx⟩:∃x,xs[i]?=some x:=⟨_,List.getElem?_eq_getElem (by omega)⟩
 have hxo:=o_at hxs hx hi;obtain⟨xo,k,sv,n⟩:=x;dsimp only at hxo;subst hxo;refine⟨k,sv,n,hm _ (List.mem_of_getElem? hx) it rfl,fun j v hv=>hc _ _ ((flat9 xs (fine_of hxs) i _ hx j ?_).trans hv)⟩;have h9:=(List.getElem?_eq_some_iff.1 hv).1;rw[ydC_len _ ⟨it,rfl⟩]at h9;exact h9
structure JoinC (wr:World) (y:Pl.It) (B:Nat) (sh:Nat) (W:World):Prop where
 gr:Gr wr W
 at':∃(ax bx:Nat) (kv sv nv:Value) (va vb root:Int) (base:Nat),W.heap[B]?=some (itO y.kind ax bx kv sv va vb nv root)∧y.a=sh+ax∧y.b=sh+bx∧RowC W base 9 1 kv y.ws.length (keysV (keyWords y.ws))
structure JoinS (B g i:Nat) (k:Nat) (a b ya yb:Int) (kv nv:Value) (w:World):Prop where
 k8:w.cell? ⟨B,0,none⟩=some (.int .u8 k)
 s1:w.cell? ⟨B,1,none⟩=some (.int .i64 a)
 s2:w.cell? ⟨B,2,none⟩=some (.int .i64 b)
 s3:w.cell? ⟨B,3,none⟩=some kv
 l8:B<w.heap.size
 lk:w.cell? ⟨g,i*9,none⟩=some (.int .u8 k)
 l1:w.cell? ⟨g,i*9+1,none⟩=some (.int .i64 ya)
 l2:w.cell? ⟨g,i*9+2,none⟩=some (.int .i64 yb)
 l3:w.cell? ⟨g,i*9+3,none⟩=some nv
 lg:g<w.heap.size
theorem JoinS.gr {B g i k:Nat} {a b ya yb:Int} {kv nv:Value} {w w':World} (h:JoinS B g i k a b ya yb kv nv w) (q:Gr w w'):JoinS B g i k a b ya yb kv nv w' :=
 ⟨(q.use.1 _ _ h.l8).trans h.k8,(q.use.1 _ _ h.l8).trans h.s1,(q.use.1 _ _ h.l8).trans h.s2,(q.use.1 _ _ h.l8).trans h.s3,Nat.lt_of_lt_of_le h.l8 q.size,(q.use.1 _ _ h.lg).trans h.lk,(q.use.1 _ _ h.lg).trans h.l1,(q.use.1 _ _ h.lg).trans h.l2,(q.use.1 _ _ h.lg).trans h.l3,Nat.lt_of_lt_of_le h.lg q.size⟩
set_option maxRecDepth 100000 in
theorem law_join (w:World) (hw:RW Tb w) (a b:ByteArray):Calls Tryz.prog 5 #[.string a,.string b] w fun e w'=>e = .returned (.bool true)∧Gr w w':=by
 have HW:=Lib.hid hw;clear hw;by_cases h:1000<a.size∨1000<b.size
 · have d1:(decide ((1000:Int)<(a.size:Int))=true)∨(decide ((1000:Int)<(a.size:Int))=false∧decide ((1000:Int)<(b.size:Int))=true):=by simp;omega
   have H:=Lib.hid (lb_lives w HW.out);clear h;rcases d1 with d1|⟨d1,d2⟩
   all_goals
    go_enter Tryz.func5,Tryz.ntmps5;go_wp2_with fail;refine H.out.mono ?_;rintro e w1 ⟨rfl,g1⟩;go_wp2_with fail;exact bodyPost_ret (v := .bool true) (by simp[results,Tryz.results5,go_sem]) rfl ⟨rfl,g1⟩
 have d1:decide ((1000:Int)<(a.size:Int))=false:=by simp;omega
 have d2:decide ((1000:Int)<(b.size:Int))=false:=by simp;omega
 have hsa:a.size≤1000:=by omega
 have hsb:b.size≤1000:=by omega
 clear h;obtain⟨XA,hXA⟩:∃X,Pl.allS (Pl.envT Tb) (bs a)=X:=⟨_,rfl⟩
 obtain⟨XB,hXB⟩:∃X,Pl.allS (Pl.envT Tb) (bs b)=X:=⟨_,rfl⟩
 have HAA:=Lib.hid (Pl.allS_ok (Pl.envT_ok Tb) (bs a) (by rw[bs_length];omega));have HAB:=Lib.hid (Pl.allS_ok (Pl.envT_ok Tb) (bs b) (by rw[bs_length];omega));rw[hXA]at HAA;rw[hXB]at HAB;have HRA:=Lib.hid (fun W (hW:RW Tb W)=>tl_All Tb a (by omega) W hW XA hXA);have HRB:=Lib.hid (fun W (hW:RW Tb W)=>tl_All Tb b (by omega) W hW XB hXB);have HXA:=Lib.hid hXA;have HXB:=Lib.hid hXB;clear hXA hXB;go_enter Tryz.func5,Tryz.ntmps5;go_wp2_with fail;refine (HRA.out _ HW.out).mono ?_;cases XA with
 | non=>exact absurd rfl HAA.out.1
 | bad c p =>
  rintro e w1 ⟨rfl,hc,g1⟩;have hc':¬(c:Int)=0:=by omega
  have HG:=Lib.hid g1;clear g1;go_wp2_with fail;refine (HRB.out _ (HW.out.gr (HG.out.alloc _))).mono ?_;intro e w2 hp2;obtain⟨ob,nb,cb,yb,zb,rfl,g2⟩:=hp2.form HAB.out.1;obtain⟨h0',h1',hf',hl'⟩:=(FX.new w1 (.int .i64 c) (.int .i64 p) 31).gr g2;have HG2:=Lib.hid ((HG.out.alloc (.cells #[.int .i64 c,.int .i64 p] 31)).trans g2);clear hp2 g2;go_wp2_with fail;refine (lb_lives _ (HW.out.gr (HG2.out.alloc _))).mono ?_;rintro e w3 ⟨rfl,g3⟩;go_wp2_with fail;exact bodyPost_ret (v := .bool true) (by simp[results,Tryz.results5,go_sem]) rfl ⟨rfl,(HG2.out.alloc _).trans g3⟩
 | ok l =>
  intro e w1 hp1;obtain⟨oa,ca,rfl,g1,hrowA⟩:=hp1.rows;have HG:=Lib.hid g1;have HRW:=Lib.hid hrowA;clear hp1 g1 hrowA;have htl:=Pl.tiles_len (Pl.envT_ok Tb) (bs a) (by rw[bs_length];omega) 0 l (HAA.out.2.2 l rfl);rw[bs_length]at htl;have HL:=Lib.hid htl;clear htl;obtain⟨fin,hfin⟩:∃f:Bool,(a.toList.isEmpty || (match (bs a).getLast? with|some c=>c==10|none=>false))=f:=⟨_,rfl⟩
  have HF:=Lib.hid hfin;clear hfin;go_wp2_with fail;refine (HRB.out _ (HW.out.gr (HG.out.alloc _))).mono ?_;intro e w2 hp2;obtain⟨ob,nb,cb,yb,zb,rfl,g2⟩:=hp2.form HAB.out.1;have HP2:=Lib.hid hp2;have HGB:=Lib.hid g2;obtain⟨h0',h1',hf',hl'⟩:=(FX.new w1 (.int .i64 0) (.int .i64 0) 31).gr g2;have HG2:=Lib.hid ((HG.out.alloc (.cells #[.int .i64 0,.int .i64 0] 31)).trans g2);clear hp2 g2
  go_upto_region 5 with fail
  go_cut [44] (fun s44 wx=>s44 = .bool (!fin)∧(w2.alloc (.cells #[.int .i64 yb,.int .i64 zb] 31))=wx)
  case first =>
   by_cases hz:a.toList.isEmpty=true
   · have hft:fin=true:=by rw[←HF.out,hz];rfl
     subst hft;go_wp2_with fail
     go_meet
     exact⟨rfl,rfl⟩
   have hz':a.toList.isEmpty=false:=by simpa using hz
   have hft:(match (bs a).getLast? with|some c=>c==10|none=>false)=fin:=by have:=HF.out;rw[hz',Bool.false_or]at this;exact this
   have HS:=Lib.hid (fun W=>suffix_ten a fin hft W (by omega));clear hft;go_wp2_with fail;refine (HS.out _).mono ?_;rintro e w3 ⟨rfl,rfl⟩;go_wp2_with fail
   go_meet
   exact⟨rfl,rfl⟩
  case rest =>
   obtain⟨rfl,rfl⟩:=hcut;cases fin with
   | false =>
    go_wp2_with fail;refine (lb_lives _ (HW.out.gr (HG2.out.alloc _))).mono ?_;rintro e w3 ⟨rfl,g3⟩;go_wp2_with fail;exact bodyPost_ret (v := .bool true) (by simp[results,Tryz.results5,go_sem]) rfl ⟨rfl,(HG2.out.alloc _).trans g3⟩
   | true =>
    have hfin:bs a=[]∨Pl.byteAt (bs a) ((bs a).length-1)=10:=by
     have h:=HF.out;by_cases hz:a.toList.isEmpty=true
     · left;have h2:a.toList=bs a:=Lib.toList_data a;rw[←h2];simpa using hz
     right;rw[show a.toList.isEmpty=false by simpa using hz,Bool.false_or]at h;exact fin_of h
    have hj:=Pl.all_join (Pl.envT_ok Tb) (Pl.envT_end Tb) (a:=bs a) (b:=bs b) (by rw[bs_length];omega) (by rw[bs_length];omega) hfin l HXA.out;rw[←bs_append,bs_length]at hj;have HJ:=Lib.hid hj;clear hj hfin;have hsc:(a++b).size≤20000000:=by simp;omega
    obtain⟨XC,hXC⟩:∃X,Pl.allS (Pl.envT Tb) (bs (a++b))=X:=⟨_,rfl⟩
    have HRC:=Lib.hid (fun W (hW:RW Tb W)=>tl_All Tb (a++b) hsc W hW XC hXC);rw[hXC]at HJ;have HXC:=Lib.hid hXC;clear hXC hsc;go_wp2_with fail;refine (HRC.out _ (HW.out.gr (HG2.out.alloc _))).mono ?_;cases XB with
    | non=>exact absurd rfl HAB.out.1
    | bad c p =>
     have hc1:=HJ.out.1 c p HXB.out;subst hc1;have h2:=HP2.out;simp only[AllPost,fv]at h2;simp at h2;obtain⟨⟨⟨rfl,rfl,rfl⟩,rfl,rfl⟩,hcne,_⟩:=h2;rintro e w3 ⟨rfl,_,g3⟩;have hpb:=(HAB.out.2.1 c p rfl).1;rw[bs_length]at hpb;have hc':¬(c:Int)=0:=by omega
     have wp1:IntKind.i64.wrap ((p:Int)+(a.size:Int))=(p:Int)+(a.size:Int):=IntWalk.i64_in _ ⟨by omega,by omega⟩;have e6:(((a.size+p:Nat):Int)==(p:Int)+(a.size:Int))=true:=by simp;omega
     obtain⟨f0',f1',ff',fl'⟩:=(FX.new w2 (.int .i64 c) (.int .i64 p) 31).gr g3;have HG3:=Lib.hid ((HG2.out.alloc (.cells #[.int .i64 c,.int .i64 p] 31)).trans g3);clear g3;go_wp2_with fail;refine (lb_lives _ (HW.out.gr (HG3.out.alloc _))).mono ?_;rintro e w4 ⟨rfl,g4⟩;go_wp2_with fail;exact bodyPost_ret (v := .bool true) (by simp[results,Tryz.results5,go_sem]) rfl ⟨rfl,(HG3.out.alloc _).trans g4⟩
    | ok m =>
     obtain⟨l',m',hc1,hA1,hA2⟩:=HJ.out.2 m HXB.out;subst hc1;obtain⟨ob',cb',he,_,hrowB⟩:=HP2.out.rows;simp at he;obtain⟨⟨rfl,rfl,rfl⟩,rfl,rfl⟩:=he;have HRB2:=Lib.hid hrowB;have htm:=Pl.tiles_len (Pl.envT_ok Tb) (bs b) (by rw[bs_length];omega) 0 m (HAB.out.2.2 m rfl);rw[bs_length]at htm;have htc:=Pl.tiles_wlen (Pl.envT_ok Tb) (bs (a++b)) 0 (l'++m') ((Pl.allS_ok (Pl.envT_ok Tb) (bs (a++b)) (by rw[bs_length];simp;omega)).2.2 _ HXC.out);have hl1:=Pl.All2.len hA1;have hl2:=Pl.All2.len hA2;have HWL:=Lib.hid htc;have htb:=Pl.tiles_in (Pl.envT_ok Tb) (bs (a++b)) (by rw[bs_length];simp;omega) 0 (l'++m') ((Pl.allS_ok (Pl.envT_ok Tb) (bs (a++b)) (by rw[bs_length];simp;omega)).2.2 _ HXC.out);rw[bs_length,show (a++b).size=a.size+b.size by simp]at htb;have HIB:=Lib.hid htb;clear htb;have HB1:=Lib.hid hA1;have HB2:=Lib.hid hA2;have HL1:=Lib.hid hl1;have HL2:=Lib.hid hl2;obtain⟨L,hL⟩:∃L,l.length=L:=⟨_,rfl⟩
     obtain⟨M,hM⟩:∃M,m.length=M:=⟨_,rfl⟩
     obtain⟨N,hN⟩:∃N,(l'++m').length=N:=⟨_,rfl⟩
     have hNN:N=L+M:=by rw[←hN,←hL,←hM,List.length_append,←hl1,←hl2]
     have hLs:=HL.out;have hLb:L≤1000:=by omega
     have hMb:M≤1000:=by omega
     clear hrowB htc hA1 hA2 hl1 hl2 htm hLs;have HHL:=Lib.hid hL;have HHM:=Lib.hid hM;have HHN:=Lib.hid hN;have HNN:=Lib.hid hNN;intro e w3 hp3;obtain⟨oc,cc,rfl,g3,hrowC⟩:=hp3.rows;obtain⟨f0',f1',ff',fl'⟩:=(FX.new w2 (.int .i64 0) (.int .i64 0) 31).gr g3;have HRC2:=Lib.hid hrowC;rw[hN];rw[hM,hL];clear hp3 hrowC;have wS:IntKind.i64.wrap ((L:Int)+(M:Int))=(L:Int)+(M:Int):=IntWalk.i64_in _ ⟨by omega,by omega⟩;have e5:(((N:Nat):Int) != (L:Int)+(M:Int))=false:=by simp;omega
     clear hL hM hN hNN;go_wp2_with fail;obtain⟨WW,hWW⟩:∃W,w3.alloc (.cells #[.int .i64 0,.int .i64 0] 31)=W:=⟨_,rfl⟩
     rw[hWW];have gW:Gr w3 WW:=by rw[←hWW];exact (Gr.refl _).alloc _
     have HGW:=Lib.hid gW;have HG3:=Lib.hid g3;clear hWW gW g3 wS e5
     go_loopw [11] (fun v11 wr=>∃i:Nat,v11 = .int .i64 i∧i≤N∧Gr WW wr) (fun v11 _=>N-(intOf v11).toNat)
     case atStart=>exact⟨0,rfl,by omega,Gr.refl _⟩
     case round =>
      obtain⟨i,rfl,hi,hg⟩:=hrel;by_cases hiN:i<N
      · have d3:decide ((i:Int)<(N:Int))=true:=by simp;omega
        have d3n:decide (i<N)=true:=by simp;omega
        obtain⟨y,hy⟩:∃y,(l'++m')[i]?=some y:=⟨_,List.getElem?_eq_getElem (by rw[HHN.out];exact hiN)⟩
        obtain⟨gc,rfl,hrc⟩:=HRC2.out (fun e=>by have:=HHN.out;rw[e]at this;simp at this;omega);have hg3:Gr w3 wr:=HGW.out.trans hg;obtain⟨kc,sc,nc,hmy,hcy⟩:=(hrc.gr hg3).at' i y hy;have hlg:=(hrc.gr hg3).lt;have q0:wr.cell? ⟨gc,i*9,none⟩=some (.int .u8 y.kind):=hcy 0 _ rfl;have q1:wr.cell? ⟨gc,i*9+1,none⟩=some (.int .i64 y.a):=hcy 1 _ rfl;have q2:wr.cell? ⟨gc,i*9+2,none⟩=some (.int .i64 y.b):=hcy 2 _ rfl;have q3:wr.cell? ⟨gc,i*9+3,none⟩=some kc.v:=hcy 3 _ rfl;have hyb0:y.a≤2000∧y.b≤2000:=by have:=HIB.out i y hy;omega
        have HYB:=Lib.hid hyb0;have HMY:=Lib.hid hmy;have HY:=Lib.hid hy;have i1:(0:Int)≤(i:Int):=by omega
        have i2:(i:Int)<(N:Int):=by omega
        have wi:IntKind.i64.wrap ((i:Int)+1)=(i:Int)+1:=IntWalk.i64_in _ ⟨by omega,by have:=HNN.out;omega⟩;have hb2:Gr w2 wr:=(((Gr.refl w2).alloc _).trans HG3.out).trans hg3;have hb1:Gr w1 wr:=((Gr.refl w1).alloc _).trans (HGB.out.trans hb2);clear hmy hcy hrc hy
        go_upto_if 97 with fail
        go_cut [13] (fun s13 W=>∃sh:Nat,s13 = .int .i64 sh∧sh≤a.size∧JoinC wr y wr.heap.size sh W)
        case first =>
         by_cases hiL:i<L
         · have d4:decide ((i:Int)<(L:Int))=true:=by simp;omega
           have d4n:decide (i<L)=true:=by simp;omega
           obtain⟨x,hx⟩:∃x,l[i]?=some x:=⟨_,List.getElem?_eq_getElem (by have:=HHL.out;omega)⟩
           obtain⟨y',hy',hxy⟩:=all2_at HB1.out i x hx;have hyy:y'=y:=by
            have h1:=HY.out;rw[List.getElem?_append_left (by have:=List.getElem?_eq_some_iff.1 hy';exact this.1),hy']at h1;exact Option.some.inj h1
           subst hyy;obtain⟨ga,rfl,hra⟩:=HRW.out (fun e=>by rw[e]at hx;simp at hx);obtain⟨kx,sx,nx,hmx,hcx⟩:=(hra.gr hb1).at' i x hx;have r0:wr.cell? ⟨ga,i*9,none⟩=some (.int .u8 x.kind):=hcx 0 _ rfl;have r1:wr.cell? ⟨ga,i*9+1,none⟩=some (.int .i64 x.a):=hcx 1 _ rfl;have r2:wr.cell? ⟨ga,i*9+2,none⟩=some (.int .i64 x.b):=hcx 2 _ rfl;have r3:wr.cell? ⟨ga,i*9+3,none⟩=some kx.v:=hcx 3 _ rfl;have r4:wr.cell? ⟨ga,i*9+4,none⟩=some sx.v:=hcx 4 _ rfl;have r5:wr.cell? ⟨ga,i*9+5,none⟩=some (.int .i64 x.va):=hcx 5 _ rfl;have r6:wr.cell? ⟨ga,i*9+6,none⟩=some (.int .i64 x.vb):=hcx 6 _ rfl;have r7:wr.cell? ⟨ga,i*9+7,none⟩=some nx.v:=hcx 7 _ rfl;have r8:wr.cell? ⟨ga,i*9+8,none⟩=some (.int .i64 x.root):=hcx 8 _ rfl;have i3:(i:Int)<(L:Int):=by omega
           have hra':=(hra.gr hb1).lt;have HMX:=Lib.hid hmx;have HXY:=Lib.hid hxy;clear hmx hcx hxy hra;go_wp2_with fail
           go_meet
           exact⟨0,rfl,by omega,(Gr.refl wr).alloc _,x.a,x.b,kx.v,sx.v,nx.v,x.va,x.vb,x.root,_,by
            rw[heap_alloc_new,HXY.out.1],by rw[HXY.out.2.1],by rw[HXY.out.2.2.1],by
            have h1:keyWords y'.ws=keyWords x.ws:=HXY.out.2.2.2;have h2:y'.ws.length=x.ws.length:=by have:=congrArg List.length h1;simpa [keyWords]using this
            rw[h1,h2];exact HMX.out.k.of_block fun k e=>((Gr.refl wr).alloc _).block (HMX.out.k.lt k e).2⟩
         have d4:decide ((i:Int)<(L:Int))=false:=by simp;omega
         have d4n:decide (i<L)=false:=by simp;omega
         obtain⟨j,rfl⟩:∃j,i=L+j:=⟨i-L,by omega⟩
         have hjM:j<M:=by have:=HNN.out;omega
         obtain⟨x,hx⟩:∃x,m[j]?=some x:=⟨_,List.getElem?_eq_getElem (by have:=HHM.out;omega)⟩
         obtain⟨y',hy',hxy⟩:=all2_at HB2.out j x hx;have hyy:y'=y:=by
          have h1:=HY.out;have h3:=HL1.out;have h4:=HHL.out;rw[List.getElem?_append_right (by omega),show L+j-l'.length=j by omega,hy']at h1;exact Option.some.inj h1
         subst hyy;obtain⟨ga,rfl,hra⟩:=HRB2.out (fun e=>by rw[e]at hx;simp at hx);obtain⟨kx,sx,nx,hmx,hcx⟩:=(hra.gr hb2).at' j x hx;have r0:wr.cell? ⟨ga,j*9,none⟩=some (.int .u8 x.kind):=hcx 0 _ rfl;have r1:wr.cell? ⟨ga,j*9+1,none⟩=some (.int .i64 x.a):=hcx 1 _ rfl;have r2:wr.cell? ⟨ga,j*9+2,none⟩=some (.int .i64 x.b):=hcx 2 _ rfl;have r3:wr.cell? ⟨ga,j*9+3,none⟩=some kx.v:=hcx 3 _ rfl;have r4:wr.cell? ⟨ga,j*9+4,none⟩=some sx.v:=hcx 4 _ rfl;have r5:wr.cell? ⟨ga,j*9+5,none⟩=some (.int .i64 x.va):=hcx 5 _ rfl;have r6:wr.cell? ⟨ga,j*9+6,none⟩=some (.int .i64 x.vb):=hcx 6 _ rfl;have r7:wr.cell? ⟨ga,j*9+7,none⟩=some nx.v:=hcx 7 _ rfl;have r8:wr.cell? ⟨ga,j*9+8,none⟩=some (.int .i64 x.root):=hcx 8 _ rfl;have wj:IntKind.i64.wrap (((L+j:Nat):Int)-(L:Int))=(j:Int):=by rw[IntWalk.i64_in _ ⟨by omega,by omega⟩];omega
         have wj2:IntKind.i64.wrap ((L:Int)+(j:Int)-(L:Int))=(j:Int):=by rw[IntWalk.i64_in _ ⟨by omega,by omega⟩];omega
         have i3:(0:Int)≤(j:Int):=by omega
         have i4:(j:Int)<(M:Int):=by omega
         have hra':=(hra.gr hb2).lt;have HMX:=Lib.hid hmx;have HXY:=Lib.hid hxy;clear hmx hcx hxy hra;go_wp2_with fail
         go_meet
         exact⟨a.size,rfl,by omega,(Gr.refl wr).alloc _,x.a,x.b,kx.v,sx.v,nx.v,x.va,x.vb,x.root,_,by
          rw[heap_alloc_new,HXY.out.1],by rw[HXY.out.2.1],by rw[HXY.out.2.2.1],by
          have h1:keyWords y'.ws=keyWords x.ws:=HXY.out.2.2.2;have h2:y'.ws.length=x.ws.length:=by have:=congrArg List.length h1;simpa [keyWords]using this
          rw[h1,h2];exact HMX.out.k.of_block fun k e=>((Gr.refl wr).alloc _).block (HMX.out.k.lt k e).2⟩
        case rest =>
         obtain⟨sh,rfl,hsh,hjc⟩:=hcut;obtain⟨gJ,ax,bx,kv,sv,nv,va,vb,root,bse,hBx,hya,hyb,hkx⟩:=hjc;have HKX:=Lib.hid hkx;obtain⟨⟨j0,j1,j2,j3,j4,j5,j6,j7,j8⟩,jfz,jlt⟩:=itO_facts hBx;have hS0:JoinS wr.heap.size gc i y.kind ax bx y.a y.b kv kc.v wc :=
          ⟨j0,j1,j2,j3,jlt,(gJ.use.1 _ _ hlg).trans q0,(gJ.use.1 _ _ hlg).trans q1,(gJ.use.1 _ _ hlg).trans q2,(gJ.use.1 _ _ hlg).trans q3,Nat.lt_of_lt_of_le hlg gJ.size⟩
         have hS:JoinS wr.heap.size gc i y.kind ax bx y.a y.b kv kc.v wc.drew:=hS0.gr (Gr.refl _).drew;have HGJ:=Lib.hid gJ;have hwl:=HWL.out i y HY.out;rw[bs_length]at hwl;have hsab:(a++b).size≤2000:=by simp;omega
         have wa:IntKind.i64.wrap ((ax:Int)+(sh:Int))=(y.a:Int):=by
          have:=HYB.out;rw[IntWalk.i64_in _ ⟨by omega,by omega⟩];omega
         have wb:IntKind.i64.wrap ((bx:Int)+(sh:Int))=(y.b:Int):=by
          have:=HYB.out;rw[IntWalk.i64_in _ ⟨by omega,by omega⟩];omega
         clear j0 j1 j2 j3 j4 j5 j6 j7 j8 jfz jlt gJ hBx q0 q1 q2 q3 hkx hya hyb;go_wp2_with fail;refine Reg.begin' (W:=fun _=>true) (S:=JoinS wr.heap.size gc i y.kind ax bx y.a y.b kv kc.v) (by kernel_rfl) ?_;refine Reg.ty 0 ?_;refine Reg.ty 1 ?_;refine Reg.ty 2 ?_;refine Reg.ty 3 ?_;refine Reg.tl 4 hS ?_ (hy:=by intro w hSw;obtain⟨k8,s1,s2,s3,l8,lk,l1,l2,l3,lg⟩:=hSw;go_simp;try with_reducible rfl);refine Reg.ty 5 ?_;refine Reg.tl 6 hS ?_ (hy:=by intro w hSw;obtain⟨k8,s1,s2,s3,l8,lk,l1,l2,l3,lg⟩:=hSw;go_simp;try with_reducible rfl);refine Reg.ty 7 ?_;refine Reg.ty 8 ?_;refine Reg.ty 9 ?_;refine Reg.ty 10 ?_;refine Reg.ty 11 ?_;refine Reg.ty 12 ?_;refine Reg.ty 13 ?_;refine Reg.tl 14 hS ?_ (hy:=by intro w hSw;obtain⟨k8,s1,s2,s3,l8,lk,l1,l2,l3,lg⟩:=hSw;go_simp;try with_reducible rfl);refine Reg.ty 15 ?_;refine Reg.ty 16 ?_;refine Reg.tl 17 hS ?_ (hy:=by intro w hSw;obtain⟨k8,s1,s2,s3,l8,lk,l1,l2,l3,lg⟩:=hSw;go_simp;try with_reducible rfl);refine Reg.ty 18 ?_;refine Reg.ty 19 ?_;refine Reg.ty 20 ?_;refine Reg.ty 21 ?_;refine Reg.ty 22 ?_;refine Reg.ty 23 ?_;refine Reg.ty 24 ?_;refine Reg.ty 25 ?_;refine Reg.ty 26 ?_;refine Reg.ty 27 ?_;refine Reg.tl 28 hS ?_ (hy:=by intro w hSw;obtain⟨k8,s1,s2,s3,l8,lk,l1,l2,l3,lg⟩:=hSw;go_simp;try with_reducible rfl);refine Reg.ty 29 ?_;refine Reg.ty 30 ?_;refine Reg.tl 31 hS ?_ (hy:=by intro w hSw;obtain⟨k8,s1,s2,s3,l8,lk,l1,l2,l3,lg⟩:=hSw;go_simp;try with_reducible rfl);refine Reg.ty 32 ?_;refine Reg.ty 33 ?_;refine Reg.ty 34 ?_;refine Reg.ty 35 ?_;refine Reg.ty 36 ?_;refine Reg.ty 37 ?_;refine Reg.ty 38 ?_;refine Reg.ty 39 ?_;refine Reg.ty 40 ?_;refine Reg.ty 41 ?_;refine Reg.tl 42 hS ?_ (hy:=by intro w hSw;obtain⟨k8,s1,s2,s3,l8,lk,l1,l2,l3,lg⟩:=hSw;go_simp;try with_reducible rfl);refine Reg.ty 43 ?_;refine Reg.ty 44 ?_;refine Reg.tl 45 hS ?_ (hy:=by intro w hSw;obtain⟨k8,s1,s2,s3,l8,lk,l1,l2,l3,lg⟩:=hSw;go_simp;try with_reducible rfl);refine Reg.on 46 ?_;go_simp;refine (la_sameK wc.drew (n:=y.ws.length) (ws:=keyWords y.ws) (by simp[keyWords]) (by
          have h1:=HMY.out.k.of_block fun k e=>((HGJ.out).drew).block (HMY.out.k.lt k e).2
          exact h1) (HKX.out.of_block fun k e=>rfl) (by omega)).mono ?_
         rintro e w4 ⟨rfl,g4⟩;have hS4:=hS.gr g4;refine⟨by first|exact hS4|exact fun _=>hS4|exact fun _ _=>hS4,?_⟩;refine Reg.pt ?_;refine Reg.ty 47 ?_;refine Reg.ty 48 ?_;refine Reg.done (by kernel_rfl) ?_ _;have gR:=hg.trans (HGJ.out.drew.trans g4);clear hS hS0 hS4 g4;go_wp2_with fail
         go_roundw
         case rel=>exact⟨i+1,by go_num,by omega,gR⟩
         case measure=>simp[intOf];omega
      have d3:decide ((i:Int)<(N:Int))=false:=by simp;omega
      have d3n:decide (i<N)=false:=by simp;omega
      have hg2:=Lib.hid ((HG2.out.alloc (.cells #[.int .i64 0,.int .i64 0] 31)).trans (HG3.out.trans (HGW.out.trans hg)));clear hg;go_wp2_with fail;refine (lb_lives _ (HW.out.gr hg2.out)).mono ?_;rintro e w4 ⟨rfl,g4⟩;have hg3:=hg2.out.trans g4;clear g4;go_wp2_with fail;exact bodyPost_ret (v := .bool true) (by simp[results,Tryz.results5,go_sem]) rfl ⟨rfl,hg3⟩
end Go.Proofs.YtdgjgcepbkanhaaGreatDoor
namespace Go.Proofs.YtdgjgcepbkanhaaGreatDoor
open Go.ChangeShapes Go.WideShapes Go.ChangeAt Go.RowKit
theorem ownNoneC:ownKnob Tryz.prog.godebug=none:=by kernel_rfl
theorem post_plainC {H:Type} {enc:TypeId × Value→H} {P:Program} {f:Func} {s:ChangeSpec} {apart fresh handsOn again:Bool} {W W':World} {args:Array Value} {v:Value} {ds gs:List (DataW H)}
    (hW:DataW.Whole enc P f.params.toList s.vars apart W args.toList ds gs [])
    (hres:∀(b:Nat) (sp:Nat→Bool) (hd:Bool),DataW.TrodAll enc P W' b sp hd f.resultTypes.toList (v.resultList f.resultTypes.size) (s.fn H (ds++gs)).results [])
    (hargs:∀sp:Nat→Bool,DataW.TrodAll enc P W' 0 sp true f.params.toList args.toList (s.fn H (ds++gs)).args [])
    (hvars:∀sp:Nat→Bool,DataW.TrodVars enc P W' sp s.vars (s.fn H (ds++gs)).vars [])
    (hb:Below W.heap.size W W')
    (hok:∀(j:Nat) (t:TypeId) (r:Value),f.resultTypes[j]?=some t→(v.resultList f.resultTypes.size)[j]?=some r→Value.okWide P W' .any 0 t r) :
    s.post enc P f apart fresh handsOn again W args v W':=by
 refine⟨ds,gs,[],[],[],[],hW,hres _ _ _,hargs _,hvars _,hb.frame _,fun _=>?_⟩;refine⟨hok,_,_,[],⟨[],[],trodAll_append (hargs _) (hres _ _ _),hvars _,rfl,fun b off hp=>by (simp at hp),fun _=>List.nodup_nil⟩,fun p hp _=>by (simp at hp)⟩
theorem rw_ofC {W:World} (hL:laidMet Tryz.prog Rows.tlinesJoinRow.laid W) (hS:W.ShapedOpen Tryz.prog):∃T,RW T W:=by
 have e4:=err_head hL.tail.tail.tail.tail (show Tryz.prog.globalNamed "strconv.ErrRange" = some 3 by kernel_rfl) (by kernel_rfl);obtain⟨p,e5⟩:=err_head hL.tail.tail.tail.tail.tail (show Tryz.prog.globalNamed "strconv.ErrSyntax" = some 9 by kernel_rfl) (by kernel_rfl);obtain⟨T,hT⟩:=sh_any hS;exact⟨T,⟨rad_of hL (List.mem_cons_of_mem _ (List.mem_cons_of_mem _ (List.mem_cons_of_mem _ (List.mem_cons_of_mem _ (List.mem_cons_of_mem _ (List.mem_cons_of_mem _ List.mem_cons_self)))))),
     Go.Proofs.cell_of_shapedOpen_int (zero:=#[.int .i64 0]) (t:=3) hS (by decide +kernel) (by kernel_rfl) rfl (by kernel_rfl) (by kernel_rfl) Tryz.underlying3,e4,
     pow_of hL (List.mem_cons_of_mem _ (List.mem_cons_of_mem _ List.mem_cons_self))⟩,
  ⟨⟨_,e5,.inr ⟨_,_,rfl⟩⟩,hT⟩⟩
set_option maxRecDepth 100000 in
theorem joinContract (H:Type) (enc:TypeId × Value→H) (W:World) (base:Nat) (args:Array Value) (ds gs:List (DataW H)) (before:List MemPlace)
    (hval:∀(j:Nat) t v,Tryz.f5.params[j]?=some t→args[j]?=some v→Value.okWide Tryz.prog W .any base t v)
    (hW:DataW.Whole enc Tryz.prog Tryz.f5.params.toList Rows.tlinesJoinSpec.vars false W args.toList ds gs before) (hL:laidMetH Tryz.prog Rows.tlinesJoinRow.laid W) (hS:W.ShapedOpen Tryz.prog) :
    Calls Tryz.prog 5 args W fun e W'=>∃v,e = .returned v∧Rows.tlinesJoinSpec.post enc Tryz.prog Tryz.f5 false true false false W args v W':=by
 have hW':=hW;rw[MakeChecks.laidMetH_plain _ _ _ (by kernel_rfl)]at hL;obtain⟨p,q,hA0,hV,rfl,hfz,hnd⟩:=hW;have hA:DataW.TrodAll enc Tryz.prog W 0 (fun _=>true) true Tryz.f5.params.toList args.toList ds p:=hA0;rw[Tryz.params5]at hA hval;obtain⟨v0,v1,d0,d1,p0,p1,rfl,rfl,rfl,h0,h1⟩:=trodAll_two hA;obtain⟨rfl,rfl⟩:=trodVars_none hV;obtain⟨s,rfl,rfl,rfl,hs⟩:=Go.ChangeMaps.open_string Tryz.underlying9 (hval 0 9 v0 (by simp) (by simp)) h0;obtain⟨s2,rfl,rfl,rfl,hs2⟩:=Go.ChangeMaps.open_string Tryz.underlying9 (hval 1 9 v1 (by simp) (by simp)) h1;clear hA0;simp only[List.append_nil]at hW';obtain⟨T,hT⟩:=rw_ofC hL hS;refine (law_join W hT s s2).mono fun e W' ⟨he,hg⟩=>?_
 subst he;exact⟨_,rfl,post_plainC hW' (fun _ _ _=>trodAll_mk1 (shut_bool Tryz.underlying4 _)) (fun _=>trodAll_mk2 (Go.ChangeMaps.shut_string Tryz.underlying9 hs) (Go.ChangeMaps.shut_string Tryz.underlying9 hs2)) (fun _=>rfl) hg (ok_one (by kernel_rfl) rfl (okWide_bool_mk Tryz.underlying4 _))⟩
theorem joinReads (os:Os) {H:Type} (enc:TypeId × Value→H):∃places,DataW.whole enc Tryz.prog ((World.laidAll Tryz.prog os Rows.tlinesJoinRow.laid).forCall (fun _ _=>0) ⟨#[],#[.string ⟨#[]⟩,.string ⟨#[]⟩],[]⟩).memory Tryz.f5.params.toList Rows.tlinesJoinSpec.vars false #[Value.string ⟨#[]⟩,.string ⟨#[]⟩].toList 8=some ([.lit (.string []),.lit (.string [])],[],places) :=
 ⟨[],by kernel_rfl⟩
theorem joinLaid (os:Os):laidMetH Tryz.prog Rows.tlinesJoinRow.laid ((World.laidAll Tryz.prog os Rows.tlinesJoinRow.laid).forCall (fun _ _=>0) ⟨#[],#[.string ⟨#[]⟩,.string ⟨#[]⟩],[]⟩).memory:=by
 rw[MakeChecks.laidMetH_plain _ _ _ (by kernel_rfl)];exact laidMet_laidAll _ (by kernel_rfl) (by kernel_rfl)
set_option maxRecDepth 100000 in
theorem joinLifted (os:Os) (started:os.Started) (H:Type) (enc:TypeId × Value→H) (F:Stop.Interp) :
    ReturnsInHanded {} Tryz.checked os 5 .any ((OpenSpec.ofChange Rows.tlinesJoinSpec).preRow enc Tryz.prog Tryz.f5 Rows.tlinesJoinRow.domain false Rows.tlinesJoinRow.laid) (((OpenSpec.ofChange Rows.tlinesJoinSpec).at F).post enc Tryz.prog Tryz.f5 false true false false):=by
 obtain⟨places,hx⟩:=joinReads os enc;have hok:Input.okWideB Tryz.checked.prog ((World.laidAll Tryz.prog os Rows.tlinesJoinRow.laid).forCall (fun _ _=>0) ⟨#[],#[.string ⟨#[]⟩,.string ⟨#[]⟩],[]⟩) 5 ⟨#[],#[.string ⟨#[]⟩,.string ⟨#[]⟩],[]⟩=true:=by kernel_rfl
 refine returnsInHanded_of_row (C:=Tryz.checked) (s:=OpenSpec.ofChange Rows.tlinesJoinSpec) ownNoneC started (by kernel_rfl) Tryz.func5
  ⟨World.laidAll Tryz.prog os Rows.tlinesJoinRow.laid,fun _ _=>0,⟨#[],#[.string ⟨#[]⟩,.string ⟨#[]⟩],[]⟩,World.laidAll_os _ _ _,World.shaped_of_ZipB (by kernel_rfl) (by kernel_rfl),(Input.okWide_of_okWideB (base:=0) hok).1,(Input.okWide_of_okWideB hok).2,
   OpenSpec.preRow_of_cond 8 hx (by kernel_rfl) (fun k hk=>by cases hk) (by kernel_rfl) (joinLaid os),by
    simp only[Assume.holds];exact⟨by simp,by simp,fun _=>Modest.zero,by simp,by simp⟩⟩ ?_
 intro W base args ds gs before hval hW _ _ _ hL hS _;exact joinContract H enc W base args ds gs before hval hW hL hS
theorem joinSaid:Rows.TlinesJoinSaid :=
 OpenClaim.holds_of_cond 5 Tryz.f5 rfl rfl rfl rfl rfl rfl rfl ⟨rfl,rfl,rfl,rfl,rfl⟩ rfl rfl rfl rfl rfl (by kernel_rfl) Tryz.func5 (by kernel_rfl)
  (of_decide_eq_true (by kernel_rfl)) (by unfold Func.isWrapper;first|(rw[if_pos (by decide +kernel)];kernel_rfl)|(rw[if_neg (by decide +kernel)];exact⟨rfl,rfl⟩))
  (fun os started H enc _ F=>by rw[OpenClaim.pre_eq_preRow];exact joinLifted os started H enc F)
theorem joinPlain (f:FuncId) (fn:Func) (hf:Tryz.pinned.checked.prog.funcNamed "inarch/inarchlaw12.TlinesJoin" = some f) (hfn:Tryz.pinned.checked.prog.funcs[f]?=some fn) :
    true=Tryz.pinned.checked.prog.looks []∧∀(j:Nat) t,fn.params[j]?=some t→Tryz.pinned.checked.prog.wantsStandIn t=false:=by
 obtain rfl:f=5:=Option.some.inj ((show Tryz.prog.funcNamed "inarch/inarchlaw12.TlinesJoin" = some 5 by kernel_rfl).symm.trans hf) |>.symm;obtain rfl:fn=Tryz.f5:=(Option.some.inj (Tryz.func5.symm.trans hfn)).symm;refine⟨by kernel_rfl,fun j t ht=>?_⟩;rw[Tryz.params5]at ht;have hm:t∈[9,9]:=by simpa using Array.mem_of_getElem? ht
 have hall:([9,9].all fun u => !Tryz.prog.wantsStandIn u)=true:=by kernel_rfl
 have:=List.all_eq_true.1 hall t hm;show Tryz.prog.wantsStandIn t=false
 simpa using this
theorem joinCard:Rows.TlinesJoinCardSaid :=
 Claim7.holds_tied_plain_at .later [] _ _ _ _ joinSaid (fun _ h=>by cases h) (by kernel_rfl) (fun _ h=>by cases h) tlinesJoin_row_tie rfl ⟨rfl,rfl⟩ (by kernel_rfl) rfl joinPlain (by kernel_rfl)
end Go.Proofs.YtdgjgcepbkanhaaGreatDoor
