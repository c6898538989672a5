/-
  TlinesCover answers true at every text; proved for every start at which the listed package variables hold what the program's text lays in them (the tied card).
-/
import Derived.Test.YtdgjgcepbkanhaaGreatDoorM41
import Derived.Test.YtdgjgcepbkanhaaGreatDoorM52
import Derived.Test.YtdgjgcepbkanhaaGreatDoorM56
import Derived.Deep.DeepCutAuto
import Derived.Test.YtdgjgcepbkanhaaGreatDoorCards
import Derived.Test.YtdgjgcepbkanhaaGreatDoorTie
import Derived.WalkKit
import Derived.ChangeMaps5
import Derived.ProofKit
import Derived.OpenShut
import Derived.LaidMore
import Derived.Lay
import Derived.Deep.DeepHandedRow
import Derived.SevenTiedAt
import Derived.Stop.Joined
set_option maxHeartbeats 16000000
set_option linter.all false
set_option linter.unusedVariables false
set_option linter.unusedSimpArgs false
namespace Go.Proofs.YtdgjgcepbkanhaaGreatDoor
open Go.RowKit Go.Shelf Go.Joins
attribute [local go_sem] Oper.semAt_some
variable {Tb:Nat→UInt8 × UInt8}
namespace Pl
structure CovI (E:Env) (s:Bs) (n:Nat) (it it':It):Prop where
 a:it.a=n
 lt:n<it.b
 le:it.b≤s.length
 fin:it.b=s.length∨byteAt s (it.b-1)=10
 rd:itemS E ((s.drop n).take (it.b-n)) 0 = .ok it'
 kind:it'.kind=it.kind
 a':it'.a=0
 b':it'.b=it.b-n
 ws:it'.ws.map (·.1)=it.ws.map (·.1)
 pair:it.kind=1→it'.va+n=it.va∧it'.vb+n=it.vb∧(∃w,it'.ws.getLast?=some w∧w.2.2<it'.va)∧it'.vb≤it'.b∧readS E s it.va 0 = .ok (it.root,it.vb,it.nds)∧it.va<s.length
 wlen:it.ws.length≤s.length
theorem cov_item {E:Env} (hE:EnvOk E) (hN:EnvEnd E) (s:Bs) (hs:s.length≤20000000) (n:Nat) (hn:n<s.length) (it:It) (h:itemS E s n = .ok it):∃it',CovI E s n it it':=by
 have q:=(itemS_ok hE s hs n hn).2.2 it h;obtain⟨it',h1,h2⟩:=itemS_self hE hN s hs n hn it h;have hl:((s.drop n).take (it.b-n)).length=it.b-n:=by
  have:=q.le;rw[List.length_take,List.length_drop];omega
 have q1:=q.lt;have q2:=q.le;have q':=(itemS_ok hE ((s.drop n).take (it.b-n)) (by omega) 0 (by omega)).2.2 it' h1;obtain⟨k,e1,e2⟩:=h2.b;refine⟨it',q.a,q.lt,q.le,q.fin,h1,h2.kind,q'.a,by omega,KR_words h2.ws,fun hk=>?_,?_⟩
 · obtain⟨p,r,f1,f2,f3,f4⟩:=h2.val hk;obtain⟨g1,g2,g3,g4,g5⟩:=q.pair hk;obtain⟨g1',g2',g3',_⟩:=q'.pair (by rw[h2.kind];exact hk);exact⟨by omega,by omega,g1',g3',g4,by omega⟩
 exact item_wlen hE s n (by omega) it h
end Pl
structure SameC (w W:World):Prop where
 h:∀a,W.cell? a=w.cell? a
structure CovS (b7 b8 b9 g i:Nat) (kind n b:Nat) (d:Int) (wa:Option Addr) (wn wc:Nat) (ka:Option Addr) (kn kc:Nat) (w:World):Prop where
 f:FX b9 (.int .i64 0) (.int .i64 0) w
 k8:w.cell? ⟨b8,0,none⟩=some (.int .u8 kind)
 s1:w.cell? ⟨b8,1,none⟩=some (.int .i64 0)
 s2:w.cell? ⟨b8,2,none⟩=some (.int .i64 d)
 w8:w.cell? ⟨b8,3,none⟩=some (.slice wa wn wc)
 l8:b8<w.heap.size
 x:FX b7 (.int .i64 n) (.int .i64 b) w
 lk:w.cell? ⟨g,i*9,none⟩=some (.int .u8 kind)
 lw:w.cell? ⟨g,i*9+3,none⟩=some (.slice ka kn kc)
 lg:g<w.heap.size
theorem CovS.gr {b7 b8 b9 g i kind n b:Nat} {d:Int} {wa:Option Addr} {wn wc:Nat} {ka:Option Addr} {kn kc:Nat} {w w':World} (h:CovS b7 b8 b9 g i kind n b d wa wn wc ka kn kc w) (k:Gr w w'):CovS b7 b8 b9 g i kind n b d wa wn wc ka kn kc w' :=
 ⟨h.f.gr k,(k.use.1 _ _ h.l8).trans h.k8,(k.use.1 _ _ h.l8).trans h.s1,(k.use.1 _ _ h.l8).trans h.s2,(k.use.1 _ _ h.l8).trans h.w8,Nat.lt_of_lt_of_le h.l8 k.size,h.x.gr k,(k.use.1 _ _ h.lg).trans h.lk,(k.use.1 _ _ h.lg).trans h.lw,Nat.lt_of_lt_of_le h.lg k.size⟩
set_option maxRecDepth 100000 in
theorem law_cover (w:World) (hw:RW Tb w) (s:ByteArray):Calls Tryz.prog 4 #[.string s] w fun e w'=>e = .returned (.bool true)∧Gr w w':=by
 have HW:=Lib.hid hw;clear hw;by_cases h:2000<s.size
 · have d1:decide ((2000:Int)<(s.size:Int))=true:=by simp;omega
   have H:=Lib.hid (lb_lives w HW.out);go_enter Tryz.func4,Tryz.ntmps4;go_wp2_with fail;refine H.out.mono ?_;rintro e w1 ⟨rfl,g1⟩;go_wp2_with fail;exact bodyPost_ret (v := .bool true) (by simp[results,Tryz.results4,go_sem]) rfl ⟨rfl,g1⟩
 have d1:decide ((2000:Int)<(s.size:Int))=false:=by simp;omega
 have hs:s.size≤20000000:=by omega
 have hall:=Pl.allS_ok (Pl.envT_ok Tb) (bs s) (by rw[bs_length];exact hs);obtain⟨X,hX⟩:∃X,Pl.allS (Pl.envT Tb) (bs s)=X:=⟨_,rfl⟩
 rw[hX]at hall;have HR:=Lib.hid (tl_All Tb s hs w HW.out X hX);have HA:=Lib.hid hall;clear hX hall;go_enter Tryz.func4,Tryz.ntmps4;go_wp2_with fail;refine HR.out.mono ?_;cases X with
 | non=>exact absurd rfl HA.out.1
 | bad c p =>
  rintro e w1 ⟨rfl,hc,g1⟩;have hp:=(HA.out.2.1 c p rfl).1;rw[bs_length]at hp;have d2:decide ((0:Int)≤(p:Int))=true:=by simp
  have d3:decide ((p:Int)≤(s.size:Int))=true:=by simp;omega
  have hc':¬(c:Int)=0:=by omega
  have HG:=Lib.hid g1;clear g1;go_wp2_with fail;refine (lb_lives _ (HW.out.gr (HG.out.alloc _))).mono ?_;rintro e w2 ⟨rfl,g2⟩;have hg2:=(HG.out.alloc _).trans g2;clear g2;go_wp2_with fail;exact bodyPost_ret (v := .bool true) (by simp[results,Tryz.results4,go_sem]) rfl ⟨rfl,hg2⟩
 | ok l =>
  rintro e w1 ⟨v,xs,rfl,hxs,hrow,hits,g1⟩;have htl:=HA.out.2.2 l rfl;obtain⟨oa,cp,rfl⟩:=row_slice hrow;have hlen:xs.length=l.length:=by have:=congrArg List.length hxs;simpa using this
  have HXS:=Lib.hid hxs;have HROW:=Lib.hid hrow;have HITS:=Lib.hid hits;have HG:=Lib.hid g1;have HT:=Lib.hid htl;have hll:=Pl.tiles_len (Pl.envT_ok Tb) (bs s) (by rw[bs_length];exact hs) 0 l htl;rw[bs_length]at hll;have hF:=FX.new w1 (.int .i64 0) (.int .i64 0) 31;obtain⟨N,hN⟩:∃N,xs.length=N:=⟨_,rfl⟩
  rw[hN]at hlen ⊢;have hNs:N≤2000:=by omega
  have HLEN:=Lib.hid hlen;clear hlen hll;clear hxs hrow hits g1 htl;go_wp2_with fail
  go_loopw [5,6] (fun v5 v6 wr=>∃n i:Nat,v5 = .int .i64 n∧v6 = .int .i64 i∧i≤N∧n≤s.size∧Hid (Pl.Tiles (Pl.envT Tb) (bs s) n (l.drop i))∧Gr (w1.alloc (.cells #[.int .i64 0,.int .i64 0] 31)) wr) (fun _ v6 _=>N-(intOf v6).toNat)
  case atStart=>exact⟨0,0,rfl,rfl,by omega,by omega,Lib.hid (by simpa using HT.out),Gr.refl _⟩
  case round =>
   obtain⟨n,i,rfl,rfl,hi,hns,ht,hg⟩:=hrel;by_cases hiN:i<N
   · have d2:decide ((i:Int)<(N:Int))=true:=by simp;omega
     have d2n:decide (i<N)=true:=by simp;omega
     obtain⟨it,hit⟩:∃it,l[i]?=some it:=⟨_,List.getElem?_eq_getElem (by have:=HLEN.out;omega)⟩
     obtain⟨x,hx⟩:∃x,xs[i]?=some x:=⟨_,List.getElem?_eq_getElem (by omega)⟩
     have hxo:=o_at HXS.out hx hit;have ht2:=ht.out;have hil:i<l.length:=by have:=HLEN.out;omega
     rw[List.drop_eq_getElem_cons hil,show l[i]=it from by have:=List.getElem?_eq_getElem hil;rw[hit]at this;exact (Option.some.inj this).symm]at ht2;cases ht2 with
     | cons _ _ _ hnl hitem htail =>
     obtain⟨it',hc⟩:=Pl.cov_item (Pl.envT_ok Tb) (Pl.envT_end Tb) (bs s) (by rw[bs_length];exact hs) n hnl it hitem;obtain⟨g,cp',hv,_,_⟩:=HROW.out.form (by omega);have hgl:=(HROW.out.lt g (by rw[hv];rfl)).2;have hcell:∀j u,j<9→(ydC x)[j]?=some u→w1.cell? ⟨g,i*9+j,none⟩=some u:=fun j u hj hu=>HROW.out.cells (g:=g) (by rw[hv];rfl) _ _ ((flat9 xs (fine_of HXS.out) i x hx j hj).trans hu)
     simp only[Value.slice.injEq]at hv;obtain⟨hv1,_,hv3⟩:=hv;subst hv1 hv3;have hm:=HITS.out x (List.mem_of_getElem? hx) it hxo;obtain⟨xo,⟨ka,kn,kc⟩,⟨sa,sn,sc⟩,⟨na,nn,nc⟩⟩:=x;dsimp only at hxo;subst hxo;have gr1:Gr w1 wr:=((Gr.refl w1).alloc _).trans hg;have hu:=gr1.use.1;have c0:wr.cell? ⟨g,i*9,none⟩=some (.int .u8 it.kind):=(hu g _ hgl).trans (hcell 0 _ (by omega) rfl);have c1:wr.cell? ⟨g,i*9+1,none⟩=some (.int .i64 n):=(hu g _ hgl).trans (hcell 1 _ (by omega) (by rw[←hc.a];rfl));have c2:wr.cell? ⟨g,i*9+2,none⟩=some (.int .i64 it.b):=(hu g _ hgl).trans (hcell 2 _ (by omega) rfl);have c3:wr.cell? ⟨g,i*9+3,none⟩=some (.slice ka kn kc):=(hu g _ hgl).trans (hcell 3 _ (by omega) rfl);have c5:wr.cell? ⟨g,i*9+5,none⟩=some (.int .i64 it.va):=(hu g _ hgl).trans (hcell 5 _ (by omega) rfl);have c6:wr.cell? ⟨g,i*9+6,none⟩=some (.int .i64 it.vb):=(hu g _ hgl).trans (hcell 6 _ (by omega) rfl);have c7:wr.cell? ⟨g,i*9+7,none⟩=some (.slice na nn nc):=(hu g _ hgl).trans (hcell 7 _ (by omega) rfl);have hgw:g<wr.heap.size:=Nat.lt_of_lt_of_le hgl gr1.size;have hb1:=hc.lt;have hb2:=hc.le;rw[bs_length]at hb2;have e1:decide ((it.b:Int)≤(n:Int))=false:=by simp;omega
     have e2:decide ((s.size:Int)<(it.b:Int))=false:=by simp;omega
     have e1n:decide (it.b≤n)=false:=by simp;omega
     have e2n:decide (s.size<it.b)=false:=by simp;omega
     have i1:(0:Int)≤(i:Int):=by omega
     have i2:(i:Int)<(N:Int):=by omega
     have i3:(0:Int)≤(n:Int):=by omega
     have i4:(n:Int)≤(it.b:Int):=by omega
     have i5:(it.b:Int)≤(s.size:Int):=by omega
     have wN:IntKind.i64.wrap ((N:Int)-1)=(N:Int)-1:=IntWalk.i64_in _ ⟨by omega,by omega⟩;have wb:IntKind.i64.wrap ((it.b:Int)-1)=(it.b:Int)-1:=IntWalk.i64_in _ ⟨by omega,by omega⟩;have wi:IntKind.i64.wrap ((i:Int)+1)=(i:Int)+1:=IntWalk.i64_in _ ⟨by omega,by omega⟩;have wd:IntKind.i64.wrap ((it.b:Int)-(n:Int))=(it.b:Int)-(n:Int):=IntWalk.i64_in _ ⟨by omega,by omega⟩;have i6:(0:Int)≤(it.b:Int)-1:=by omega
     have i7:(it.b:Int)-1<(s.size:Int):=by omega
     have hbl:it.b-1<s.size:=by omega
     have hlast:(decide ((i:Int)<(N:Int)-1)=false)∨(decide ((i:Int)<(N:Int)-1)=true∧(((s[it.b-1]'hbl).toNat:Int) != 10)=false):=by
      by_cases hl:i+1<N
      · right;refine⟨by simp;omega,?_⟩;have hnx:=Pl.tiles_next (Pl.envT_ok Tb) (bs s) (by rw[bs_length];exact hs) htail (fun e=>by
         have:=congrArg List.length e;rw[List.length_drop,List.length_nil]at this;have:=HLEN.out;omega)
        rcases hc.fin with e|e
        · omega
        have:=byteAt_in s (it.b-1) hbl;rw[this]at e;rw[e];rfl
      left;simp;omega
     have HC:=Lib.hid hc;have HM:=Lib.hid hm;have HTL:=Lib.hid htail;clear hc hm htail hcell hu ht hx hit hitem;clear hil;have hsz:(s.extract n it.b).size=it.b-n:=by simp;omega
     have hrd:Pl.itemS ⟨Pl.strS Tb,Pl.scalS⟩ (bs (s.extract n it.b)) 0 = .ok it':=by rw[bs_cut];exact HC.out.rd
     have HRD:=Lib.hid (fun W (hW:RW Tb W)=>tl_Read Tb (s.extract n it.b) (by omega) 0 0 rfl (by omega) W hW _ hrd (by simp));have HRW:=Lib.hid (HW.out.gr (HG.out.trans gr1));have HKW:=Lib.hid (show it'.ws.length=it.ws.length by have:=congrArg List.length HC.out.ws;simpa using this);clear hrd hsz
     go_upto_region 11 with fail
     go_cut [86] (fun s86 wx=>s86 = .bool false∧(wr.alloc (.cells #[.int .i64 n,.int .i64 it.b] 38))=wx)
     case first =>
      rcases hlast with dl|⟨dl,d10⟩
      · go_wp2_with fail
        go_meet
        exact⟨rfl,rfl⟩
      go_wp2_with fail
      go_meet
      exact⟨rfl,rfl⟩
     case rest =>
      obtain⟨rfl,rfl⟩:=hcut;clear hlast
      as_aux_lemma =>
       go_wp2_with fail;refine (HRD.out _ (HRW.out.gr ((Gr.refl _).alloc _))).mono ?_;rintro e w2 ⟨kv',sv',nv',rfl,hM',g2⟩;obtain⟨⟨wa,wn,wc,rfl⟩,⟨ta,tn,tc,rfl⟩,⟨ua,un,uc,rfl⟩⟩:=hM'.forms;have HM':=Lib.hid hM';have gA:Gr wr w2:=((Gr.refl wr).alloc _).trans g2;have hX2:=(FX.new wr (.int .i64 n) (.int .i64 it.b) 38).gr g2;clear hM' g2 i3 i4;go_wp2_with fail;obtain⟨W2,hW2⟩:∃W,((w2.alloc (itO it'.kind it'.a it'.b (.slice wa wn wc) (.slice ta tn tc) it'.va it'.vb (.slice ua un uc) it'.root)).alloc (.cells #[.int .i64 0,.int .i64 0] 31))=W:=⟨_,rfl⟩
       rw[hW2];have gB:Gr w2 W2:=by rw[←hW2];exact ((Gr.refl w2).alloc _).alloc _
       have gAB:=gA.trans gB;have hI8:W2.heap[w2.heap.size]?=some (itO it'.kind it'.a it'.b (.slice wa wn wc) (.slice ta tn tc) it'.va it'.vb (.slice ua un uc) it'.root):=by
        rw[←hW2];exact (((Gr.refl _).alloc _).block (by simp)).trans (heap_alloc_new w2 _)
       have hF9:FX (w2.heap.size+1) (.int .i64 0) (.int .i64 0) W2:=by
        rw[←hW2];have:=FX.new (w2.alloc (itO it'.kind it'.a it'.b (.slice wa wn wc) (.slice ta tn tc) it'.va it'.vb (.slice ua un uc) it'.root)) (.int .i64 0) (.int .i64 0) 31
        simpa using this
       obtain⟨⟨j0,j1,j2,j3,j4,j5,j6,j7,j8⟩,jfz,jlt⟩:=itO_facts hI8;have hS0:CovS wr.heap.size w2.heap.size (w2.heap.size+1) g i it.kind n it.b ((it.b:Int)-(n:Int)) wa wn wc ka kn kc W2 :=
        ⟨hF9,by rw[j0,HC.out.kind],by rw[j1,HC.out.a'];rfl,by rw[j2,HC.out.b',Int.ofNat_sub (by omega)],j3,jlt,hX2.gr gB,(gAB.use.1 _ _ hgw).trans c0,(gAB.use.1 _ _ hgw).trans c3,Nat.lt_of_lt_of_le hgw gAB.size⟩
       have hS:CovS wr.heap.size w2.heap.size (w2.heap.size+1) g i it.kind n it.b ((it.b:Int)-(n:Int)) wa wn wc ka kn kc W2.drew:=hS0.gr (Gr.refl _).drew;clear hW2 j0 j1 j2 j3 j4 j5 j6 j7 j8 jfz jlt hF9;refine Reg.begin' (W:=fun _=>true) (S:=CovS wr.heap.size w2.heap.size (w2.heap.size+1) g i it.kind n it.b ((it.b:Int)-(n:Int)) wa wn wc ka kn kc) (by kernel_rfl) ?_;refine Reg.tl 0 hS ?_ (hy:=by intro w hSw;obtain⟨⟨y0,y1,yf,yl⟩,k8,s1,s2,w8,l8,⟨x0,x1,xf,xl⟩,lk,lw,lg⟩:=hSw;go_simp;try with_reducible rfl);refine Reg.ty 1 ?_;refine Reg.ty 2 ?_;refine Reg.ty 3 ?_;refine Reg.ty 4 ?_;refine Reg.tl 5 hS ?_ (hy:=by intro w hSw;obtain⟨⟨y0,y1,yf,yl⟩,k8,s1,s2,w8,l8,⟨x0,x1,xf,xl⟩,lk,lw,lg⟩:=hSw;go_simp;try with_reducible rfl);refine Reg.ty 6 ?_;refine Reg.ty 7 ?_;refine Reg.ty 8 ?_;refine Reg.ty 9 ?_;refine Reg.tl 10 hS ?_ (hy:=by intro w hSw;obtain⟨⟨y0,y1,yf,yl⟩,k8,s1,s2,w8,l8,⟨x0,x1,xf,xl⟩,lk,lw,lg⟩:=hSw;go_simp;try with_reducible rfl);refine Reg.ty 11 ?_;refine Reg.ty 12 ?_;refine Reg.ty 13 ?_;refine Reg.ty 14 ?_;refine Reg.tl 15 hS ?_ (hy:=by intro w hSw;obtain⟨⟨y0,y1,yf,yl⟩,k8,s1,s2,w8,l8,⟨x0,x1,xf,xl⟩,lk,lw,lg⟩:=hSw;go_simp;try with_reducible rfl);refine Reg.ty 16 ?_;refine Reg.tl 17 hS ?_ (hy:=by intro w hSw;obtain⟨⟨y0,y1,yf,yl⟩,k8,s1,s2,w8,l8,⟨x0,x1,xf,xl⟩,lk,lw,lg⟩:=hSw;go_simp;try with_reducible rfl);refine Reg.ty 18 ?_;refine Reg.tl 19 hS ?_ (hy:=by intro w hSw;obtain⟨⟨y0,y1,yf,yl⟩,k8,s1,s2,w8,l8,⟨x0,x1,xf,xl⟩,lk,lw,lg⟩:=hSw;go_simp;try with_reducible rfl);refine Reg.ty 20 ?_;refine Reg.ty 21 ?_;refine Reg.ty 22 ?_;refine Reg.ty 23 ?_;refine Reg.ty 24 ?_;refine Reg.ty 25 ?_;refine Reg.ty 26 ?_;refine Reg.tl 27 hS ?_ (hy:=by intro w hSw;obtain⟨⟨y0,y1,yf,yl⟩,k8,s1,s2,w8,l8,⟨x0,x1,xf,xl⟩,lk,lw,lg⟩:=hSw;go_simp;try with_reducible rfl);refine Reg.ty 28 ?_;refine Reg.ty 29 ?_;refine Reg.ty 30 ?_;refine Reg.ty 31 ?_;refine Reg.ty 32 ?_;refine Reg.tl 33 hS ?_ (hy:=by intro w hSw;obtain⟨⟨y0,y1,yf,yl⟩,k8,s1,s2,w8,l8,⟨x0,x1,xf,xl⟩,lk,lw,lg⟩:=hSw;go_simp;try with_reducible rfl);refine Reg.on 34 ?_;go_simp;refine (la_sameK _ (b1:=(wr.alloc (.cells #[.int .i64 n,.int .i64 it.b] 38)).heap.size) (b2:=w.heap.size) (n:=it.ws.length) (ws:=keyWords it.ws) (by simp[keyWords]) (by
        have h1:=HM'.out.k.of_block fun k e=>(gB.drew).block (HM'.out.k.lt k e).2
        rw[HKW.out,show keyWords it'.ws=keyWords it.ws from HC.out.ws]at h1;exact h1) (HM.out.k.of_block fun k e=>((gr1.trans gAB).drew).block (HM.out.k.lt k e).2) (by have:=HC.out.wlen;rw[bs_length]at this;omega)).mono ?_
       rintro e w4 ⟨rfl,g4⟩;have hS4:=hS.gr g4;refine⟨by first|exact hS4|exact fun _=>hS4|exact fun _ _=>hS4,?_⟩;refine Reg.pt ?_;have gC:Gr wr w4:=gAB.drew.trans g4;have g4':=g4;have hI9:=(((Gr.refl W2).drew.trans g4).block (Array.getElem?_eq_some_iff.1 hI8).1).trans hI8;clear g4;refine Reg.ty 35 ?_;refine Reg.ty 36 ?_;refine Reg.done (by kernel_rfl) ?_ _;have gR:Gr (w1.alloc (.cells #[.int .i64 0,.int .i64 0] 31)) w4:=hg.trans gC;obtain⟨⟨y0,y1,yf,yl⟩,_,_,_,w8,l8,⟨x0,x1,xf,xl⟩,lk,lw,lg⟩:=hS4;obtain⟨⟨j0,j1,j2,j3,j4,j5,j6,j7,j8⟩,jfz,jlt⟩:=itO_facts hI9;rw[HC.out.kind]at j0;have hr:=gC.use.1;have l5:=(hr g (i*9+5) hgw).trans c5;have l6:=(hr g (i*9+6) hgw).trans c6;have l7:=(hr g (i*9+7) hgw).trans c7;clear c0 c1 c2 c3 c5 c6 c7 hS hS0 hI8 hr lk lw w8 y0 y1 yf yl j1 j3;by_cases hk:it.kind=1
       · have HP:=Lib.hid (HC.out.pair hk);rw[hk]at j0;obtain⟨k,hk1⟩:∃k,it'.ws.length=k+1:=⟨it'.ws.length-1,by
          obtain⟨_,_,⟨w0,hw0,_⟩,_⟩:=HP.out;have:it'.ws≠[]:=fun e=>by rw[e]at hw0;cases hw0
          have:=List.length_pos_iff.2 this;omega⟩
         obtain⟨gs,cs,hsv,_,_⟩:=HM'.out.s.form (by omega);have hsl:=(HM'.out.s.lt gs (by rw[hsv];rfl)).2;have hsc:=HM'.out.s.cells (g:=gs) (by rw[hsv];rfl);injection hsv with h1 h2 h3;subst h1 h2 h3;obtain⟨w0,hw0,hw1⟩:=HP.out.2.2.1;have hwk:it'.ws[k]?=some w0:=by rw[List.getLast?_eq_getElem?,hk1,Nat.add_sub_cancel]at hw0;exact hw0
         have hsk:=hsc (k*2+1) (.int .i64 w0.2.2) (spots_at _ _ _ (by simp[keySpans,hwk]));have hsk2:w4.cell? ⟨gs,k*2+1,none⟩=some (.int .i64 w0.2.2):=(((gB.drew).trans g4').use.1 _ _ hsl).trans hsk;have hva:=HP.out.1;have hvb:=HP.out.2.1;have hbb:=HP.out.2.2.2.1;have hvs:=HP.out.2.2.2.2.2;rw[bs_length]at hvs;have hb'b:=HC.out.b';have hkb:k≤2000:=by have:=HKW.out;have h9:=HC.out.wlen;rw[bs_length]at h9;omega
         have p0:((((k+1:Nat):Int))==0)=false:=by simp;omega
         have p1:IntKind.i64.wrap ((it'.va:Int)+(n:Int))=(it.va:Int):=by rw[IntWalk.i64_in _ ⟨by omega,by omega⟩];omega
         have p2:IntKind.i64.wrap ((it'.vb:Int)+(n:Int))=(it.vb:Int):=by rw[IntWalk.i64_in _ ⟨by omega,by omega⟩];omega
         have p3:IntKind.i64.wrap ((((k+1:Nat):Int))-1)=(k:Int):=by rw[IntWalk.i64_in _ ⟨by omega,by omega⟩];omega
         have p3b:IntKind.i64.wrap (k:Int)=(k:Int):=IntWalk.i64_in _ ⟨by omega,by omega⟩;have p7b:(k:Int)<(k:Int)+1:=by omega
         have p4:decide ((it'.va:Int)≤(w0.2.2:Int))=false:=by simp;omega
         have p0b:((k:Int)+1==0)=false:=by simp;omega
         have p5b:decide ((it.b:Int)-(n:Int)<(it'.vb:Int))=false:=by simp;omega
         have p4n:decide (it'.va≤w0.2.2)=false:=by simp;omega
         have p5n:decide (it'.b<it'.vb)=false:=by simp;omega
         have p5:decide ((it'.b:Int)<(it'.vb:Int))=false:=by simp;omega
         have p6:(0:Int)≤(k:Int):=by omega
         have p7:(k:Int)<((k+1:Nat):Int):=by omega
         rw[hk1]at j4;go_wp2_with fail;have hSC:SameC w4 w4.drew:=⟨fun _=>rfl⟩
         refine Reg.begin' (W:=fun _=>true) (S:=SameC w4) (by kernel_rfl) ?_;refine Reg.ty 0 ?_;refine Reg.ty 1 ?_;refine Reg.ty 2 ?_;refine Reg.ty 3 ?_;refine Reg.ty 4 ?_;refine Reg.tl 5 hSC ?_ (hy:=by intro w hSw;obtain⟨hq⟩:=hSw;go_simp;try with_reducible rfl);refine Reg.ty 6 ?_;refine Reg.ty 7 ?_;refine Reg.ty 8 ?_;refine Reg.ty 9 ?_;refine Reg.ty 10 ?_;refine Reg.ty 11 ?_;refine Reg.ty 12 ?_;refine Reg.tl 13 hSC ?_ (hy:=by intro w hSw;obtain⟨hq⟩:=hSw;go_simp;try with_reducible rfl);refine Reg.ty 14 ?_;refine Reg.ty 15 ?_;refine Reg.ty 16 ?_;refine Reg.ty 17 ?_;refine Reg.ty 18 ?_;refine Reg.tl 19 hSC ?_ (hy:=by intro w hSw;obtain⟨hq⟩:=hSw;go_simp;try with_reducible rfl);refine Reg.ty 20 ?_;refine Reg.ty 21 ?_;refine Reg.ty 22 ?_;refine Reg.ty 23 ?_;refine Reg.ty 24 ?_;refine Reg.ty 25 ?_;refine Reg.ty 26 ?_;refine Reg.tl 27 hSC ?_ (hy:=by intro w hSw;obtain⟨hq⟩:=hSw;go_simp;try with_reducible rfl);refine Reg.ty 28 ?_;refine Reg.ty 29 ?_;refine Reg.ty 30 ?_;refine Reg.ty 31 ?_;refine Reg.ty 32 ?_;refine Reg.tl 33 hSC ?_ (hy:=by intro w hSw;obtain⟨hq⟩:=hSw;go_simp;try with_reducible rfl);refine Reg.ty 34 ?_;refine Reg.ty 35 ?_;refine Reg.tl 36 hSC ?_ (hy:=by intro w hSw;obtain⟨hq⟩:=hSw;go_simp;try with_reducible rfl);refine Reg.ty 37 ?_;refine Reg.ty 38 ?_;refine Reg.ty 39 ?_;refine Reg.ty 40 ?_;refine Reg.tl 41 hSC ?_ (hy:=by intro w hSw;obtain⟨hq⟩:=hSw;go_simp;try with_reducible rfl);refine Reg.ty 42 ?_;refine Reg.ty 43 ?_;refine Reg.ty 44 ?_;refine Reg.ty 45 ?_;refine Reg.ty 46 ?_;refine Reg.tl 47 hSC ?_ (hy:=by intro w hSw;obtain⟨hq⟩:=hSw;go_simp;try with_reducible rfl);refine Reg.ty 48 ?_;refine Reg.ty 49 ?_;refine Reg.tl 50 hSC ?_ (hy:=by intro w hSw;obtain⟨hq⟩:=hSw;go_simp;try with_reducible rfl);refine Reg.ty 51 ?_;refine Reg.ty 52 ?_;refine Reg.done (by kernel_rfl) ?_ _;have HRD2:=Lib.hid (tv_Read w4.drew ((HRW.out.gr gC).gr (Gr.refl _).drew) s hs it.va it.va rfl (by omega) 0 0 (by decide) _ HP.out.2.2.2.2.1 (by simp));have hnn:nn=it.nds.length:=by
          rcases HM.out.n with⟨e,e2⟩|⟨_,_,e,_⟩
          · simp only[Value.slice.injEq]at e;rw[e.2.1,e2];rfl
          simp only[Value.slice.injEq]at e;exact e.2.1
         clear j0 j2 j4 j5 j6 j7 j8 hsk hsk2 hsc;go_wp2_with fail;refine HRD2.out.mono ?_;rintro e w5 ⟨g5,L5,rfl,hm5,hi5,hL5,hT5,gg5⟩;subst hnn;have gS:Gr w4 w5:=(Gr.refl w4).drew.trans gg5;clear gg5 hT5 hL5 hi5 hm5 HRD2;go_wp2_with fail;obtain⟨W6,hW6⟩:∃W,((w5.alloc (.cells #[.slice (some ⟨g5,0,none⟩) it.nds.length it.nds.length,.int .i64 it.root] 28)).alloc (.cells #[.int .i64 0,.int .i64 0] 31))=W:=⟨_,rfl⟩
         rw[hW6];have gT:Gr w5 W6:=by rw[←hW6];exact ((Gr.refl w5).alloc _).alloc _
         obtain⟨z0,z1,zf,zl⟩:FX w5.heap.size (.slice (some ⟨g5,0,none⟩) it.nds.length it.nds.length) (.int .i64 it.root) W6:=by rw[←hW6];exact (FX.new w5 _ _ 28).gr ((Gr.refl _).alloc _)
         obtain⟨f0',f1',ff',fl'⟩:FX (w5.heap.size+1) (.int .i64 0) (.int .i64 0) W6:=by
          rw[←hW6];have:=FX.new (w5.alloc (.cells #[.slice (some ⟨g5,0,none⟩) it.nds.length it.nds.length,.int .i64 it.root] 28)) (.int .i64 0) (.int .i64 0) 31
          simpa using this
         have gST:=gS.trans gT;have l6':=(gST.use.1 g (i*9+6) lg).trans l6;have l7':=(gST.use.1 g (i*9+7) lg).trans l7;have x1':=(gST.use.1 wr.heap.size 1 xl).trans x1;have gR2:=gR.trans gST;clear hW6 l5 l6 l7 x0 x1 gS gT zf ff';have hSC6:SameC W6 W6.drew:=⟨fun _=>rfl⟩
         refine Reg.begin' (W:=fun _=>true) (S:=SameC W6) (by kernel_rfl) ?_;refine Reg.tl 0 hSC6 ?_ (hy:=by intro w hSw;obtain⟨hq⟩:=hSw;go_simp;try with_reducible rfl);refine Reg.ty 1 ?_;refine Reg.ty 2 ?_;refine Reg.ty 3 ?_;refine Reg.ty 4 ?_;refine Reg.ty 5 ?_;refine Reg.ty 6 ?_;refine Reg.ty 7 ?_;refine Reg.ty 8 ?_;refine Reg.ty 9 ?_;refine Reg.tl 10 hSC6 ?_ (hy:=by intro w hSw;obtain⟨hq⟩:=hSw;go_simp;try with_reducible rfl);refine Reg.ty 11 ?_;refine Reg.ty 12 ?_;refine Reg.ty 13 ?_;refine Reg.ty 14 ?_;refine Reg.tl 15 hSC6 ?_ (hy:=by intro w hSw;obtain⟨hq⟩:=hSw;go_simp;try with_reducible rfl);refine Reg.ty 16 ?_;refine Reg.ty 17 ?_;refine Reg.ty 18 ?_;refine Reg.ty 19 ?_;refine Reg.ty 20 ?_;refine Reg.ty 21 ?_;refine Reg.tl 22 hSC6 ?_ (hy:=by intro w hSw;obtain⟨hq⟩:=hSw;go_simp;try with_reducible rfl);refine Reg.ty 23 ?_;refine Reg.ty 24 ?_;refine Reg.ty 25 ?_;refine Reg.done (by kernel_rfl) ?_ _;have x1d:W6.drew.cell? ⟨wr.heap.size,1,none⟩=some (.int .i64 it.b):=x1';have gR3:=gR2.drew;clear x1' l6' l7' z0 z1 f0' f1' gR2;go_wp2_with fail
         go_roundw
         case rel=>first|exact⟨it.b,i+1,rfl,by go_num,by omega,hb2,HTL,gR3⟩|((repeat apply Exists.intro);exact⟨⟨it.b,i+1,rfl,by go_num,by omega,hb2,HTL,gR3⟩,rfl⟩)
         case measure=>simp[intOf];omega
       have k1:((it.kind:Int)==1)=false:=by simp;omega
       have k2:(it.kind==1)=false:=by simp;exact hk
       clear j2 j4 j5 j6 j7 j8;go_wp2_with fail
       go_roundw
       case rel=>first|exact⟨it.b,i+1,rfl,by go_num,by omega,hb2,HTL,gR⟩|((repeat apply Exists.intro);exact⟨⟨it.b,i+1,rfl,by go_num,by omega,hb2,HTL,gR⟩,rfl⟩)
       case measure=>simp[intOf];omega
   have d2:decide ((i:Int)<(N:Int))=false:=by simp;omega
   have d2n:decide (i<N)=false:=by simp;omega
   have hn:n=s.size:=by
    have:=ht.out;rw[List.drop_eq_nil_of_le (by have:=HLEN.out;omega)]at this;cases this;exact bs_length s
   have hg2:=Lib.hid ((HG.out.alloc _).trans hg);subst hn;clear hg ht;go_wp2_with fail;refine (lb_lives _ (HW.out.gr hg2.out)).mono ?_;rintro e w2 ⟨rfl,g2⟩;have hg3:=hg2.out.trans g2;clear g2;go_wp2_with fail;exact bodyPost_ret (v := .bool true) (by simp[results,Tryz.results4,go_sem]) rfl ⟨rfl,hg3⟩
end Go.Proofs.YtdgjgcepbkanhaaGreatDoor
namespace Go.Proofs.YtdgjgcepbkanhaaGreatDoor
open Go.ChangeShapes Go.WideShapes Go.ChangeAt Go.RowKit
theorem ownNoneC:ownKnob Tryz.prog.godebug=none:=by kernel_rfl
theorem post_plainC {H:Type} {enc:TypeId × Value→H} {P:Program} {f:Func} {s:ChangeSpec} {apart fresh handsOn again:Bool} {W W':World} {args:Array Value} {v:Value} {ds gs:List (DataW H)}
    (hW:DataW.Whole enc P f.params.toList s.vars apart W args.toList ds gs [])
    (hres:∀(b:Nat) (sp:Nat→Bool) (hd:Bool),DataW.TrodAll enc P W' b sp hd f.resultTypes.toList (v.resultList f.resultTypes.size) (s.fn H (ds++gs)).results [])
    (hargs:∀sp:Nat→Bool,DataW.TrodAll enc P W' 0 sp true f.params.toList args.toList (s.fn H (ds++gs)).args [])
    (hvars:∀sp:Nat→Bool,DataW.TrodVars enc P W' sp s.vars (s.fn H (ds++gs)).vars [])
    (hb:Below W.heap.size W W')
    (hok:∀(j:Nat) (t:TypeId) (r:Value),f.resultTypes[j]?=some t→(v.resultList f.resultTypes.size)[j]?=some r→Value.okWide P W' .any 0 t r) :
    s.post enc P f apart fresh handsOn again W args v W':=by
 refine⟨ds,gs,[],[],[],[],hW,hres _ _ _,hargs _,hvars _,hb.frame _,fun _=>?_⟩;refine⟨hok,_,_,[],⟨[],[],trodAll_append (hargs _) (hres _ _ _),hvars _,rfl,fun b off hp=>by (simp at hp),fun _=>List.nodup_nil⟩,fun p hp _=>by (simp at hp)⟩
theorem rw_ofC {W:World} (hL:laidMet Tryz.prog Rows.tlinesCoverRow.laid W) (hS:W.ShapedOpen Tryz.prog):∃T,RW T W:=by
 have e4:=err_head hL.tail.tail.tail.tail (show Tryz.prog.globalNamed "strconv.ErrRange" = some 3 by kernel_rfl) (by kernel_rfl);obtain⟨p,e5⟩:=err_head hL.tail.tail.tail.tail.tail (show Tryz.prog.globalNamed "strconv.ErrSyntax" = some 9 by kernel_rfl) (by kernel_rfl);obtain⟨T,hT⟩:=sh_any hS;exact⟨T,⟨rad_of hL (List.mem_cons_of_mem _ (List.mem_cons_of_mem _ (List.mem_cons_of_mem _ (List.mem_cons_of_mem _ (List.mem_cons_of_mem _ (List.mem_cons_of_mem _ List.mem_cons_self)))))),
     Go.Proofs.cell_of_shapedOpen_int (zero:=#[.int .i64 0]) (t:=3) hS (by decide +kernel) (by kernel_rfl) rfl (by kernel_rfl) (by kernel_rfl) Tryz.underlying3,e4,
     pow_of hL (List.mem_cons_of_mem _ (List.mem_cons_of_mem _ List.mem_cons_self))⟩,
  ⟨⟨_,e5,.inr ⟨_,_,rfl⟩⟩,hT⟩⟩
set_option maxRecDepth 100000 in
theorem coverContract (H:Type) (enc:TypeId × Value→H) (W:World) (base:Nat) (args:Array Value) (ds gs:List (DataW H)) (before:List MemPlace)
    (hval:∀(j:Nat) t v,Tryz.f4.params[j]?=some t→args[j]?=some v→Value.okWide Tryz.prog W .any base t v)
    (hW:DataW.Whole enc Tryz.prog Tryz.f4.params.toList Rows.tlinesCoverSpec.vars false W args.toList ds gs before) (hL:laidMetH Tryz.prog Rows.tlinesCoverRow.laid W) (hS:W.ShapedOpen Tryz.prog) :
    Calls Tryz.prog 4 args W fun e W'=>∃v,e = .returned v∧Rows.tlinesCoverSpec.post enc Tryz.prog Tryz.f4 false true false false W args v W':=by
 have hW':=hW;rw[MakeChecks.laidMetH_plain _ _ _ (by kernel_rfl)]at hL;obtain⟨p,q,hA0,hV,rfl,hfz,hnd⟩:=hW;have hA:DataW.TrodAll enc Tryz.prog W 0 (fun _=>true) true Tryz.f4.params.toList args.toList ds p:=hA0;rw[Tryz.params4]at hA hval;obtain⟨v0,d0,rfl,rfl,h0⟩:=trodAll_one hA;obtain⟨rfl,rfl⟩:=trodVars_none hV;obtain⟨s,rfl,rfl,rfl,hs⟩:=Go.ChangeMaps.open_string Tryz.underlying9 (hval 0 9 v0 (by simp) (by simp)) h0;clear hA0;simp only[List.append_nil]at hW';obtain⟨T,hT⟩:=rw_ofC hL hS;refine (law_cover W hT s).mono fun e W' ⟨he,hg⟩=>?_
 subst he;exact⟨_,rfl,post_plainC hW' (fun _ _ _=>trodAll_mk1 (shut_bool Tryz.underlying4 _)) (fun _=>trodAll_mk1 (Go.ChangeMaps.shut_string Tryz.underlying9 hs)) (fun _=>rfl) hg (ok_one (by kernel_rfl) rfl (okWide_bool_mk Tryz.underlying4 _))⟩
theorem coverReads (os:Os) {H:Type} (enc:TypeId × Value→H):∃places,DataW.whole enc Tryz.prog ((World.laidAll Tryz.prog os Rows.tlinesCoverRow.laid).forCall (fun _ _=>0) ⟨#[],#[.string ⟨#[]⟩],[]⟩).memory Tryz.f4.params.toList Rows.tlinesCoverSpec.vars false #[Value.string ⟨#[]⟩].toList 8=some ([.lit (.string [])],[],places) :=
 ⟨[],by kernel_rfl⟩
theorem coverLaid (os:Os):laidMetH Tryz.prog Rows.tlinesCoverRow.laid ((World.laidAll Tryz.prog os Rows.tlinesCoverRow.laid).forCall (fun _ _=>0) ⟨#[],#[.string ⟨#[]⟩],[]⟩).memory:=by
 rw[MakeChecks.laidMetH_plain _ _ _ (by kernel_rfl)];exact laidMet_laidAll _ (by kernel_rfl) (by kernel_rfl)
set_option maxRecDepth 100000 in
theorem coverLifted (os:Os) (started:os.Started) (H:Type) (enc:TypeId × Value→H) (F:Stop.Interp) :
    ReturnsInHanded {} Tryz.checked os 4 .any ((OpenSpec.ofChange Rows.tlinesCoverSpec).preRow enc Tryz.prog Tryz.f4 Rows.tlinesCoverRow.domain false Rows.tlinesCoverRow.laid) (((OpenSpec.ofChange Rows.tlinesCoverSpec).at F).post enc Tryz.prog Tryz.f4 false true false false):=by
 obtain⟨places,hx⟩:=coverReads os enc;have hok:Input.okWideB Tryz.checked.prog ((World.laidAll Tryz.prog os Rows.tlinesCoverRow.laid).forCall (fun _ _=>0) ⟨#[],#[.string ⟨#[]⟩],[]⟩) 4 ⟨#[],#[.string ⟨#[]⟩],[]⟩=true:=by kernel_rfl
 refine returnsInHanded_of_row (C:=Tryz.checked) (s:=OpenSpec.ofChange Rows.tlinesCoverSpec) ownNoneC started (by kernel_rfl) Tryz.func4
  ⟨World.laidAll Tryz.prog os Rows.tlinesCoverRow.laid,fun _ _=>0,⟨#[],#[.string ⟨#[]⟩],[]⟩,World.laidAll_os _ _ _,World.shaped_of_ZipB (by kernel_rfl) (by kernel_rfl),(Input.okWide_of_okWideB (base:=0) hok).1,(Input.okWide_of_okWideB hok).2,
   OpenSpec.preRow_of_cond 8 hx (by kernel_rfl) (fun k hk=>by cases hk) (by kernel_rfl) (coverLaid os),by
    simp only[Assume.holds];exact⟨by simp,by simp,fun _=>Modest.zero,by simp,by simp⟩⟩ ?_
 intro W base args ds gs before hval hW _ _ _ hL hS _;exact coverContract H enc W base args ds gs before hval hW hL hS
theorem coverSaid:Rows.TlinesCoverSaid :=
 OpenClaim.holds_of_cond 4 Tryz.f4 rfl rfl rfl rfl rfl rfl rfl ⟨rfl,rfl,rfl,rfl,rfl⟩ rfl rfl rfl rfl rfl (by kernel_rfl) Tryz.func4 (by kernel_rfl)
  (of_decide_eq_true (by kernel_rfl)) (by unfold Func.isWrapper;first|(rw[if_pos (by decide +kernel)];kernel_rfl)|(rw[if_neg (by decide +kernel)];exact⟨rfl,rfl⟩))
  (fun os started H enc _ F=>by rw[OpenClaim.pre_eq_preRow];exact coverLifted os started H enc F)
theorem coverPlain (f:FuncId) (fn:Func) (hf:Tryz.pinned.checked.prog.funcNamed "inarch/inarchlaw12.TlinesCover" = some f) (hfn:Tryz.pinned.checked.prog.funcs[f]?=some fn) :
    true=Tryz.pinned.checked.prog.looks []∧∀(j:Nat) t,fn.params[j]?=some t→Tryz.pinned.checked.prog.wantsStandIn t=false:=by
 obtain rfl:f=4:=Option.some.inj ((show Tryz.prog.funcNamed "inarch/inarchlaw12.TlinesCover" = some 4 by kernel_rfl).symm.trans hf) |>.symm;obtain rfl:fn=Tryz.f4:=(Option.some.inj (Tryz.func4.symm.trans hfn)).symm;refine⟨by kernel_rfl,fun j t ht=>?_⟩;rw[Tryz.params4]at ht;have hm:t∈[9]:=by simpa using Array.mem_of_getElem? ht
 have hall:([9].all fun u => !Tryz.prog.wantsStandIn u)=true:=by kernel_rfl
 have:=List.all_eq_true.1 hall t hm;show Tryz.prog.wantsStandIn t=false
 simpa using this
theorem coverCard:Rows.TlinesCoverCardSaid :=
 Claim7.holds_tied_plain_at .later [] _ _ _ _ coverSaid (fun _ h=>by cases h) (by kernel_rfl) (fun _ h=>by cases h) tlinesCover_row_tie rfl ⟨rfl,rfl⟩ (by kernel_rfl) rfl coverPlain (by kernel_rfl)
end Go.Proofs.YtdgjgcepbkanhaaGreatDoor
