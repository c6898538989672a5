/-
 The walks and plain laws that the claim rests on, part 50.
-/
import Derived.Test.YtkplelejagpkmaaGreatDoorP14
import Derived.Test.YtkplelejagpkmaaGreatDoorP37
import Derived.Test.YtkplelejagpkmaaGreatDoorP39
import Derived.Test.YtkplelejagpkmaaGreatDoorP48
import Derived.Test.YtkplelejagpkmaaGreatDoorP49
import Derived.Deep.DeepCutAuto
set_option maxHeartbeats 16000000
set_option linter.all false
set_option linter.unusedVariables false
set_option linter.unusedSimpArgs false
namespace Go.Proofs.YtkplelejagpkmaaGreatDoor
open Go.RowKit Go.Shelf Go.Joins
attribute [local go_sem] Oper.semAt_some
abbrev gapTs:List ByteArray:=[⟨#[]⟩,⟨#[32]⟩,⟨#[9]⟩,⟨#[10]⟩,⟨#[32,35,32,91,120,44,10]⟩,⟨#[13,10]⟩]
theorem gapTs_of (k:Nat) (hk:k<6):∃z,gapTs[k]?=some z∧∀n,n % 6=k→bs z=Pl.gapOf n:=by
 match k,hk with
 | 0,_=>exact⟨_,rfl,fun n h=>by unfold Pl.gapOf;rw[h];rfl⟩
 | 1,_=>exact⟨_,rfl,fun n h=>by unfold Pl.gapOf;rw[h];rfl⟩
 | 2,_=>exact⟨_,rfl,fun n h=>by unfold Pl.gapOf;rw[h];rfl⟩
 | 3,_=>exact⟨_,rfl,fun n h=>by unfold Pl.gapOf;rw[h];rfl⟩
 | 4,_=>exact⟨_,rfl,fun n h=>by unfold Pl.gapOf;rw[h];rfl⟩
 | 5,_=>exact⟨_,rfl,fun n h=>by unfold Pl.gapOf;rw[h];rfl⟩
theorem gapOf_len (n:Nat):(Pl.gapOf n).length≤7:=by
 have h:=Pl.gapOf_mem n;generalize Pl.gapOf n=g at h;simp only[Pl.gaps6,List.mem_cons,List.not_mem_nil,or_false]at h;rcases h with rfl|rfl|rfl|rfl|rfl|rfl <;> decide
def gapN (gs:List UInt8) (i:Nat):Nat:=match gs[i]? with
 | some c=>c.toNat
 | none=>i % 256
def itemsOf (l:List ByteArray) (gs:List UInt8) (i:Nat):List Pl.Item3:=(List.range i).map fun j=>(Pl.gapOf (gapN gs j),bs (l.getD j ByteArray.empty),Pl.gapOf (gapN gs j / 6))
theorem itemsOf_succ (l:List ByteArray) (gs:List UInt8) (i:Nat):itemsOf l gs (i+1)=itemsOf l gs i++[(Pl.gapOf (gapN gs i),bs (l.getD i ByteArray.empty),Pl.gapOf (gapN gs i / 6))]:=by
 unfold itemsOf;rw[List.range_succ,List.map_append];rfl
theorem itemsOf_len (l:List ByteArray) (gs:List UInt8) (n:Nat):(itemsOf l gs n).length=n:=by simp[itemsOf]
theorem items_at (l:List ByteArray) (gs:List UInt8) (n j:Nat) (z:ByteArray) (hj:j<n) (hz:l[j]?=some z):(itemsOf l gs n)[j]?=some (Pl.gapOf (gapN gs j),bs z,Pl.gapOf (gapN gs j / 6)):=by
 unfold itemsOf;rw[List.getElem?_map,List.getElem?_range hj];simp only[Option.map_some];rw[show l.getD j ByteArray.empty=z by rw[List.getD_eq_getElem?_getD,hz];rfl]
theorem items_ok {l:List ByteArray} {gs:List UInt8} {n:Nat} (h:∀(j:Nat),j<n→∃z root nds,l[j]?=some z∧z.size≤80∧Pl.readS (Pl.envT Pl.tab0) (bs z) 0 1 = .ok (root,z.size,nds)):∀it∈itemsOf l gs n,Pl.ItemOk3 Pl.tab0 it:=by
 intro it hit;obtain⟨j,hj,rfl⟩:=List.mem_map.1 hit;rw[List.mem_range]at hj;obtain⟨z,root,nds,hz,_,hr⟩:=h j hj;rw[show l.getD j ByteArray.empty=z by rw[List.getD_eq_getElem?_getD,hz];rfl];refine⟨Pl.gapOf_mem _,Pl.gapOf_mem _,root,nds,?_⟩;rw[bs_length];exact hr
theorem list_txt {t:ByteArray} {items:List Pl.Item3} (h:bs t=91::items.flatMap Pl.item1) (dr:Bool) (hd:dr=true→items≠[]):(if dr then (bs t).take (t.size-1) else bs t)++[32,93]=91::Pl.listT dr items:=by
 cases dr with
 | false=>simp only[Bool.false_eq_true,if_false];rw[h,Pl.listT_plain];simp
 | true =>
  simp only[if_true];have hne:items.flatMap Pl.item1≠[]:=by
   cases items with
   | nil=>exact absurd rfl (hd rfl)
   | cons it rest=>rw[List.flatMap_cons];unfold Pl.item1;simp
  have hpos:=List.length_pos_iff.2 hne;rw[Pl.listT_drop items (hd rfl),←bs_length,h,List.length_cons,Nat.add_sub_cancel];obtain⟨X,hX⟩:∃X,items.flatMap Pl.item1=X:=⟨_,rfl⟩
  rw[hX]at hpos ⊢;obtain⟨k,hk⟩:∃k,X.length=k+1:=⟨X.length-1,by omega⟩
  rw[hk,List.take_succ_cons];rfl
structure PartS (b16 b19 b21 bl gu gf g oj ou of' og:Nat) (va vb vc vd ve zv uv fv s1 s2:Value) (w:World):Prop where
 a0:w.cell? ⟨b16,0,none⟩=some va
 a1:w.cell? ⟨b16,1,none⟩=some vb
 c4:w.cell? ⟨b19,4,none⟩=some vc
 d0:w.cell? ⟨b21,0,none⟩=some vd
 d1:w.cell? ⟨b21,1,none⟩=some ve
 e0:w.cell? ⟨bl,oj,none⟩=some zv
 u0:w.cell? ⟨gu,ou,none⟩=some uv
 f0:w.cell? ⟨gf,of',none⟩=some fv
 k1:w.cell? ⟨g,og+5,none⟩=some s1
 k2:w.cell? ⟨g,og+6,none⟩=some s2
 l1:b16<w.heap.size
 l2:b19<w.heap.size
 l3:b21<w.heap.size
 l4:bl<w.heap.size
 l5:gu<w.heap.size
 l6:gf<w.heap.size
 l7:g<w.heap.size
theorem PartS.gr {b16 b19 b21 bl gu gf g oj ou of' og:Nat} {va vb vc vd ve zv uv fv s1 s2:Value} {w w':World} (h:PartS b16 b19 b21 bl gu gf g oj ou of' og va vb vc vd ve zv uv fv s1 s2 w) (q:Gr w w'):PartS b16 b19 b21 bl gu gf g oj ou of' og va vb vc vd ve zv uv fv s1 s2 w' :=
 ⟨(q.use.1 _ _ h.l1).trans h.a0,(q.use.1 _ _ h.l1).trans h.a1,(q.use.1 _ _ h.l2).trans h.c4,(q.use.1 _ _ h.l3).trans h.d0,(q.use.1 _ _ h.l3).trans h.d1,(q.use.1 _ _ h.l4).trans h.e0,(q.use.1 _ _ h.l5).trans h.u0,(q.use.1 _ _ h.l6).trans h.f0,(q.use.1 _ _ h.l7).trans h.k1,(q.use.1 _ _ h.l7).trans h.k2,
  Nat.lt_of_lt_of_le h.l1 q.size,Nat.lt_of_lt_of_le h.l2 q.size,Nat.lt_of_lt_of_le h.l3 q.size,Nat.lt_of_lt_of_le h.l4 q.size,Nat.lt_of_lt_of_le h.l5 q.size,Nat.lt_of_lt_of_le h.l6 q.size,Nat.lt_of_lt_of_le h.l7 q.size⟩
theorem parts_same {s:Pl.Bs} {root b0 f d n m:Nat} {nds:Pl.Nds} {L L':List NdR} {st:Pl.Nds} (hv:Pl.valueF (Pl.envT Pl.tab0) s f d n [] = .ok (root,m,nds)) (hL:L.map (·.nd)=st) (hL':L'.map (·.nd)=nds) (hr:∀(j:Nat) y,nds[j]?=some y→∃x,st[b0+j]?=some x∧Pl.SN b0 x y) (hs:m≤80) (hst:st.length≤30000000) (hlen:nds.length≤m) (hwf:Pl.WF nds) (hrt:root<nds.length)
    {g1 g2 b1 b2:Nat} (q1 q2:Int) (w:World) (hT:TreeV w b1 g1 L) (hT':TreeV w b2 g2 L') :
    Calls Tryz.prog 9 #[treeV g1 st.length q1,.int .i64 ((b0+root:Nat):Int),treeV g2 nds.length q2,.int .i64 root] w fun e w'=>e = .returned (.bool true)∧Gr w w':=by
 have h0:Pl.WF ([]:Pl.Nds):=fun i nd h=>by simp at h
 obtain⟨rk,hrk⟩:=(Pl.valueF_rk (Pl.envT_ok Pl.tab0) s f d n [] root m nds h0 hv ⟨fun _=>0,fun i nd h=>by simp at h⟩).rk;have hl1:L.length=st.length:=by rw[←hL,List.length_map]
 have hl2:L'.length=nds.length:=by rw[←hL',List.length_map]
 have hget:∀(j:Nat) y,L'[j]?=some y→nds[j]?=some y.nd:=fun j y hy=>by rw[←hL',List.getElem?_map,hy];rfl
 rw[←hl1,←hl2];refine la_tree rk b0 L L' (fun j y hy=>?_) (fun j y hy x hx=>⟨hrk j y.nd (hget j y hy) x hx,by rw[hl2];exact (hwf j y.nd (hget j y hy)).lt x hx⟩) (by omega) (by omega) (fun j y hy=>?_) g1 g2 b1 b2 q1 q2 (rk root+1) root (by omega) (by omega) w hT hT'
 · obtain⟨x,hx,hs⟩:=hr j y.nd (hget j y hy);rw[←hL,List.getElem?_map]at hx;cases hLx:L[b0+j]? with
   | none=>rw[hLx]at hx;cases hx
   | some r=>rw[hLx]at hx;simp only[Option.map_some,Option.some.injEq]at hx;subst hx;exact⟨r,rfl,hs⟩
 have h2:=hwf j y.nd (hget j y hy);have h3:=Pl.up_len _ _ h2.up h2.lt;have h4:=Pl.keys_le s f d n root m nds hv hwf j y.nd (hget j y hy);exact⟨by omega,by omega⟩
structure WordS (bw ow:Nat) (zw:ByteArray) (bl ol:Nat) (zl:ByteArray) (w:World):Prop where
 c1:w.cell? ⟨bw,ow,none⟩=some (.string zw)
 c2:w.cell? ⟨bl,ol,none⟩=some (.string zl)
 l1:bw<w.heap.size
 l2:bl<w.heap.size
theorem WordS.gr {bw ow:Nat} {zw:ByteArray} {bl ol:Nat} {zl:ByteArray} {w w':World} (h:WordS bw ow zw bl ol zl w) (q:Gr w w'):WordS bw ow zw bl ol zl w' :=
 ⟨(q.use.1 _ _ h.l1).trans h.c1,(q.use.1 _ _ h.l2).trans h.c2,Nat.lt_of_lt_of_le h.l1 q.size,Nat.lt_of_lt_of_le h.l2 q.size⟩
structure TabS (b18 b19:Nat) (vk vu:Value) (w:World):Prop where
 f0:w.cell? ⟨b18,0,none⟩=some (.int .i64 0)
 f1:w.cell? ⟨b18,1,none⟩=some (.int .i64 0)
 n2:w.cell? ⟨b19,2,none⟩=some vk
 n4:w.cell? ⟨b19,4,none⟩=some vu
 l1:b18<w.heap.size
 l2:b19<w.heap.size
theorem TabS.gr {b18 b19:Nat} {vk vu:Value} {w w':World} (h:TabS b18 b19 vk vu w) (q:Gr w w'):TabS b18 b19 vk vu w' :=
 ⟨(q.use.1 _ _ h.l1).trans h.f0,(q.use.1 _ _ h.l1).trans h.f1,(q.use.1 _ _ h.l2).trans h.n2,(q.use.1 _ _ h.l2).trans h.n4,Nat.lt_of_lt_of_le h.l1 q.size,Nat.lt_of_lt_of_le h.l2 q.size⟩
structure SubS (b16 b19 b29 gu ou:Nat) (va vb vc vd ve uv:Value) (w:World):Prop where
 a0:w.cell? ⟨b16,0,none⟩=some va
 a1:w.cell? ⟨b16,1,none⟩=some vb
 c4:w.cell? ⟨b19,4,none⟩=some vc
 d0:w.cell? ⟨b29,0,none⟩=some vd
 d1:w.cell? ⟨b29,1,none⟩=some ve
 u0:w.cell? ⟨gu,ou,none⟩=some uv
 l1:b16<w.heap.size
 l2:b19<w.heap.size
 l3:b29<w.heap.size
 l4:gu<w.heap.size
theorem SubS.gr {b16 b19 b29 gu ou:Nat} {va vb vc vd ve uv:Value} {w w':World} (h:SubS b16 b19 b29 gu ou va vb vc vd ve uv w) (q:Gr w w'):SubS b16 b19 b29 gu ou va vb vc vd ve uv w' :=
 ⟨(q.use.1 _ _ h.l1).trans h.a0,(q.use.1 _ _ h.l1).trans h.a1,(q.use.1 _ _ h.l2).trans h.c4,(q.use.1 _ _ h.l3).trans h.d0,(q.use.1 _ _ h.l3).trans h.d1,(q.use.1 _ _ h.l4).trans h.u0,
  Nat.lt_of_lt_of_le h.l1 q.size,Nat.lt_of_lt_of_le h.l2 q.size,Nat.lt_of_lt_of_le h.l3 q.size,Nat.lt_of_lt_of_le h.l4 q.size⟩
structure Parts1 (l:List ByteArray) (gs:List UInt8) (i:Nat) (base:Nat) (t:ByteArray) (v10:Value) (wr:World):Prop where
 txt:bs t=91::(itemsOf l gs i).flatMap Pl.item1
 row:wr.ownsRow base 3 1 v10 i ((Pl.fromsL 1 (itemsOf l gs i)).map fun (n:Nat) => .int .i64 n)
 sz:t.size≤1+i*100
 ok:∀(j:Nat),j<i→∃z root nds,l[j]?=some z∧z.size≤80∧Pl.readS (Pl.envT Pl.tab0) (bs z) 0 1 = .ok (root,z.size,nds)
set_option maxRecDepth 100000 in
theorem law_parts (w:World) (hw:RW Pl.tab0 w) (al aw ag:Option Addr) (cl cw cg:Nat) (l ws:List ByteArray) (gs:List UInt8) (hl:StrsV w al l) (hws:StrsV w aw ws) (hgs:BytsV w ag gs) (hlz:∀z∈l,z.size≤20000000) (hwz:∀z∈ws,z.size≤1100000) (hsum:(ws.map (·.size)).sum≤1048576) (hcw:ws.length≤cw) :
    Calls Tryz.prog 3 #[.slice al l.length cl,.slice aw ws.length cw,.slice ag gs.length cg] w fun e w'=>e = .returned (.bool true)∧Gr w w':=by
 have HW:=Lib.hid hw;have HL:=Lib.hid hl;have HWS:=Lib.hid hws;have HGS:=Lib.hid hgs;have HLZ:=Lib.hid hlz;have HWZ:=Lib.hid hwz;have HSUM:=Lib.hid hsum;have HCWC:=Lib.hid hcw;clear hw hl hws hgs hlz hwz hsum hcw;obtain⟨nl,hnl⟩:∃n,l.length=n:=⟨_,rfl⟩
 obtain⟨nw,hnw⟩:∃n,ws.length=n:=⟨_,rfl⟩
 obtain⟨ng,hng⟩:∃n,gs.length=n:=⟨_,rfl⟩
 rw[hnl,hnw,hng];have HNL:=Lib.hid hnl;have HNW:=Lib.hid hnw;have HNG:=Lib.hid hng;clear hnl hnw hng;by_cases hbig:12<nl∨12<nw∨100<ng
 · have H:=Lib.hid (la_lives w HW.out);have d:(decide ((12:Int)<(nl:Int))=true)∨(decide ((12:Int)<(nl:Int))=false∧decide ((12:Int)<(nw:Int))=true)∨(decide ((12:Int)<(nl:Int))=false∧decide ((12:Int)<(nw:Int))=false∧decide ((100:Int)<(ng:Int))=true):=by simp;omega
   clear hbig;rcases d with d1|⟨d1,d2⟩|⟨d1,d2,d3⟩
   all_goals
    go_enter Tryz.func3,Tryz.ntmps3;go_wp2_with fail;refine H.out.mono ?_;rintro e w1 ⟨rfl,g1⟩;go_wp2_with fail;exact bodyPost_ret (v := .bool true) (by simp[results,Tryz.results3,go_sem]) rfl ⟨rfl,g1⟩
 have d1:decide ((12:Int)<(nl:Int))=false:=by simp;omega
 have d2:decide ((12:Int)<(nw:Int))=false:=by simp;omega
 have d3:decide ((100:Int)<(ng:Int))=false:=by simp;omega
 have hl12:nl≤12:=by omega
 have hw12:nw≤12:=by omega
 have hg100:ng≤100:=by omega
 clear hbig;go_enter Tryz.func3,Tryz.ntmps3;go_wp2_with fail;obtain⟨W0,hW0⟩:∃W,w.alloc (.cells (gapTs.map Value.string).toArray 9)=W:=⟨_,rfl⟩
 have gW0:Gr w W0:=by rw[←hW0];exact (Gr.refl w).alloc _
 have hall:∀(j:Nat) z,gapTs[j]?=some z→W0.cell? ⟨w.heap.size,j,none⟩=some (.string z):=fun j z hz=>by
  rw[←hW0,cell_of_block (heap_alloc_new w _)];simp only[List.getElem?_toArray,List.getElem?_map,hz,Option.map_some]
 have hlt0:w.heap.size<W0.heap.size:=by rw[←hW0];simp
 have HALL:=Lib.hid hall;have HG0:=Lib.hid gW0;rw[show (w.alloc (.cells #[.string ⟨#[]⟩,.string ⟨#[32]⟩,.string ⟨#[9]⟩,.string ⟨#[10]⟩,.string ⟨#[32,35,32,91,120,44,10]⟩,.string ⟨#[13,10]⟩] 9))=W0 from hW0];clear hW0 hall gW0
 go_loopw [8,10,11] (fun v8 v10 v11 wr=>∃(i:Nat) (t:ByteArray),v8 = .string t∧v11 = .int .i64 i∧i≤nl∧Parts1 l gs i W0.heap.size t v10 wr∧Gr W0 wr) (fun _ _ v11 _=>nl-(intOf v11).toNat)
 case atStart=>exact⟨0,⟨#[91]⟩,rfl,rfl,by omega,⟨rfl,World.ownsRow_nil ..,by decide,fun j hj=>by omega⟩,Gr.refl _⟩
 case round =>
  obtain⟨i,t,rfl,rfl,hi,hp,hg⟩:=hrel;have HP:=Lib.hid hp;clear hp;by_cases hin:i<nl
  · have e1:decide ((i:Int)<(nl:Int))=true:=by simp;omega
    have e1n:decide (i<nl)=true:=by simp;omega
    have i1:(0:Int)≤(i:Int):=by omega
    have i2:(i:Int)<(nl:Int):=by omega
    have wi:IntKind.i64.wrap ((i:Int)+1)=(i:Int)+1:=IntWalk.i64_in _ ⟨by omega,by omega⟩;obtain⟨z,hz⟩:∃z,l[i]?=some z:=⟨_,List.getElem?_eq_getElem (by have:=HNL.out;omega)⟩
    have hgw:=HG0.out.trans hg;obtain⟨bl,ol,hal,hbl0,hcl0⟩:=HL.out.cell i z hz;subst hal;have hbl:bl<wr.heap.size:=Nat.lt_of_lt_of_le hbl0 hgw.size;have hcl:=(hgw.use.1 _ _ hbl0).trans hcl0;have HC0:=Lib.hid (And.intro hbl0 hcl0);clear hbl0 hcl0;have hzs:=HLZ.out z (List.mem_of_getElem? hz);obtain⟨X,hX⟩:∃X,Pl.readS (Pl.envT Pl.tab0) (bs z) 0 1=X:=⟨_,rfl⟩
    have HTOT:=Lib.hid (Pl.readS_tot (Pl.envT_ok Pl.tab0) (bs z) (by rw[bs_length];exact hzs) 0 1 (by omega));rw[hX]at HTOT;have HR:=Lib.hid (tv_Read wr (HW.out.gr hgw) z hzs 0 0 rfl (by omega) 1 1 (by decide) X hX HTOT.out.1);have HX:=Lib.hid hX;have HZ:=Lib.hid hz;clear hX hz;go_wp2_with fail;refine HR.out.mono ?_;cases X with
    | non=>exact absurd rfl HTOT.out.1
    | bad c p =>
     rintro e w1 ⟨rfl,hc,g1⟩;have hc':¬(c:Int)=0:=by omega
     have HG1:=Lib.hid (hgw.trans g1)
     replace hcl:=(g1.use.1 _ _ hbl).trans hcl
     replace hbl:=Nat.lt_of_lt_of_le hbl g1.size
     clear g1;by_cases hbg:80<z.size
     · have q1:decide ((80:Int)<(z.size:Int))=true:=by simp;omega
       go_wp2_with fail;refine (la_lives _ (HW.out.gr ((HG1.out.alloc _).alloc _))).mono ?_;rintro e w2 ⟨rfl,g2⟩;go_wp2_with fail;exact bodyPost_ret (v := .bool true) (by simp[results,Tryz.results3,go_sem]) rfl ⟨rfl,((HG1.out.alloc _).alloc _).trans g2⟩
     have q1:decide ((80:Int)<(z.size:Int))=false:=by simp;omega
     go_wp2_with fail;refine (la_lives _ (HW.out.gr ((HG1.out.alloc _).alloc _))).mono ?_;rintro e w2 ⟨rfl,g2⟩;go_wp2_with fail;exact bodyPost_ret (v := .bool true) (by simp[results,Tryz.results3,go_sem]) rfl ⟨rfl,((HG1.out.alloc _).alloc _).trans g2⟩
    | ok v =>
     obtain⟨root,m,st⟩:=v;rintro e w1 ⟨g,L,rfl,hm,hri,hL,hT,g1⟩
     as_aux_lemma =>
     have hvk:=(HTOT.out.2.2 root m st rfl).2.2;have hm':=hm;have hst0:0<st.length:=by omega
     have hstm:st.length≤m:=hvk.len;have hHG1:=hgw.trans g1
     replace hcl:=(g1.use.1 _ _ hbl).trans hcl
     replace hbl:=Nat.lt_of_lt_of_le hbl g1.size
     have HG1:=Lib.hid hHG1;have HGR1:=Lib.hid (hg.trans g1);have HGRR:=Lib.hid g1;have HLL:=Lib.hid hL;have HVK:=Lib.hid hvk;have HT:=Lib.hid hT;obtain⟨N,hN⟩:∃n,st.length=n:=⟨_,rfl⟩
     rw[hN]at hst0 hstm hri ⊢;have HN:=Lib.hid hN;clear g1 hHG1 hL hvk hT hN;by_cases hbg:80<z.size
     · have q1:decide ((80:Int)<(z.size:Int))=true:=by simp;omega
       go_wp2_with fail;refine (la_lives _ (HW.out.gr ((HG1.out.alloc _).alloc _))).mono ?_;rintro e w2 ⟨rfl,g2⟩;go_wp2_with fail;exact bodyPost_ret (v := .bool true) (by simp[results,Tryz.results3,go_sem]) rfl ⟨rfl,((HG1.out.alloc _).alloc _).trans g2⟩
     have q1:decide ((80:Int)<(z.size:Int))=false:=by simp;omega
     have hz80:z.size≤80:=by omega
     by_cases hme:m=z.size
     · subst hme;have q2:((z.size:Int) != (z.size:Int))=false:=by simp
       go_upto_region 11 with fail
       obtain⟨W2,hW2⟩:∃W,(w1.alloc (.cells #[.slice (some ⟨g,0,none⟩) N N,.int .i64 root] 28)).alloc (.cells #[.int .i64 0,.int .i64 0] 31)=W:=⟨_,rfl⟩
       have g12:Gr w1 W2:=by rw[←hW2];exact ((Gr.refl _).alloc _).alloc _
       have hT12:FX w1.heap.size (.slice (some ⟨g,0,none⟩) N N) (.int .i64 root) W2:=by rw[←hW2];exact (FX.new w1 _ _ 28).gr ((Gr.refl _).alloc _)
       have hF14:FX (w1.heap.size+1) (.int .i64 0) (.int .i64 0) W2:=by
        rw[←hW2];have:=FX.new (w1.alloc (.cells #[.slice (some ⟨g,0,none⟩) N N,.int .i64 root] 28)) (.int .i64 0) (.int .i64 0) 31
        simpa using this
       have hLn:L.length=N:=by rw[←HN.out,←HLL.out,List.length_map]
       have hsnd:=la_Sound W2 wr.heap.size g L (HT.out.gr g12) root (by omega) (by omega) (fun j r hr=>by
        have h1:st[j]?=some r.nd:=by rw[←HLL.out,List.getElem?_map,hr];rfl
        have h2:=HVK.out.wf j r.nd h1;have h3:=Pl.up_len _ _ h2.up h2.lt;have h4:=HN.out;omega)
       rw[hLn]at hsnd;have HSND:=Lib.hid hsnd;have HG12:=Lib.hid g12;have hcl2:=(g12.use.1 _ _ hbl).trans hcl;have hbl2:=Nat.lt_of_lt_of_le hbl g12.size;obtain⟨t0,t1,tf,tl⟩:=hT12;have HF14:=Lib.hid hF14;obtain⟨f0',f1',ff',fl'⟩:=hF14;rw[hW2];clear g12 hsnd hLn hW2 hcl hbl;go_wp2_with fail;refine HSND.out.mono ?_;rintro e w3 ⟨⟨bb,rfl⟩,g3⟩;have hF3:=HF14.out.gr g3;have HG3:=Lib.hid (HG12.out.trans g3);have HGW:=Lib.hid (HG1.out.trans HG3.out);cases bb with
       | false =>
        obtain⟨b0',b1',bf',bl'⟩:=hF3;go_wp2_with fail;refine (la_lives _ (HW.out.gr HGW.out)).mono ?_;rintro e w2 ⟨rfl,g2⟩;go_wp2_with fail;exact bodyPost_ret (v := .bool true) (by simp[results,Tryz.results3,go_sem]) rfl ⟨rfl,HGW.out.trans g2⟩
       | true =>
        have hcl3:=(g3.use.1 _ _ hbl2).trans hcl2;have hbl3:=Nat.lt_of_lt_of_le hbl2 g3.size;clear hF3 t0 t1 tf tl f0' f1' ff' fl' hcl2 hbl2 g3
        go_upto_if 104 with fail
        obtain⟨gn,hgn⟩:∃n,gapN gs i=n:=⟨_,rfl⟩
        have hgn256:gn<256:=by
         rw[←hgn];unfold gapN;split
         · rename_i c _;exact c.toNat_lt
         exact Nat.mod_lt _ (by decide)
        have HGN:=Lib.hid hgn;clear hgn
        go_cut [15] (fun s15 W=>s15 = .int .u8 gn∧w3=W)
        case first =>
         by_cases hing:i<ng
         · have d4:decide ((i:Int)<(ng:Int))=true:=by simp;omega
           have d4n:decide (i<ng)=true:=by simp;omega
           obtain⟨c,hc⟩:∃c,gs[i]?=some c:=⟨_,List.getElem?_eq_getElem (by have:=HNG.out;omega)⟩
           obtain⟨bg,og,rfl,hbg',hcg⟩:=(HGS.out.gr HGW.out).cell i c hc;have i5:(i:Int)<(ng:Int):=by omega
           have hgc:gn=c.toNat:=by rw[←HGN.out];unfold gapN;rw[hc]
           rw[show byteV c = .int .u8 gn by rw[hgc]]at hcg;clear hc hgc;go_wp2_with fail
           go_meet
           exact⟨rfl,rfl⟩
         have d4:decide ((i:Int)<(ng:Int))=false:=by simp;omega
         have d4n:decide (i<ng)=false:=by simp;omega
         have hgc:i=gn:=by
          rw[←HGN.out];unfold gapN;rw[List.getElem?_eq_none (by have:=HNG.out;omega)];exact (Nat.mod_eq_of_lt (by omega)).symm
         go_wp2_with fail
         go_meet
         exact⟨by rw[←hgc],rfl⟩
        case rest =>
         obtain⟨rfl,rfl⟩:=hcut;obtain⟨za,hza,hba⟩:=gapTs_of (gn % 6) (Nat.mod_lt _ (by decide));obtain⟨zb,hzb,hbb⟩:=gapTs_of (gn / 6 % 6) (Nat.mod_lt _ (by decide));have hg03:=HGR1.out.trans HG3.out;have ca:w3.cell? ⟨w.heap.size,gn % 6,none⟩=some (.string za):=(hg03.use.1 _ _ hlt0).trans (HALL.out _ _ hza);have cb:w3.cell? ⟨w.heap.size,gn / 6 % 6,none⟩=some (.string zb):=(hg03.use.1 _ _ hlt0).trans (HALL.out _ _ hzb);have hsa:za.size≤7:=by rw[←bs_length,hba gn rfl];exact gapOf_len _
         have hsb:zb.size≤7:=by rw[←bs_length,hbb (gn / 6) rfl];exact gapOf_len _
         have hst:t.size≤1201:=by have:=HP.out.sz;omega
         have HBA:=Lib.hid (hba gn rfl);have HBB:=Lib.hid (hbb (gn / 6) rfl);have m1:((gn % 6:Nat):Int)<6:=by omega
         have m2:((gn / 6 % 6:Nat):Int)<6:=by omega
         have m3:(gn:Int) % 6<6:=by omega
         have m4:(gn:Int) / 6 % 6<6:=by omega
         have m5:(0:Int)≤(gn:Int) % 6:=by omega
         have m6:(0:Int)≤(gn:Int) / 6 % 6:=by omega
         have HROW:=Lib.hid (own_gr HP.out.row (HGRR.out.trans HG3.out));have hzw:W0.heap.size≤w3.heap.size:=hg03.size;have HG03:=Lib.hid hg03;have HZB:=Lib.hid hzb;clear hza hzb hba hbb hg03;obtain⟨iU,hI⟩:∃i,Tryz.prog.info? 3=some i∧i.zero=some (.int .i64 0)∧i.size=1∧i.bytes=8:=by
          obtain⟨i,h1,h2⟩:=Option.map_eq_some_iff.1 infoInt;simp only[Prod.mk.injEq]at h2;exact⟨i,h1,h2⟩
         have HI:=Lib.hid hI;clear hI
         go_upto_region 17 with fail
         obtain⟨T1,hT1⟩:∃x,t++za=x:=⟨_,rfl⟩
         rw[hT1];have hs1:T1.size≤1210:=by rw[←hT1];simp;omega
         have HT1:=Lib.hid hT1;clear hT1;go_wp2_with (at_builtin;refine wpList_append_lies _ rfl (.tmp 116) (.tmp 119) 25 rfl W0.heap.size 3 iU (.int .i64 0) 1 8 Tryz.underlying25 HI.out.1 HI.out.2.1 HI.out.2.2.1 HI.out.2.2.2 rfl (by decide) _ i _ rfl (own_gr HROW.out ((Gr.refl _).alloc _)) ⟨_,0,none⟩ 1 1 [.int .i64 T1.size] rfl rfl (cells_new _ [.int .i64 T1.size] _ _ (by simp)) (by simp[Value.oneCell']) (by decide) (by unfold maxLen;omega) (by omega) (by simp;omega) _ rfl ?_;intro gb cap w7 hown7 hg7 hl7 hz7);have hg7':=gr_grown (HG03.out.alloc _) hg7 (own_low HROW.out);have hw7:=HG0.out.trans hg7';have p1:w7.cell? ⟨bl,ol+i,none⟩=some (.string z):=(hw7.use.1 _ _ HC0.out.1).trans HC0.out.2;have p2:w7.cell? ⟨w.heap.size,gn / 6 % 6,none⟩=some (.string zb):=(hg7'.use.1 _ _ hlt0).trans (HALL.out _ _ HZB.out);have p3:bl<w7.heap.size:=Nat.lt_of_lt_of_le HC0.out.1 hw7.size;have p4:w.heap.size<w7.heap.size:=Nat.lt_of_lt_of_le hlt0 hg7'.size;have HOWN7:=Lib.hid hown7;have HG7:=Lib.hid hg7';clear hown7 hg7 hl7 hz7 hg7' hw7 ca cb hcl3 hbl3
         go_quiet (fail)
         have hp':Parts1 l gs (i+1) W0.heap.size (T1++z++zb++⟨#[44]⟩) (.slice (some ⟨gb,0,none⟩) (i+1) cap) (w7.drewN nq):=by
          have hgd:l.getD i ByteArray.empty=z:=by rw[List.getD_eq_getElem?_getD,HZ.out];rfl
          have hbt:bs T1=91::(itemsOf l gs i).flatMap Pl.item1++bs za:=by rw[←HT1.out,bs_append',HP.out.txt]
          have hit:itemsOf l gs (i+1)=itemsOf l gs i++[(bs za,bs z,bs zb)]:=by
           rw[itemsOf_succ,HGN.out,hgd,HBA.out,HBB.out]
          refine⟨?_,?_,?_,fun j hj=>?_⟩
          · rw[bs_append',bs_append',bs_append',hbt,hit,List.flatMap_append];simp[Pl.item1,bs]
          · rw[hit,Pl.fromsL_app,List.map_append];have h1:(T1.size:Int)=((1+((itemsOf l gs i).flatMap Pl.item1).length+(bs za).length:Nat):Int):=by
             have:=congrArg List.length hbt;rw[bs_length]at this;simp only[List.length_append,List.length_cons]at this;omega
            have h2:=own_gr HOWN7.out ((Gr.refl _).drewN nq);rw[h1]at h2;exact h2
          · have h1:=HP.out.sz;have h2:=congrArg ByteArray.size HT1.out;simp only[ByteArray.size_append]at h2 ⊢;have h3:(⟨#[44]⟩:ByteArray).size=1:=rfl;omega
          by_cases hji:j=i
          · subst hji;exact⟨z,root,st,HZ.out,hz80,HX.out⟩
          exact HP.out.ok j (by omega)
         have hgd':=HG7.out.drewN nq;clear HP HBA HBB HT1 HOWN7;go_wp2_with fail
         go_roundw
         case rel=>first|exact⟨i+1,_,rfl,by go_num,by omega,hp',hgd'⟩|((repeat apply Exists.intro);exact⟨⟨i+1,_,rfl,rfl,by omega,hp',hgd'⟩,rfl⟩)
         case measure=>simp[intOf];omega
     have q2:((m:Int) != (z.size:Int))=true:=by simp;omega
     go_wp2_with fail;refine (la_lives _ (HW.out.gr ((HG1.out.alloc _).alloc _))).mono ?_;rintro e w2 ⟨rfl,g2⟩;go_wp2_with fail;exact bodyPost_ret (v := .bool true) (by simp[results,Tryz.results3,go_sem]) rfl ⟨rfl,((HG1.out.alloc _).alloc _).trans g2⟩
  have e1:decide ((i:Int)<(nl:Int))=false:=by simp;omega
  have e1n:decide (i<nl)=false:=by simp;omega
  obtain rfl:i=nl:=by omega
  have hst:t.size≤1201:=by have:=HP.out.sz;omega
  have htp:0<t.size:=by
   have:=congrArg List.length HP.out.txt;rw[bs_length]at this;simp at this;omega
  have HGW:=Lib.hid (HG0.out.trans hg);have HGG:=Lib.hid hg;clear hg
  go_upto_if 138 with fail
  go_cut [8] (fun s8 W=>∃(dr:Bool) (t2:ByteArray),s8 = .string t2∧(dr=true→itemsOf l gs i≠[])∧bs t2++[32,93]=91::Pl.listT dr (itemsOf l gs i)∧t2.size≤1201∧wr=W)
  case first =>
   by_cases hodd:i % 2=1
   · have r1:((i:Int) % 2==1)=true:=by simp;omega
     have wt:IntKind.i64.wrap ((t.size:Int)-1)=((t.size-1:Nat):Int):=(IntWalk.i64_in _ ⟨by omega,by omega⟩).trans (by omega);have b1:(0:Int)≤((t.size-1:Nat):Int):=by omega
     have b2:((t.size-1:Nat):Int)≤(t.size:Int):=by omega
     go_wp2_with fail
     go_meet
     refine⟨true,t.extract 0 (t.size-1),rfl,fun _ e=>?_,?_,by simp;omega,rfl⟩
     · have:=congrArg List.length e;rw[itemsOf_len]at this;simp at this;omega
     have h1:=list_txt HP.out.txt true (fun _ e=>by
      have:=congrArg List.length e;rw[itemsOf_len]at this;simp at this;omega)
     simp only[if_true]at h1;rw[←h1];simp only[bs,Lib.extract_data,List.drop_zero,Nat.sub_zero]
   have r1:((i:Int) % 2==1)=false:=by simp;omega
   go_wp2_with fail
   go_meet
   exact⟨false,t,rfl,by simp,by have:=list_txt HP.out.txt false (by simp);simpa using this,hst,rfl⟩
  case rest =>
   obtain⟨dr,t2,rfl,hdr,ht2,hs2,rfl⟩:=hcut
   as_aux_lemma =>
   have HOK:=Lib.hid (items_ok (gs:=gs) HP.out.ok);have HZS:=Lib.hid HP.out.ok;have hlen2:=congrArg List.length ht2;simp only[List.length_append,List.length_cons,List.length_nil,bs_length]at hlen2;have hsum:=Pl.list_law Pl.tab0 dr (itemsOf l gs i) [120] (by simp only[List.length_append,List.length_cons,List.length_nil];omega) HOK.out;obtain⟨root,ls,nds,nd,hrd,hnd,hk7,hsb,hky,hsp,hpl⟩:=hsum;obtain⟨t3,ht3⟩:∃x,t2++(⟨#[32,93]⟩:ByteArray)=x:=⟨_,rfl⟩
   have hb3:bs t3=91::Pl.listT dr (itemsOf l gs i):=by rw[←ht3,bs_append',←ht2]
   have hs3:t3.size≤1203:=by rw[←ht3,ByteArray.size_append,show (⟨#[32,93]⟩:ByteArray).size=2 from rfl] <;> omega
   have hl3:(91::Pl.listT dr (itemsOf l gs i)).length=t3.size:=by rw[←hb3,bs_length]
   rw[hl3]at hrd hsp;have hb4:bs (t3++⟨#[120]⟩)=91::Pl.listT dr (itemsOf l gs i)++[120]:=by rw[bs_append',hb3]
   have hs4:(t3++(⟨#[120]⟩:ByteArray)).size≤20000000:=by rw[ByteArray.size_append,show (⟨#[120]⟩:ByteArray).size=1 from rfl] <;> omega
   have hrd4:Pl.readS ⟨Pl.strS Pl.tab0,Pl.scalS⟩ (bs (t3++⟨#[120]⟩)) 0 0 = .ok (root,t3.size,nds):=by rw[hb4];exact hrd
   have HR:=Lib.hid (fun W (hW:RW Pl.tab0 W)=>tv_Read W hW (t3++⟨#[120]⟩) hs4 0 0 rfl (by omega) 0 0 (by decide) _ hrd4 (by simp));have hvk:=((Pl.readS_tot (Pl.envT_ok Pl.tab0) (bs (t3++(⟨#[120]⟩:ByteArray))) (by rw[bs_length];exact hs4) 0 0 (by omega)).2.2 root t3.size nds hrd4).2.2;have hnds:nds.length≤1203:=by have:=hvk.len;omega
   have HVK:=Lib.hid hvk;have HPL:=Lib.hid hpl;have HT3:=Lib.hid ht3;clear hvk;clear hpl hrd hrd4 hb4 hs4 hb3 hl3 hlen2 ht2
   go_upto_region 22 with fail
   try rw[ht3]
   clear ht3;go_wp2_with fail;refine (HR.out _ (HW.out.gr HGW.out)).mono ?_;rintro e w1 ⟨g,L,rfl,hm,hri,hL,hT,g1⟩;obtain⟨r,hr,hrn⟩:∃r,L[root]?=some r∧r.nd=nd:=by
    rw[←hL,List.getElem?_map]at hnd;cases hr:L[root]? with
    | none=>rw[hr]at hnd;cases hnd
    | some r=>rw[hr]at hnd;exact⟨r,rfl,by simpa using hnd⟩
   obtain⟨rwk,rws,rwu⟩:=hT.rows root r hr;rw[hrn]at rwk rws rwu;obtain⟨aK,cK,hK,_,_⟩:=rowC_slice2 rwk;obtain⟨aS,cS,hSS,_,_⟩:=rowC_slice2 rws;obtain⟨aU,cU,hUU,hU1,hU2⟩:=rowC_slice2 rwu;have hLn:L.length=nds.length:=by rw[←hL,List.length_map]
   have HROOT:=Lib.hid (fun W (h:Gr w1 W)=>la_root W wr.heap.size g L (hT.gr h) root r hr 7 (by rw[hrn];exact hk7) nds.length hLn (by have:=hLn;omega) aK aS aU _ _ _ cK cS cU hK hSS hUU);have hkey:nd.keys.length=0:=by rw[hky];rfl
   have hsl:ls.length=i:=by rw[HPL.out.len,itemsOf_len]
   have hsbl:nd.subs.length=i:=by rw[hsb,hsl]
   rw[hrn,hkey,hsbl,hsp]at HROOT;have HG1:=Lib.hid g1;have HT:=Lib.hid hT;have HL1:=Lib.hid hL;have HRU:=Lib.hid rwu;have HUU:=Lib.hid hUU;have HSB:=Lib.hid hsb;have hGW1:=HGW.out.trans g1;have HGW1:=Lib.hid hGW1;obtain⟨nn,hnn⟩:∃n,nds.length=n:=⟨_,rfl⟩
   rw[hnn]at hri HROOT hnds ⊢;have HNN:=Lib.hid hnn;clear g1 hT hL hGW1 hr rwk rws rwu hK hSS hUU hLn hnn hnd hsp hsb hkey hsbl
   go_upto_region 23 with fail
   obtain⟨W2,hW2⟩:∃W,(w1.alloc (.cells #[.slice (some ⟨g,0,none⟩) nn nn,.int .i64 root] 28)).alloc (.cells #[.int .i64 0,.int .i64 0] 31)=W:=⟨_,rfl⟩
   have g12:Gr w1 W2:=by rw[←hW2];exact ((Gr.refl _).alloc _).alloc _
   have hT16:FX w1.heap.size (.slice (some ⟨g,0,none⟩) nn nn) (.int .i64 root) W2:=by rw[←hW2];exact (FX.new w1 _ _ 28).gr ((Gr.refl _).alloc _)
   have hF18:FX (w1.heap.size+1) (.int .i64 0) (.int .i64 0) W2:=by
    rw[←hW2];have:=FX.new (w1.alloc (.cells #[.slice (some ⟨g,0,none⟩) nn nn,.int .i64 root] 28)) (.int .i64 0) (.int .i64 0) 31
    simpa using this
   rw[hW2];have HRT:=Lib.hid (HROOT.out W2 g12);have HG12:=Lib.hid g12;have HT16:=Lib.hid hT16;have HF18:=Lib.hid hF18;obtain⟨t0,t1,tf,tl⟩:=hT16;clear hW2 g12 hF18 HROOT;go_wp2_with fail;refine HRT.out.mono ?_;rintro e w3 ⟨rfl,g3⟩;have HG3:=Lib.hid (HG12.out.trans g3);have HT16':=Lib.hid (HT16.out.gr g3);have HF18':=Lib.hid (HF18.out.gr g3);clear g3 t0 t1 tf tl HT16 HF18 HRT
   go_upto_region 24 with fail
   obtain⟨W4,hW4⟩:∃W,w3.alloc (.cells #[.int .u8 7,strV nd.text,.slice aK 0 cK,.slice aS nd.spots.length cS,.slice aU i cU,.int .i64 0,.int .i64 t3.size] 40)=W:=⟨_,rfl⟩
   have g34:Gr w3 W4:=by rw[←hW4];exact (Gr.refl _).alloc _
   have hB19:W4.heap[w3.heap.size]?=some (.cells #[.int .u8 7,strV nd.text,.slice aK 0 cK,.slice aS nd.spots.length cS,.slice aU i cU,.int .i64 0,.int .i64 t3.size] 40 (0,0)):=by
    rw[←hW4];exact heap_alloc_new w3 _
   rw[show (w3.alloc (.cells #[.int .u8 7,.string ⟨nd.text.toArray⟩,.slice aK 0 cK,.slice aS nd.spots.length cS,.slice aU i cU,.int .i64 0,.int .i64 t3.size] 40))=W4 from hW4];have n4:W4.cell? ⟨w3.heap.size,4,none⟩=some (.slice aU i cU):=by rw[cell_of_block hB19];rfl
   have n5:W4.cell? ⟨w3.heap.size,5,none⟩=some (.int .i64 0):=by rw[cell_of_block hB19];rfl
   have n6:W4.cell? ⟨w3.heap.size,6,none⟩=some (.int .i64 t3.size):=by rw[cell_of_block hB19];rfl
   have l19:=(Array.getElem?_eq_some_iff.1 hB19).1;obtain⟨f0',f1',ff',fl'⟩:=HF18'.out.gr g34;have HG4:=Lib.hid (HG3.out.trans g34);have HT4:=Lib.hid (HT16'.out.gr g34);have HF4:=Lib.hid (HF18'.out.gr g34);have HB19:=Lib.hid hB19;have q3:((t3.size:Int) != (t3.size:Int))=false:=by simp
   have q4:((i:Int) != (i:Int))=false:=by simp
   clear hW4 g34 hB19;go_wp2_with fail;have HN4:=Lib.hid (And.intro n4 l19);clear f0' f1' ff' fl' n5 n6 n4
   go_loopw [20] (fun v20 wv=>∃j:Nat,v20 = .int .i64 j∧j≤i∧Gr W4 wv) (fun v20 _=>i-(intOf v20).toNat)
   case atStart=>exact⟨0,rfl,by omega,Gr.refl _⟩
   case round =>
    obtain⟨j,rfl,hj,hgv⟩:=hrel;by_cases hji:j<i
    · as_aux_lemma =>
      have v1:decide ((j:Int)<(i:Int))=true:=by simp;omega
      have v1n:decide (j<i)=true:=by simp;omega
      have v2:(0:Int)≤(j:Int):=by omega
      have v3:(j:Int)<(i:Int):=by omega
      have wj:IntKind.i64.wrap ((j:Int)+1)=(j:Int)+1:=IntWalk.i64_in _ ⟨by omega,by omega⟩;obtain⟨z,rz,nz,hz,hz80,hX⟩:=HZS.out j hji;obtain⟨bl,ol,rfl,hbl0,hcl0⟩:=HL.out.cell j z hz;have hg1v:=HG4.out.trans hgv;have hgwv:=HGW1.out.trans hg1v;have hcl:=(hgwv.use.1 _ _ hbl0).trans hcl0;have hbl:=Nat.lt_of_lt_of_le hbl0 hgwv.size;obtain⟨rp,b0,np,fr,hvp,hlj,hfr,hrp,ndp,hndp,hspp⟩:=HPL.out.at' j _ (items_at l gs i j z hji hz);simp only[bs_length]at hvp hspp;have heq:(Pl.Res.ok (rz,z.size,nz):Pl.Res (Nat × Nat × Pl.Nds)) = .ok (rp,z.size,np):=hX.symm.trans hvp;simp only[Pl.Res.ok.injEq,Prod.mk.injEq]at heq;obtain⟨rfl,_,rfl⟩:=heq;obtain⟨ix,hix⟩:∃x,b0+rz=x:=⟨_,rfl⟩
      rw[hix]at hlj hndp;have hvkz:=((Pl.readS_tot (Pl.envT_ok Pl.tab0) (bs z) (by rw[bs_length];omega) 0 1 (by omega)).2.2 rz z.size nz hX).2.2;have HR2:=Lib.hid (tv_Read _ (HW.out.gr hgwv) z (by omega) 0 0 rfl (by omega) 1 1 (by decide) _ hX (by simp));go_wp2_with fail;refine HR2.out.mono ?_;rintro e w5 ⟨g',L',rfl,hm',hri',hL',hT',g5⟩
      go_upto_region 30 with fail
      obtain⟨W6,hW6⟩:∃W,(w5.alloc (.cells #[.slice (some ⟨g',0,none⟩) nz.length nz.length,.int .i64 rz] 28)).alloc (.cells #[.int .i64 0,.int .i64 0] 31)=W:=⟨_,rfl⟩
      have g56:Gr w5 W6:=by rw[←hW6];exact ((Gr.refl _).alloc _).alloc _
      have hB21:FX w5.heap.size (.slice (some ⟨g',0,none⟩) nz.length nz.length) (.int .i64 rz) W6:=by rw[←hW6];exact (FX.new w5 _ _ 28).gr ((Gr.refl _).alloc _)
      rw[hW6];obtain⟨gf,capf,hu10,_,_⟩:∃q c,u10 = .slice (some ⟨q,0,none⟩) i c∧True∧True:=by
       rcases own_form HP.out.row with⟨_,h⟩|⟨q,c,h,_,_⟩
       · omega
       exact⟨q,c,h,trivial,trivial⟩
      have hrow:=HP.out.row;rw[hu10]at hrow;have hcf:=(rowC_of hrow).cells (g:=gf) rfl j (.int .i64 fr) (by rw[List.getElem?_map,hfr];rfl);have hgf:=((rowC_of hrow).lt gf rfl).2;have hfrb:=Pl.fromsL_le 1 _ j fr hfr;have hflat:((itemsOf l gs i).flatMap Pl.item1).length≤1201:=by
       have h1:=congrArg List.length HP.out.txt;rw[bs_length,List.length_cons]at h1;have:=HP.out.sz;omega
      obtain⟨gu,cu,hru1,_,_⟩:=HRU.out.form (by rw[HSB.out,HPL.out.len,itemsOf_len];omega);have hau:aU=some ⟨gu,0,none⟩:=by
       have:=HUU.out.symm.trans hru1;simp only[Value.slice.injEq]at this;exact this.1
      have hcu:=HRU.out.cells (g:=gu) (by rw[hru1];rfl) j (.int .i64 ix) (by rw[HSB.out];simp[subsV,hlj]);have hgu:=(HRU.out.lt gu (by rw[hru1];rfl)).2;have hidx:ix<nn:=by have:=(List.getElem?_eq_some_iff.1 hndp).1;have:=HNN.out;omega
      obtain⟨rr,hrr,hrrn⟩:∃r,L[ix]?=some r∧r.nd=ndp:=by
       have h1:=hndp;rw[←HL1.out,List.getElem?_map]at h1;cases h2:L[ix]? with
       | none=>rw[h2]at h1;cases h1
       | some r=>rw[h2]at h1;exact⟨r,rfl,by simpa using h1⟩
      obtain⟨_,_,_,_,_,s5,s6⟩:=HT.out.cells ix rr hrr;rw[hrrn,hspp]at s5 s6;have hgl:=HT.out.lt.2;have g16:Gr w1 W6:=hg1v.trans (g5.trans g56);have gw6:Gr w W6:=HGW1.out.trans g16;obtain⟨x0,x1,_,xl⟩:=HT4.out.gr (hgv.trans (g5.trans g56));obtain⟨y0,y1,_,yl⟩:=hB21;have gv6:=hgv.trans (g5.trans g56);have gf6:=HG1.out.trans g16;have hS0:PartS w1.heap.size w3.heap.size w5.heap.size bl gu gf g (ol+j) j j (ix*7) (.slice (some ⟨g,0,none⟩) nn nn) (.int .i64 root) (.slice (some ⟨gu,0,none⟩) i cU) (.slice (some ⟨g',0,none⟩) nz.length nz.length) (.int .i64 rz) (.string z) (.int .i64 ix) (.int .i64 fr) (.int .i64 fr) (.int .i64 ((fr+z.size:Nat):Int)) W6 :=
       ⟨x0,x1,by rw[←hau];exact (gv6.use.1 _ _ HN4.out.2).trans HN4.out.1,y0,y1,(gw6.use.1 _ _ hbl0).trans hcl0,(g16.use.1 _ _ hgu).trans hcu,(gf6.use.1 _ _ hgf).trans hcf,(g16.use.1 _ _ hgl).trans s5,(g16.use.1 _ _ hgl).trans s6,
        xl,Nat.lt_of_lt_of_le HN4.out.2 gv6.size,yl,Nat.lt_of_lt_of_le hbl0 gw6.size,Nat.lt_of_lt_of_le hgu g16.size,Nat.lt_of_lt_of_le hgf gf6.size,Nat.lt_of_lt_of_le hgl g16.size⟩
      have hS:=hS0.gr (Gr.refl W6).drew;have hsm:=parts_same hvp HL1.out hL' hrp hz80 (by have:=HNN.out;omega) hvkz.len hvkz.wf hvkz.hi (g1:=g) (g2:=g') root rz W6.drew (HT.out.gr g16.drew) (hT'.gr g56.drew);rw[HNN.out,hix]at hsm;have HSM:=Lib.hid hsm;have GV:=Lib.hid gv6;have p1:(0:Int)≤(ix:Int):=by omega
      have p2:(ix:Int)<(nn:Int):=by omega
      have p5:IntKind.i64.wrap ((fr:Int)+(z.size:Int))=(fr:Int)+(z.size:Int):=IntWalk.i64_in _ ⟨by omega,by omega⟩;subst hau hu10;clear hW6 g56 hS0 hsm x0 x1 xl y0 y1 yl hcl hbl hcl0 hbl0 hcf hgf hcu hgu s5 s6 hgl hrow hfr hfrb hflat hndp hspp hrr hrrn hru1 g16 gw6 gf6 gv6 g5 hvkz hvp hX hlj hrp hix
      as_aux_lemma =>
      refine Reg.begin' (W:=fun _=>true) (S:=PartS w1.heap.size w3.heap.size w5.heap.size bl gu gf g (ol+j) j j (ix*7) (.slice (some ⟨g,0,none⟩) nn nn) (.int .i64 root) (.slice (some ⟨gu,0,none⟩) i cU) (.slice (some ⟨g',0,none⟩) nz.length nz.length) (.int .i64 rz) (.string z) (.int .i64 ix) (.int .i64 fr) (.int .i64 fr) (.int .i64 ((fr+z.size:Nat):Int))) (by kernel_rfl) ?_;refine Reg.tl 0 hS ?_ (hy:=by intro w hSw;obtain⟨a0,a1,c4,d0,d1,e0,u0,f0,k1,k2,l1,l2,l3,l4,l5,l6,l7⟩:=hSw;go_simp;try with_reducible rfl);refine Reg.ty 1 ?_;refine Reg.tl 2 hS ?_ (hy:=by intro w hSw;obtain⟨a0,a1,c4,d0,d1,e0,u0,f0,k1,k2,l1,l2,l3,l4,l5,l6,l7⟩:=hSw;go_simp;try with_reducible rfl);refine Reg.ty 3 ?_;refine Reg.ty 4 ?_;refine Reg.tl 5 hS ?_ (hy:=by intro w hSw;obtain⟨a0,a1,c4,d0,d1,e0,u0,f0,k1,k2,l1,l2,l3,l4,l5,l6,l7⟩:=hSw;go_simp;try with_reducible rfl);refine Reg.tl 6 hS ?_ (hy:=by intro w hSw;obtain⟨a0,a1,c4,d0,d1,e0,u0,f0,k1,k2,l1,l2,l3,l4,l5,l6,l7⟩:=hSw;go_simp;try with_reducible rfl);refine Reg.ty 7 ?_;refine Reg.tl 8 hS ?_ (hy:=by intro w hSw;obtain⟨a0,a1,c4,d0,d1,e0,u0,f0,k1,k2,l1,l2,l3,l4,l5,l6,l7⟩:=hSw;go_simp;try with_reducible rfl);refine Reg.on 9 ?_;go_simp;refine HSM.out.mono ?_;rintro e w7 ⟨rfl,g7⟩;have hS7:=hS.gr g7;refine⟨by first|exact hS7|exact fun _=>hS7|exact fun _ _=>hS7,?_⟩;refine Reg.pt ?_;refine Reg.ty 10 ?_;refine Reg.ty 11 ?_;refine Reg.ty 12 ?_;refine Reg.tl 13 hS7 ?_ (hy:=by intro w hSw;obtain⟨a0,a1,c4,d0,d1,e0,u0,f0,k1,k2,l1,l2,l3,l4,l5,l6,l7⟩:=hSw;go_simp;try with_reducible rfl);refine Reg.ty 14 ?_;refine Reg.tl 15 hS7 ?_ (hy:=by intro w hSw;obtain⟨a0,a1,c4,d0,d1,e0,u0,f0,k1,k2,l1,l2,l3,l4,l5,l6,l7⟩:=hSw;go_simp;try with_reducible rfl);refine Reg.ty 16 ?_;refine Reg.ty 17 ?_;refine Reg.tl 18 hS7 ?_ (hy:=by intro w hSw;obtain⟨a0,a1,c4,d0,d1,e0,u0,f0,k1,k2,l1,l2,l3,l4,l5,l6,l7⟩:=hSw;go_simp;try with_reducible rfl);refine Reg.ty 19 ?_;refine Reg.ty 20 ?_;refine Reg.tl 21 hS7 ?_ (hy:=by intro w hSw;obtain⟨a0,a1,c4,d0,d1,e0,u0,f0,k1,k2,l1,l2,l3,l4,l5,l6,l7⟩:=hSw;go_simp;try with_reducible rfl);refine Reg.ty 22 ?_;refine Reg.ty 23 ?_;refine Reg.ty 24 ?_;refine Reg.tl 25 hS7 ?_ (hy:=by intro w hSw;obtain⟨a0,a1,c4,d0,d1,e0,u0,f0,k1,k2,l1,l2,l3,l4,l5,l6,l7⟩:=hSw;go_simp;try with_reducible rfl);refine Reg.ty 26 ?_;refine Reg.ty 27 ?_;refine Reg.ty 28 ?_;refine Reg.tl 29 hS7 ?_ (hy:=by intro w hSw;obtain⟨a0,a1,c4,d0,d1,e0,u0,f0,k1,k2,l1,l2,l3,l4,l5,l6,l7⟩:=hSw;go_simp;try with_reducible rfl);refine Reg.ty 30 ?_;refine Reg.ty 31 ?_;refine Reg.ty 32 ?_;refine Reg.tl 33 hS7 ?_ (hy:=by intro w hSw;obtain⟨a0,a1,c4,d0,d1,e0,u0,f0,k1,k2,l1,l2,l3,l4,l5,l6,l7⟩:=hSw;go_simp;try with_reducible rfl);refine Reg.ty 34 ?_;refine Reg.ty 35 ?_;refine Reg.ty 36 ?_;refine Reg.ty 37 ?_;refine Reg.ty 38 ?_;refine Reg.done (by kernel_rfl) ?_ _;have gR:=GV.out.drew.trans g7;clear g7;go_wp2_with fail
      go_roundw
      case rel=>first|exact⟨j+1,by go_num,by omega,gR⟩|((repeat apply Exists.intro);exact⟨⟨j+1,rfl,by omega,gR⟩,rfl⟩)
      case measure=>simp[intOf];omega
    have v1:decide ((j:Int)<(i:Int))=false:=by simp;omega
    have v1n:decide (j<i)=false:=by simp;omega
    obtain rfl:j=i:=by omega
    obtain⟨many,hmany⟩:∃n,min j nw=n:=⟨_,rfl⟩
    have hmn:(min (j:Int) (nw:Int))=(many:Int):=by rw[←hmany];omega
    have hGV:=Lib.hid hgv;have HMANY:=Lib.hid hmany;clear hgv hmany
    go_upto_region 33 with fail
    go_wp2_with fail
    go_loopw [9,25,26] (fun v9 v25 v26 wq=>∃(k:Nat) (tb:ByteArray) (tw:Int),v9 = .string tb∧v25 = .int .i64 tw∧v26 = .int .i64 k∧k≤many∧bs tb=123::Pl.tabU (pairsOf l ws k)∧TwAt l ws k tw∧Gr W4 wq) (fun _ _ v26 _=>many-(intOf v26).toNat)
    case atStart=>exact⟨0,⟨#[123]⟩,-1,rfl,rfl,rfl,by omega,rfl,.inl ⟨rfl,fun p hp=>by omega⟩,hGV.out⟩
    case round =>
     obtain⟨k,tb,tw,rfl,rfl,rfl,hk,htb,htw,hgq⟩:=hrel;have HTW:=Lib.hid htw;have hmj:many≤j∧many≤nw:=by have:=HMANY.out;omega
     have hlen:=tabU_le l ws k (by have:=HNW.out;omega) (fun q hq=>by
      obtain⟨z,_,_,hz,hz80,_⟩:=HZS.out q (by omega);rw[getB_of hz];exact hz80)
     have hsm:=HSUM.out;have htl:tb.size≤6292700:=by
      have:=congrArg List.length htb;rw[bs_length,List.length_cons]at this;omega
     have HTB:=Lib.hid htb;clear htb htw hlen hsm;by_cases hkm:k<many
     · as_aux_lemma =>
       have e1:decide ((k:Int)<(many:Int))=true:=by simp;omega
       have e1n:decide (k<many)=true:=by simp;omega
       have wk:IntKind.i64.wrap ((k:Int)+1)=(k:Int)+1:=IntWalk.i64_in _ ⟨by omega,by omega⟩;obtain⟨zw,hzw⟩:∃z,ws[k]?=some z:=⟨_,List.getElem?_eq_getElem (by have:=HNW.out;omega)⟩
       obtain⟨zl,rz,nz,hzl,hz80,hX⟩:=HZS.out k (by omega);obtain⟨bw,ow,haw,hbw0,hcw0⟩:=HWS.out.cell k zw hzw;obtain⟨bl,ol,hal,hbl0,hcl0⟩:=HL.out.cell k zl hzl;have hzws:=HWZ.out zw (List.mem_of_getElem? hzw);subst haw hal;have k1:(0:Int)≤(k:Int):=by omega
       have k2:(k:Int)<(j:Int):=by omega
       have k3:(k:Int)<(nw:Int):=by omega
       have HZW:=Lib.hid hzw;have HZL:=Lib.hid hzl;have HCW:=Lib.hid (And.intro hbw0 hcw0);have HCL:=Lib.hid (And.intro hbl0 hcl0);clear hzw hzl hbw0 hcw0 hbl0 hcl0 hX
       go_upto_if 244 with fail
       go_cut [9] (fun s9 W=>∃tb2:ByteArray,s9 = .string tb2∧bs tb2=123::Pl.tabU (pairsOf l ws k)++(if k=0 then [] else [44,32])∧wr=W)
       case first =>
        by_cases hk0:k=0
        · have r1:decide ((0:Int)<(k:Int))=false:=by simp;omega
          have r1n:decide (0<k)=false:=by simp;omega
          go_wp2_with fail
          go_meet
          exact⟨tb,rfl,by rw[HTB.out,if_pos hk0];simp,rfl⟩
        have r1:decide ((0:Int)<(k:Int))=true:=by simp;omega
        have r1n:decide (0<k)=true:=by simp;omega
        go_wp2_with fail
        go_meet
        exact⟨tb++⟨#[44,32]⟩,rfl,by rw[bs_append',HTB.out,if_neg hk0] <;> rfl,rfl⟩
       case rest =>
        obtain⟨tb2,rfl,htb2,rfl⟩:=hcut;have HTS:=Lib.hid (tab_here htb2);have HTB2:=Lib.hid htb2;clear htb2 htl HTB;go_wp2_with fail
        go_loopw [25,27] (fun v25 v27 wi=>∃(m:Nat) (tv:Int),v25 = .int .i64 tv∧v27 = .int .i64 m∧m≤k∧TwIn l ws k m tv∧Gr W4 wi) (fun _ v27 _=>k-(intOf v27).toNat)
        case atStart=>exact⟨0,tw,rfl,rfl,by omega,HTW.out.begins,hgq⟩
        case round =>
         obtain⟨m,tv,rfl,rfl,hm,htv,hgi⟩:=hrel;have hgw:=HGW1.out.trans (HG4.out.trans hgi);have cwk:=(hgw.use.1 _ _ HCW.out.1).trans HCW.out.2;have HTV:=Lib.hid htv;clear htv;by_cases hmk:m<k
         · have f1:decide ((m:Int)<(k:Int))=true:=by simp;omega
           have f1n:decide (m<k)=true:=by simp;omega
           have m1:(0:Int)≤(m:Int):=by omega
           have m2:(m:Int)<(nw:Int):=by omega
           have wm:IntKind.i64.wrap ((m:Int)+1)=(m:Int)+1:=IntWalk.i64_in _ ⟨by omega,by omega⟩;obtain⟨zm,hzm⟩:∃z,ws[m]?=some z:=⟨_,List.getElem?_eq_getElem (by have:=HNW.out;omega)⟩
           obtain⟨b',o',hbo,_,hcm⟩:=HWS.out.cell m zm hzm;cases hbo;have cwm:=(hgw.use.1 _ _ HCW.out.1).trans hcm;have HZM:=Lib.hid hzm;clear hzm hcm;by_cases he:zm=zw
           · subst he;have hs:(zm.toList==zm.toList)=true:=by simp
             by_cases hv:tv<0
             · have hv1:decide (tv<0)=true:=by simp;omega
               go_wp2_with fail
               go_quiet (fail)
               go_wp2_with fail
               go_roundw
               case rel=>first|exact⟨m+1,_,rfl,by go_num,by omega,by rw[HTS.out];exact HTV.out.found hmk (by rw[getB_of HZM.out,getB_of HZW.out]) hv,hgi.drewN _⟩|((repeat apply Exists.intro);exact⟨⟨m+1,_,rfl,rfl,by omega,by rw[HTS.out];exact HTV.out.found hmk (by rw[getB_of HZM.out,getB_of HZW.out]) hv,hgi.drewN _⟩,rfl⟩)
               case measure=>simp[intOf];omega
             have hv1:decide (tv<0)=false:=by simp;omega
             go_wp2_with fail
             go_quiet (fail)
             go_wp2_with fail
             go_roundw
             case rel=>first|exact⟨m+1,_,rfl,by go_num,by omega,HTV.out.same hmk (.inr (by omega)),hgi.drewN _⟩|((repeat apply Exists.intro);exact⟨⟨m+1,_,rfl,rfl,by omega,HTV.out.same hmk (.inr (by omega)),hgi.drewN _⟩,rfl⟩)
             case measure=>simp[intOf];omega
           have hs:(zm.toList==zw.toList)=false:=by
            rw[beq_eq_false_iff_ne,Lib.toList_data,Lib.toList_data];exact fun e=>he (bs_inj e)
           go_wp2_with fail
           go_quiet (fail)
           go_wp2_with fail
           go_roundw
           case rel=>first|exact⟨m+1,_,rfl,by go_num,by omega,HTV.out.same hmk (.inl (by rw[getB_of HZM.out,getB_of HZW.out];exact he)),hgi.drewN _⟩|((repeat apply Exists.intro);exact⟨⟨m+1,_,rfl,rfl,by omega,HTV.out.same hmk (.inl (by rw[getB_of HZM.out,getB_of HZW.out];exact he)),hgi.drewN _⟩,rfl⟩)
           case measure=>simp[intOf];omega
         have f1:decide ((m:Int)<(k:Int))=false:=by simp;omega
         have f1n:decide (m<k)=false:=by simp;omega
         obtain rfl:m=k:=by omega
         have htl2:tb2.size≤6292702:=by
          have h1:=congrArg List.length HTB2.out;have h2:=tabU_le l ws m (by have:=HNW.out;omega) (fun q hq=>by
           obtain⟨z,_,_,hz,hz80,_⟩:=HZS.out q (by omega);rw[getB_of hz];exact hz80)
          have h3:=HSUM.out;have h5:(if m=0 then ([]:Pl.Bs) else [44,32]).length≤2:=by split <;> simp
          rw[bs_length,List.length_append,List.length_cons]at h1;omega
         have clk:=(hgw.use.1 _ _ HCL.out.1).trans HCL.out.2;have lbw:=Nat.lt_of_lt_of_le HCW.out.1 hgw.size;have lbl:=Nat.lt_of_lt_of_le HCL.out.1 hgw.size;have hS0:WordS bw (ow+m) zw bl (ol+m) zl wr:=⟨cwk,clk,lbw,lbl⟩
         have hS:=hS0.gr (Gr.refl wr).drew;have HWR:=Lib.hid (hgw.drew);have hws:=wrW_len (bs zw);rw[bs_length,←bs_wz,bs_length]at hws;clear cwk clk lbw lbl
         go_upto_region 44 with fail
         refine Reg.begin' (W:=fun _=>true) (S:=WordS bw (ow+m) zw bl (ol+m) zl) (by kernel_rfl) ?_;refine Reg.ty 0 ?_;refine Reg.ty 1 ?_;refine Reg.ty 2 ?_;refine Reg.ty 3 ?_;refine Reg.tl 4 hS ?_ (hy:=by intro w hSw;obtain⟨s1,s2,l1,l2⟩:=hSw;go_simp;try with_reducible rfl);refine Reg.ty 9 ?_;refine Reg.ty 10 ?_;refine Reg.ty 11 ?_;refine Reg.tl 12 hS ?_ (hy:=by intro w hSw;obtain⟨s1,s2,l1,l2⟩:=hSw;go_simp;try with_reducible rfl);refine Reg.on 5 ?_;go_simp;obtain⟨W8,hW8⟩:∃W,(wr.alloc (.cells #[.string zw] 9)).drew=W:=⟨_,rfl⟩
         have g8:Gr wr W8:=by rw[←hW8];exact ((Gr.refl wr).alloc _).drew
         have n8:W8.cell? ⟨wr.heap.size,0,none⟩=some (.string zw):=by rw[←hW8];simp[go_sem]
         have hS8:WordS bw (ow+m) zw bl (ol+m) zl W8:=hS0.gr g8;rw[hW8];refine⟨by first|exact hS8|exact fun _=>hS8|exact fun _ _=>hS8,?_⟩;refine Reg.pt ?_;have HG8:=Lib.hid (hgw.trans g8);have HG8':=Lib.hid (hgi.trans g8);have HWRITE:=Lib.hid (tk_Write1 wr.heap.size 0 1 zw W8 (HW.out.gr (hgw.trans g8)).2.2 hzws n8);clear hW8 g8 n8;refine Reg.on 6 ?_;go_simp;refine HWRITE.out.mono ?_;rintro e w9 ⟨rfl,g9⟩;have hS9:=hS8.gr g9;refine⟨by first|exact hS9|exact fun _=>hS9|exact fun _ _=>hS9,?_⟩;refine Reg.pt ?_;obtain⟨T1,hT1⟩:∃x,tb2++wz zw=x:=⟨_,rfl⟩
         have hs1:T1.size=tb2.size+(wz zw).size:=by rw[←hT1,ByteArray.size_append]
         obtain⟨T2,hT2⟩:∃x,T1++(⟨#[32,61,32]⟩:ByteArray)=x:=⟨_,rfl⟩
         have hs2:T2.size=T1.size+3:=by rw[←hT2,ByteArray.size_append];rfl
         obtain⟨T3,hT3⟩:∃x,T2++zl=x:=⟨_,rfl⟩
         have hs3:T3.size=T2.size+zl.size:=by rw[←hT3,ByteArray.size_append]
         obtain⟨T4,hT4⟩:∃x,T3++(⟨#[32]⟩:ByteArray)=x:=⟨_,rfl⟩
         have r1:¬(9223372036854775807<tb2.size+(wz zw).size):=by omega
         have r2:¬(9223372036854775807<T1.size+3):=by omega
         have r3:¬(9223372036854775807<T2.size+zl.size):=by omega
         have r4:¬(9223372036854775807<T3.size+1):=by omega
         have HNX:=Lib.hid (tab_next HTB2.out HZW.out HZL.out);rw[hT1,hT2,hT3,hT4]at HNX;have HG9:=Lib.hid (HG8'.out.trans g9);clear hs1 hs2 hs3 hS hS0 hS8 hS9 g9;refine Reg.ty 7 ?_;refine Reg.ty 8 ?_;refine Reg.ty 13 ?_;refine Reg.ty 14 ?_;refine Reg.ty 15 ?_;refine Reg.done (by kernel_rfl) ?_ _;go_wp2_with fail
         go_roundw
         case rel=>first|exact⟨m+1,_,_,rfl,rfl,by go_num,by omega,HNX.out,HTV.out.ends,HG9.out⟩|((repeat apply Exists.intro);exact⟨⟨m+1,_,_,rfl,rfl,rfl,by omega,HNX.out,HTV.out.ends,HG9.out⟩,rfl⟩)
         case measure=>simp[intOf];omega
     have e1:decide ((k:Int)<(many:Int))=false:=by simp;omega
     have e1n:decide (k<many)=false:=by simp;omega
     obtain rfl:k=many:=by omega
     obtain⟨t4,ht4⟩:∃x,tb++(⟨#[125]⟩:ByteArray)=x:=⟨_,rfl⟩
     have hb4:bs t4=123::Pl.tabT (pairsOf l ws k):=by rw[←ht4,bs_append',HTB.out,Pl.tabT_U];rfl
     have hs4:t4.size≤6292701:=by rw[←ht4,ByteArray.size_append,show (⟨#[125]⟩:ByteArray).size=1 from rfl] <;> omega
     have hl4:(123::Pl.tabT (pairsOf l ws k)).length=t4.size:=by rw[←hb4,bs_length]
     have HGQ:=Lib.hid (HGW1.out.trans (HG4.out.trans hgq));have HG4Q:=Lib.hid hgq;clear hgq HTB;rcases HTW.out.all with⟨rfl,hnd⟩|⟨p,pw,px,rest,hp,rfl,hspl,hnd,hin⟩
     · as_aux_lemma =>
       have q1:decide ((0:Int) ≤ -1)=false:=by decide
       obtain⟨ls2,nds2,nd2,hrd2,hnd2,hk8,hsb2,hky2,hpl2⟩:=Pl.table_law (pairsOf l ws k) (by rw[hl4];omega) (pairs_ok fun q hq=>HZS.out q (by omega)) hnd;rw[hl4,←hb4]at hrd2;have hrd3:Pl.readS ⟨Pl.strS Pl.tab0,Pl.scalS⟩ (bs t4) 0 0 = .ok (0,t4.size,nds2):=hrd2;have HR3:=Lib.hid (fun W (hW:RW Pl.tab0 W)=>tv_Read W hW t4 (by omega) 0 0 rfl (by omega) 0 0 (by decide) _ hrd3 (by simp));have hvk2:=((Pl.readS_tot (Pl.envT_ok Pl.tab0) (bs t4) (by rw[bs_length];omega) 0 0 (by omega)).2.2 0 t4.size nds2 hrd3).2.2;have hn2:nds2.length≤6292701:=by have:=hvk2.len;omega
       have hb16:=HT4.out.gr HG4Q.out;have hb18:=HF4.out.gr HG4Q.out;have hb19:=(HG4Q.out.block (Array.getElem?_eq_some_iff.1 HB19.out).1).trans HB19.out;have l16:=hb16.2.2.2;have l18:=hb18.2.2.2;have hw13:=HF18'.out.2.2.2;have l19':=(Array.getElem?_eq_some_iff.1 hb19).1;have HB16:=Lib.hid hb16;have HB18:=Lib.hid hb18;have HB19':=Lib.hid hb19;have HPL2:=Lib.hid hpl2;have HND2:=Lib.hid hnd2;have HKY2:=Lib.hid hky2;have HSB2:=Lib.hid hsb2;clear hrd2 hrd3 hvk2 hb16 hb18 hb19 hpl2 hnd2 hky2 hsb2 hb4 hl4 hnd
       go_upto_region 46 with fail
       try rw[ht4]
       clear ht4;go_wp2_with fail;refine (HR3.out _ (HW.out.gr HGQ.out)).mono ?_;rintro e w5 ⟨g',L',rfl,hm',hri',hL',hT',g5⟩;have hF16:=HB16.out.gr g5;have hF18:=HB18.out.gr g5;have HF16:=Lib.hid hF16;have HF18:=Lib.hid hF18;have hb19:=(g5.block l19').trans HB19'.out;have HB19'':=Lib.hid hb19;have HG5:=Lib.hid (HG4.out.trans (HG4Q.out.trans g5));have lz5:=g5.size;obtain⟨t0,t1,tf,tl⟩:=hF16;obtain⟨s0,s1,sf,sl⟩:=hF18;have HL':=Lib.hid hL';have HT':=Lib.hid hT';obtain⟨n2,hn2e⟩:∃n,nds2.length=n:=⟨_,rfl⟩
       rw[hn2e]at hri' hn2 ⊢;have HN2:=Lib.hid hn2e;clear g5 hb19 hL' hT' hn2e
       go_upto_region 49 with fail
       obtain⟨W5,hW5⟩:∃v,((((w5.setCell ⟨w1.heap.size,0,none⟩ (.slice (some ⟨g',0,none⟩) n2 n2)).setCell ⟨w1.heap.size,1,none⟩ (.int .i64 0)).setCell ⟨w1.heap.size+1,0,none⟩ (.int .i64 0)).setCell ⟨w1.heap.size+1,1,none⟩ (.int .i64 0))=v:=⟨_,rfl⟩
       have hTB:FX w1.heap.size (.slice (some ⟨g',0,none⟩) n2 n2) (.int .i64 0) W5:=by
        rw[←hW5];exact ((HF16.out.set _ _).other (by omega) _).other (by omega) _
       have hFB:FX (w1.heap.size+1) (.int .i64 0) (.int .i64 0) W5:=by
        rw[←hW5];exact (((HF18.out.other (by omega) _).other (by omega) _)).set _ _
       have hTW:TreeV W5 wr.heap.size g' L':=by
        rw[←hW5];exact (((HT'.out.set l16 _).set l16 _).set l18 _).set l18 _
       have hG15:Gr w1 W5:=by
        rw[←hW5];exact (((HG5.out.setCell (p:=⟨w1.heap.size,0,none⟩) (Nat.le_refl _) _).setCell (p:=⟨w1.heap.size,1,none⟩) (Nat.le_refl _) _).setCell (p:=⟨w1.heap.size+1,0,none⟩) (Nat.le_succ _) _).setCell (p:=⟨w1.heap.size+1,1,none⟩) (Nat.le_succ _) _
       have hbx:W5.heap[w3.heap.size]?=w5.heap[w3.heap.size]?:=by
        rw[←hW5];exact (Below.heap_setCell _ _ _ _ (by simp;omega)).trans ((Below.heap_setCell _ _ _ _ (by simp;omega)).trans ((Below.heap_setCell _ _ _ _ (by simp;omega)).trans (Below.heap_setCell _ _ _ _ (by simp;omega))))
       have hbb:=hbx.trans HB19''.out;have HBB:=Lib.hid hbb;have HTB:=Lib.hid hTB;have HFB:=Lib.hid hFB;have HTW:=Lib.hid hTW;have HG15:=Lib.hid hG15;obtain⟨r2,hr2,hrn2⟩:∃r,L'[0]?=some r∧r.nd=nd2:=by
        have h1:=HND2.out;rw[←HL'.out,List.getElem?_map]at h1;cases hr:L'[0]? with
        | none=>rw[hr]at h1;cases h1
        | some r=>rw[hr]at h1;exact⟨r,rfl,by simpa using h1⟩
       obtain⟨rwk2,rws2,rwu2⟩:=HTW.out.rows 0 r2 hr2;rw[hrn2]at rwk2 rws2 rwu2;have hkl:nd2.keys.length=k:=by rw[HKY2.out,List.length_map,pairsOf_len]
       have hul:nd2.subs.length=k:=by rw[HSB2.out,HPL2.out.len,pairsOf_len]
       obtain⟨aK2,cK2,hK2,_,_⟩:=rowC_slice2 rwk2;obtain⟨aS2,cS2,hS2,_,_⟩:=rowC_slice2 rws2;obtain⟨aU2,cU2,hU2,_,_⟩:=rowC_slice2 rwu2;have hLn2:L'.length=n2:=by rw[←HN2.out,←HL'.out,List.length_map]
       have hroot:=la_root W5 wr.heap.size g' L' HTW.out 0 r2 hr2 8 (by rw[hrn2];exact hk8) n2 hLn2 (by omega) aK2 aS2 aU2 _ _ _ cK2 cS2 cU2 hK2 hS2 hU2;rw[hrn2,hkl,hul]at hroot;rw[hkl]at rwk2 hK2;rw[hul]at rwu2 hU2;have HRK2:=Lib.hid rwk2;have HRU2:=Lib.hid rwu2;have HK2:=Lib.hid hK2;have HU2:=Lib.hid hU2;have HROOT2:=Lib.hid hroot;obtain⟨t0,t1,tf,tl⟩:=hTB;rw[hW5];clear hW5 hbx hbb hFB hTW hG15 rwk2 rws2 rwu2 hK2 hS2 hU2 hroot s0 s1 sf sl hr2 hkl hul HF16 HF18 HT' HG5 HB19'' HB16 HB18;go_wp2_with fail;refine HROOT2.out.mono ?_;rintro e w6 ⟨rfl,g6⟩;have hb6:=(g6.block (Array.getElem?_eq_some_iff.1 HBB.out).1).trans HBB.out;have HB6:=Lib.hid hb6;have n0:w6.cell? ⟨w3.heap.size,0,none⟩=some (.int .u8 7):=by rw[cell_of_block hb6];rfl
       have n1:w6.cell? ⟨w3.heap.size,1,none⟩=some (strV nd.text):=by rw[cell_of_block hb6];rfl
       have n2':w6.cell? ⟨w3.heap.size,2,none⟩=some (.slice aK 0 cK):=by rw[cell_of_block hb6];rfl
       have n3:w6.cell? ⟨w3.heap.size,3,none⟩=some (.slice aS nd.spots.length cS):=by rw[cell_of_block hb6];rfl
       have n4:w6.cell? ⟨w3.heap.size,4,none⟩=some (.slice aU j cU):=by rw[cell_of_block hb6];rfl
       have n5:w6.cell? ⟨w3.heap.size,5,none⟩=some (.int .i64 0):=by rw[cell_of_block hb6];rfl
       have n6:w6.cell? ⟨w3.heap.size,6,none⟩=some (.int .i64 t3.size):=by rw[cell_of_block hb6];rfl
       have nf:∀o,w6.frozen? ⟨w3.heap.size,o,none⟩=false:=fun o=>unfrozen_of_block hb6 o
       have lz6:=(Array.getElem?_eq_some_iff.1 hb6).1;have HG6:=Lib.hid g6;clear hb6 g6 t0 t1 tf tl
       go_upto_region 50 with fail
       obtain⟨W7,hW7⟩:∃v,(((((((w6.setCell ⟨w3.heap.size,0,none⟩ (.int .u8 8)).setCell ⟨w3.heap.size,1,none⟩ (strV nd2.text)).setCell ⟨w3.heap.size,2,none⟩ (.slice aK2 k cK2)).setCell ⟨w3.heap.size,3,none⟩ (.slice aS2 nd2.spots.length cS2)).setCell ⟨w3.heap.size,4,none⟩ (.slice aU2 k cU2)).setCell ⟨w3.heap.size,5,none⟩ (.int .i64 nd2.sp.1)).setCell ⟨w3.heap.size,6,none⟩ (.int .i64 nd2.sp.2))=v:=⟨_,rfl⟩
       have hb7:W7.heap[w3.heap.size]?=some (.cells #[.int .u8 8,strV nd2.text,.slice aK2 k cK2,.slice aS2 nd2.spots.length cS2,.slice aU2 k cU2,.int .i64 nd2.sp.1,.int .i64 nd2.sp.2] 40 (0,0)):=by
        rw[←hW7];exact block_setCell (block_setCell (block_setCell (block_setCell (block_setCell (block_setCell (block_setCell HB6.out _) _) _) _) _) _) _
       have hx7:∀q,q≠w3.heap.size→W7.heap[q]?=w6.heap[q]?:=fun q hq=>by
        rw[←hW7];exact (Below.heap_setCell _ _ _ _ hq).trans ((Below.heap_setCell _ _ _ _ hq).trans ((Below.heap_setCell _ _ _ _ hq).trans ((Below.heap_setCell _ _ _ _ hq).trans ((Below.heap_setCell _ _ _ _ hq).trans ((Below.heap_setCell _ _ _ _ hq).trans (Below.heap_setCell _ _ _ _ hq))))))
       have hT7:TreeV W7 wr.heap.size g' L':=by
        rw[←hW7];exact (((((((HTW.out.gr HG6.out).set l19' _).set l19' _).set l19' _).set l19' _).set l19' _).set l19' _).set l19' _
       have hw1:w1.heap.size≠w3.heap.size∧w1.heap.size+1≠w3.heap.size:=by omega
       have hF16:FX w1.heap.size (.slice (some ⟨g',0,none⟩) n2 n2) (.int .i64 0) W7:=by
        rw[←hW7];exact (((((((HTB.out.gr HG6.out).other hw1.1.symm _).other hw1.1.symm _).other hw1.1.symm _).other hw1.1.symm _).other hw1.1.symm _).other hw1.1.symm _).other hw1.1.symm _
       have hF18:FX (w1.heap.size+1) (.int .i64 0) (.int .i64 0) W7:=by
        rw[←hW7];exact (((((((HFB.out.gr HG6.out).other hw1.2.symm _).other hw1.2.symm _).other hw1.2.symm _).other hw1.2.symm _).other hw1.2.symm _).other hw1.2.symm _).other hw1.2.symm _
       have hg7:Gr w1 W7:=by
        have hle:w1.heap.size≤w3.heap.size:=by omega
        rw[←hW7];exact (((((((HG15.out.trans HG6.out).setCell (p:=⟨w3.heap.size,0,none⟩) hle _).setCell (p:=⟨w3.heap.size,1,none⟩) hle _).setCell (p:=⟨w3.heap.size,2,none⟩) hle _).setCell (p:=⟨w3.heap.size,3,none⟩) hle _).setCell (p:=⟨w3.heap.size,4,none⟩) hle _).setCell (p:=⟨w3.heap.size,5,none⟩) hle _).setCell (p:=⟨w3.heap.size,6,none⟩) hle _
       have hK7:RowC W7 wr.heap.size 9 1 (.slice aK2 k cK2) k (keysV ((ws.take k).map bs)):=by
        have h1:=HRK2.out;rw[HK2.out,HKY2.out,keys_take l ws k (by have:=HNW.out;omega)]at h1;exact h1.of_block fun q e=>(hx7 q (by have:=(h1.lt q e).1;omega)).trans (HG6.out.block (h1.lt q e).2)
       have hU7:RowC W7 wr.heap.size 3 1 (.slice aU2 k cU2) k (subsV nd2.subs):=by
        have h1:=HRU2.out;rw[HU2.out]at h1;exact h1.of_block fun q e=>(hx7 q (by have:=(h1.lt q e).1;omega)).trans (HG6.out.block (h1.lt q e).2)
       have hS0:TabS (w1.heap.size+1) w3.heap.size (.slice aK2 k cK2) (.slice aU2 k cU2) W7 :=
        ⟨hF18.1,hF18.2.1,by rw[cell_of_block hb7];rfl,by rw[cell_of_block hb7];rfl,hF18.2.2.2,(Array.getElem?_eq_some_iff.1 hb7).1⟩
       have hS:=hS0.gr (Gr.refl W7).drew;have hwk:k≤ws.length:=by have:=HNW.out;omega
       have HSW:=Lib.hid (la_sameW W7.drew (n:=k) (zs:=ws.take k) (by rw[List.length_take,Nat.min_eq_left hwk]) (hK7.of_block fun q e=>rfl) aw cw (fun j' z hz=>by
        have hjk:j'<k:=by have:=(List.getElem?_eq_some_iff.1 hz).1;rw[List.length_take]at this;omega
        rw[List.getElem?_take_of_lt hjk]at hz;obtain⟨b',o',h1,h2,h3⟩:=(HWS.out.gr (HGW1.out.trans hg7.drew)).cell j' z hz;exact⟨b',o',h1,h3⟩) (by omega))
       have y1:((t4.size:Int) != (t4.size:Int))=false:=by simp
       have y2:((k:Int) != (k:Int))=false:=by simp
       have y3:(0:Int)≤(k:Int):=by omega
       have y4:(k:Int)≤(cw:Int):=by have:=HCWC.out;omega
       have y5:k≤cw:=by have:=HCWC.out;omega
       have HT7:=Lib.hid hT7;have HF7:=Lib.hid hF16;have HU7:=Lib.hid hU7;have HG7:=Lib.hid hg7;rw[hW7];clear hW7 hb7 hx7 hT7 hF16 hF18 hg7 hK7 hU7 n0 n1 n2' n3 n4 n5 n6 nf
       as_aux_lemma =>
       refine Reg.begin' (W:=fun _=>true) (S:=TabS (w1.heap.size+1) w3.heap.size (.slice aK2 k cK2) (.slice aU2 k cU2)) (by kernel_rfl) ?_;refine Reg.tl 0 hS ?_ (hy:=by intro w hSw;obtain⟨f0,f1,n2,n4,l1,l2⟩:=hSw;go_simp;try with_reducible rfl);refine Reg.ty 1 ?_;refine Reg.ty 2 ?_;refine Reg.ty 3 ?_;refine Reg.ty 4 ?_;refine Reg.ty 5 ?_;refine Reg.ty 6 ?_;refine Reg.ty 7 ?_;refine Reg.ty 8 ?_;refine Reg.ty 9 ?_;refine Reg.ty 10 ?_;refine Reg.tl 11 hS ?_ (hy:=by intro w hSw;obtain⟨f0,f1,n2,n4,l1,l2⟩:=hSw;go_simp;try with_reducible rfl);refine Reg.ty 12 ?_;refine Reg.ty 13 ?_;refine Reg.ty 14 ?_;refine Reg.on 15 ?_;go_simp;refine HSW.out.mono ?_;rintro e w8 ⟨rfl,g8⟩;have hS8:=hS.gr g8;refine⟨by first|exact hS8|exact fun _=>hS8|exact fun _ _=>hS8,?_⟩;refine Reg.pt ?_;refine Reg.ty 16 ?_;refine Reg.ty 17 ?_;refine Reg.ty 18 ?_;refine Reg.ty 19 ?_;refine Reg.tl 20 hS8 ?_ (hy:=by intro w hSw;obtain⟨f0,f1,n2,n4,l1,l2⟩:=hSw;go_simp;try with_reducible rfl);refine Reg.ty 21 ?_;refine Reg.ty 22 ?_;refine Reg.ty 23 ?_;refine Reg.ty 24 ?_;refine Reg.done (by kernel_rfl) ?_ _;have HG78:=Lib.hid ((Gr.refl W7).drew.trans g8);have HS8:=Lib.hid hS8;clear hS hS0 hS8 g8 HSW;go_wp2_with fail
       go_loopw [28] (fun v28 wv=>∃m:Nat,v28 = .int .i64 m∧m≤k∧Gr w8 wv) (fun v28 _=>k-(intOf v28).toNat)
       case atStart=>exact⟨0,rfl,by omega,Gr.refl _⟩
       case round =>
        obtain⟨m,rfl,hm,hgv⟩:=hrel;by_cases hmk:m<k
        · as_aux_lemma =>
          have v1:decide ((m:Int)<(k:Int))=true:=by simp;omega
          have v1n:decide (m<k)=true:=by simp;omega
          have v2:(0:Int)≤(m:Int):=by omega
          have v3:(m:Int)<(j:Int):=by omega
          have v4:(m:Int)<(k:Int):=by omega
          have wm:IntKind.i64.wrap ((m:Int)+1)=(m:Int)+1:=IntWalk.i64_in _ ⟨by omega,by omega⟩;obtain⟨z,rz,nz,hz,hz80,hX⟩:=HZS.out m (by omega);obtain⟨bl,ol,rfl,hbl0,hcl0⟩:=HL.out.cell m z hz;have hg7v:=HG78.out.trans hgv;have hgwv:=HGW1.out.trans (HG7.out.trans hg7v);have hcl:=(hgwv.use.1 _ _ hbl0).trans hcl0;have hbl:=Nat.lt_of_lt_of_le hbl0 hgwv.size;obtain⟨rp,b0,np,hvp,hlj,hrp⟩:=HPL2.out.at' m _ (pairsOf_at l ws k m hmk);simp only[getB_of hz,bs_length]at hvp;have heq:(Pl.Res.ok (rz,z.size,nz):Pl.Res (Nat × Nat × Pl.Nds)) = .ok (rp,z.size,np):=hX.symm.trans hvp;simp only[Pl.Res.ok.injEq,Prod.mk.injEq]at heq;obtain⟨rfl,_,rfl⟩:=heq;obtain⟨ix,hix⟩:∃x,b0+rz=x:=⟨_,rfl⟩
          rw[hix]at hlj;have hvkz:=((Pl.readS_tot (Pl.envT_ok Pl.tab0) (bs z) (by rw[bs_length];omega) 0 1 (by omega)).2.2 rz z.size nz hX).2.2;have HR2:=Lib.hid (tv_Read _ (HW.out.gr hgwv) z (by omega) 0 0 rfl (by omega) 1 1 (by decide) _ hX (by simp));go_wp2_with fail;refine HR2.out.mono ?_;rintro e w9 ⟨g2,L2,rfl,hm2,hri2,hL2,hT2,g9⟩
          go_upto_region 56 with fail
          obtain⟨W9,hW9⟩:∃W,(w9.alloc (.cells #[.slice (some ⟨g2,0,none⟩) nz.length nz.length,.int .i64 rz] 28)).alloc (.cells #[.int .i64 0,.int .i64 0] 31)=W:=⟨_,rfl⟩
          have g99:Gr w9 W9:=by rw[←hW9];exact ((Gr.refl _).alloc _).alloc _
          have hB29:FX w9.heap.size (.slice (some ⟨g2,0,none⟩) nz.length nz.length) (.int .i64 rz) W9:=by rw[←hW9];exact (FX.new w9 _ _ 28).gr ((Gr.refl _).alloc _)
          rw[hW9];have hg79:=hg7v.trans (g9.trans g99);have hg89:=hgv.trans (g9.trans g99);obtain⟨gu,cu,hru1,_,_⟩:=HU7.out.form (by omega);have hau:aU2=some ⟨gu,0,none⟩:=by
           simp only[Value.slice.injEq]at hru1;exact hru1.1
          have hcu:=HU7.out.cells (g:=gu) (by rw[hru1];rfl) m (.int .i64 ix) (by simp[subsV,HSB2.out,hlj]);have hgu:=(HU7.out.lt gu (by rw[hru1];rfl)).2;have hix2:ix<n2:=by
           obtain⟨y,hy⟩:∃y,nz[rz]?=some y:=⟨_,List.getElem?_eq_getElem hvkz.hi⟩
           obtain⟨x,hx,_⟩:=hrp rz y hy;have:=(List.getElem?_eq_some_iff.1 hx).1;have:=HN2.out;omega
          obtain⟨x0,x1,_,xl⟩:=HF7.out.gr hg79;obtain⟨y0,y1',_,yl⟩:=hB29;have hS9:=HS8.out.gr hg89;have hZ0:SubS w1.heap.size w3.heap.size w9.heap.size gu m (.slice (some ⟨g',0,none⟩) n2 n2) (.int .i64 0) (.slice (some ⟨gu,0,none⟩) k cU2) (.slice (some ⟨g2,0,none⟩) nz.length nz.length) (.int .i64 rz) (.int .i64 ix) W9 :=
           ⟨x0,x1,by rw[←hau];exact hS9.n4,y0,y1',(hg79.use.1 _ _ hgu).trans hcu,xl,hS9.l2,yl,Nat.lt_of_lt_of_le hgu hg79.size⟩
          have hZ:=hZ0.gr (Gr.refl W9).drew;have hsm:=parts_same hvp HL'.out hL2 hrp hz80 (by have:=HN2.out;omega) hvkz.len hvkz.wf hvkz.hi (g1:=g') (g2:=g2) 0 rz W9.drew (HT7.out.gr hg79.drew) (hT2.gr g99.drew);rw[HN2.out,hix]at hsm;have HSM:=Lib.hid hsm;have p1:(0:Int)≤(ix:Int):=by omega
          have p2:(ix:Int)<(n2:Int):=by omega
          have HG89:=Lib.hid hg89;subst hau;clear hW9 g99 hZ0 hsm x0 x1 xl y0 y1' yl hcl hbl hcl0 hbl0 hcu hgu hru1 hg79 hg89 g9 hvkz hvp hX hlj hrp hix hS9
          as_aux_lemma =>
          refine Reg.begin' (W:=fun _=>true) (S:=SubS w1.heap.size w3.heap.size w9.heap.size gu m (.slice (some ⟨g',0,none⟩) n2 n2) (.int .i64 0) (.slice (some ⟨gu,0,none⟩) k cU2) (.slice (some ⟨g2,0,none⟩) nz.length nz.length) (.int .i64 rz) (.int .i64 ix)) (by kernel_rfl) ?_;refine Reg.tl 0 hZ ?_ (hy:=by intro w hSw;obtain⟨a0,a1,c4,d0,d1,u0,l1,l2,l3,l4⟩:=hSw;go_simp;try with_reducible rfl);refine Reg.ty 1 ?_;refine Reg.tl 2 hZ ?_ (hy:=by intro w hSw;obtain⟨a0,a1,c4,d0,d1,u0,l1,l2,l3,l4⟩:=hSw;go_simp;try with_reducible rfl);refine Reg.ty 3 ?_;refine Reg.ty 4 ?_;refine Reg.tl 5 hZ ?_ (hy:=by intro w hSw;obtain⟨a0,a1,c4,d0,d1,u0,l1,l2,l3,l4⟩:=hSw;go_simp;try with_reducible rfl);refine Reg.tl 6 hZ ?_ (hy:=by intro w hSw;obtain⟨a0,a1,c4,d0,d1,u0,l1,l2,l3,l4⟩:=hSw;go_simp;try with_reducible rfl);refine Reg.ty 7 ?_;refine Reg.tl 8 hZ ?_ (hy:=by intro w hSw;obtain⟨a0,a1,c4,d0,d1,u0,l1,l2,l3,l4⟩:=hSw;go_simp;try with_reducible rfl);refine Reg.on 9 ?_;go_simp;refine HSM.out.mono ?_;rintro e w10 ⟨rfl,g10⟩;have hZ10:=hZ.gr g10;refine⟨by first|exact hZ10|exact fun _=>hZ10|exact fun _ _=>hZ10,?_⟩;refine Reg.pt ?_;refine Reg.ty 10 ?_;refine Reg.done (by kernel_rfl) ?_ _;have gR:=HG89.out.drew.trans g10;clear g10;go_wp2_with fail
          go_roundw
          case rel=>first|exact⟨m+1,by go_num,by omega,gR⟩|((repeat apply Exists.intro);exact⟨⟨m+1,rfl,by omega,gR⟩,rfl⟩)
          case measure=>simp[intOf];omega
        have v1:decide ((m:Int)<(k:Int))=false:=by simp;omega
        have v1n:decide (m<k)=false:=by simp;omega
        have hend:=HGW1.out.trans (HG7.out.trans (HG78.out.trans hgv));have HEND:=Lib.hid hend;clear hend hgv;go_wp2_with fail;refine (la_lives _ (HW.out.gr HEND.out)).mono ?_;rintro e w9 ⟨rfl,g9⟩;go_wp2_with fail;exact bodyPost_ret (v := .bool true) (by simp[results,Tryz.results3,go_sem]) rfl ⟨rfl,HEND.out.trans g9⟩
     as_aux_lemma =>
     have hrd2:Pl.readS ⟨Pl.strS Pl.tab0,Pl.scalS⟩ (bs t4) 0 0 = .bad 5 (1+Pl.tabAt (pairsOf l ws p)):=by
      rw[hb4,hspl];exact Pl.table_twice _ _ _ _ (by rw[←hspl,hl4];omega) (pairs_ok fun q hq=>HZS.out q (by omega)) hnd hin
     obtain⟨pa,hpa⟩:∃n,1+Pl.tabAt (pairsOf l ws p)=n:=⟨_,rfl⟩
     rw[hpa]at hrd2 ⊢;have HF:=Lib.hid (fun W (hW:RW Pl.tab0 W)=>la_fails W hW t4 (by omega) 0 0 (by decide) 5 pa hrd2);have q1:decide ((0:Int)≤(pa:Int))=true:=by simp
     clear hrd2 hb4 hl4 hspl hnd hin hpa hp
     go_upto_region 46 with fail
     try rw[ht4]
     clear ht4;go_wp2_with fail;refine (show Calls Tryz.prog 11 #[.string t4,.int .i64 0,.int .i64 0,.int .i64 5,.int .i64 pa] _ _ from HF.out _ (HW.out.gr HGQ.out)).mono ?_;rintro e w5 ⟨rfl,g5⟩;have HG5:=Lib.hid (HGQ.out.trans g5);clear g5;go_wp2_with fail;refine (la_lives _ (HW.out.gr HG5.out)).mono ?_;rintro e w6 ⟨rfl,g6⟩;go_wp2_with fail;exact bodyPost_ret (v := .bool true) (by simp[results,Tryz.results3,go_sem]) rfl ⟨rfl,HG5.out.trans g6⟩
end Go.Proofs.YtkplelejagpkmaaGreatDoor
