/-
 The walks and plain laws that the claim rests on, part 36.
-/
import Derived.Test.YtdgjgcepbkanhaaGreatDoorM01
import Derived.Test.YtdgjgcepbkanhaaGreatDoorM02
import Derived.Test.YtdgjgcepbkanhaaGreatDoorM09
import Derived.Test.YtdgjgcepbkanhaaGreatDoorM18
import Derived.Test.YtdgjgcepbkanhaaGreatDoorM20
import Derived.Test.YtdgjgcepbkanhaaGreatDoorM32
import Derived.Test.YtdgjgcepbkanhaaGreatDoorM34
import Derived.Test.YtdgjgcepbkanhaaGreatDoorM35
import Derived.Test.YtdgjgcepbkanhaaGreatDoorM51
import Derived.Deep.RegionHeld3
import Derived.Lib.ItoaLen
set_option maxHeartbeats 16000000
set_option linter.all false
set_option linter.unusedVariables false
set_option linter.unusedSimpArgs false
namespace Go.Proofs.YtdgjgcepbkanhaaGreatDoor
open Go.RowKit Go.Shelf Go.Joins
attribute [local go_sem] Oper.semAt_some
namespace Pl
def wrK (l:List UInt8) (k:Nat):List UInt8:=34::(l.take k).flatMap wrB
theorem wrK_next (l:List UInt8) (k:Nat) (c:UInt8) (r:List UInt8) (h:l.drop k=c::r):wrK l (k+1)=wrK l k++wrB c:=by
 unfold wrK;have:l[k]?=some c:=by rw[←List.head?_drop,h];rfl
 rw[List.take_add_one,this];simp
theorem wrB_len (c:UInt8):(wrB c).length≤6∧0<(wrB c).length:=by
 unfold wrB;repeat' split
 all_goals simp
theorem wrK_len (l:List UInt8):∀k,(wrK l k).length≤6*k+1:=by
 intro k;unfold wrK;have:∀m:List UInt8,(m.flatMap wrB).length≤6*m.length:=by
  intro m
  induction m with
  | nil=>simp
  | cons c m ih =>
   rw[List.flatMap_cons,List.length_append,List.length_cons];have:=(wrB_len c).1;omega
 have h1:=this (l.take k);have h2:(l.take k).length≤k:=by rw[List.length_take];omega
 rw[List.length_cons];omega
theorem wrB_short (c:UInt8) (j:Nat) (hj:j<7) (h:((tab0 j).2.toNat==c.toNat)=true) (hn:∀i,i<j→((tab0 i).2.toNat==c.toNat)=false):wrB c=[92,(tab0 j).1]:=by
 have hc:c=(tab0 j).2:=UInt8.toNat_inj.1 (beq_iff_eq.1 h).symm;subst hc;have:j=0∨j=1∨j=2∨j=3∨j=4∨j=5∨j=6:=by omega
 rcases this with rfl|rfl|rfl|rfl|rfl|rfl|rfl <;> decide
theorem wrB_long (c:UInt8) (hn:∀i,i<7→((tab0 i).2.toNat==c.toNat)=false):wrB c=if isPlain c then [c] else [92,117,48,48,hexU (c.toNat / 16),hexU (c.toNat % 16)]:=by
 have hne:∀i,i<7→c≠(tab0 i).2:=fun i hi e=>by have:=hn i hi;rw[e]at this;simp at this
 have h0:c≠8:=hne 0 (by omega);have h1:c≠9:=hne 1 (by omega);have h2:c≠10:=hne 2 (by omega);have h3:c≠12:=hne 3 (by omega);have h4:c≠13:=hne 4 (by omega);have h5:c≠34:=hne 5 (by omega);have h6:c≠92:=hne 6 (by omega);unfold wrB;rw[if_neg h0,if_neg h1,if_neg h2,if_neg h3,if_neg h4,if_neg h5,if_neg h6]
end Pl
theorem cells_new (W:World) (L:List Value) (t:TypeId) (n:Nat) (hn:n=W.heap.size):∀(j:Nat) u,L[j]?=some u→(W.alloc (.cells L.toArray t)).cell? ((⟨n,0,none⟩:Addr).add j)=some u:=by
 subst hn;intro j u hu;rw[Addr.add_lit,Nat.zero_add,cell_of_block (heap_alloc_new W _)]
 simpa using hu
structure WrI (w:World) (s:ByteArray) (k:Nat) (ov:Value) (wr:World):Prop where
 row:wr.ownsRow w.heap.size 5 1 ov (Pl.wrK (bs s) k).length ((Pl.wrK (bs s) k).map byteV)
 txt:∀j,j<s.size→wr.cell? ⟨w.heap.size+1,j,none⟩=some (.int .u8 (s.data.toList.getD j 0).toNat)
 ne:ov.ownBlock≠some (w.heap.size+1)
 gr:Gr w wr
 sz:w.heap.size+2≤wr.heap.size
theorem WrI.gr' {w:World} {s:ByteArray} {k:Nat} {ov:Value} {a b:World} (h:WrI w s k ov a) (g:Gr a b):WrI w s k ov b :=
 ⟨ownsRow_of_block h.row fun i e=>g.block (h.row.lt i e).2,fun j hj=>(g.use.1 _ _ (by have:=h.sz;omega)).trans (h.txt j hj),h.ne,h.gr.trans g,Nat.le_trans h.sz g.size⟩
theorem WrI.more {w:World} {s:ByteArray} {k:Nat} {ov:Value} {a b:World} (h:WrI w s k ov a) (c:UInt8) (r:List UInt8) (hc:(bs s).drop k=c::r) {g cap:Nat} {n m:Nat} (hn:n=(Pl.wrK (bs s) k).length) (hm:m=(Pl.wrB c).length)
    (hrow:b.ownsRow w.heap.size 5 1 (.slice (some ⟨g,0,none⟩) (n+m) cap) (n+m) ((Pl.wrK (bs s) k).map byteV++(Pl.wrB c).map byteV)) (hg:a.grownBy b ov.ownBlock) (hl:ov.ownBlock=some g∨g=a.heap.size) :
    WrI w s (k+1) (.slice (some ⟨g,0,none⟩) (n+m) cap) b:=by
 subst hn hm;have hk:=Pl.wrK_next (bs s) k c r hc;refine⟨by rw[hk,List.length_append,List.map_append];exact hrow,fun j hj=>?_,?_,?_,Nat.le_trans h.sz hg.size⟩
 · exact (World.cell?_of_block (w:=a) (a:=⟨w.heap.size+1,j,none⟩) (hg.block (w.heap.size+1) (by have:=h.sz;omega) (fun e=>h.ne e.symm))).trans (h.txt j hj)
 · intro e;simp only[Value.ownBlock,Option.some.injEq]at e;subst e;rcases hl with e|e
   · exact h.ne e
   have:=h.sz;omega
 exact Below.trans h.gr ⟨hg.os,hg.tape,hg.output,hg.size,fun i hi=>hg.block i (Nat.lt_of_lt_of_le hi h.gr.size) (fun e=>by have:=(h.row.lt i e.symm).1;omega)⟩
theorem WrI.last {w:World} {s:ByteArray} {k:Nat} {ov:Value} {a b:World} (h:WrI w s k ov a) (o:Obj) (hg:(a.alloc o).grownBy b ov.ownBlock):Gr w b :=
 have hx:=h.gr' ((Gr.refl a).alloc o)
 Below.trans hx.gr ⟨hg.os,hg.tape,hg.output,hg.size,fun i hi=>hg.block i (Nat.lt_of_lt_of_le hi hx.gr.size) (fun e=>by have:=(hx.row.lt i e.symm).1;omega)⟩
abbrev hexS:ByteArray:=⟨#[48,49,50,51,52,53,54,55,56,57,65,66,67,68,69,70]⟩
set_option maxRecDepth 1000000 in
theorem hex_index (k:Nat) (hk:k<16) (W:World):(Instr.index 9 (.string hexS) (.int .u8 (k:Int))).run Tryz.prog W = .ok (byteV (Pl.hexU k)) W:=by
 have:k=0∨k=1∨k=2∨k=3∨k=4∨k=5∨k=6∨k=7∨k=8∨k=9∨k=10∨k=11∨k=12∨k=13∨k=14∨k=15:=by omega
 rcases this with rfl|rfl|rfl|rfl|rfl|rfl|rfl|rfl|rfl|rfl|rfl|rfl|rfl|rfl|rfl|rfl
 all_goals (show _=_;first|kernel_rfl|rfl)
set_option maxRecDepth 1000000 in
theorem low_nibble (c:UInt8):bits .and .u8 (c.toNat:Int) 15=((c.toNat % 16:Nat):Int):=by
 have h:∀n:Fin 256,bits .and .u8 (n.1:Int) 15=((n.1 % 16:Nat):Int):=by decide +kernel
 exact h ⟨c.toNat,UInt8.toNat_lt c⟩
set_option maxRecDepth 100000 in
theorem tq_Write (s:ByteArray) (hs:s.size≤1000000) (w:World) (hT:ShW Pl.tab0 w):Calls Tryz.prog 22 #[.string s] w fun e w'=>(∃t:ByteArray,e = .returned (.string t)∧bs t=Pl.wrS (bs s))∧Gr w w':=by
 obtain⟨iU,hiU⟩:=info_parts info5;have HIU:=Lib.hid hiU;obtain⟨W0,hW0⟩:∃W0,w.alloc (.cells #[.int .u8 34] 5)=W0:=⟨_,rfl⟩
 have hz0:W0.heap.size=w.heap.size+1:=by rw[←hW0];simp
 have hcv:=Lib.run_convert_string_bytes (P:=Tryz.prog) W0 9 23 5 s (u := .string) (by kernel_rfl) (by kernel_rfl) (by kernel_rfl);have hB:∀j,j<s.size→(Lib.bytesWorld W0 5 s).cell? ⟨W0.heap.size,j,none⟩=some (.int .u8 (s.data.toList.getD j 0).toNat):=fun j hj=>Lib.bytesWorld_cell W0 5 s j hj
 have hg01:Gr W0 (Lib.bytesWorld W0 5 s):=gr_bytesWorld W0 5 s;have hz1:W0.heap.size+1≤(Lib.bytesWorld W0 5 s).heap.size:=by
  unfold Lib.bytesWorld;simp[World.freeze]
  try (split <;> simp)
 obtain⟨W1,hW1⟩:∃W1,Lib.bytesWorld W0 5 s=W1:=⟨_,rfl⟩
 rw[hW1]at hcv hB hg01 hz1;rw[hz0]at hcv hB hz1;have hW:WrI w s 0 (.slice (some ⟨w.heap.size,0,none⟩) 1 1) W1:=by
  refine⟨⟨rfl,.inr ⟨w.heap.size,1,#[.int .u8 34],rfl,Nat.le_refl _,?_,Nat.le_refl _,by unfold maxLen;omega,rfl,rfl⟩⟩,hB,by simp[Value.ownBlock],?_,by omega⟩
  · rw[hg01.block (by omega),←hW0];exact heap_alloc_new w _
  exact Gr.trans (by rw[←hW0];exact (Gr.refl w).alloc _) hg01
 have HW:=Lib.hid hW;have HT:=Lib.hid hT;clear hW1 hB hg01 hz1 hz0 hT hiU hW;go_enter Tryz.func22,Tryz.ntmps22;go_wp2_with fail
 go_step3
 go_wp2_with fail
 try rw[hW0]
 clear hW0
 go_step3
 go_wp2_with fail
 go_loopw [3,12] (fun v3 v12 wr=>∃(k:Nat),v12 = .int .i64 k∧k≤s.size∧WrI w s k v3 wr) (fun _ v12 _=>s.size-(intOf v12).toNat)
 case atStart=>exact⟨0,rfl,by omega,HW.out⟩
 case round =>
  obtain⟨k,rfl,hk,hI⟩:=hrel;by_cases hkn:k<s.size
  · have hc:=hI.txt k hkn;have hlen:k<(bs s).length:=by rw[bs_length];exact hkn
    have hdrop:(bs s).drop k=(bs s)[k]'hlen::(bs s).drop (k+1):=List.drop_eq_getElem_cons hlen;have hget:s.data.toList.getD k 0=(bs s)[k]'hlen:=by simp[bs,List.getD,List.getElem?_eq_getElem (show k<s.data.toList.length from hlen)]
    rw[hget]at hc;generalize (bs s)[k]'hlen=c at hc hdrop;have hc256:c.toNat<256:=c.toNat_lt;have hTr:=HT.out.gr hI.gr;have t0:wr.cell? ⟨0,0,none⟩=some (.int .u8 (Pl.tab0 0).1.toNat):=hTr 0 _ rfl;have t1:wr.cell? ⟨0,1,none⟩=some (.int .u8 (Pl.tab0 0).2.toNat):=hTr 1 _ rfl;have t2:wr.cell? ⟨0,2,none⟩=some (.int .u8 (Pl.tab0 1).1.toNat):=hTr 2 _ rfl;have t3:wr.cell? ⟨0,3,none⟩=some (.int .u8 (Pl.tab0 1).2.toNat):=hTr 3 _ rfl;have t4:wr.cell? ⟨0,4,none⟩=some (.int .u8 (Pl.tab0 2).1.toNat):=hTr 4 _ rfl;have t5:wr.cell? ⟨0,5,none⟩=some (.int .u8 (Pl.tab0 2).2.toNat):=hTr 5 _ rfl;have t6:wr.cell? ⟨0,6,none⟩=some (.int .u8 (Pl.tab0 3).1.toNat):=hTr 6 _ rfl;have t7:wr.cell? ⟨0,7,none⟩=some (.int .u8 (Pl.tab0 3).2.toNat):=hTr 7 _ rfl;have t8:wr.cell? ⟨0,8,none⟩=some (.int .u8 (Pl.tab0 4).1.toNat):=hTr 8 _ rfl;have t9:wr.cell? ⟨0,9,none⟩=some (.int .u8 (Pl.tab0 4).2.toNat):=hTr 9 _ rfl;have t10:wr.cell? ⟨0,10,none⟩=some (.int .u8 (Pl.tab0 5).1.toNat):=hTr 10 _ rfl;have t11:wr.cell? ⟨0,11,none⟩=some (.int .u8 (Pl.tab0 5).2.toNat):=hTr 11 _ rfl;have t12:wr.cell? ⟨0,12,none⟩=some (.int .u8 (Pl.tab0 6).1.toNat):=hTr 12 _ rfl;have t13:wr.cell? ⟨0,13,none⟩=some (.int .u8 (Pl.tab0 6).2.toNat):=hTr 13 _ rfl;have hd:decide (k<s.size)=true:=by simpa using hkn
    have k1:(0:Int)≤(k:Int):=by omega
    have k2:(k:Int)<(s.size:Int):=by omega
    have k3:IntKind.i64.wrap ((k:Int)+1)=(k:Int)+1:=IntWalk.i64_in _ ⟨by omega,by omega⟩;have HI:=Lib.hid hI;have HC:=Lib.hid hdrop;clear hI hdrop hget hlen hTr;go_wp2_with fail
    go_loopw [3,17] (fun v3 v wi=>∃j:Nat,v = .int .i64 j∧v3=u3∧j≤7∧Hid (∀i,i<j→((Pl.tab0 i).2.toNat==c.toNat)=false)∧Gr wr wi) (fun _ v _=>7-(intOf v).toNat)
    case atStart=>exact⟨0,rfl,rfl,by omega,Lib.hid (fun i hi=>by omega),Gr.refl _⟩
    case round =>
     obtain⟨j,rfl,rfl,hj,hn,hg⟩:=hrel;have HI2:=Lib.hid (HI.out.gr' hg);have HG:=Lib.hid (Gr.refl wr);have HG0:=Lib.hid hg;have HLN:=Lib.hid (Pl.wrK_len (bs s) k);clear t0 t1 t2 t3 t4 t5 t6 t7 t8 t9 t10 t11 t12 t13 hg HI;by_cases hj7:j<7
     · have i0:∀W,(Instr.index 109 (.agg (shC Pl.tab0)) (.int .i64 j)).run Tryz.prog W = .ok (.agg #[byteV (Pl.tab0 j).1,byteV (Pl.tab0 j).2]) W:=fun W=>sh_index Pl.tab0 j hj7 W
       simp only[shC,byteV]at i0;have hd2:decide (j<7)=true:=by simpa using hj7
       cases hh:((Pl.tab0 j).2.toNat==c.toNat) with
       | false =>
        have hn2:Hid (∀i,i<j+1→((Pl.tab0 i).2.toNat==c.toNat)=false):=Lib.hid (fun i hi=>by
         rcases Nat.lt_or_ge i j with h|h
         · exact hn.out i h
         have:i=j:=by omega
         subst this;exact hh)
        obtain⟨b1,b2⟩:=beqs _ _ _ hh;clear hh;go_wp2_with fail;refine⟨⟨j+1,by simp,rfl,by omega,hn2,?_⟩,by simp[intOf];omega⟩;have hg:=HG0.out;exact Gr.auto
       | true =>
        have HS:=Lib.hid (Pl.wrB_short c j hj7 hh hn.out);obtain⟨b1,b2⟩:=beqs _ _ _ hh;clear hh;go_wp2_with (at_builtin;refine wpList_append_lies _ rfl (.tmp 24) (.tmp 27) 23 rfl w.heap.size 5 iU (.int .u8 0) 1 1 Tryz.underlying23 HIU.out.1 HIU.out.2.1 HIU.out.2.2.1 HIU.out.2.2.2 rfl (by decide) u3 (Pl.wrK (bs s) k).length ((Pl.wrK (bs s) k).map byteV) rfl (by exact (HI2.out.gr' Gr.auto).row) ⟨_,0,none⟩ 2 2 [.int .u8 92,byteV (Pl.tab0 j).1] rfl (by simp) (cells_new _ [.int .u8 92,byteV (Pl.tab0 j).1] _ _ (by simp)) (by simp[Value.oneCell']) (by decide) (by have:=HLN.out;unfold maxLen;omega) (by have:=HLN.out;omega) (by have:=HI2.out.sz;(try simp only[World.size_alloc]);omega) _ rfl ?_;intro gb cap w7 hown7 hg7 hl7 hz7;have HM:=Lib.hid (WrI.more (by exact (HI2.out.gr' Gr.auto)) c _ HC.out rfl (by (rw[HS.out];try rfl)) (by rw[HS.out];exact hown7) hg7 hl7);clear hown7 hg7 hl7 hz7);refine⟨⟨k+1,by simp,by omega,HM.out⟩,by simp[intOf];omega⟩
     obtain rfl:j=7:=by omega
     have hd2:decide ((7:Nat)<7)=false:=by simp
     have HS0:=Lib.hid (Pl.wrB_long c hn.out);cases hp:Pl.isPlain c with
     | true =>
      have HS:Hid (Pl.wrB c=[c]):=Lib.hid (by rw[HS0.out,if_pos hp]);have HPl:=Lib.hid (tq_plain c);rw[hp]at HPl;clear hp;go_wp2_with fail;refine (HPl.out _).mono ?_;rintro e w1 ⟨rfl,rfl⟩;go_wp2_with (at_builtin;refine wpList_append_lies _ rfl (.tmp 32) (.tmp 34) 23 rfl w.heap.size 5 iU (.int .u8 0) 1 1 Tryz.underlying23 HIU.out.1 HIU.out.2.1 HIU.out.2.2.1 HIU.out.2.2.2 rfl (by decide) u3 (Pl.wrK (bs s) k).length ((Pl.wrK (bs s) k).map byteV) rfl (by exact (HI2.out.gr' Gr.auto).row) ⟨_,0,none⟩ 1 1 [byteV c] rfl (by simp) (cells_new _ [byteV c] _ _ (by simp)) (by simp[Value.oneCell']) (by decide) (by have:=HLN.out;unfold maxLen;omega) (by have:=HLN.out;omega) (by have:=HI2.out.sz;(try simp only[World.size_alloc]);omega) _ rfl ?_;intro gb cap w7 hown7 hg7 hl7 hz7;have HM:=Lib.hid (WrI.more (by exact (HI2.out.gr' Gr.auto)) c _ HC.out rfl (by (rw[HS.out];try rfl)) (by rw[HS.out];exact hown7) hg7 hl7);clear hown7 hg7 hl7 hz7);refine⟨⟨k+1,by simp,by omega,HM.out⟩,by simp[intOf];omega⟩
     | false =>
      have HS:Hid (Pl.wrB c=[92,117,48,48,Pl.hexU (c.toNat / 16),Pl.hexU (c.toNat % 16)]):=Lib.hid (by rw[HS0.out,if_neg (by rw[hp];simp)]);have HPl:=Lib.hid (tq_plain c);rw[hp]at HPl;clear hp;go_wp2_with fail;refine (HPl.out _).mono ?_;rintro e w1 ⟨rfl,rfl⟩;go_wp2_with fail;refine Reg.begin' (W:=fun _=>true) (S:=fun _=>True) (by kernel_rfl) ?_;have ih:∀W,(Instr.index 9 (.string hexS) (.int .u8 ((c.toNat:Int) / 16))).run Tryz.prog W = .ok (byteV (Pl.hexU (c.toNat / 16))) W:=fun W=>by
       have:=hex_index (c.toNat / 16) (by omega) W
       rwa [show ((c.toNat / 16:Nat):Int)=(c.toNat:Int) / 16 by omega]at this
      unfold hexS at ih;obtain⟨m,hm⟩:∃m,c.toNat % 16=m:=⟨_,rfl⟩
      have hb:=low_nibble c;rw[hm]at hb HS;have ih2:∀W,(Instr.index 9 (.string hexS) (.int .u8 (m:Int))).run Tryz.prog W = .ok (byteV (Pl.hexU m)) W:=fun W=>hex_index m (by omega) W
      unfold hexS at ih2;clear hm;refine Reg.ty 0 ?_;refine Reg.ty 1 ?_;refine Reg.ty 2 ?_;refine Reg.ty 3 ?_;refine Reg.ty 4 ?_;refine Reg.ty 5 ?_;refine Reg.ty 6 ?_;refine Reg.on 7 ?_;go_simp;refine Reg.on 8 ?_;refine wp_append_lies _ (.tmp 36) (.tmp 43) 23 (by rfl) w.heap.size 5 iU (.int .u8 0) 1 1 Tryz.underlying23 HIU.out.1 HIU.out.2.1 HIU.out.2.2.1 HIU.out.2.2.2 (by rfl) (by decide) u3 (Pl.wrK (bs s) k).length ((Pl.wrK (bs s) k).map byteV) (by rfl) (by exact (HI2.out.gr' Gr.auto).row) ⟨_,0,none⟩ 6 6 [.int .u8 92,.int .u8 117,.int .u8 48,.int .u8 48,byteV (Pl.hexU (c.toNat / 16)),byteV (Pl.hexU m)] (by rfl) (by rfl) (cells_new _ [.int .u8 92,.int .u8 117,.int .u8 48,.int .u8 48,byteV (Pl.hexU (c.toNat / 16)),byteV (Pl.hexU m)] _ _ (by simp)) (by simp[Value.oneCell']) (by decide) (by have:=HLN.out;unfold maxLen;omega) (by have:=HLN.out;omega) (by have:=HI2.out.sz;(try simp only[World.size_alloc,World.size_drew]);omega) _ rfl ?_;intro gb cap w7 hown7 hg7 hl7 hz7;have HM:=Lib.hid (WrI.more (by exact (HI2.out.gr' Gr.auto)) c _ HC.out rfl (by (rw[HS.out];try rfl)) (by rw[HS.out];exact hown7) hg7 hl7);clear hown7 hg7 hl7 hz7;refine⟨fun _ h=>h,?_⟩;refine Reg.pt ?_;refine Reg.ty 9 ?_;refine Reg.done (by kernel_rfl) ?_ _;go_wp2_with fail;refine⟨⟨k+1,by simp,by omega,HM.out⟩,by simp[intOf];omega⟩
  obtain rfl:k=s.size:=by omega
  have hd:decide (s.size<s.size)=false:=by simp
  have HI2:=Lib.hid hI;have HLN:=Lib.hid (Pl.wrK_len (bs s) s.size);have HFin:Hid (Pl.wrS (bs s)=Pl.wrK (bs s) s.size++[34]):=Lib.hid (by
   unfold Pl.wrS Pl.wrK;rw[List.take_of_length_le (by rw[bs_length];exact Nat.le_refl _)];rfl)
  have HEq:Hid ((Pl.wrK (bs s) s.size).map byteV++[.int .u8 34]=(Pl.wrS (bs s)).map byteV):=Lib.hid (by rw[HFin.out,List.map_append];rfl);have HLn:Hid ((Pl.wrS (bs s)).length=(Pl.wrK (bs s) s.size).length+1):=Lib.hid (by rw[HFin.out,List.length_append];rfl);clear hI hk hkn;go_wp2_with (at_builtin;refine wpList_append_lies _ rfl (.tmp 46) (.tmp 47) 23 rfl w.heap.size 5 iU (.int .u8 0) 1 1 Tryz.underlying23 HIU.out.1 HIU.out.2.1 HIU.out.2.2.1 HIU.out.2.2.2 rfl (by decide) u3 (Pl.wrK (bs s) s.size).length ((Pl.wrK (bs s) s.size).map byteV) rfl (by exact (HI2.out.gr' Gr.auto).row) ⟨_,0,none⟩ 1 1 [.int .u8 34] rfl (by simp) (cells_new _ [.int .u8 34] _ _ (by simp)) (by simp[Value.oneCell']) (by decide) (by have:=HLN.out;unfold maxLen;omega) (by have:=HLN.out;omega) (by have:=HI2.out.sz;(try simp only[World.size_alloc]);omega) _ rfl ?_;intro gb cap w7 hown7 hg7 hl7 hz7;have hcv3:=run_convert_bytes_back (P:=Tryz.prog) w7 23 9 5 ⟨gb,0,none⟩ cap (Pl.wrS (bs s)) (by kernel_rfl) (by kernel_rfl) (by kernel_rfl) (fun j hj=>(hown7.cells (g:=gb) rfl) j _ (by rw[HEq.out,List.getElem?_map,List.getElem?_eq_getElem hj];rfl));rw[HLn.out]at hcv3;have HG7:=Lib.hid (HI2.out.last _ hg7);clear hown7 hg7 hl7 hz7);rw[Exit.noGoto_ret];exact bodyPost_ret (v := .string ⟨(Pl.wrS (bs s)).toArray⟩) (by simp[results,Tryz.results22,go_sem]) rfl ⟨⟨_,rfl,by simp[bs]⟩,HG7.out⟩
end Go.Proofs.YtdgjgcepbkanhaaGreatDoor
namespace Go.Proofs.YtdgjgcepbkanhaaGreatDoor.Pl
open Go.RowKit Go.Joins
theorem itoa_form (n:Int):∃ds:Bs,(∀c∈ds,isDec c=true)∧ds≠[]∧(1<ds.length→ds[0]?≠some 48)∧(Lib.itoa n=ds∨Lib.itoa n=45::ds):=by
 unfold Lib.itoa
 split
 · exact⟨_,dec_digits _,dec_ne _,dec_head _,.inr rfl⟩
 exact⟨_,dec_digits _,dec_ne _,dec_head _,.inl rfl⟩
theorem form_no (l f:Bs) (i:Nat) (w:UInt8) (hf:f[i]?=some w) (hw:∀c,l[i]?=some c→fits w c=false):formM l f=false:=by
 cases h:formM l f with
 | false=>rfl
 | true =>
  obtain⟨c,h1,h2⟩:=formM_get l f h i w hf;rw[hw c h1]at h2;cases h2
theorem dec_fits (c w:UInt8) (hc:isDec c=true) (hw:w=45∨w=58):fits w c=false:=by
 simp only[isDec,Bool.and_eq_true,decide_eq_true_eq]at hc;unfold fits;rcases hw with rfl|rfl
 · rw[if_neg (by decide)];simp;omega
 rw[if_neg (by decide)];simp;omega
theorem dec_part (c:UInt8) (hc:isDec c=true):isPart c=true:=by
 simp only[isDec,Bool.and_eq_true,decide_eq_true_eq]at hc;unfold isPart partN;simp;omega
theorem split_none (l:Bs) (h:∀c∈l,isDec c=true):splitB 95 l=[l]:=by
 induction l with
 | nil=>rfl
 | cons c l ih =>
  have hc:=h c (by simp);simp only[isDec,Bool.and_eq_true,decide_eq_true_eq]at hc;have:(c==95)=false:=by
   cases hx:c==95 with
   | false=>rfl
   | true=>rw[beq_iff_eq]at hx;subst hx;simp at hc
  unfold splitB;rw[this,ih (fun d hd=>h d (List.mem_cons_of_mem _ hd))];rfl
theorem right_dec (l:Bs) (h:∀c∈l,isDec c=true) (hn:l≠[]):rightD isDec l=true:=by
 unfold rightD;rw[split_none l h];simp only[List.all_cons,List.all_nil,Bool.and_true,Bool.and_eq_true,Bool.not_eq_true'];exact⟨by
  cases l with
  | nil=>exact absurd rfl hn
  | cons=>rfl,List.all_eq_true.2 h⟩
theorem lowless_dec (l:Bs) (h:∀c∈l,c≠95):lowless l=l:=by
 rw[lowless_filter,List.filter_eq_self];intro c hc;have:=h c hc;simp[this]
theorem radOf_dec (l:Bs) (h:∀c∈l.drop 1,isDec c=true):radOf l=⟨0,10,isDec⟩:=by
 unfold radOf;have key:∀b:UInt8,isDec b=false→pre l [48,b]=false:=by
  intro b hb;cases l with
  | nil=>rfl
  | cons c t =>
   cases t with
   | nil=>simp[pre]
   | cons d u =>
    have hd:=h d (by simp);have hbd:¬b=d:=fun e=>by subst e;rw[hb]at hd;cases hd
    have hdb:¬d=b:=fun e=>hbd e.symm
    have e1:(b==d)=false:=beq_eq_false_iff_ne.2 hbd;have e2:(d==b)=false:=beq_eq_false_iff_ne.2 hdb;simp[pre,hbd,hdb,e1,e2]
 rw[key 120 (by decide),key 111 (by decide),key 98 (by decide)];rfl
theorem intRead_itoa (n:Int) (h0 : -9223372036854775808≤n) (h1:n≤9223372036854775807):intRead (Lib.itoa n) = .ok (Lib.itoa n):=by
 have hp:=parse_itoa n h0 h1;obtain⟨ds,hd,hne,hh,hi⟩:=itoa_form n;have hl95:∀c∈ds,c≠95:=fun c hc e=>by subst e;have:=hd _ hc;simp[isDec]at this
 have hr3:∀sg,Lib.parseIntB 64 (sg++ds) = .ok n→intRead3 ⟨0,10,isDec⟩ sg ds = .ok (Lib.itoa n):=fun sg hsg=>by
  unfold intRead3;rw[if_neg (by
   rintro (h|⟨_,h2,h3⟩)
   · rw[right_dec ds hd hne]at h;cases h
   exact hh h2 h3)]
  rw[lowless_dec ds hl95];unfold intVal;rw[if_pos rfl,hsg]
 rcases hi with hi|hi
 · have hrad:radOf (Lib.itoa n)=⟨0,10,isDec⟩:=radOf_dec _ (by rw[hi];exact fun c hc=>hd c (List.mem_of_mem_drop hc));have hs:signIs (Lib.itoa n)=false:=by
    unfold signIs;rw[hi];cases ds with
    | nil=>exact absurd rfl hne
    | cons c t =>
     have hc:=hd c (by simp);simp only[isDec,Bool.and_eq_true,decide_eq_true_eq]at hc;have:signed (c::t)=false:=by simp[signed,isSign];omega
     rw[this,Bool.and_false]
   unfold intRead;rw[hs,if_neg (by simp),hrad];rw[hi]at hp ⊢;have:=hr3 [] hp;rw[hi]at this;exact this
 have hrad:radOf (Lib.itoa n)=⟨0,10,isDec⟩:=radOf_dec _ (by rw[hi];exact fun c hc=>hd c hc);have hs:signIs (Lib.itoa n)=true:=by
  unfold signIs;rw[hrad,hi];rfl
 unfold intRead;rw[hs,if_pos rfl,hrad];rw[hi]at hp ⊢;have:=hr3 [45] hp;rw[hi]at this;exact this
theorem itoa_get (n:Int) (i:Nat) (c:UInt8) (h:(Lib.itoa n)[i+1]?=some c):isDec c=true:=by
 obtain⟨ds,hd,_,_,hi⟩:=itoa_form n;rcases hi with hi|hi
 · rw[hi]at h;exact hd c (List.mem_of_getElem? h)
 rw[hi,List.getElem?_cons_succ]at h;exact hd c (List.mem_of_getElem? h)
theorem itoa_part (n:Int):∀c∈Lib.itoa n,isPart c=true:=by
 obtain⟨ds,hd,_,_,hi⟩:=itoa_form n;intro c hc;rcases hi with hi|hi
 · rw[hi]at hc;exact dec_part c (hd c hc)
 rw[hi]at hc;rcases List.mem_cons.1 hc with rfl|hc
 · decide
 exact dec_part c (hd c hc)
theorem tok_self (l:Bs) (h:∀c∈l,isPart c=true):tok l=l:=by
 unfold tok
 induction l with
 | nil=>rfl
 | cons c l ih=>rw[List.takeWhile_cons,if_pos (h c (by simp)),ih (fun d hd=>h d (List.mem_cons_of_mem _ hd))]
theorem split_itoa (n:Int):(splitD (Lib.itoa n)).long=0:=by
 have h1:formM (Lib.itoa n) dateF=false:=form_no _ _ 4 45 rfl (fun c hc=>dec_fits c 45 (itoa_get n 3 c hc) (.inl rfl));have h2:formM (Lib.itoa n) timeF=false:=form_no _ _ 2 58 rfl (fun c hc=>dec_fits c 58 (itoa_get n 1 c hc) (.inr rfl));unfold splitD;rw[h1,if_neg (by simp)];unfold clockP;rw[h2];rfl
theorem scal_itoa (n:Int) (h0 : -9223372036854775808≤n) (h1:n≤9223372036854775807):scalS (Lib.itoa n) = .ok (4,Lib.itoa n,(Lib.itoa n).length):=by
 unfold scalS;rw[split_itoa n,if_neg (by omega),tok_self _ (itoa_part n)];have hne:∀b r,isDec b=false→b≠45→Lib.itoa n≠b::r:=by
  intro b r hb hb2 e;obtain⟨ds,hd,hn,_,hi⟩:=itoa_form n;rcases hi with hi|hi
  · rw[hi]at e;have:=hd b (by rw[e];simp);rw[hb]at this;cases this
  rw[hi]at e;have:=(List.cons.inj e).1;exact hb2 this.symm
 unfold plainS;rw[if_neg (by
  rintro (h|h)
  · exact hne 116 _ (by decide) (by decide) h
  exact hne 102 _ (by decide) (by decide) h),intRead_itoa n h0 h1]
theorem itoa_head (n:Int):∃c r,Lib.itoa n=c::r∧c≠34∧c≠39∧c≠91∧c≠123:=by
 obtain⟨ds,hd,hn,_,hi⟩:=itoa_form n;have nd:∀x:UInt8,isDec x=false→∀c,isDec c=true→c≠x:=fun x hx c hc e=>by subst e;rw[hx]at hc;cases hc
 rcases hi with hi|hi
 · cases ds with
   | nil=>exact absurd rfl hn
   | cons c r =>
    have hc:=hd c (by simp);exact⟨c,r,hi,nd 34 (by decide) c hc,nd 39 (by decide) c hc,nd 91 (by decide) c hc,nd 123 (by decide) c hc⟩
 exact⟨45,ds,hi,by decide,by decide,by decide,by decide⟩
theorem scal_true:scalS trueB = .ok (1,trueB,4):=by kernel_rfl
theorem scal_false:scalS falseB = .ok (1,falseB,5):=by kernel_rfl
def plainE:Env:=⟨strS tab0,scalS⟩
theorem read_scal (a l b:Bs) (k:Nat) (t:Bs) (hb:Stops b) (hl:∃c r,l=c::r∧c≠34∧c≠39∧c≠91∧c≠123) (hs:scalS l = .ok (k,t,l.length)) :
    readS plainE (a++l++b) a.length 0 = .ok (0,a.length+l.length,[leaf k t a.length (a.length+l.length)]):=by
 obtain⟨c,r,rfl,h34,h39,h91,h123⟩:=hl;have hd:(a++(c::r)++b).drop a.length=(c::r)++b:=by rw[List.append_assoc,List.drop_left]
 have hby:byteAt (a++(c::r)++b) a.length=c.toNat:=by
  unfold byteAt;rw[List.append_assoc,List.getElem?_append_right (Nat.le_refl _),Nat.sub_self];rfl
 have ne:∀x:UInt8,c≠x→c.toNat≠x.toNat:=fun x h e=>h (UInt8.toNat_inj.1 e)
 unfold readS valueF;simp only;rw[hby,if_neg (by rintro (h|h);exact ne 34 h34 h;exact ne 39 h39 h),if_neg (show ¬c.toNat=91 from ne 91 h91),if_neg (show ¬c.toNat=123 from ne 123 h123),hd];show (match scalS ((c::r)++b) with
  | .non=>_
  | .bad c _=>_
  | .ok (k,t,m)=>_:Res _)=_
 rw[scalS_stops (c::r) hb,hs];rfl
theorem wrS_long (t b:Bs) (hb:∀c r,b=c::r→c≠34):long (wrS t++b)=false:=by
 unfold wrS;cases t with
 | nil =>
  cases b with
  | nil=>rfl
  | cons c r =>
   have:=hb c r rfl;show long (34::34::c::r)=false;unfold long
   split
   · rename_i heq;injection heq with _ h2;injection h2 with _ h3;injection h3 with h4 _;exact absurd h4 this
   · rename_i heq;injection heq with h2 _;exact absurd h2 (by decide)
   rfl
 | cons c t =>
  obtain⟨x,y,hx,hx34⟩:∃x y,wrB c=x::y∧x≠34:=by
   unfold wrB;by_cases h34:c=34
   · subst h34;exact⟨92,[34],by decide,by decide⟩
   repeat' split
   all_goals first|exact⟨_,_,rfl,by decide⟩|exact⟨_,_,rfl,h34⟩
  rw[List.flatMap_cons,hx];show long (34::x::_)=false;unfold long
  split
  · rename_i heq;injection heq with _ h2;injection h2 with h3 _;exact absurd h3 hx34
  · rename_i heq;injection heq with h2 _;exact absurd h2 (by decide)
  rfl
theorem read_str (a t b:Bs) (hb:∀c r,b=c::r→c≠34) :
    readS plainE (a++wrS t++b) a.length 0 = .ok (0,a.length+(wrS t).length,[leaf 3 t a.length (a.length+(wrS t).length)]):=by
 have hd:(a++wrS t++b).drop a.length=wrS t++b:=by rw[List.append_assoc,List.drop_left]
 have hby:byteAt (a++wrS t++b) a.length=34:=by
  unfold byteAt;rw[List.append_assoc,List.getElem?_append_right (Nat.le_refl _),Nat.sub_self];rfl
 unfold readS valueF;simp only;rw[hby,if_pos (.inl rfl),hd];show (match strS tab0 (wrS t++b) with
  | .non=>_
  | .bad c p=>_
  | .ok (t,m)=>_:Res _)=_
 rw[strS_wr t b (wrS_long t b hb)];rfl
end Go.Proofs.YtdgjgcepbkanhaaGreatDoor.Pl
namespace Go.Proofs.YtdgjgcepbkanhaaGreatDoor
open Go.RowKit Go.Shelf Go.Joins
theorem bs_cat (a b:ByteArray):bs (a++b)=bs a++bs b:=by
 show (a++b).data.toList=_;rw[ByteArray.data_append,Array.toList_append]
theorem rep_x (c:Nat) (hc:c<9) (w:World) :
    Calls Tryz.prog 20 #[.string ⟨#[120]⟩,.int .i64 c] w fun e w'=>∃r:ByteArray,e = .returned (.string r)∧r.size≤8∧Gr w w':=by
 match c,hc with
 | 0,_ =>
  refine (show Calls Tryz.prog 20 #[.string ⟨#[120]⟩,.int .i64 0] w _ from Tryz.strings_Repeat_zero ⟨#[120]⟩ w).mono ?_;rintro e w' ⟨rfl,rfl⟩;exact⟨⟨#[]⟩,rfl,by decide,Gr.refl _⟩
 | 1,_ =>
  refine (show Calls Tryz.prog 20 #[.string ⟨#[120]⟩,.int .i64 1] w _ from Tryz.strings_Repeat_one ⟨#[120]⟩ w).mono ?_;rintro e w' ⟨rfl,rfl⟩;exact⟨_,rfl,by decide,Gr.refl _⟩
 | c+2,hc =>
  refine (Tryz.strings_Repeat_main ⟨#[120]⟩ (c+2) w (by omega) (by omega) ?_ (by decide)).mono ?_
  · have:(⟨#[120]⟩:ByteArray).size=1:=rfl;rw[this];omega
  rintro e w' ⟨rfl,hb⟩;refine⟨_,rfl,?_,hb⟩;rw[←bs_length];have:bs (⟨(Lib.repeatL (⟨#[120]⟩:ByteArray).data.toList (c+2)).toArray⟩:ByteArray)=Lib.repeatL [120] (c+2):=by simp[bs]
  rw[this,Lib.repeatL_length];simp;omega
set_option maxRecDepth 100000 in
theorem la_scalar0 (w:World) (base g:Nat) (r:NdR) (h:TreeV w base g [r]) (k:Nat) (hk:r.nd.kind=k) (t:ByteArray) (ht:r.nd.text=bs t) (hs:r.nd.subs=[]) :
    Calls Tryz.prog 23 #[.agg #[.slice (some ⟨g,0,none⟩) 1 1,.int .i64 0],.int .i64 0,.int .u8 k,.string t] w fun e w'=>e = .returned (.bool true)∧Gr w w':=by
 obtain⟨c0,c1,c2,c3,c4,c5,c6⟩:=h.cells 0 r rfl;obtain⟨a,c,hu⟩:=rowC_zero (h.rows 0 r rfl).2.2 (by rw[hs];rfl);rw[hk]at c0;rw[ht,strV_bs]at c1;rw[hu]at c4;have hg:=h.lt.2;simp only[Nat.zero_mul,Nat.zero_add]at c0 c1 c4;clear h hs ht hk hu c2 c3 c5 c6;go_enter Tryz.func23,Tryz.ntmps23;go_wp2_with fail
 go_ret
 exact⟨rfl,Gr.auto⟩
def PlS (b14 b16 bk bw g i A E ki:Nat) (ti:ByteArray) (W:World):Prop :=
 W.cell? ⟨b16,0,none⟩=some (.int .i64 0)∧W.cell? ⟨b16,1,none⟩=some (.int .i64 0)∧W.cell? ⟨b14,0,none⟩=some (.slice (some ⟨g,0,none⟩) 1 1)∧W.cell? ⟨b14,1,none⟩=some (.int .i64 0) ∧
 W.cell? ⟨bk,i,none⟩=some (.int .u8 ki)∧W.cell? ⟨bw,i,none⟩=some (.string ti)∧W.cell? ⟨g,5,none⟩=some (.int .i64 A)∧W.cell? ⟨g,6,none⟩=some (.int .i64 E)
theorem PlS.gr {b14 b16 bk bw g i A E ki:Nat} {ti:ByteArray} {W W':World} (h:PlS b14 b16 bk bw g i A E ki ti W) (k:Gr W W'):PlS b14 b16 bk bw g i A E ki ti W':=by
 have hc:∀ {b o:Nat} {v},W.cell? ⟨b,o,none⟩=some v→W'.cell? ⟨b,o,none⟩=some v:=fun e=>(k.use.1 _ _ (Lib.lt_of_cell e)).trans e
 obtain⟨h0,h1,h2,h3,h4,h5,h6,h7⟩:=h;exact⟨hc h0,hc h1,hc h2,hc h3,hc h4,hc h5,hc h6,hc h7⟩
def behL:List ByteArray:=[⟨#[]⟩,⟨#[32]⟩,⟨#[10]⟩,⟨#[13,10]⟩,⟨#[44]⟩,⟨#[93]⟩,⟨#[125]⟩,⟨#[35]⟩,⟨#[9,35,32,121]⟩]
theorem stop1 (c:UInt8) (t:List UInt8) (hc:c=9∨c=10∨c=13∨c=32∨c=35∨c=44∨c=93∨c=125) (h:c≠32):Pl.Stops (c::t) := .inr ⟨c,t,rfl,hc,fun e=>absurd e h⟩
theorem behL_ok:∀b∈behL,Pl.Stops (bs b)∧(∀c r,bs b=c::r→c≠34)∧b.size≤4:=by
 intro b hb;have ne:∀(x:UInt8) (y:List UInt8),x≠34→∀c r,x::y=c::r→c≠34:=fun x y h c r e=>by injection e with e1 _;subst e1;exact h
 simp only[behL,List.mem_cons,List.not_mem_nil,or_false]at hb;rcases hb with rfl|rfl|rfl|rfl|rfl|rfl|rfl|rfl|rfl
 · exact⟨.inl rfl,fun c r h=>(by cases h),by decide⟩
 · exact⟨.inr ⟨32,[],rfl,by decide,fun _ d t' h=>(by cases h)⟩,ne 32 [] (by decide),by decide⟩
 · exact⟨stop1 10 [] (by decide) (by decide),ne 10 [] (by decide),by decide⟩
 · exact⟨stop1 13 [10] (by decide) (by decide),ne 13 [10] (by decide),by decide⟩
 · exact⟨stop1 44 [] (by decide) (by decide),ne 44 [] (by decide),by decide⟩
 · exact⟨stop1 93 [] (by decide) (by decide),ne 93 [] (by decide),by decide⟩
 · exact⟨stop1 125 [] (by decide) (by decide),ne 125 [] (by decide),by decide⟩
 · exact⟨stop1 35 [] (by decide) (by decide),ne 35 [] (by decide),by decide⟩
 exact⟨stop1 9 [35,32,121] (by decide) (by decide),ne 9 [35,32,121] (by decide),by decide⟩
set_option maxRecDepth 100000 in
theorem law_plain (w:World) (hw:RW Pl.tab0 w) (n:Int) (hn0 : -9223372036854775808≤n) (hn1:n≤9223372036854775807) (text:ByteArray) (z0 z1:Nat) (hz0:z0≤255) (hz1:z1≤255) :
    Calls Tryz.prog 6 #[.int .i64 n,.string text,.agg #[.int .u8 z0,.int .u8 z1]] w fun e w'=>e = .returned (.bool true)∧Gr w w':=by
 have HW:=Lib.hid hw;clear hw;by_cases ht:200<text.size
 · have b1:decide ((200:Int)<(text.size:Int))=true:=by simp;omega
   clear ht;go_enter Tryz.func6,Tryz.ntmps6;go_wp2_with fail;refine (la_lives _ (HW.out.gr Gr.auto)).mono ?_;rintro e w6 ⟨rfl,g6⟩;go_wp2_with fail;exact bodyPost_ret (v := .bool true) (by simp[results,Tryz.results6,go_sem]) rfl ⟨rfl,Gr.auto⟩
 have b1:decide ((200:Int)<(text.size:Int))=false:=by simp;omega
 obtain⟨m0,hm0⟩:∃m,z0 % 9=m:=⟨_,rfl⟩
 obtain⟨m1,hm1⟩:∃m,z1 % 9=m:=⟨_,rfl⟩
 have wa:IntKind.i64.wrap (z0:Int)=(z0:Int):=IntWalk.i64_in _ ⟨by omega,by omega⟩;have wb:IntKind.i64.wrap (z1:Int)=(z1:Int):=IntWalk.i64_in _ ⟨by omega,by omega⟩;have ma:(z0:Int).tmod 9=(m0:Int):=by rw[Int.tmod_eq_emod_of_nonneg (by omega)];omega
 have mb:(z1:Int).tmod 9=(m1:Int):=by rw[Int.tmod_eq_emod_of_nonneg (by omega)];omega
 have hm0':m0<9:=by omega
 have hm1':m1<9:=by omega
 obtain⟨B,hB⟩:∃B,behL[m1]?=some B:=⟨_,List.getElem?_eq_getElem (by simpa [behL]using hm1')⟩
 have hBo:=behL_ok B (List.mem_of_getElem? hB);have hBl:[Value.string ⟨#[]⟩,.string ⟨#[32]⟩,.string ⟨#[10]⟩,.string ⟨#[13,10]⟩,.string ⟨#[44]⟩,.string ⟨#[93]⟩,.string ⟨#[125]⟩,.string ⟨#[35]⟩,.string ⟨#[9,35,32,121]⟩][m1] = .string B:=by
  have h:=congrArg (Option.map Value.string) hB;rw[←List.getElem?_map]at h;exact (List.getElem?_eq_some_iff.1 h).2
 have k1:(0:Int)≤(m1:Int):=by omega
 have k2:(m1:Int)<9:=by omega
 have HBO:=Lib.hid hBo;clear hB hBo hm0 hm1;go_enter Tryz.func6,Tryz.ntmps6;go_wp2_with fail;refine (rep_x m0 hm0' _).mono ?_;rintro e w1 ⟨A,rfl,hA,g1⟩;have hz1c:w1.cell? ⟨w.heap.size,1,none⟩=some (.int .u8 z1):=(g1.use.1 _ _ (by simp)).trans (by simp);have hG1:Gr w w1:=((Gr.refl w).alloc _).trans g1;have hw1:w.heap.size<w1.heap.size:=by have:=g1.size;simp at this;omega
 clear g1;go_wp2_with fail;refine (Tryz.strconv_FormatInt_10 n hn0 hn1 _ (HW.out.gr Gr.auto).int.pow).mono ?_;rintro e w2 ⟨rfl,k0,os0,rfl⟩;have g2:=grow_gr (w1.alloc (.cells #[.string ⟨#[]⟩,.string ⟨#[32]⟩,.string ⟨#[10]⟩,.string ⟨#[13,10]⟩,.string ⟨#[44]⟩,.string ⟨#[93]⟩,.string ⟨#[125]⟩,.string ⟨#[35]⟩,.string ⟨#[9,35,32,121]⟩] 9)) k0 os0;have hG2:Gr w _:=(hG1.alloc _).trans g2;obtain⟨w2,hw2⟩:∃W,Sort.grow ((w1.alloc (.cells #[.string ⟨#[]⟩,.string ⟨#[32]⟩,.string ⟨#[10]⟩,.string ⟨#[13,10]⟩,.string ⟨#[44]⟩,.string ⟨#[93]⟩,.string ⟨#[125]⟩,.string ⟨#[35]⟩,.string ⟨#[9,35,32,121]⟩] 9)).drewN k0) os0=W:=⟨_,rfl⟩
 rw[hw2]at hG2 ⊢;obtain⟨I,hI⟩:∃I:ByteArray,⟨(Lib.itoa n).toArray⟩=I:=⟨_,rfl⟩
 have hIb:bs I=Lib.itoa n:=by rw[←hI]
 rw[hI];have HI:=Lib.hid hIb;clear g2 hw2 hI hIb hz1c hG1 hw1;go_wp2_with fail;refine (tq_Write text (by omega) _ (HW.out.gr Gr.auto).q.sh).mono ?_;rintro e w3 ⟨⟨Q,rfl,hQ⟩,g3⟩;have hG3:=hG2.trans g3;have HQ:=Lib.hid hQ;clear g3 hG2 hQ;go_wp2_with fail;obtain⟨w5,hw5⟩:∃W,((w3.alloc (.cells #[.string I,.string ⟨#[116,114,117,101]⟩,.string ⟨#[102,97,108,115,101]⟩,.string Q] 9)).alloc (.cells #[.int .u8 4,.int .u8 1,.int .u8 1,.int .u8 3] 35)).alloc (.cells #[.string I,.string ⟨#[116,114,117,101]⟩,.string ⟨#[102,97,108,115,101]⟩,.string text] 9)=W:=⟨_,rfl⟩
 have hG5:Gr w w5:=by rw[←hw5];exact ((hG3.alloc _).alloc _).alloc _
 have hz5:w5.heap.size=w3.heap.size+1+1+1:=by rw[←hw5];simp only[World.size_alloc]
 have hbl:w5.heap[w3.heap.size]?=some (.cells #[.string I,.string ⟨#[116,114,117,101]⟩,.string ⟨#[102,97,108,115,101]⟩,.string Q] 9 (0,0)):=by
  rw[←hw5];exact (((Gr.refl (w3.alloc _)).alloc _).alloc _).block (by simp) |>.trans (heap_alloc_new w3 _)
 have hbk:w5.heap[w3.heap.size+1]?=some (.cells #[.int .u8 4,.int .u8 1,.int .u8 1,.int .u8 3] 35 (0,0)):=by
  rw[←hw5];refine ((Gr.refl ((w3.alloc _).alloc _)).alloc _).block (by simp) |>.trans ?_;have:=heap_alloc_new (w3.alloc (.cells #[.string I,.string ⟨#[116,114,117,101]⟩,.string ⟨#[102,97,108,115,101]⟩,.string Q] 9)) (.cells #[.int .u8 4,.int .u8 1,.int .u8 1,.int .u8 3] 35)
  rwa [World.size_alloc]at this
 have hbw:w5.heap[w3.heap.size+1+1]?=some (.cells #[.string I,.string ⟨#[116,114,117,101]⟩,.string ⟨#[102,97,108,115,101]⟩,.string text] 9 (0,0)):=by
  rw[←hw5];have:=heap_alloc_new ((w3.alloc (.cells #[.string I,.string ⟨#[116,114,117,101]⟩,.string ⟨#[102,97,108,115,101]⟩,.string Q] 9)).alloc (.cells #[.int .u8 4,.int .u8 1,.int .u8 1,.int .u8 3] 35)) (.cells #[.string I,.string ⟨#[116,114,117,101]⟩,.string ⟨#[102,97,108,115,101]⟩,.string text] 9)
  rwa [World.size_alloc,World.size_alloc]at this
 have hrow:∀i:Nat,i<4→∃(li ti:ByteArray) (ki:Nat),w5.cell? ⟨w3.heap.size,i,none⟩=some (.string li)∧w5.cell? ⟨w3.heap.size+1,i,none⟩=some (.int .u8 ki)∧w5.cell? ⟨w3.heap.size+1+1,i,none⟩=some (.string ti)∧li.size≤10000000 ∧
     Pl.readS Pl.plainE (bs A++bs li++bs B) A.size 0 = .ok (0,A.size+li.size,[Pl.leaf ki (bs ti) A.size (A.size+li.size)]):=by
  have hI1:I.size≤10000000:=by
   rw[←bs_length,HI.out];have:=Lib.itoa_length_le n hn0 hn1;omega
  have hQ1:Q.size≤10000000:=by
   rw[←bs_length,HQ.out];have h1:=Pl.wrK_len (bs text) text.size;have h2:Pl.wrS (bs text)=Pl.wrK (bs text) text.size++[34]:=by
    unfold Pl.wrS Pl.wrK;rw[List.take_of_length_le (by rw[bs_length];exact Nat.le_refl _)];rfl
   rw[h2,List.length_append,List.length_singleton];omega
  have sc:∀(li:ByteArray) (ki:Nat) (ti:ByteArray),(∃c r,bs li=c::r∧c≠34∧c≠39∧c≠91∧c≠123)→Pl.scalS (bs li) = .ok (ki,bs ti,li.size)→Pl.readS Pl.plainE (bs A++bs li++bs B) A.size 0 = .ok (0,A.size+li.size,[Pl.leaf ki (bs ti) A.size (A.size+li.size)]):=fun li ki ti h1 h2=>by
   have:=Pl.read_scal (bs A) (bs li) (bs B) ki (bs ti) HBO.out.1 h1 (by rw[h2,bs_length])
   rwa [bs_length,bs_length]at this
  intro i hi
  match i,hi with
  | 0,_ =>
   refine⟨I,I,4,by rw[cell_of_block hbl];rfl,by rw[cell_of_block hbk];rfl,by rw[cell_of_block hbw];rfl,hI1,sc I 4 I ?_ ?_⟩
   · rw[HI.out];exact Pl.itoa_head n
   rw[HI.out,Pl.scal_itoa n hn0 hn1,←HI.out,bs_length]
  | 1,_=>exact⟨_,_,1,by rw[cell_of_block hbl];rfl,by rw[cell_of_block hbk];rfl,by rw[cell_of_block hbw];rfl,by decide,sc ⟨#[116,114,117,101]⟩ 1 ⟨#[116,114,117,101]⟩ ⟨_,_,rfl,by decide,by decide,by decide,by decide⟩ Pl.scal_true⟩
  | 2,_=>exact⟨_,_,1,by rw[cell_of_block hbl];rfl,by rw[cell_of_block hbk];rfl,by rw[cell_of_block hbw];rfl,by decide,sc ⟨#[102,97,108,115,101]⟩ 1 ⟨#[102,97,108,115,101]⟩ ⟨_,_,rfl,by decide,by decide,by decide,by decide⟩ Pl.scal_false⟩
  | 3,_ =>
   refine⟨Q,text,3,by rw[cell_of_block hbl];rfl,by rw[cell_of_block hbk];rfl,by rw[cell_of_block hbw];rfl,hQ1,?_⟩;have:=Pl.read_str (bs A) (bs text) (bs B) HBO.out.2.1;rw[←HQ.out,bs_length,bs_length]at this;exact this
 have HR:=Lib.hid hrow
 try rw[hw5]
 clear hrow hw5 hG3 HI HQ hbl hbk hbw
 go_loopw [12] (fun v wr=>∃i:Nat,v = .int .i64 i∧i≤4∧Gr w5 wr) (fun v _=>4-(intOf v).toNat)
 case atStart=>exact⟨0,rfl,by omega,Gr.refl _⟩
 case round =>
  obtain⟨i,rfl,hi,hg⟩:=hrel;have HG:=Lib.hid (hG5.trans hg);by_cases hi4:i<4
  · obtain⟨li,ti,ki,e1,e2,e3,hls,hrd⟩:=HR.out i hi4;have c1:wr.cell? ⟨w3.heap.size,i,none⟩=some (.string li):=(hg.use.1 _ _ (by omega)).trans e1;have c2:wr.cell? ⟨w3.heap.size+1,i,none⟩=some (.int .u8 ki):=(hg.use.1 _ _ (by omega)).trans e2;have c3:wr.cell? ⟨w3.heap.size+1+1,i,none⟩=some (.string ti):=(hg.use.1 _ _ (by omega)).trans e3;have d1:decide (i<4)=true:=by simpa using hi4
    have k3:(0:Int)≤(i:Int):=by omega
    have k4:(i:Int)<4:=by omega
    have k5:IntKind.i64.wrap ((i:Int)+1)=(i:Int)+1:=IntWalk.i64_in _ ⟨by omega,by omega⟩;have HRD:=Lib.hid hrd;have HG0:=Lib.hid hg;have hb1:¬ 9223372036854775807<A.size+li.size:=by omega
    have hb2:¬ 9223372036854775807<A.size+li.size+B.size:=by have:=HBO.out.2.2;omega
    clear e1 e2 e3 hrd hg;go_wp2_with fail;refine (tv_Read wr (HW.out.gr HG.out) (A++li++B) (by rw[ByteArray.size_append,ByteArray.size_append];have:=HBO.out.2.2;omega) A.size A.size rfl (by rw[ByteArray.size_append,ByteArray.size_append];omega) 0 0 (by decide) (.ok (0,A.size+li.size,[Pl.leaf ki (bs ti) A.size (A.size+li.size)])) (by rw[bs_cat,bs_cat];exact HRD.out) (by simp)).mono ?_;rintro e w6 ⟨g,L,rfl,hm6,hi6,hL,hT,g6⟩;obtain⟨r,rfl,hr⟩:∃r,L=[r]∧r.nd=Pl.leaf ki (bs ti) A.size (A.size+li.size):=by
     cases L with
     | nil=>cases hL
     | cons r L2 =>
      cases L2 with
      | nil=>exact⟨r,rfl,by simpa using hL⟩
      | cons a b=>simp at hL
    obtain⟨q0,q1,q2,q3,q4,q5,q6⟩:=hT.cells 0 r rfl;rw[hr]at q0 q1 q5 q6;have hgl:=hT.lt;have HT:=Lib.hid hT;have HG6:=Lib.hid (HG0.out.trans g6);have f1:=(g6.use.1 _ _ (Lib.lt_of_cell c1)).trans c1;have f2:=(g6.use.1 _ _ (Lib.lt_of_cell c2)).trans c2;have f3:=(g6.use.1 _ _ (Lib.lt_of_cell c3)).trans c3;clear hT c1 c2 c3 g6 hL;simp only[Nat.zero_mul,Nat.zero_add]at q5 q6;have HNd:=Lib.hid hr;go_wp2_with fail;have hS:PlS w6.heap.size (w6.heap.size+1) (w3.heap.size+1) (w3.heap.size+1+1) g i A.size (A.size+li.size) ki ti ((w6.alloc (.cells #[.slice (some ⟨g,0,none⟩) 1 1,.int .i64 0] 28)).alloc (.cells #[.int .i64 0,.int .i64 0] 31)).drew:=by
     have hg8:Gr w6 ((w6.alloc (.cells #[.slice (some ⟨g,0,none⟩) 1 1,.int .i64 0] 28)).alloc (.cells #[.int .i64 0,.int .i64 0] 31)).drew:=(((Gr.refl w6).alloc _).alloc _).drew;have hu:=hg8.use.1;refine⟨by simp,by simp,by simp,by simp,?_,?_,?_,?_⟩
     · exact (hu _ _ (Lib.lt_of_cell f2)).trans f2
     · exact (hu _ _ (Lib.lt_of_cell f3)).trans f3
     · exact (hu _ _ (Lib.lt_of_cell q5)).trans q5
     exact (hu _ _ (Lib.lt_of_cell q6)).trans q6
    refine Reg.begin' (W:=fun _=>true) (S:=PlS w6.heap.size (w6.heap.size+1) (w3.heap.size+1) (w3.heap.size+1+1) g i A.size (A.size+li.size) ki ti) (by kernel_rfl) ?_;refine Reg.tl 0 hS ?_ (hy:=by intro w hSw;obtain⟨s0,s1,s2,s3,s4,s5,s6,s7⟩:=hSw;go_simp;try with_reducible rfl);refine Reg.ty 1 ?_;refine Reg.ty 2 ?_;refine Reg.ty 3 ?_;refine Reg.ty 4 ?_;refine Reg.ty 5 ?_;refine Reg.ty 6 ?_;refine Reg.ty 7 ?_;refine Reg.ty 8 ?_;refine Reg.ty 9 ?_;refine Reg.ty 10 ?_;refine Reg.tl 11 hS ?_ (hy:=by intro w hSw;obtain⟨s0,s1,s2,s3,s4,s5,s6,s7⟩:=hSw;go_simp;try with_reducible rfl);refine Reg.ty 12 ?_;refine Reg.ty 13 ?_;refine Reg.ty 14 ?_;refine Reg.ty 15 ?_;refine Reg.tl 16 hS ?_ (hy:=by intro w hSw;obtain⟨s0,s1,s2,s3,s4,s5,s6,s7⟩:=hSw;go_simp;try with_reducible rfl);refine Reg.ty 17 ?_;refine Reg.tl 18 hS ?_ (hy:=by intro w hSw;obtain⟨s0,s1,s2,s3,s4,s5,s6,s7⟩:=hSw;go_simp;try with_reducible rfl);refine Reg.ty 19 ?_;refine Reg.ty 20 ?_;refine Reg.ty 21 ?_;refine Reg.tl 22 hS ?_ (hy:=by intro w hSw;obtain⟨s0,s1,s2,s3,s4,s5,s6,s7⟩:=hSw;go_simp;try with_reducible rfl);refine Reg.ty 23 ?_;refine Reg.ty 24 ?_;refine Reg.ty 25 ?_;refine Reg.tl 26 hS ?_ (hy:=by intro w hSw;obtain⟨s0,s1,s2,s3,s4,s5,s6,s7⟩:=hSw;go_simp;try with_reducible rfl);refine Reg.on 27 ?_;go_simp;refine (la_scalar0 _ wr.heap.size g r (HT.out.gr Gr.auto) ki (by rw[HNd.out];rfl) ti (by rw[HNd.out];rfl) (by rw[HNd.out];rfl)).mono ?_;rintro e w7 ⟨rfl,g7⟩;have hS7:=hS.gr g7;refine⟨by first|exact hS7|exact fun _=>hS7|exact fun _ _=>hS7,?_⟩;refine Reg.pt ?_;refine Reg.ty 28 ?_;refine Reg.ty 29 ?_;refine Reg.ty 30 ?_;refine Reg.ty 31 ?_;refine Reg.tl 32 hS7 ?_ (hy:=by intro w hSw;obtain⟨s0,s1,s2,s3,s4,s5,s6,s7⟩:=hSw;go_simp;try with_reducible rfl);refine Reg.ty 33 ?_;refine Reg.tl 34 hS7 ?_ (hy:=by intro w hSw;obtain⟨s0,s1,s2,s3,s4,s5,s6,s7⟩:=hSw;go_simp;try with_reducible rfl);refine Reg.ty 35 ?_;refine Reg.ty 36 ?_;refine Reg.tl 37 hS7 ?_ (hy:=by intro w hSw;obtain⟨s0,s1,s2,s3,s4,s5,s6,s7⟩:=hSw;go_simp;try with_reducible rfl);refine Reg.ty 38 ?_;refine Reg.ty 39 ?_;refine Reg.ty 40 ?_;refine Reg.ty 41 ?_;refine Reg.ty 42 ?_;refine Reg.ty 43 ?_;refine Reg.ty 44 ?_;refine Reg.done (by kernel_rfl) ?_ _;go_wp2_with fail;refine⟨⟨i+1,by simp,by omega,?_⟩,by simp[intOf];omega⟩;have h6:=HG6.out;exact Gr.auto
  obtain rfl:i=4:=by omega
  have d1:decide ((4:Nat)<4)=false:=by simp
  have HG0:=Lib.hid hg;clear hg;go_wp2_with fail;refine (la_lives _ (HW.out.gr HG.out)).mono ?_;rintro e w7 ⟨rfl,g7⟩;have hg:=HG.out.trans g7;go_wp2_with fail;exact bodyPost_ret (v := .bool true) (by simp[results,Tryz.results6,go_sem]) rfl ⟨rfl,hg⟩
end Go.Proofs.YtdgjgcepbkanhaaGreatDoor
