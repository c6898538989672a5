/-
 The walks and plain laws that the claim rests on, part 35.
-/
import Derived.Test.YtkplelejagpkmaaGreatDoorP05
import Derived.Test.YtkplelejagpkmaaGreatDoorP06
import Derived.Test.YtkplelejagpkmaaGreatDoorP18
import Derived.Test.YtkplelejagpkmaaGreatDoorP33
import Derived.Test.YtkplelejagpkmaaGreatDoorP47
import Derived.Deep.RegionHeld3
import Derived.Test.YtkplelejagpkmaaGreatDoorRows
import Derived.ProofKit
import Derived.OpenShut
import Derived.LaidMore
import Derived.Lib.LaidTab
import Derived.Lib.LaidU8
import Derived.Shelf.Vars
import Derived.Deep.Strs
import Derived.Stop.LaidErr
set_option maxHeartbeats 16000000
set_option linter.all false
set_option linter.unusedVariables false
set_option linter.unusedSimpArgs false
namespace Go.Proofs.YtkplelejagpkmaaGreatDoor
open Go.RowKit Go.Joins
namespace Pl
def tab0 (k:Nat):UInt8 × UInt8:=match k with
 | 0=>(98,8)|1=>(116,9)|2=>(110,10)|3=>(102,12)|4=>(114,13)|5=>(34,34)|_=>(92,92)
def hexU (n:Nat):UInt8:=if n<10 then (48+n).toUInt8 else (55+n).toUInt8
def wrB (c:UInt8):List UInt8 :=
 if c=8 then [92,98] else if c=9 then [92,116] else if c=10 then [92,110] else if c=12 then [92,102] else if c=13 then [92,114] else if c=34 then [92,34] else if c=92 then [92,92]
 else if isPlain c then [c] else [92,117,48,48,hexU (c.toNat / 16),hexU (c.toNat % 16)]
def wrS (t:List UInt8):List UInt8:=34::(t.flatMap wrB++[34])
theorem not_plain (c:UInt8) (h:isPlain c=false):c≠9∧(c=0∨c=1∨c=2∨c=3∨c=4∨c=5∨c=6∨c=7∨c=8∨c=9∨c=10∨c=11∨c=12∨c=13∨c=14∨c=15∨c=16∨c=17∨c=18∨c=19∨c=20∨c=21∨c=22∨c=23∨c=24∨c=25∨c=26∨c=27∨c=28∨c=29∨c=30∨c=31∨c=127):=by
 simp[isPlain]at h;refine⟨fun e=>by subst e;simp at h,?_⟩;simp only[←UInt8.toNat_inj];have:((0:UInt8).toNat=0)∧((1:UInt8).toNat=1)∧((2:UInt8).toNat=2)∧((3:UInt8).toNat=3)∧((4:UInt8).toNat=4)∧((5:UInt8).toNat=5)∧((6:UInt8).toNat=6)∧((7:UInt8).toNat=7)∧((8:UInt8).toNat=8)∧((9:UInt8).toNat=9)∧((10:UInt8).toNat=10)∧((11:UInt8).toNat=11)∧((12:UInt8).toNat=12)∧((13:UInt8).toNat=13)∧((14:UInt8).toNat=14)∧((15:UInt8).toNat=15)∧((16:UInt8).toNat=16)∧((17:UInt8).toNat=17)∧((18:UInt8).toNat=18)∧((19:UInt8).toNat=19)∧((20:UInt8).toNat=20)∧((21:UInt8).toNat=21)∧((22:UInt8).toNat=22)∧((23:UInt8).toNat=23)∧((24:UInt8).toNat=24)∧((25:UInt8).toNat=25)∧((26:UInt8).toNat=26)∧((27:UInt8).toNat=27)∧((28:UInt8).toNat=28)∧((29:UInt8).toNat=29)∧((30:UInt8).toNat=30)∧((31:UInt8).toNat=31)∧((127:UInt8).toNat=127):=by decide
 have h9:=h.1;have hc:c.toNat<32∨c.toNat=127:=by
  rcases Nat.lt_or_ge c.toNat 32 with h'|h'
  · exact .inl h'
  exact .inr (h.2 h')
 omega
set_option maxRecDepth 100000 in
theorem step_wrB (c:UInt8) (r:List UInt8):stepBas tab0 34 (wrB c++r)=some (.go (wrB c).length [c] false):=by
 cases hp:isPlain c with
 | false =>
  obtain⟨_,hc⟩:=not_plain c hp;rcases hc with rfl|rfl|rfl|rfl|rfl|rfl|rfl|rfl|rfl|rfl|rfl|rfl|rfl|rfl|rfl|rfl|rfl|rfl|rfl|rfl|rfl|rfl|rfl|rfl|rfl|rfl|rfl|rfl|rfl|rfl|rfl|rfl|rfl
  all_goals first|kernel_rfl|rfl
 | true =>
  by_cases h9:c=9
  · subst h9;first|kernel_rfl|rfl
  by_cases h34:c=34
  · subst h34;first|kernel_rfl|rfl
  by_cases h92:c=92
  · subst h92;first|kernel_rfl|rfl
  have hn:∀k:UInt8,isPlain k=false→c≠k:=fun k hk e=>by rw[e,hk]at hp;cases hp
  have hw:wrB c=[c]:=by
   unfold wrB;rw[if_neg (hn 8 (by decide)),if_neg h9,if_neg (hn 10 (by decide)),if_neg (hn 12 (by decide)),if_neg (hn 13 (by decide)),if_neg h34,if_neg h92,if_pos hp]
  rw[hw];have e1:(c.toNat==(34:UInt8).toNat)=false:=by simp;intro e;exact h34 (UInt8.toNat_inj.1 (by rw[e];rfl))
  have e2:(c.toNat==92)=false:=by simp;intro e;exact h92 (UInt8.toNat_inj.1 (by rw[e];rfl))
  simp only[List.cons_append,List.nil_append,stepBas,e1,e2,Bool.false_eq_true,if_false];simp[itself,hp]
theorem wrB_ne (c:UInt8):wrB c≠[]:=by
 unfold wrB;repeat' split
 all_goals simp
theorem kind_short (l:List UInt8):kindStep tab0 false 34 l=stepBas tab0 34 l:=by
 unfold kindStep;rw[if_neg (by simp),if_neg (by decide)]
theorem readF_wr (t:List UInt8):∀(l r:List UInt8) (n:Nat) (out:List UInt8) (f:Nat),l.drop n=t.flatMap wrB++34::r→t.length<f →
    readF (kindStep tab0 false 34) l f n out = .ok (out++t,n+(t.flatMap wrB).length+1):=by
 induction t with
 | nil =>
  intro l r n out f h hf;obtain⟨f,rfl⟩:∃k,f=k+1:=⟨f-1,by omega⟩
  unfold readF;rw[h];simp only[List.flatMap_nil,List.nil_append,kind_short];simp[stepBas]
 | cons c t ih =>
  intro l r n out f h hf;obtain⟨f,rfl⟩:∃k,f=k+1:=⟨f-1,by simp at hf;omega⟩
  have hs:=step_wrB c (t.flatMap wrB++34::r);rw[List.flatMap_cons,List.append_assoc]at h;unfold readF;rw[h];cases hw:wrB c++(t.flatMap wrB++34::r) with
  | nil=>rw[List.append_eq_nil_iff]at hw;exact absurd hw.1 (wrB_ne c)
  | cons x y =>
   rw[hw]at hs;simp only[kind_short,hs];have hd:l.drop (n+(wrB c).length)=t.flatMap wrB++34::r:=by
    rw[←List.drop_drop,h,List.drop_left]
   have:=ih l r (n+(wrB c).length) (out++[c]) f hd (by simp at hf;omega);rw[if_neg (by simp),this];simp[List.flatMap_cons];omega
theorem strS_wr (t r:List UInt8) (ht:long (wrS t++r)=false):strS tab0 (wrS t++r) = .ok (t,(wrS t).length):=by
 unfold strS wrS;rw[wrS]at ht;simp only[List.cons_append,List.append_assoc,List.nil_append]at ht ⊢;rw[if_pos (by decide),ht,if_neg (by simp),readF_wr t _ r 1 [] _ rfl ?_]
 · simp;omega
 have hl:t.length≤(t.flatMap wrB).length:=by
  induction t with
  | nil=>simp
  | cons c t ih =>
   have h1:=List.length_pos_iff.2 (wrB_ne c);rw[List.flatMap_cons,List.length_append,List.length_cons];have h2:t.length≤(t.flatMap wrB).length:=by
    clear ih ht
    induction t with
    | nil=>simp
    | cons d t ih2 =>
     have h3:=List.length_pos_iff.2 (wrB_ne d);rw[List.flatMap_cons,List.length_append,List.length_cons];omega
   omega
 simp only[List.length_cons,List.length_append];omega
end Pl
end Go.Proofs.YtkplelejagpkmaaGreatDoor
namespace Go.Proofs.YtkplelejagpkmaaGreatDoor
open Go.RowKit Go.Shelf Go.Joins
attribute [local go_sem] Oper.semAt_some
namespace Pl
def wrK (l:List UInt8) (k:Nat):List UInt8:=34::(l.take k).flatMap wrB
theorem wrK_next (l:List UInt8) (k:Nat) (c:UInt8) (r:List UInt8) (h:l.drop k=c::r):wrK l (k+1)=wrK l k++wrB c:=by
 unfold wrK;have:l[k]?=some c:=by rw[←List.head?_drop,h];rfl
 rw[List.take_add_one,this];simp
theorem wrB_len (c:UInt8):(wrB c).length≤6∧0<(wrB c).length:=by
 unfold wrB;repeat' split
 all_goals simp
theorem wrK_len (l:List UInt8):∀k,(wrK l k).length≤6*k+1:=by
 intro k;unfold wrK;have:∀m:List UInt8,(m.flatMap wrB).length≤6*m.length:=by
  intro m
  induction m with
  | nil=>simp
  | cons c m ih =>
   rw[List.flatMap_cons,List.length_append,List.length_cons];have:=(wrB_len c).1;omega
 have h1:=this (l.take k);have h2:(l.take k).length≤k:=by rw[List.length_take];omega
 rw[List.length_cons];omega
theorem wrB_short (c:UInt8) (j:Nat) (hj:j<7) (h:((tab0 j).2.toNat==c.toNat)=true) (hn:∀i,i<j→((tab0 i).2.toNat==c.toNat)=false):wrB c=[92,(tab0 j).1]:=by
 have hc:c=(tab0 j).2:=UInt8.toNat_inj.1 (beq_iff_eq.1 h).symm;subst hc;have:j=0∨j=1∨j=2∨j=3∨j=4∨j=5∨j=6:=by omega
 rcases this with rfl|rfl|rfl|rfl|rfl|rfl|rfl <;> decide
theorem wrB_long (c:UInt8) (hn:∀i,i<7→((tab0 i).2.toNat==c.toNat)=false):wrB c=if isPlain c then [c] else [92,117,48,48,hexU (c.toNat / 16),hexU (c.toNat % 16)]:=by
 have hne:∀i,i<7→c≠(tab0 i).2:=fun i hi e=>by have:=hn i hi;rw[e]at this;simp at this
 have h0:c≠8:=hne 0 (by omega);have h1:c≠9:=hne 1 (by omega);have h2:c≠10:=hne 2 (by omega);have h3:c≠12:=hne 3 (by omega);have h4:c≠13:=hne 4 (by omega);have h5:c≠34:=hne 5 (by omega);have h6:c≠92:=hne 6 (by omega);unfold wrB;rw[if_neg h0,if_neg h1,if_neg h2,if_neg h3,if_neg h4,if_neg h5,if_neg h6]
end Pl
theorem cells_new (W:World) (L:List Value) (t:TypeId) (n:Nat) (hn:n=W.heap.size):∀(j:Nat) u,L[j]?=some u→(W.alloc (.cells L.toArray t)).cell? ((⟨n,0,none⟩:Addr).add j)=some u:=by
 subst hn;intro j u hu;rw[Addr.add_lit,Nat.zero_add,cell_of_block (heap_alloc_new W _)]
 simpa using hu
structure WrI (w:World) (s:ByteArray) (k:Nat) (ov:Value) (wr:World):Prop where
 row:wr.ownsRow w.heap.size 5 1 ov (Pl.wrK (bs s) k).length ((Pl.wrK (bs s) k).map byteV)
 txt:∀j,j<s.size→wr.cell? ⟨w.heap.size+1,j,none⟩=some (.int .u8 (s.data.toList.getD j 0).toNat)
 ne:ov.ownBlock≠some (w.heap.size+1)
 gr:Gr w wr
 sz:w.heap.size+2≤wr.heap.size
theorem WrI.gr' {w:World} {s:ByteArray} {k:Nat} {ov:Value} {a b:World} (h:WrI w s k ov a) (g:Gr a b):WrI w s k ov b :=
 ⟨ownsRow_of_block h.row fun i e=>g.block (h.row.lt i e).2,fun j hj=>(g.use.1 _ _ (by have:=h.sz;omega)).trans (h.txt j hj),h.ne,h.gr.trans g,Nat.le_trans h.sz g.size⟩
theorem WrI.more {w:World} {s:ByteArray} {k:Nat} {ov:Value} {a b:World} (h:WrI w s k ov a) (c:UInt8) (r:List UInt8) (hc:(bs s).drop k=c::r) {g cap:Nat} {n m:Nat} (hn:n=(Pl.wrK (bs s) k).length) (hm:m=(Pl.wrB c).length)
    (hrow:b.ownsRow w.heap.size 5 1 (.slice (some ⟨g,0,none⟩) (n+m) cap) (n+m) ((Pl.wrK (bs s) k).map byteV++(Pl.wrB c).map byteV)) (hg:a.grownBy b ov.ownBlock) (hl:ov.ownBlock=some g∨g=a.heap.size) :
    WrI w s (k+1) (.slice (some ⟨g,0,none⟩) (n+m) cap) b:=by
 subst hn hm;have hk:=Pl.wrK_next (bs s) k c r hc;refine⟨by rw[hk,List.length_append,List.map_append];exact hrow,fun j hj=>?_,?_,?_,Nat.le_trans h.sz hg.size⟩
 · exact (World.cell?_of_block (w:=a) (a:=⟨w.heap.size+1,j,none⟩) (hg.block (w.heap.size+1) (by have:=h.sz;omega) (fun e=>h.ne e.symm))).trans (h.txt j hj)
 · intro e;simp only[Value.ownBlock,Option.some.injEq]at e;subst e;rcases hl with e|e
   · exact h.ne e
   have:=h.sz;omega
 exact Below.trans h.gr ⟨hg.os,hg.tape,hg.output,hg.size,fun i hi=>hg.block i (Nat.lt_of_lt_of_le hi h.gr.size) (fun e=>by have:=(h.row.lt i e.symm).1;omega)⟩
theorem WrI.last {w:World} {s:ByteArray} {k:Nat} {ov:Value} {a b:World} (h:WrI w s k ov a) (o:Obj) (hg:(a.alloc o).grownBy b ov.ownBlock):Gr w b :=
 have hx:=h.gr' ((Gr.refl a).alloc o)
 Below.trans hx.gr ⟨hg.os,hg.tape,hg.output,hg.size,fun i hi=>hg.block i (Nat.lt_of_lt_of_le hi hx.gr.size) (fun e=>by have:=(hx.row.lt i e.symm).1;omega)⟩
abbrev hexS:ByteArray:=⟨#[48,49,50,51,52,53,54,55,56,57,65,66,67,68,69,70]⟩
set_option maxRecDepth 1000000 in
theorem hex_index (k:Nat) (hk:k<16) (W:World):(Instr.index 9 (.string hexS) (.int .u8 (k:Int))).run Tryz.prog W = .ok (byteV (Pl.hexU k)) W:=by
 have:k=0∨k=1∨k=2∨k=3∨k=4∨k=5∨k=6∨k=7∨k=8∨k=9∨k=10∨k=11∨k=12∨k=13∨k=14∨k=15:=by omega
 rcases this with rfl|rfl|rfl|rfl|rfl|rfl|rfl|rfl|rfl|rfl|rfl|rfl|rfl|rfl|rfl|rfl
 all_goals (show _=_;first|kernel_rfl|rfl)
set_option maxRecDepth 1000000 in
theorem low_nibble (c:UInt8):bits .and .u8 (c.toNat:Int) 15=((c.toNat % 16:Nat):Int):=by
 have h:∀n:Fin 256,bits .and .u8 (n.1:Int) 15=((n.1 % 16:Nat):Int):=by decide +kernel
 exact h ⟨c.toNat,UInt8.toNat_lt c⟩
set_option maxRecDepth 100000 in
theorem tq_Write (s:ByteArray) (hs:s.size≤1100000) (w:World) (hT:ShW Pl.tab0 w):Calls Tryz.prog 26 #[.string s] w fun e w'=>(∃t:ByteArray,e = .returned (.string t)∧bs t=Pl.wrS (bs s))∧Gr w w':=by
 obtain⟨iU,hiU⟩:=info_parts info5;have HIU:=Lib.hid hiU;obtain⟨W0,hW0⟩:∃W0,w.alloc (.cells #[.int .u8 34] 5)=W0:=⟨_,rfl⟩
 have hz0:W0.heap.size=w.heap.size+1:=by rw[←hW0];simp
 have hcv:=Lib.run_convert_string_bytes (P:=Tryz.prog) W0 9 23 5 s (u := .string) (by kernel_rfl) (by kernel_rfl) (by kernel_rfl);have hB:∀j,j<s.size→(Lib.bytesWorld W0 5 s).cell? ⟨W0.heap.size,j,none⟩=some (.int .u8 (s.data.toList.getD j 0).toNat):=fun j hj=>Lib.bytesWorld_cell W0 5 s j hj
 have hg01:Gr W0 (Lib.bytesWorld W0 5 s):=gr_bytesWorld W0 5 s;have hz1:W0.heap.size+1≤(Lib.bytesWorld W0 5 s).heap.size:=by
  unfold Lib.bytesWorld;simp[World.freeze]
  try (split <;> simp)
 obtain⟨W1,hW1⟩:∃W1,Lib.bytesWorld W0 5 s=W1:=⟨_,rfl⟩
 rw[hW1]at hcv hB hg01 hz1;rw[hz0]at hcv hB hz1;have hW:WrI w s 0 (.slice (some ⟨w.heap.size,0,none⟩) 1 1) W1:=by
  refine⟨⟨rfl,.inr ⟨w.heap.size,1,#[.int .u8 34],rfl,Nat.le_refl _,?_,Nat.le_refl _,by unfold maxLen;omega,rfl,rfl⟩⟩,hB,by simp[Value.ownBlock],?_,by omega⟩
  · rw[hg01.block (by omega),←hW0];exact heap_alloc_new w _
  exact Gr.trans (by rw[←hW0];exact (Gr.refl w).alloc _) hg01
 have HW:=Lib.hid hW;have HT:=Lib.hid hT;clear hW1 hB hg01 hz1 hz0 hT hiU hW;go_enter Tryz.func26,Tryz.ntmps26;go_wp2_with fail
 go_step3
 go_wp2_with fail
 try rw[hW0]
 clear hW0
 go_step3
 go_wp2_with fail
 go_loopw [3,12] (fun v3 v12 wr=>∃(k:Nat),v12 = .int .i64 k∧k≤s.size∧WrI w s k v3 wr) (fun _ v12 _=>s.size-(intOf v12).toNat)
 case atStart=>exact⟨0,rfl,by omega,HW.out⟩
 case round =>
  obtain⟨k,rfl,hk,hI⟩:=hrel;by_cases hkn:k<s.size
  · have hc:=hI.txt k hkn;have hlen:k<(bs s).length:=by rw[bs_length];exact hkn
    have hdrop:(bs s).drop k=(bs s)[k]'hlen::(bs s).drop (k+1):=List.drop_eq_getElem_cons hlen;have hget:s.data.toList.getD k 0=(bs s)[k]'hlen:=by simp[bs,List.getD,List.getElem?_eq_getElem (show k<s.data.toList.length from hlen)]
    rw[hget]at hc;generalize (bs s)[k]'hlen=c at hc hdrop;have hc256:c.toNat<256:=c.toNat_lt;have hTr:=HT.out.gr hI.gr;have t0:wr.cell? ⟨0,0,none⟩=some (.int .u8 (Pl.tab0 0).1.toNat):=hTr 0 _ rfl;have t1:wr.cell? ⟨0,1,none⟩=some (.int .u8 (Pl.tab0 0).2.toNat):=hTr 1 _ rfl;have t2:wr.cell? ⟨0,2,none⟩=some (.int .u8 (Pl.tab0 1).1.toNat):=hTr 2 _ rfl;have t3:wr.cell? ⟨0,3,none⟩=some (.int .u8 (Pl.tab0 1).2.toNat):=hTr 3 _ rfl;have t4:wr.cell? ⟨0,4,none⟩=some (.int .u8 (Pl.tab0 2).1.toNat):=hTr 4 _ rfl;have t5:wr.cell? ⟨0,5,none⟩=some (.int .u8 (Pl.tab0 2).2.toNat):=hTr 5 _ rfl;have t6:wr.cell? ⟨0,6,none⟩=some (.int .u8 (Pl.tab0 3).1.toNat):=hTr 6 _ rfl;have t7:wr.cell? ⟨0,7,none⟩=some (.int .u8 (Pl.tab0 3).2.toNat):=hTr 7 _ rfl;have t8:wr.cell? ⟨0,8,none⟩=some (.int .u8 (Pl.tab0 4).1.toNat):=hTr 8 _ rfl;have t9:wr.cell? ⟨0,9,none⟩=some (.int .u8 (Pl.tab0 4).2.toNat):=hTr 9 _ rfl;have t10:wr.cell? ⟨0,10,none⟩=some (.int .u8 (Pl.tab0 5).1.toNat):=hTr 10 _ rfl;have t11:wr.cell? ⟨0,11,none⟩=some (.int .u8 (Pl.tab0 5).2.toNat):=hTr 11 _ rfl;have t12:wr.cell? ⟨0,12,none⟩=some (.int .u8 (Pl.tab0 6).1.toNat):=hTr 12 _ rfl;have t13:wr.cell? ⟨0,13,none⟩=some (.int .u8 (Pl.tab0 6).2.toNat):=hTr 13 _ rfl;have hd:decide (k<s.size)=true:=by simpa using hkn
    have k1:(0:Int)≤(k:Int):=by omega
    have k2:(k:Int)<(s.size:Int):=by omega
    have k3:IntKind.i64.wrap ((k:Int)+1)=(k:Int)+1:=IntWalk.i64_in _ ⟨by omega,by omega⟩;have HI:=Lib.hid hI;have HC:=Lib.hid hdrop;clear hI hdrop hget hlen hTr;go_wp2_with fail
    go_loopw [3,17] (fun v3 v wi=>∃j:Nat,v = .int .i64 j∧v3=u3∧j≤7∧Hid (∀i,i<j→((Pl.tab0 i).2.toNat==c.toNat)=false)∧Gr wr wi) (fun _ v _=>7-(intOf v).toNat)
    case atStart=>exact⟨0,rfl,rfl,by omega,Lib.hid (fun i hi=>by omega),Gr.refl _⟩
    case round =>
     obtain⟨j,rfl,rfl,hj,hn,hg⟩:=hrel;have HI2:=Lib.hid (HI.out.gr' hg);have HG:=Lib.hid (Gr.refl wr);have HG0:=Lib.hid hg;have HLN:=Lib.hid (Pl.wrK_len (bs s) k);clear t0 t1 t2 t3 t4 t5 t6 t7 t8 t9 t10 t11 t12 t13 hg HI;by_cases hj7:j<7
     · have i0:∀W,(Instr.index 106 (.agg (shC Pl.tab0)) (.int .i64 j)).run Tryz.prog W = .ok (.agg #[byteV (Pl.tab0 j).1,byteV (Pl.tab0 j).2]) W:=fun W=>sh_index Pl.tab0 j hj7 W
       simp only[shC,byteV]at i0;have hd2:decide (j<7)=true:=by simpa using hj7
       cases hh:((Pl.tab0 j).2.toNat==c.toNat) with
       | false =>
        have hn2:Hid (∀i,i<j+1→((Pl.tab0 i).2.toNat==c.toNat)=false):=Lib.hid (fun i hi=>by
         rcases Nat.lt_or_ge i j with h|h
         · exact hn.out i h
         have:i=j:=by omega
         subst this;exact hh)
        obtain⟨b1,b2⟩:=beqs _ _ _ hh;clear hh;go_wp2_with fail;refine⟨⟨j+1,by simp,rfl,by omega,hn2,?_⟩,by simp[intOf];omega⟩;have hg:=HG0.out;exact Gr.auto
       | true =>
        have HS:=Lib.hid (Pl.wrB_short c j hj7 hh hn.out);obtain⟨b1,b2⟩:=beqs _ _ _ hh;clear hh;go_wp2_with (at_builtin;refine wpList_append_lies _ rfl (.tmp 24) (.tmp 27) 23 rfl w.heap.size 5 iU (.int .u8 0) 1 1 Tryz.underlying23 HIU.out.1 HIU.out.2.1 HIU.out.2.2.1 HIU.out.2.2.2 rfl (by decide) u3 (Pl.wrK (bs s) k).length ((Pl.wrK (bs s) k).map byteV) rfl (by exact (HI2.out.gr' Gr.auto).row) ⟨_,0,none⟩ 2 2 [.int .u8 92,byteV (Pl.tab0 j).1] rfl (by simp) (cells_new _ [.int .u8 92,byteV (Pl.tab0 j).1] _ _ (by simp)) (by simp[Value.oneCell']) (by decide) (by have:=HLN.out;unfold maxLen;omega) (by have:=HLN.out;omega) (by have:=HI2.out.sz;(try simp only[World.size_alloc]);omega) _ rfl ?_;intro gb cap w7 hown7 hg7 hl7 hz7;have HM:=Lib.hid (WrI.more (by exact (HI2.out.gr' Gr.auto)) c _ HC.out rfl (by (rw[HS.out];try rfl)) (by rw[HS.out];exact hown7) hg7 hl7);clear hown7 hg7 hl7 hz7);refine⟨⟨k+1,by simp,by omega,HM.out⟩,by simp[intOf];omega⟩
     obtain rfl:j=7:=by omega
     have hd2:decide ((7:Nat)<7)=false:=by simp
     have HS0:=Lib.hid (Pl.wrB_long c hn.out);cases hp:Pl.isPlain c with
     | true =>
      have HS:Hid (Pl.wrB c=[c]):=Lib.hid (by rw[HS0.out,if_pos hp]);have HPl:=Lib.hid (tq_plain c);rw[hp]at HPl;clear hp;go_wp2_with fail;refine (HPl.out _).mono ?_;rintro e w1 ⟨rfl,rfl⟩;go_wp2_with (at_builtin;refine wpList_append_lies _ rfl (.tmp 32) (.tmp 34) 23 rfl w.heap.size 5 iU (.int .u8 0) 1 1 Tryz.underlying23 HIU.out.1 HIU.out.2.1 HIU.out.2.2.1 HIU.out.2.2.2 rfl (by decide) u3 (Pl.wrK (bs s) k).length ((Pl.wrK (bs s) k).map byteV) rfl (by exact (HI2.out.gr' Gr.auto).row) ⟨_,0,none⟩ 1 1 [byteV c] rfl (by simp) (cells_new _ [byteV c] _ _ (by simp)) (by simp[Value.oneCell']) (by decide) (by have:=HLN.out;unfold maxLen;omega) (by have:=HLN.out;omega) (by have:=HI2.out.sz;(try simp only[World.size_alloc]);omega) _ rfl ?_;intro gb cap w7 hown7 hg7 hl7 hz7;have HM:=Lib.hid (WrI.more (by exact (HI2.out.gr' Gr.auto)) c _ HC.out rfl (by (rw[HS.out];try rfl)) (by rw[HS.out];exact hown7) hg7 hl7);clear hown7 hg7 hl7 hz7);refine⟨⟨k+1,by simp,by omega,HM.out⟩,by simp[intOf];omega⟩
     | false =>
      have HS:Hid (Pl.wrB c=[92,117,48,48,Pl.hexU (c.toNat / 16),Pl.hexU (c.toNat % 16)]):=Lib.hid (by rw[HS0.out,if_neg (by rw[hp];simp)]);have HPl:=Lib.hid (tq_plain c);rw[hp]at HPl;clear hp;go_wp2_with fail;refine (HPl.out _).mono ?_;rintro e w1 ⟨rfl,rfl⟩;go_wp2_with fail;refine Reg.begin' (W:=fun _=>true) (S:=fun _=>True) (by kernel_rfl) ?_;have ih:∀W,(Instr.index 9 (.string hexS) (.int .u8 ((c.toNat:Int) / 16))).run Tryz.prog W = .ok (byteV (Pl.hexU (c.toNat / 16))) W:=fun W=>by
       have:=hex_index (c.toNat / 16) (by omega) W
       rwa [show ((c.toNat / 16:Nat):Int)=(c.toNat:Int) / 16 by omega]at this
      unfold hexS at ih;obtain⟨m,hm⟩:∃m,c.toNat % 16=m:=⟨_,rfl⟩
      have hb:=low_nibble c;rw[hm]at hb HS;have ih2:∀W,(Instr.index 9 (.string hexS) (.int .u8 (m:Int))).run Tryz.prog W = .ok (byteV (Pl.hexU m)) W:=fun W=>hex_index m (by omega) W
      unfold hexS at ih2;clear hm;refine Reg.ty 0 ?_;refine Reg.ty 1 ?_;refine Reg.ty 2 ?_;refine Reg.ty 3 ?_;refine Reg.ty 4 ?_;refine Reg.ty 5 ?_;refine Reg.ty 6 ?_;refine Reg.on 7 ?_;go_simp;refine Reg.on 8 ?_;refine wp_append_lies _ (.tmp 36) (.tmp 43) 23 (by rfl) w.heap.size 5 iU (.int .u8 0) 1 1 Tryz.underlying23 HIU.out.1 HIU.out.2.1 HIU.out.2.2.1 HIU.out.2.2.2 (by rfl) (by decide) u3 (Pl.wrK (bs s) k).length ((Pl.wrK (bs s) k).map byteV) (by rfl) (by exact (HI2.out.gr' Gr.auto).row) ⟨_,0,none⟩ 6 6 [.int .u8 92,.int .u8 117,.int .u8 48,.int .u8 48,byteV (Pl.hexU (c.toNat / 16)),byteV (Pl.hexU m)] (by rfl) (by rfl) (cells_new _ [.int .u8 92,.int .u8 117,.int .u8 48,.int .u8 48,byteV (Pl.hexU (c.toNat / 16)),byteV (Pl.hexU m)] _ _ (by simp)) (by simp[Value.oneCell']) (by decide) (by have:=HLN.out;unfold maxLen;omega) (by have:=HLN.out;omega) (by have:=HI2.out.sz;(try simp only[World.size_alloc,World.size_drew]);omega) _ rfl ?_;intro gb cap w7 hown7 hg7 hl7 hz7;have HM:=Lib.hid (WrI.more (by exact (HI2.out.gr' Gr.auto)) c _ HC.out rfl (by (rw[HS.out];try rfl)) (by rw[HS.out];exact hown7) hg7 hl7);clear hown7 hg7 hl7 hz7;refine⟨fun _ h=>h,?_⟩;refine Reg.pt ?_;refine Reg.ty 9 ?_;refine Reg.done (by kernel_rfl) ?_ _;go_wp2_with fail;refine⟨⟨k+1,by simp,by omega,HM.out⟩,by simp[intOf];omega⟩
  obtain rfl:k=s.size:=by omega
  have hd:decide (s.size<s.size)=false:=by simp
  have HI2:=Lib.hid hI;have HLN:=Lib.hid (Pl.wrK_len (bs s) s.size);have HFin:Hid (Pl.wrS (bs s)=Pl.wrK (bs s) s.size++[34]):=Lib.hid (by
   unfold Pl.wrS Pl.wrK;rw[List.take_of_length_le (by rw[bs_length];exact Nat.le_refl _)];rfl)
  have HEq:Hid ((Pl.wrK (bs s) s.size).map byteV++[.int .u8 34]=(Pl.wrS (bs s)).map byteV):=Lib.hid (by rw[HFin.out,List.map_append];rfl);have HLn:Hid ((Pl.wrS (bs s)).length=(Pl.wrK (bs s) s.size).length+1):=Lib.hid (by rw[HFin.out,List.length_append];rfl);clear hI hk hkn;go_wp2_with (at_builtin;refine wpList_append_lies _ rfl (.tmp 46) (.tmp 47) 23 rfl w.heap.size 5 iU (.int .u8 0) 1 1 Tryz.underlying23 HIU.out.1 HIU.out.2.1 HIU.out.2.2.1 HIU.out.2.2.2 rfl (by decide) u3 (Pl.wrK (bs s) s.size).length ((Pl.wrK (bs s) s.size).map byteV) rfl (by exact (HI2.out.gr' Gr.auto).row) ⟨_,0,none⟩ 1 1 [.int .u8 34] rfl (by simp) (cells_new _ [.int .u8 34] _ _ (by simp)) (by simp[Value.oneCell']) (by decide) (by have:=HLN.out;unfold maxLen;omega) (by have:=HLN.out;omega) (by have:=HI2.out.sz;(try simp only[World.size_alloc]);omega) _ rfl ?_;intro gb cap w7 hown7 hg7 hl7 hz7;have hcv3:=run_convert_bytes_back (P:=Tryz.prog) w7 23 9 5 ⟨gb,0,none⟩ cap (Pl.wrS (bs s)) (by kernel_rfl) (by kernel_rfl) (by kernel_rfl) (fun j hj=>(hown7.cells (g:=gb) rfl) j _ (by rw[HEq.out,List.getElem?_map,List.getElem?_eq_getElem hj];rfl));rw[HLn.out]at hcv3;have HG7:=Lib.hid (HI2.out.last _ hg7);clear hown7 hg7 hl7 hz7);rw[Exit.noGoto_ret];exact bodyPost_ret (v := .string ⟨(Pl.wrS (bs s)).toArray⟩) (by simp[results,Tryz.results26,go_sem]) rfl ⟨⟨_,rfl,by simp[bs]⟩,HG7.out⟩
end Go.Proofs.YtkplelejagpkmaaGreatDoor
namespace Go.Proofs.YtkplelejagpkmaaGreatDoor
open Go.ChangeShapes Go.WideShapes Go.ChangeAt Go.RowKit
theorem piece {l:List Value} {a b:Nat} (hb:b<3) {v:Value} (h:(((l.drop a).take 3).drop b).take 1=[v]):l[a+b]?=some v:=by
 have h2:=congrArg (·[0]?) h;simp only[List.getElem?_cons_zero]at h2;rw[List.getElem?_take,if_pos (by omega),List.getElem?_drop,List.getElem?_take,if_pos (by omega),List.getElem?_drop]at h2;exact h2
theorem str_of_lit {s:ByteArray} {l:List UInt8} (h:(DataW.lit (.string s.data.toList):DataW Unit) = .lit (.string l)):Value.string s = .string ⟨l.toArray⟩:=by
 injection h with h;injection h with h;subst h;cases s;simp
theorem radix_cells {W:World} {m a:Nat} {cs:List Value} {pf dg:List UInt8} {b:Int} {q:List MemPlace} (h:DataW.trod (fun _=>()) Tryz.prog W 0 (fun _=>true) false m 163 ((cs.drop a).take 3)=some ((.agg [.lit (.string pf),.lit (.int .i64 b),.lit (.string dg)]:DataW Unit),q)) :
    cs[a+0]?=some (.string ⟨pf.toArray⟩)∧cs[a+1]?=some (.int .i64 b)∧cs[a+2]?=some (.string ⟨dg.toArray⟩):=by
 obtain⟨y0,y1,y2,n,hx,_,h0,h1,h2⟩:=Go.Deep.trod_struct3 Tryz.underlying163 h;dsimp only at h0 h1 h2;rw[show Tryz.prog.cellsOf 9=1 by kernel_rfl]at h0 h2;rw[show Tryz.prog.cellsOf 3=1 by kernel_rfl]at h1;obtain⟨s0,e0,rfl,_⟩:=DataW.trod_string Tryz.underlying9 h0;obtain⟨z1,e1,rfl,_⟩:=DataW.trod_int Tryz.underlying3 h1;obtain⟨s2,e2,rfl,_⟩:=DataW.trod_string Tryz.underlying9 h2;have hx1:=congrArg Prod.fst hx;simp only[DataW.agg.injEq,List.cons.injEq,and_true]at hx1;obtain⟨x0,x1,x2⟩:=hx1;refine⟨?_,?_,?_⟩
 · rw[←str_of_lit x0.symm];exact piece (by omega) e0
 · injection x1 with x1;injection x1 with _ x1;rw[x1];exact piece (by omega) e1
 rw[←str_of_lit x2.symm];exact piece (by omega) e2
theorem rad_of {W:World} {lst:List (String × DataW Unit)} (hL:laidMet Tryz.prog lst W) (hm:("inarch/ints.radixes",Rows.laid_inarch_ints_radixes)∈lst):RadW W:=by
 obtain⟨g,t,cs,fuel,p,hg,ht,hv,hd⟩:=Lib.laidMet.reads hL hm;obtain rfl:=Option.some.inj ((show Tryz.prog.globalNamed "inarch/ints.radixes" = some 3 by kernel_rfl).symm.trans hg);obtain rfl:=Option.some.inj ((show (Tryz.prog.globals[3]?).map (·.type)=some 189 by kernel_rfl).symm.trans ht);obtain⟨xs,m,_,hx,_,hxl,hall⟩:=DataW.trod_array Tryz.underlying189 hd;have c3:Tryz.prog.cellsOf 163=3:=by kernel_rfl
 rw[c3]at hall;rcases xs with _|⟨a,_|⟨b,_|⟨c,_|⟨d,xs⟩⟩⟩⟩ <;> simp at hxl;have h0:=hall 0 (by decide);have h1:=hall 1 (by decide);have h2:=hall 2 (by decide);have hx1:=congrArg Prod.fst hx;simp only[Rows.laid_inarch_ints_radixes,DataW.agg.injEq,List.map_cons,List.map_nil,List.cons.injEq,and_true]at hx1;obtain⟨x0,x1,x2⟩:=hx1;obtain⟨a1,a2⟩:=a;obtain⟨b1,b2⟩:=b;obtain⟨d1,d2⟩:=c;simp only at x0 x1 x2;subst x0 x1 x2;obtain⟨k0,k1,k2⟩:=radix_cells h0;obtain⟨k3,k4,k5⟩:=radix_cells h1;obtain⟨k6,k7,k8⟩:=radix_cells h2;intro j v hj;rw[World.var?_cell hg hv j];rw[←Array.getElem?_toList]
 match j,hj with
 | 0,hj=>simp[radC]at hj;subst hj;exact k0
 | 1,hj=>simp[radC]at hj;subst hj;exact k1
 | 2,hj=>simp[radC]at hj;subst hj;exact k2
 | 3,hj=>simp[radC]at hj;subst hj;exact k3
 | 4,hj=>simp[radC]at hj;subst hj;exact k4
 | 5,hj=>simp[radC]at hj;subst hj;exact k5
 | 6,hj=>simp[radC]at hj;subst hj;exact k6
 | 7,hj=>simp[radC]at hj;subst hj;exact k7
 | 8,hj=>simp[radC]at hj;subst hj;exact k8
 | j+9,hj=>simp[radC]at hj
theorem pow_of {W:World} {lst:List (String × DataW Unit)} (hL:laidMet Tryz.prog lst W) (hm:("internal/strconv.uint64pow10",Rows.laid_internal_strconv_uint64pow10)∈lst):Lib.TabIs Tryz.prog W "internal/strconv.uint64pow10" .u64 Lib.pow10Tab:=by
 obtain⟨g,t,cs,fuel,p,hg,ht,hv,hd⟩:=Lib.laidMet.reads hL hm;obtain rfl:=Option.some.inj ((show Tryz.prog.globalNamed "internal/strconv.uint64pow10" = some 5 by kernel_rfl).symm.trans hg);obtain rfl:=Option.some.inj ((show (Tryz.prog.globals[5]?).map (·.type)=some 247 by kernel_rfl).symm.trans ht);rw[show (Rows.laid_internal_strconv_uint64pow10:DataW Unit)=Lib.tabData .u64 Lib.pow10Tab by rfl]at hd;have:=Lib.cells_of_tab Tryz.underlying247 Tryz.underlying112 (by kernel_rfl) (by kernel_rfl) hd;unfold Lib.TabIs;rw[hv,←this]
theorem short_cells {W:World} {m a:Nat} {cs:List Value} {x y:Int} {q:List MemPlace} (h:DataW.trod (fun _=>()) Tryz.prog W 0 (fun _=>true) false m 105 ((cs.drop a).take 2)=some ((.agg [.lit (.int .u8 x),.lit (.int .u8 y)]:DataW Unit),q)) :
    cs[a+0]?=some (.int .u8 x)∧cs[a+1]?=some (.int .u8 y):=by
 obtain⟨y0,y1,n,hx,_,h0,h1⟩:=trod_struct2 Tryz.underlying105 h;dsimp only at h0 h1;rw[show Tryz.prog.cellsOf 5=1 by kernel_rfl]at h0 h1;obtain⟨z0,e0,rfl,_⟩:=DataW.trod_int Tryz.underlying5 h0;obtain⟨z1,e1,rfl,_⟩:=DataW.trod_int Tryz.underlying5 h1;have hx1:=congrArg Prod.fst hx;simp only[DataW.agg.injEq,List.cons.injEq,and_true]at hx1;obtain⟨x0,x1⟩:=hx1;injection x0 with x0;injection x0 with _ x0;injection x1 with x1;injection x1 with _ x1;subst x0 x1;have pc:∀(b:Nat) v,b<2→(((cs.drop a).take 2).drop b).take 1=[v]→cs[a+b]?=some v:=fun b v hb h=>by
  have h2:=congrArg (·[0]?) h;simp only[List.getElem?_cons_zero]at h2;rw[List.getElem?_take,if_pos (by omega),List.getElem?_drop,List.getElem?_take,if_pos (by omega),List.getElem?_drop]at h2;exact h2
 exact⟨pc 0 _ (by omega) e0,pc 1 _ (by omega) e1⟩
theorem sh_of {W:World} {lst:List (String × DataW Unit)} (hL:laidMet Tryz.prog lst W) (hm:("inarch/tquotes.shorts",Rows.laid_inarch_tquotes_shorts)∈lst):ShW Pl.tab0 W:=by
 obtain⟨g,t,cs,fuel,p,hg,ht,hv,hd⟩:=Lib.laidMet.reads hL hm;obtain rfl:=Option.some.inj ((show Tryz.prog.globalNamed "inarch/tquotes.shorts" = some 0 by kernel_rfl).symm.trans hg);obtain rfl:=Option.some.inj ((show (Tryz.prog.globals[0]?).map (·.type)=some 106 by kernel_rfl).symm.trans ht);obtain⟨xs,m,_,hx,_,hxl,hall⟩:=DataW.trod_array Tryz.underlying106 hd;have c3:Tryz.prog.cellsOf 105=2:=by kernel_rfl
 rw[c3]at hall;rcases xs with _|⟨a,_|⟨b,_|⟨c,_|⟨d,_|⟨e,_|⟨f,_|⟨k,_|⟨l,xs⟩⟩⟩⟩⟩⟩⟩⟩ <;> simp at hxl;have h0:=hall 0 (by decide);have h1:=hall 1 (by decide);have h2:=hall 2 (by decide);have h3:=hall 3 (by decide);have h4:=hall 4 (by decide);have h5:=hall 5 (by decide);have h6:=hall 6 (by decide);have hx1:=congrArg Prod.fst hx;simp only[Rows.laid_inarch_tquotes_shorts,DataW.agg.injEq,List.map_cons,List.map_nil,List.cons.injEq,and_true]at hx1;obtain⟨x0,x1,x2,x3,x4,x5,x6⟩:=hx1;obtain⟨a1,a2⟩:=a;obtain⟨b1,b2⟩:=b;obtain⟨c1,c2⟩:=c;obtain⟨d1,d2⟩:=d;obtain⟨e1,e2⟩:=e;obtain⟨f1,f2⟩:=f;obtain⟨k1,k2⟩:=k;simp only at x0 x1 x2 x3 x4 x5 x6;subst x0 x1 x2 x3 x4 x5 x6;obtain⟨r0,r1⟩:=short_cells h0;obtain⟨r2,r3⟩:=short_cells h1;obtain⟨r4,r5⟩:=short_cells h2;obtain⟨r6,r7⟩:=short_cells h3;obtain⟨r8,r9⟩:=short_cells h4;obtain⟨r10,r11⟩:=short_cells h5;obtain⟨r12,r13⟩:=short_cells h6;intro j v hj;rw[World.var?_cell hg hv j];rw[←Array.getElem?_toList]
 match j,hj with
 | 0,hj=>simp[shC]at hj;subst hj;exact r0
 | 1,hj=>simp[shC]at hj;subst hj;exact r1
 | 2,hj=>simp[shC]at hj;subst hj;exact r2
 | 3,hj=>simp[shC]at hj;subst hj;exact r3
 | 4,hj=>simp[shC]at hj;subst hj;exact r4
 | 5,hj=>simp[shC]at hj;subst hj;exact r5
 | 6,hj=>simp[shC]at hj;subst hj;exact r6
 | 7,hj=>simp[shC]at hj;subst hj;exact r7
 | 8,hj=>simp[shC]at hj;subst hj;exact r8
 | 9,hj=>simp[shC]at hj;subst hj;exact r9
 | 10,hj=>simp[shC]at hj;subst hj;exact r10
 | 11,hj=>simp[shC]at hj;subst hj;exact r11
 | 12,hj=>simp[shC]at hj;subst hj;exact r12
 | 13,hj=>simp[shC]at hj;subst hj;exact r13
 | j+14,hj=>simp[shC]at hj
theorem err_head {W:World} {n:String} {g:Nat} {text:List UInt8} {r:List (String × DataW Unit)} (h:laidMet Tryz.prog ((n,.iface "*errors.errorString" (.ptr (.agg [.lit (.string text)])))::r) W) (hg:Tryz.prog.globalNamed n=some g) (ht:(Tryz.prog.globals[g]?).map (·.type)=some 89) :
    ∃p,W.cell? ⟨g,0,none⟩=some (.iface 258 (.pointer (some p))):=by
 obtain⟨a,s,hv,_⟩:=laid_sentinel h hg ht Tryz.underlying89 (fun u hu=>typeName_ptr_named (nm := "errors.errorString") (by kernel_rfl) (by kernel_rfl) (by decide) u hu) Tryz.underlying258 Tryz.underlying260 rfl rfl Tryz.underlying9 (by kernel_rfl) (by kernel_rfl);refine⟨a,?_⟩;rw[World.var?_cell hg hv 0];rfl
end Go.Proofs.YtkplelejagpkmaaGreatDoor
