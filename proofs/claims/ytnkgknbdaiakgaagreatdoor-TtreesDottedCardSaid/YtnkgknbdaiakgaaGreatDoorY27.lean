/- The proof's part 27. -/
import Derived.Test.YtnkgknbdaiakgaaGreatDoorY25
set_option maxHeartbeats 16000000
set_option linter.all false
set_option maxRecDepth 100000
namespace Go.Proofs.YtnkgknbdaiakgaaGreatDoor
open Pl Go.Proofs.Tryz Go.RowKit Go.Joins
namespace Pl
def Vd(k:Nat):UInt8×UInt8:=match k with
 |0=>(98,8)|1=>(116,9)|2=>(110,10)|3=>(102,12)|4=>(114,13)|5=>(34,34)|_=>(92,92)
def V4q(n:Nat):UInt8:=if n<10 then (48+n).toUInt8 else (55+n).toUInt8
def V4p(c:UInt8):List UInt8 :=
 if c=8 then [92,98] else if c=9 then [92,116] else if c=10 then [92,110] else if c=12 then [92,102] else if c=13 then [92,114] else if c=34 then [92,34] else if c=92 then [92,92]
 else if V2r c then [c] else [92,117,48,48,V4q (c.toNat / 16),V4q (c.toNat % 16)]
def V53(t:List UInt8):List UInt8:=34::(t.flatMap V4p++[34])
theorem Oik(c:UInt8)(h:V2r c=false):c≠9/\(c=0\/c=1\/c=2\/c=3\/c=4\/c=5\/c=6\/c=7\/c=8\/c=9\/c=10\/c=11\/c=12\/c=13\/c=14\/c=15\/c=16\/c=17\/c=18\/c=19\/c=20\/c=21\/c=22\/c=23\/c=24\/c=25\/c=26\/c=27\/c=28\/c=29\/c=30\/c=31\/c=127):=by
 simp[V2r]at h;refine⟨λ e=>by subst e;simp at h,?_⟩;simp only[<-U20];have:((0:UInt8).toNat=0)/\((1:UInt8).toNat=1)/\((2:UInt8).toNat=2)/\((3:UInt8).toNat=3)/\((4:UInt8).toNat=4)/\((5:UInt8).toNat=5)/\((6:UInt8).toNat=6)/\((7:UInt8).toNat=7)/\((8:UInt8).toNat=8)/\((9:UInt8).toNat=9)/\((10:UInt8).toNat=10)/\((11:UInt8).toNat=11)/\((12:UInt8).toNat=12)/\((13:UInt8).toNat=13)/\((14:UInt8).toNat=14)/\((15:UInt8).toNat=15)/\((16:UInt8).toNat=16)/\((17:UInt8).toNat=17)/\((18:UInt8).toNat=18)/\((19:UInt8).toNat=19)/\((20:UInt8).toNat=20)/\((21:UInt8).toNat=21)/\((22:UInt8).toNat=22)/\((23:UInt8).toNat=23)/\((24:UInt8).toNat=24)/\((25:UInt8).toNat=25)/\((26:UInt8).toNat=26)/\((27:UInt8).toNat=27)/\((28:UInt8).toNat=28)/\((29:UInt8).toNat=29)/\((30:UInt8).toNat=30)/\((31:UInt8).toNat=31)/\((127:UInt8).toNat=127):=Yd
 have h9:=h.1;have hc:c.toNat<32\/c.toNat=127:=by
  rcases U50 c.toNat 32 with h'|h'
  exact .inl h'
  exact .inr (h.2 h')
 omega
theorem Oky(c:UInt8)(r:List UInt8):V3q Vd 34 (V4p c++r)=some (.go (V4p c).length [c] false):=by
 cases hp:V2r c with
 |false =>
  obtain⟨_,hc⟩:=Oik c hp;rcases hc with rfl|rfl|rfl|rfl|rfl|rfl|rfl|rfl|rfl|rfl|rfl|rfl|rfl|rfl|rfl|rfl|rfl|rfl|rfl|rfl|rfl|rfl|rfl|rfl|rfl|rfl|rfl|rfl|rfl|rfl|rfl|rfl|rfl
  all_goals first|kernel_rfl|rfl
 |true =>
  by_cases h9:c=9;subst h9;first|kernel_rfl|rfl
  by_cases dT:c=34;subst dT;first|kernel_rfl|rfl
  by_cases jd:c=92;subst jd;first|kernel_rfl|rfl
  have hn:∀k:UInt8,V2r k=false->c≠k:=λ k hk e=>by rw[e,hk]at hp;cases hp
  have hw:V4p c=[c]:=by
   unfold V4p;rw[U1b (hn 8 Yd),U1b h9,U1b (hn 10 Yd),U1b (hn 12 Yd),U1b (hn 13 Yd),U1b dT,U1b jd,U18 hp]
  rw[hw];have e1:(c.toNat==(34:UInt8).toNat)=false:=by simp;intro e;exact dT (U20.1 (by rw[e];rfl))
  have e2:(c.toNat==92)=false:=by simp;intro e;exact jd (U20.1 (by rw[e];rfl))
  simp only[U1l,U23,V3q,e1,e2,U1v,U2c];simp[V32,hp]
theorem Oco(c:UInt8):V4p c≠[]:=by
 unfold V4p;repeat' split
 all_goals simp
theorem O8m(l:List UInt8):V1b Vd false 34 l=V3q Vd 34 l:=by
 unfold V1b;rw[U1b Yb,U1b Yd]
theorem Okz(t:List UInt8):∀(l r:List UInt8)(n:Nat)(out:List UInt8)(f:Nat),l.drop n=t.flatMap V4p++34::r->t.length<f ->V2p (V1b Vd false 34) l f n out=.ok (out++t,n+(t.flatMap V4p).length+1):=by
 induction t with
 |nil =>
  intro l r n out f h hf;obtain⟨f,rfl⟩:∃k,f=k+1:=⟨f-1,Ya⟩
  unfold V2p;rw[h];simp only[List.flatMap_nil,U23,O8m];simp[V3q]
 |cons c t ih =>
  intro l r n out f h hf;obtain⟨f,rfl⟩:∃k,f=k+1:=⟨f-1,by simp at hf;omega⟩
  have hs:=Oky c (t.flatMap V4p++34::r);rw[U37,U3f]at h;unfold V2p;rw[h];cases hw:V4p c++(t.flatMap V4p++34::r) with
  |nil=>rw[List.append_eq_nil_iff]at hw;exact absurd hw.1 (Oco c)
  |cons x y =>
   rw[hw]at hs;simp only[O8m,hs];have hd:l.drop (n+(V4p c).length)=t.flatMap V4p++34::r:=by
    rw[<-U27,h,List.drop_left]
   have:=ih l r (n+(V4p c).length) (out++[c]) f hd (by simp at hf;omega);rw[U1b Yb,this];simp[U37];omega
theorem Onj(t r:List UInt8)(ht:long (V53 t++r)=false):Vu Vd (V53 t++r)=.ok (t,(V53 t).length):=by
 unfold Vu V53;rw[V53]at ht;simp only[U1l,U3f,U23]at ht⊢;rw[U18 Yd,ht,U1b Yb,Okz t _ r 1 [] _ rfl ?_];simp;omega
 have hl:t.length<=(t.flatMap V4p).length:=by
  induction t with
  |nil=>simp
  |cons c t ih =>
   have h1:=U30.2 (Oco c);rw[U37,U1c,U17];have h2:t.length<=(t.flatMap V4p).length:=by
    clear ih ht
    induction t with
    |nil=>simp
    |cons d t Mv =>
     have h3:=U30.2 (Oco d);rw[U37,U1c,U17];omega
   omega
 simp only[U17,U1c];omega
end Pl
end Go.Proofs.YtnkgknbdaiakgaaGreatDoor
namespace Go.Proofs.YtnkgknbdaiakgaaGreatDoor
open Pl Go.Proofs.Tryz Go.RowKit Go.Shelf Go.Joins
attribute [local go_sem] U28
namespace Pl
def V3s(l:List UInt8)(k:Nat):List UInt8:=34::(l.take k).flatMap V4p
theorem V9f(l:List UInt8)(k:Nat)(c:UInt8)(r:List UInt8)(h:l.drop k=c::r):V3s l (k+1)=V3s l k++V4p c:=by
 unfold V3s;have:l[k]?=some c:=by rw[<-List.head?_drop,h];rfl
 rw[U4m,this];simp
theorem Ooo(c:UInt8):(V4p c).length<=6/\0<(V4p c).length:=by
 unfold V4p;repeat' split
 all_goals simp
theorem V7w(l:List UInt8):∀k,(V3s l k).length<=6*k+1:=by
 intro k;unfold V3s;have:∀m:List UInt8,(m.flatMap V4p).length<=6*m.length:=by
  intro m
  induction m with
  |nil=>simp
  |cons c m ih =>
   rw[U37,U1c,U17];have:=(Ooo c).1;omega
 have h1:=this (l.take k);have h2:(l.take k).length<=k:=by rw[U2d];omega
 rw[U17];omega
theorem V90(c:UInt8)(j:Nat)(hj:j<7)(h:((Vd j).2.toNat==c.toNat)=true)(hn:∀i,i<j->((Vd i).2.toNat==c.toNat)=false):V4p c=[92,(Vd j).1]:=by
 have hc:c=(Vd j).2:=U20.1 (U2w.1 h).symm;subst hc;have:j=0\/j=1\/j=2\/j=3\/j=4\/j=5\/j=6:=Ya
 rcases this with rfl|rfl|rfl|rfl|rfl|rfl|rfl <;> decide
theorem V9g(c:UInt8)(hn:∀i,i<7->((Vd i).2.toNat==c.toNat)=false):V4p c=if V2r c then [c] else [92,117,48,48,V4q (c.toNat / 16),V4q (c.toNat % 16)]:=by
 have a8:∀i,i<7->c≠(Vd i).2:=λ i hi e=>by have:=hn i hi;rw[e]at this;simp at this
 have h0:c≠8:=a8 0 Ya;have h1:c≠9:=a8 1 Ya;have h2:c≠10:=a8 2 Ya;have h3:c≠12:=a8 3 Ya;have h4:c≠13:=a8 4 Ya;have h5:c≠34:=a8 5 Ya;have h6:c≠92:=a8 6 Ya;unfold V4p;rw[U1b h0,U1b h1,U1b h2,U1b h3,U1b h4,U1b h5,U1b h6]
end Pl
theorem O4d(W:World)(L:List Value)(t:TypeId)(n:Nat)(hn:n=W.heap.size):∀(j:Nat) u,L[j]?=some u->(W.alloc (.cells L.toArray t)).cell? ((⟨n,0,none⟩:Addr).add j)=some u:=by
 exact J187
structure WrI(w:World)(s:ByteArray)(k:Nat)(ov:Value)(wr:World):Prop where
 row:wr.ownsRow w.heap.size 5 1 ov (V3s (bs s) k).length ((V3s (bs s) k).map O4)
 txt:∀j,j<s.size->wr.cell? ⟨w+1,j,none⟩=some (.int .u8 (s.data.toList.getD j 0).toNat)
 ne:ov.ownBlock≠some (w.heap.size+1)
 gr:Gr w wr
 sz:w.heap.size+2<=wr.heap.size
theorem WrI.gr'{w:World}{s:ByteArray}{k:Nat}{ov:Value}{a b:World}(h:WrI w s k ov a)(g:Gr a b):WrI w s k ov b :=
 ⟨O1 h.row λ i e=>g.block (h.row.lt i e).2,λ j hj=>(g.use.1 _ _ (by have:=h.sz;omega)).trans (h.txt j hj),h.ne,h.gr.trans g,U1k h.sz g.size⟩
theorem WrI.more{w:World}{s:ByteArray}{k:Nat}{ov:Value}{a b:World}(h:WrI w s k ov a)(c:UInt8)(r:List UInt8)(hc:(bs s).drop k=c::r){g cap:Nat}{n m:Nat}(hn:n=(V3s (bs s) k).length)(hm:m=(V4p c).length)(bZ:b.ownsRow w.heap.size 5 1 (.slice g (n+m) cap) (n+m) ((V3s (bs s) k).map O4++(V4p c).map O4))(hg:a.grownBy b ov.ownBlock)(hl:ov.ownBlock=some g\/g=a.heap.size):WrI w s (k+1) (.slice g (n+m) cap) b:=by
 subst hn hm;have hk:=V9f (bs s) k c r hc;refine⟨by rw[hk,U1c,U2o];exact bZ,λ j hj=>?_,?_,?_,U1k h.sz hg.size⟩;exact (U1r (w:=a) (a:=⟨w+1,j,none⟩) (hg.block (w.heap.size+1) (by have:=h.sz;omega) (λ e=>h.ne e.symm))).trans (h.txt j hj)
 intro e;simp only[Value.ownBlock,U1f]at e;subst e;rcases hl with e|e
 exact h.ne e
 have:=h.sz;omega
 exact Below.trans h.gr ⟨hg.os,hg.tape,hg.output,hg.size,λ i hi=>hg.block i (U13 hi h.gr.size) (λ e=>by have:=(h.row.lt i e.symm).1;omega)⟩
theorem WrI.last{w:World}{s:ByteArray}{k:Nat}{ov:Value}{a b:World}(h:WrI w s k ov a)(o:Obj)(hg:(a.alloc o).grownBy b ov.ownBlock):Gr w b :=
 have hx:=h.gr' ((Gr.refl a).alloc o)
 Below.trans hx.gr ⟨hg.os,hg.tape,hg.output,hg.size,λ i hi=>hg.block i (U13 hi hx.gr.size) (λ e=>by have:=(hx.row.lt i e.symm).1;omega)⟩
abbrev Vag:ByteArray:=⟨#[48,49,50,51,52,53,54,55,56,57,65,66,67,68,69,70]⟩
theorem Oau(k:Nat)(hk:k<16)(W:World):(Instr.index 9 (.string Vag) (.int .u8 (k:Int))).run prog W=.ok (O4 (V4q k)) W:=by
 have:k=0\/k=1\/k=2\/k=3\/k=4\/k=5\/k=6\/k=7\/k=8\/k=9\/k=10\/k=11\/k=12\/k=13\/k=14\/k=15:=Ya
 rcases this with rfl|rfl|rfl|rfl|rfl|rfl|rfl|rfl|rfl|rfl|rfl|rfl|rfl|rfl|rfl|rfl
 all_goals (show _=_;first|kernel_rfl|rfl)
theorem Ogx(c:UInt8):bits .and .u8 (c.toNat:Int) 15=((c.toNat % 16:Nat):Int):=by
 have h:∀n:Fin 256,bits .and .u8 (n.1:Int) 15=((n.1 % 16:Nat):Int):=Yi
 exact h ⟨c.toNat,U4v c⟩
theorem Om6(s:ByteArray)(hs:s.size<=1100000)(w:World)(hT:ShW Vd w):Calls prog 33 #[.string s] w λ e w'=>(∃t:ByteArray,e=.returned (.string t)/\bs t=V53 (bs s))/\Gr w w':=by
 obtain⟨iU,Mw⟩:=U3u Oma;have cQ:=U10 Mw;obtain⟨W0,aI⟩:=ExZ (w.alloc (.cells #[.int .u8 34] 5))
 have dL:W0.heap.size=w.heap.size+1:=by rw[<-aI];simp
 have dE:=U3g (P:=prog) W0 9 22 5 s (u:=.string) Yc Yc Yc;have hB:∀j,j<s.size->(Lib.bytesWorld W0 5 s).cell? ⟨W0,j,none⟩=some (.int .u8 (s.data.toList.getD j 0).toNat):=λ j hj=>U3e W0 5 s j hj
 have tZ:Gr W0 (Lib.bytesWorld W0 5 s):=Oi W0 5 s;have ax:W0.heap.size+1<=(Lib.bytesWorld W0 5 s).heap.size:=by
  unfold Lib.bytesWorld;simp[World.freeze]
  try (split <;> simp)
 obtain⟨W1,aK⟩:=ExZ (Lib.bytesWorld W0 5 s)
 rw[aK]at dE hB tZ ax;rw[dL]at dE hB ax;have hW:WrI w s 0 (.slice w.heap.size 1 1) W1:=by
  refine⟨⟨rfl,.inr ⟨w.heap.size,1,#[.int .u8 34],rfl,U12 _,?_,U12 _,Yl,rfl,rfl⟩⟩,hB,by simp[Value.ownBlock],?_,Ya⟩;rw[tZ.block Ya,<-aI];exact U1z w _
  exact Gr.trans (by rw[<-aI];exact (Gr.refl w).alloc _) tZ
 have HW:=U10 hW;have HT:=U10 hT;clear aK hB tZ ax dL hT Mw hW;go_enter func33,ntmps33;go_wp2_with fail
 go_step3
 go_wp2_with fail
 try rw[aI]
 clear aI
 go_step3
 go_wp2_with fail
 go_loopw [3,12] (λ v3 y9 wr=>∃(k:Nat),y9=.int .i64 k/\k<=s.size/\WrI w s k v3 wr) (λ _ y9 _=>s.size-(intOf y9).toNat)
 case atStart=>exact⟨0,rfl,Ya,HW.o⟩
 case round =>
  obtain⟨k,rfl,hk,hI⟩:=hrel;by_cases rF:k<s.size
  ·have hc:=hI.txt k rF;have ad:k<(bs s).length:=by rw[O0];exact rF
   have bj:(bs s).drop k=(bs s)[k]'ad::(bs s).drop (k+1):=U1u ad;have bJ:s.data.toList.getD k 0=(bs s)[k]'ad:=by simp[bs,List.getD,U1h (show k<s.data.toList.length from ad)]
   rw[bJ]at hc;generalize (bs s)[k]'ad=c at hc bj;have jT:c.toNat<256:=c.toNat_lt;have ly:=HT.o.gr hI.gr;have t0:wr.cell? ⟨0,0,none⟩=some (.int .u8 (Vd 0).1.toNat):=ly 0 _ rfl;have t1:wr.cell? ⟨0,1,none⟩=some (.int .u8 (Vd 0).2.toNat):=ly 1 _ rfl;have t2:wr.cell? ⟨0,2,none⟩=some (.int .u8 (Vd 1).1.toNat):=ly 2 _ rfl;have t3:wr.cell? ⟨0,3,none⟩=some (.int .u8 (Vd 1).2.toNat):=ly 3 _ rfl;have t4:wr.cell? ⟨0,4,none⟩=some (.int .u8 (Vd 2).1.toNat):=ly 4 _ rfl;have t5:wr.cell? ⟨0,5,none⟩=some (.int .u8 (Vd 2).2.toNat):=ly 5 _ rfl;have t6:wr.cell? ⟨0,6,none⟩=some (.int .u8 (Vd 3).1.toNat):=ly 6 _ rfl;have t7:wr.cell? ⟨0,7,none⟩=some (.int .u8 (Vd 3).2.toNat):=ly 7 _ rfl;have t8:wr.cell? ⟨0,8,none⟩=some (.int .u8 (Vd 4).1.toNat):=ly 8 _ rfl;have t9:wr.cell? ⟨0,9,none⟩=some (.int .u8 (Vd 4).2.toNat):=ly 9 _ rfl;have t10:wr.cell? ⟨0,10,none⟩=some (.int .u8 (Vd 5).1.toNat):=ly 10 _ rfl;have t11:wr.cell? ⟨0,11,none⟩=some (.int .u8 (Vd 5).2.toNat):=ly 11 _ rfl;have t12:wr.cell? ⟨0,12,none⟩=some (.int .u8 (Vd 6).1.toNat):=ly 12 _ rfl;have t13:wr.cell? ⟨0,13,none⟩=some (.int .u8 (Vd 6).2.toNat):=ly 13 _ rfl;have hd:decide (k<s.size)=true:=by simpa using rF
   have k1:(0:Int)<=(k:Int):=Ya;have k2:(k:Int)<(s.size:Int):=Ya;refine Z267 ?_;intro k3;have HI:=U10 hI;have HC:=U10 bj;clear hI bj bJ ad ly;go_wp2_with fail
   go_loopw [3,17] (λ v3 v wi=>∃j:Nat,v=.int .i64 j/\v3=u3/\j<=7/\Hid (∀i,i<j->((Vd i).2.toNat==c.toNat)=false)/\Gr wr wi) (λ _ v _=>7-(intOf v).toNat)
   case atStart=>exact⟨0,rfl,rfl,Ya,U10 (λ i hi=>by omega),Gr.refl _⟩
   case round =>
    obtain⟨j,rfl,rfl,hj,hn,hg⟩:=hrel;have nx:=U10 (HI.o.gr' hg);have HG:=U10 (Gr.refl wr);have ny:=U10 hg;have u7:=U10 (V7w (bs s) k);clear t0 t1 t2 t3 t4 t5 t6 t7 t8 t9 t10 t11 t12 t13 hg HI;by_cases Iy:j<7
    ·have i0:∀W,(Instr.index 108 (.agg (shC Vd)) j).run prog W=.ok (.agg #[O4 (Vd j).1,O4 (Vd j).2]) W:=λ W=>Oc0 Vd j Iy W
     simp only[shC,O4]at i0;have io:decide (j<7)=true:=by simpa using Iy
     cases hh:((Vd j).2.toNat==c.toNat) with
     |false =>
      have l0:Hid (∀i,i<j+1->((Vd i).2.toNat==c.toNat)=false):=U10 (λ i hi=>by
       rcases U50 i j with h|h
       exact hn.o i h
       have:i=j:=Ya;subst this;exact hh)
      obtain⟨b1,b2⟩:=V1q _ _ _ hh;clear hh;go_wp2_with fail;refine⟨⟨j+1,Yb,rfl,Ya,l0,?_⟩,by simp[intOf];omega⟩;have hg:=ny.o;exact Gr.auto
     |true =>
      have HS:=U10 (V90 c j Iy hh hn.o);obtain⟨b1,b2⟩:=V1q _ _ _ hh;clear hh;go_wp2_with (at_builtin;refine U3z _ rfl (.tmp 24) (.tmp 27) 22 rfl w.heap.size 5 iU (.int .u8 0) 1 1 underlying22 cQ.o.1 cQ.o.2.1 cQ.o.2.2.1 cQ.o.2.2.2 rfl Yd u3 (V3s (bs s) k).length ((V3s (bs s) k).map O4) rfl (by exact (nx.o.gr' Gr.auto).row) ⟨_,0,none⟩ 2 2 [.int .u8 92,O4 (Vd j).1] rfl Yb (O4d _ [.int .u8 92,O4 (Vd j).1] _ _ Yb) Yj Yd (by have:=u7.o;unfold maxLen;omega) (by have:=u7.o;omega) (by have:=nx.o.sz;(try simp only[U1s]);omega) _ rfl ?_;intro gb cap w7 bQ gt lz fY;have HM:=U10 (WrI.more (by exact (nx.o.gr' Gr.auto)) c _ HC.o rfl (by (rw[HS.o];try rfl)) (by rw[HS.o];exact bQ) gt lz);clear bQ gt lz fY);exact J92
    obtain rfl:j=7:=Ya;have io:decide ((7:Nat)<7)=false:=Yb;have dR:=U10 (V9g c hn.o);cases hp:V2r c with
    |true =>
     have HS:Hid (V4p c=[c]):=U10 (by rw[dR.o,U18 hp]);have Ch:=U10 (O54 c);rw[hp]at Ch;clear hp;go_wp2_with fail;refine (Ch.o _).mono ?_;refine Z44 ?_;go_wp2_with (at_builtin;refine U3z _ rfl (.tmp 32) (.tmp 34) 22 rfl w.heap.size 5 iU (.int .u8 0) 1 1 underlying22 cQ.o.1 cQ.o.2.1 cQ.o.2.2.1 cQ.o.2.2.2 rfl Yd u3 (V3s (bs s) k).length ((V3s (bs s) k).map O4) rfl (by exact (nx.o.gr' Gr.auto).row) ⟨_,0,none⟩ 1 1 [O4 c] rfl Yb (O4d _ [O4 c] _ _ Yb) Yj Yd (by have:=u7.o;unfold maxLen;omega) (by have:=u7.o;omega) (by have:=nx.o.sz;(try simp only[U1s]);omega) _ rfl ?_;intro gb cap w7 bQ gt lz fY;have HM:=U10 (WrI.more (by exact (nx.o.gr' Gr.auto)) c _ HC.o rfl (by (rw[HS.o];try rfl)) (by rw[HS.o];exact bQ) gt lz);clear bQ gt lz fY);exact J92
    |false =>
     have HS:Hid (V4p c=[92,117,48,48,V4q (c.toNat / 16),V4q (c.toNat % 16)]):=U10 (by rw[dR.o,U1b (by rw[hp];simp)]);have Ch:=U10 (O54 c);rw[hp]at Ch;clear hp;go_wp2_with fail;refine (Ch.o _).mono ?_;refine Z44 ?_;go_wp2_with fail;refine Reg.begin' (W:=λ _=>true) (S:=λ _=>True) Yc ?_;have ih:∀W,(Instr.index 9 (.string Vag) (.int .u8 ((c.toNat:Int) / 16))).run prog W=.ok (O4 (V4q (c.toNat / 16))) W:=λ W=>by
      have:=Oau (c.toNat / 16) Ya W
      rwa [show ((c.toNat / 16:Nat):Int)=(c.toNat:Int) / 16 by omega]at this
     unfold Vag at ih;obtain⟨m,hm⟩:=ExZ (c.toNat % 16)
     have hb:=Ogx c;rw[hm]at hb HS;have Mv:∀W,(Instr.index 9 (.string Vag) (.int .u8 (m:Int))).run prog W=.ok (O4 (V4q m)) W:=λ W=>Oau m Ya W
     unfold Vag at Mv;clear hm;refine Z31 ?_;refine Z40 ?_;refine Reg.ty 5 ?_;refine Reg.ty 6 ?_;refine Reg.on 7 ?_;go_simp;refine Reg.on 8 ?_;refine U2z _ (.tmp 36) (.tmp 43) 22 Yh w.heap.size 5 iU (.int .u8 0) 1 1 underlying22 cQ.o.1 cQ.o.2.1 cQ.o.2.2.1 cQ.o.2.2.2 Yh Yd u3 (V3s (bs s) k).length ((V3s (bs s) k).map O4) Yh (by exact (nx.o.gr' Gr.auto).row) ⟨_,0,none⟩ 6 6 [.int .u8 92,.int .u8 117,.int .u8 48,.int .u8 48,O4 (V4q (c.toNat / 16)),O4 (V4q m)] Yh Yh (O4d _ [.int .u8 92,.int .u8 117,.int .u8 48,.int .u8 48,O4 (V4q (c.toNat / 16)),O4 (V4q m)] _ _ Yb) Yj Yd (by have:=u7.o;unfold maxLen;omega) (by have:=u7.o;omega) (by have:=nx.o.sz;(try simp only[U1s,World.size_drew]);omega) _ rfl ?_;intro gb cap w7 bQ gt lz fY;have HM:=U10 (WrI.more (by exact (nx.o.gr' Gr.auto)) c _ HC.o rfl (by (rw[HS.o];try rfl)) (by rw[HS.o];exact bQ) gt lz);clear bQ gt lz fY;refine⟨λ _ h=>h,?_⟩;refine Reg.pt ?_;refine Reg.ty 9 ?_;refine Z12 ?_;go_wp2_with fail;exact J92
  obtain rfl:k=s.size:=Ya;have hd:decide (s.size<s.size)=false:=Yb;have nx:=U10 hI;have u7:=U10 (V7w (bs s) s.size);have Ci:Hid (V53 (bs s)=V3s (bs s) s.size++[34]):=U10 (by
   unfold V53 V3s;rw[U3x (by rw[O0];exact U12 _)];rfl)
  have HEq:Hid ((V3s (bs s) s.size).map O4++[.int .u8 34]=(V53 (bs s)).map O4):=U10 (by rw[Ci.o,U2o];rfl);have QC:Hid ((V53 (bs s)).length=(V3s (bs s) s.size).length+1):=U10 (by rw[Ci.o,U1c];rfl);clear hI hk rF;go_wp2_with (at_builtin;refine U3z _ rfl (.tmp 46) (.tmp 47) 22 rfl w.heap.size 5 iU (.int .u8 0) 1 1 underlying22 cQ.o.1 cQ.o.2.1 cQ.o.2.2.1 cQ.o.2.2.2 rfl Yd u3 (V3s (bs s) s.size).length ((V3s (bs s) s.size).map O4) rfl (by exact (nx.o.gr' Gr.auto).row) ⟨_,0,none⟩ 1 1 [.int .u8 34] rfl Yb (O4d _ [.int .u8 34] _ _ Yb) Yj Yd (by have:=u7.o;unfold maxLen;omega) (by have:=u7.o;omega) (by have:=nx.o.sz;(try simp only[U1s]);omega) _ rfl ?_;intro gb cap w7 bQ gt lz fY;have Iz:=run_convert_bytes_back (P:=prog) w7 22 9 5 ⟨gb,0,none⟩ cap (V53 (bs s)) Yc Yc Yc (λ j hj=>(bQ.cells (g:=gb) rfl) j _ (by rw[HEq.o,U1m,U1h hj];rfl));rw[QC.o]at Iz;have tF:=U10 (nx.o.last _ gt);clear bQ gt lz fY);rw[Exit.noGoto_ret];exact U11 (v:=.string ⟨(V53 (bs s)).toArray⟩) (by simp[results,results33,go_sem]) rfl ⟨⟨_,rfl,by simp[bs]⟩,tF.o⟩
