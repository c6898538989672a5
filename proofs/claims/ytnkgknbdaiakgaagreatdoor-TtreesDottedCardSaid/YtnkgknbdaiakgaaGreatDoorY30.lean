/- The proof's part 30. -/
import Derived.Test.YtnkgknbdaiakgaaGreatDoorY12
import Derived.Test.YtnkgknbdaiakgaaGreatDoorY28
set_option maxHeartbeats 16000000
set_option linter.all false
set_option maxRecDepth 100000
namespace Go.Proofs.YtnkgknbdaiakgaaGreatDoor
open Pl Go.Proofs.Tryz Go.RowKit Go.Shelf Go.Joins
def wz(z:ByteArray):ByteArray:=⟨(V2k (bs z)).toArray⟩
theorem Omf(z:ByteArray):bs (wz z)=V2k (bs z):=by simp[bs,wz]
theorem Om7{t:ByteArray}{l:List UInt8}(h:bs t=l):t=⟨l.toArray⟩:=by
 subst h;simp[bs]
theorem Oop{z:ByteArray}(h:V5f (bs z)=true):wz z=z:=by
 unfold wz V2k;rw[U18 h]
structure WrR(wr:World)(g cap i:Nat)(zs:List ByteArray):Prop where
 at':∃cur:Array Value,wr.heap[g]?=some (.cells cur 9 (0,0))/\cur.size=cap/\∀(j:Nat) z,zs[j]?=some z->cur[j]?=some (.string (if j<i then wz z else z))
theorem WrR.cell{wr:World}{g cap i:Nat}{zs:List ByteArray}(h:WrR wr g cap i zs)(j:Nat)(z:ByteArray)(hz:zs[j]?=some z):wr.cell? ⟨g,j,none⟩=some (.string (if j<i then wz z else z)):=by
 obtain⟨cur,h1,h2,h3⟩:=h.at';rw[cell_of_block h1]
 simpa using h3 j z hz
theorem WrR.free{wr:World}{g cap i:Nat}{zs:List ByteArray}(h:WrR wr g cap i zs)(j:Nat):wr.frozen? ⟨g,j,none⟩=false:=by
 obtain⟨cur,h1,_⟩:=h.at';exact unfrozen_of_block h1 j
theorem WrR.lt{wr:World}{g cap i:Nat}{zs:List ByteArray}(h:WrR wr g cap i zs):g<wr.heap.size:=by
 obtain⟨cur,h1,_⟩:=h.at';exact (U1a.1 h1).1
theorem WrR.gr{wr w':World}{g cap i:Nat}{zs:List ByteArray}(h:WrR wr g cap i zs)(q:Gr wr w'):WrR w' g cap i zs:=by
 obtain⟨cur,h1,h2,h3⟩:=h.at';exact⟨⟨cur,(q.block (U1a.1 h1).1).trans h1,h2,h3⟩⟩
theorem WrR.bare{wr:World}{g cap i:Nat}{zs:List ByteArray}(h:WrR wr g cap i zs){z:ByteArray}(hz:zs[i]?=some z)(hb:wz z=z):WrR wr g cap (i+1) zs:=by
 obtain⟨cur,h1,h2,h3⟩:=h.at';refine⟨⟨cur,h1,h2,λ j y hy=>?_⟩⟩;rw[h3 j y hy];by_cases dv:j=i;subst dv;rw[hz]at hy;cases hy;rw[U1b (Nat.lt_irrefl _),U18 Ya,hb]
 exact J93
theorem WrR.set{wr:World}{g cap i:Nat}{zs:List ByteArray}(h:WrR wr g cap i zs){z:ByteArray}(hz:zs[i]?=some z):WrR (wr.setCell ⟨g,i,none⟩ (.string (wz z))) g cap (i+1) zs:=by
 obtain⟨cur,h1,h2,h3⟩:=h.at';have dO:i<cur.size:=(U1a.1 (h3 i z hz)).1;refine⟨⟨cur.setIfInBounds i (.string (wz z)),by rw[block_setCell h1],by simpa using h2,λ j y hy=>?_⟩⟩;rw[Array.getElem?_setIfInBounds];by_cases dv:i=j;subst dv;rw[hz]at hy;cases hy;rw[U18 rfl,U18 dO,U18 Ya]
 rw[U1b dv,h3 j y hy];exact J93
theorem Ooq(l:List UInt8):(V53 l).length<=6*l.length+2:=by
 unfold V53;have:∀l:List UInt8,(l.flatMap V4p).length<=6*l.length:=by
  intro l
  induction l with
  |nil=>simp
  |cons a l ih =>
   rw[U37,U1c,U17];have:(V4p a).length<=6:=by
    unfold V4p;repeat' split
    all_goals simp
   omega
 have:=this l;rw[U17,U1c,U25];omega
theorem Ofm(l:List UInt8):(V2k l).length<=6*l.length+2:=by
 unfold V2k
 split;omega
 exact Ooq l
theorem Om8(xs:List (List UInt8))(rO:List UInt8)(k:Nat)(h:∀x∈xs,x.length<=k):(Lib.join xs rO).length<=xs.length*(k+rO.length):=by
 induction xs with
 |nil=>simp[Lib.join_nil]
 |cons x xs ih =>
  cases xs with
  |nil=>rw[Lib.join_one];have:=h x Yb;simp;omega
  |cons y ys =>
   have h1:=ih (λ z hz=>h z (U26 _ hz));have h2:=h x (List.mem_cons_self ..);have:Lib.join (x::y::ys) rO=x++(rO++Lib.join (y::ys) rO):=by simp[Lib.join,List.intercalate]
   rw[this,U1c,U1c,U17 (a:=x),Nat.add_mul,Nat.one_mul];omega
theorem Om9(b off c:Nat)(zs:List ByteArray)(w:World)(hT:ShW Vd w)(h0:0<zs.length)(hn:zs.length<=1000)(bY:∀z∈zs,z.size<=1100000)(hc:∀(j:Nat) z,zs[j]?=some z->w.cell? ⟨b,off+j,none⟩=some (.string z)):Calls prog 14 #[.slice (some ⟨b,off,none⟩) zs.length c] w λ e w'=>e=.returned (.string ⟨(Lib.join ((zs.map wz).map (·.data.toList)) [46]).toArray⟩)/\Gr w w':=by
 have HC:=U10 (slices_Clone_string b off zs.length c zs w (U12 _) Ya (λ j hj=>by
  rw[hc j zs[j] (U1h hj)];simp[List.getD,U1h hj]))
 have HT:=U10 hT;have HS:=U10 bY;obtain⟨n,mj⟩:=ExZ (zs.length)
 rw[mj]at HC h0 hn⊢;have HN:=U10 mj;clear hT bY hc mj;go_enter func14,ntmps14;go_wp2_with fail;refine HC.o.mono ?_;rintro e w1 ⟨v',rfl,bZ,_,g1⟩;rcases O1b bZ with⟨_,h⟩|⟨g,cap,rfl,Bt,MG⟩
 omega
 have dM:WrR w1 g cap 0 zs:=by
  rcases bZ.2 with⟨h1,_⟩|⟨g',pm,cur,h1,h2,h3,h4,h5,h6,h7⟩
  cases h1
  simp only[U3v,U1f,Addr.mk.injEq]at h1;obtain⟨⟨rfl,_⟩,_,rfl⟩:=h1;refine⟨⟨cur,h3,by simpa using h6,λ j z hz=>?_⟩⟩;have hj:j<zs.length:=(U16.1 hz).1;rw[U1b Ya];have h8:(cur.toList.take (n*1))[j]?=some (.string z):=by
   rw[h7,U1m,U3o,U18 (by have:=HN.o;omega),hz];rfl
  rw[U3o,U18 (by have:=HN.o;omega)]at h8
  simpa using h8
 have bA:w.heap.size<=g:=by
  rcases bZ.2 with⟨h1,_⟩|⟨g',pm,cur,h1,h2,_⟩
  cases h1
  simp only[U3v,U1f,Addr.mk.injEq]at h1;obtain⟨⟨rfl,_⟩,_⟩:=h1;exact h2
 have HG:=U10 (show Gr w w1 from g1);have gH:=U10 dM;clear bZ g1 dM;go_wp2_with fail
 go_loopw [10] (λ IF wr=>∃i:Nat,IF=.int .i64 i/\i<=n/\WrR wr g cap i zs/\Gr w wr) (λ IF _=>n-(intOf IF).toNat)
 case atStart=>exact⟨0,rfl,Ya,gH.o,HG.o⟩
 case round =>
  obtain⟨i,rfl,hi,hR,hg⟩:=hrel;by_cases fP:i<n
  ·have d1:decide ((i:Int)<(n:Int))=true:=by simp;omega
   have QM:decide (i<n)=true:=Ye;refine Z149 ?_;intro i1 i2 wi;obtain⟨z,hz⟩:∃z,zs[i]?=some z:=⟨_,U1h (by have:=HN.o;omega)⟩
   have bP:=hR.cell i z hz;rw[U1b (Nat.lt_irrefl _)]at bP;have vy:=HS.o z (U2g hz);have HZ:=U10 hz;have HR:=U10 hR;have HB:=U10 (λ W=>Oon z W);have HW:=U10 (λ W (h:ShW Vd W)=>Om6 z vy W h);obtain⟨bb,cn⟩:=ExZ (V5f (bs z))
   rw[cn]at HB;clear hR hz vy;go_wp2_with fail;refine (HB.o _).mono ?_;rintro e w2 ⟨rfl,g2⟩;have ja:=U10 g2;clear g2;cases bb with
   |true =>
    go_wp2_with fail
    go_roundw
    case rel=>exact⟨i+1,by go_num,Ya,(HR.o.gr ja.o).bare HZ.o (Oop cn),hg.trans ja.o⟩
    case measure=>simp[intOf];omega
   |false =>
    go_wp2_with fail;refine (HW.o _ (HT.o.gr (hg.trans ja.o))).mono ?_;rintro e w3 ⟨⟨t,rfl,ht⟩,g3⟩;have rS:t=wz z:=by
     rw[Om7 ht];unfold wz V2k;rw[cn];rfl
    subst rS;have lU:=(HR.o.gr ja.o).gr g3;have EC:=lU.free i;have kC:=lU.cell i z HZ.o;have Is:=lU.lt;have dN:=(hg.trans ja.o).trans g3;have aW:=U10 lU;clear lU g3 ht;go_wp2_with fail
    go_roundw
    case rel=>exact⟨i+1,by go_num,Ya,aW.o.set HZ.o,dN.setCell (p:=⟨g,i,none⟩) bA _⟩
    case measure=>simp[intOf];omega
  have d1:decide ((i:Int)<(n:Int))=false:=Ye;have QM:decide (i<n)=false:=Ye;have yy:i=n:=Ya;subst yy;have mj:=HN.o;have hJ:=strings_Join g 0 cap (zs.map wz) ⟨#[46]⟩ wr (λ j x hx=>by
   rw[U1m]at hx;cases hz:zs[j]? with
   |none=>rw[hz]at hx;cases hx
   |some z =>
    rw[hz]at hx;simp only[U29,U1f]at hx;subst hx;have:=hR.cell j z hz;rw[U18 (by have:=(U16.1 hz).1;omega)]at this
    simpa using this) hR.lt Ye Ye (by
   have h1:=Om8 ((zs.map wz).map (·.data.toList)) [46] 6600002 (λ x hx=>by
    simp only[U47,U3n,Function.comp_apply]at hx;obtain⟨z,hz,rfl⟩:=hx;have h1:=Ofm (bs z);have h2:=HS.o z hz;rw[<-O0]at h2;show (bs (wz z)).length<=_;rw[Omf];omega)
   simp only[U1n,U17,U1t]at h1;have h2:zs.length*(6600002+(0+1))<=1000*6600003:=Nat.mul_le_mul Ya Ya;exact U1k h1 Ya)
  rw[U1n,mj]at hJ;have HJ:=U10 hJ;clear hJ hR;go_wp2_with fail;refine HJ.o.mono ?_;rintro e w4 ⟨rfl,g4⟩;go_wp2_with fail;exact U11 (v:=.string ⟨(Lib.join ((zs.map wz).map (·.data.toList)) [46]).toArray⟩) (by simp[results,results14,go_sem]) rfl ⟨rfl,hg.trans g4⟩
