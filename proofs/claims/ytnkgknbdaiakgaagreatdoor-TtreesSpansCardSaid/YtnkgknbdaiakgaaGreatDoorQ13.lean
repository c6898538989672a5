/- The proof's part 13. -/
import Derived.Test.YtnkgknbdaiakgaaGreatDoorQ04
import Derived.Test.YtnkgknbdaiakgaaGreatDoorQ07
import Derived.Test.YtnkgknbdaiakgaaGreatDoorQ08
import Derived.Test.YtnkgknbdaiakgaaGreatDoorQ09
set_option maxHeartbeats 16000000
set_option linter.all false
set_option maxRecDepth 100000
namespace Go.Proofs.YtnkgknbdaiakgaaGreatDoor
open Pl Go.Proofs.Tryz Go.RowKit Go.Joins
theorem O9l(c:UInt8):(0<=Lib.indexByte [32,9] c) ↔ V2r c=true:=by
 by_cases h1:c=32;subst h1;decide
 by_cases h2:c=9;subst h2;decide
 have e1:¬c.toNat=32:=λ e=>h1 (by rw[<-U2d,e];rfl)
 have e2:¬c.toNat=9:=λ e=>h2 (by rw[<-U2d,e];rfl)
 simp[V2r,e1,e2];have e3:((32:UInt8)==c)=false:=by simp;exact λ e=>h1 e.symm
 have e4:((9:UInt8)==c)=false:=by simp;exact λ e=>h2 e.symm
 simp[Lib.indexByte,e3,e4]
def Vaf(R:Nat)(w:World):Nat:=(intOf ((w.cell? ⟨R,1,none⟩).getD undef)).toNat
theorem O4h{w R s a q out ov}(h:RdQ w R s a q out ov):Vaf R w=a:=by
 unfold Vaf;rw[h.cells.2.1];simp[intOf]
theorem O3v(c:UInt8)(b:Bool)(h:V2r c=b)(w:World):Calls prog 85 #[.string ⟨#[32,9]⟩,.int .u8 c.toNat] w λ e w'=>e=.returned (.int .i64 (Lib.indexByte [32,9] c))/\w=w':=by
 refine (strings_IndexByte _ _ w).mono ?_;refine Z48 ?_;refine⟨O2q ?_,rfl⟩;rw[show (⟨#[32,9]⟩:ByteArray).data.toList=[32,9] from rfl];congr 1;simp
theorem Oab(l:List UInt8)(m:Nat)(h:m<l.length)(hb:V2r (l[m]'h)=true):V7 l m=V7 l (m+1):=by
 unfold V7 Pl.blanks;rw[U1u h,U1p,U1a hb];simp;omega
theorem O5d(l:List UInt8)(m:Nat)(h:∀h:m<l.length,V2r (l[m]'h)=false):V7 l m=m:=by
 unfold V7 Pl.blanks;by_cases hm:m<l.length;rw[U1u hm,U1p,U1c (by rw[h hm];simp)];rfl
 rw[U1t Ya];rfl
theorem Om3(w:World)(R:Nat)(s:ByteArray)(a:Nat)(q:UInt8)(out:List UInt8)(ov:Value)(h:RdQ w R s a q out ov)(a9:a<s.size)(hs:s.size<=20000000) :
    Calls prog 252 #[.pointer (some ⟨R,0,none⟩)] w λ e w'=>match V2p true (bs s) (a+1) with
     |.ok n=>e=.returned f0/\n<=s.size/\RdQ w' R s n q out ov/\St (FQ R ov) (FQ R ov) w w'
     |.bad c p=>e=.returned (fv c p)/\St (FQ R ov) (FQ R ov) w w':=by
 obtain⟨X,hX⟩:∃X:Ending->World->Prop,X=λ e w'=>match V2p true (bs s) (a+1) with
     |.ok n=>e=.returned f0/\n<=s.size/\RdQ w' R s n q out ov/\St (FQ R ov) (FQ R ov) w w'
     |.bad c p=>e=.returned (fv c p)/\St (FQ R ov) (FQ R ov) w w':=⟨_,rfl⟩
 rw[<-hX];have HX:=U10 hX;obtain⟨c0,c1,c2,c3,fz⟩:=h.cells;have F4:=fz 1;have hR:=h.lt;have I5:¬w.heap.size=R:=Ya
 have HS:=U10 h;clear fz h hX c3;go_enter func252,ntmps252;go_wp2_with fail
 go_loopw [3] (λ l wr=>∃(n j:Nat),l=.int .i64 j/\n<=s.size/\j<=n/\V2p (j==0) (bs s) n=V2p true (bs s) (a+1)/\RdQ wr R s n q out ov/\St (FQ R ov) (FQ R ov) w wr/\w.heap.size+1<=wr.heap.size /\
     wr.cell? w=some (.int .i64 0)/\wr.cell? ⟨w,1,none⟩=some (.int .i64 0)/\wr.frozen? w=false/\wr.frozen? ⟨w,1,none⟩=false)
  (λ _ wr=>s.size-Vaf R wr)
 case atStart =>
  have e:(↑a+1:Int)=((a+1:Nat):Int):=Ya;refine⟨a+1,0,rfl,Ya,Ya,rfl,?_,?_,by simp[World.setCell],?_,?_,?_,?_⟩;rw[e];exact (HS.o.setAt (a+1)).alloc _
  ·exact ((St.refl _ _).setCell (.inl (.inl rfl)) _).alloc _
  all_goals simp[go_sem]
 case round =>
  obtain⟨n,j,rfl,hn,hj,hF,hr,aa,hz,m0,m1,m2,m3⟩:=hrel;have bv:=V8 (bs s) n (by rw[O0];exact hn);rw[O0]at bv;have HF:=U10 hF;refine Z163 ?_;intro HR HT;have Ub:=hr.lt;clear hF hr aa c0 c1 c2 F4;go_wp2_with fail;obtain⟨wo,rfl⟩:∃wo:World,wo=wr:=⟨_,rfl⟩
  go_loopw [13] (λ _ w2=>∃m:Nat,n<=m/\m<=V7 (bs s) n/\V7 (bs s) m=V7 (bs s) n/\RdQ w2 R s m q out ov/\St (FQ R ov) (FQ R ov) wo w2) (λ _ w2=>s.size-Vaf R w2)
  case atStart=>exact⟨n,Ya,Ya,rfl,HR.o,St.refl _ _⟩
  case round =>
   obtain⟨m,h1,h2,h3,d8,aX⟩:=hrel;obtain⟨d0,d1,d2,d3,dz⟩:=d8.cells;have F9:=dz 1;have ym:=d8.lt;have mx:=O4h d8;have aO:=U10 d8;have ia:=U10 aX;have H3:=U10 h3;have Q5:=U10 mx;clear d8 aX h3 dz d3 mx;by_cases hm:m<s.size
   ·have mu:decide (m<s.size)=true:=by simp;omega
    cases hb:V2r s[m]
    ·have hI:decide (0<=Lib.indexByte [32,9] s[m])=false:=by
      rw[decide_eq_false_iff_not,O9l,hb];simp
     have HB:=U10 hb;clear hb;go_wp2_with fail
     go_quiet ((go_at_call 85;exact O5j (O3v _ false HB.o _) ⟨_,rfl⟩))
     have tW:m=V7 (bs s) n:=by
      rw[<-H3.o];exact (O5d (bs s) m (λ _=>HB.o)).symm
     obtain⟨S1,S2,S3,S4,S5⟩:=V5j (j==0) (bs s) n m (by rw[O0];exact hn) tW;have AH:((m:Int)==(s.size:Int))=false:=Ye;have i9:m<(bs s).length:=by rw[O0];exact hm
     have Ca:=S2 i9;have Cb:=S3 i9;have Cc:=S4 i9;have Cd:=S5 i9;clear S1 S2 S3 S4 S5 tW;have hu:=ia.o.use w.heap.size Ya (λ hF=>by have:=HS.o.own_lt hF;omega);have n0:wr.cell? w=some (.int .i64 0):=(hu.1 0).trans m0;have n1:wr.cell? ⟨w,1,none⟩=some (.int .i64 0):=(hu.1 1).trans m1;have n2:wr.frozen? w=false:=(hu.2 0).trans m2;have n3:wr.frozen? ⟨w,1,none⟩=false:=(hu.2 1).trans m3;have nT:=ia.o.size;clear hu m0 m1 m2 m3;go_wp2_with fail
     go_quiet (fail)
     go_wp2_with fail;cases iz:Pl.feed ((bs s).drop m) with
     |bad c p =>
      obtain⟨rfl,rfl⟩:=V46 _ _ _ iz;have HE:=U10 ((Cc _ _ iz).symm.trans HF.o);have EH:=U10 iz;clear iz Ca Cb Cc Cd;refine Z78 ?_;intro w1 g1 ag au dx oH az;have q0:w1.cell? w=some (.int .i64 0):=(ag _ _ Ye).trans n0;have q1:w1.cell? ⟨w,1,none⟩=some (.int .i64 0):=(ag _ _ Ye).trans n1;have q2:w1.frozen? w=false:=(au _ _ Ye).trans n2;have q3:w1.frozen? ⟨w,1,none⟩=false:=(au _ _ Ye).trans n3;refine Z121 ?_;intro fP x0 x1 x2 x3 xz Bv vA Bw aN;clear ag au n0 n1 n2 n3 fP x3 xz d0 d1 d2 F9;go_wp2_with fail;refine U11 (v:=fv 3 (m+1)) (by simp[results,results252,go_sem,q0,q1,dx,oH]) rfl ?_;exact J195
     |ok k =>
      cases k with
      |zero =>
       cases qo:(j==0)
       ·have HE:=U10 ((Cb iz qo).symm.trans HF.o);have EH:=U10 iz;obtain⟨b1,b2⟩:=V1u _ 0 _ qo;clear iz Ca Cb Cc Cd;refine Z78 ?_;intro w1 g1 ag au dx oH az;have q0:w1.cell? w=some (.int .i64 0):=(ag _ _ Ye).trans n0;have q1:w1.cell? ⟨w,1,none⟩=some (.int .i64 0):=(ag _ _ Ye).trans n1;have q2:w1.frozen? w=false:=(au _ _ Ye).trans n2;have q3:w1.frozen? ⟨w,1,none⟩=false:=(au _ _ Ye).trans n3;refine Z121 ?_;intro fP x0 x1 x2 x3 xz Bv vA Bw aN;clear ag au n0 n1 n2 n3 fP x3 xz d0 d1 d2 F9;go_wp2_with fail;refine U11 (v:=f0) (by simp[results,results252,go_sem,q0,q1,dx,oH]) rfl ?_;rw[HX.o,<-HE.o];have aa:=HT.o;have aX:=ia.o;have fg:¬FQ R ov w.heap.size:=λ hF=>by have:=HS.o.own_lt hF;omega
        refine⟨rfl,?_,?_,?_⟩;omega;exact RdQ.auto aN.o
        exact St.auto
       have HE:=U10 ((Ca iz qo).symm.trans HF.o);have EH:=U10 iz;obtain⟨b1,b2⟩:=V1u _ 0 _ qo;clear iz Ca Cb Cc Cd;refine Z78 ?_;intro w1 g1 ag au dx oH az;have q0:w1.cell? w=some (.int .i64 0):=(ag _ _ Ye).trans n0;have q1:w1.cell? ⟨w,1,none⟩=some (.int .i64 0):=(ag _ _ Ye).trans n1;have q2:w1.frozen? w=false:=(au _ _ Ye).trans n2;have q3:w1.frozen? ⟨w,1,none⟩=false:=(au _ _ Ye).trans n3;refine Z121 ?_;intro fP x0 x1 x2 x3 xz Bv vA Bw aN;clear ag au n0 n1 n2 n3 fP x3 xz d0 d1 d2 F9;go_wp2_with fail;refine (O1d _ m Ya _).mono ?_;refine Z86 ?_;intro w4 g4 nQ lH nR;have r0:w4.cell? w=some (.int .i64 0):=by rw[nQ _ _ Ye];simp[go_sem,q0,dx,oH]
       have r1:w4.cell? ⟨w,1,none⟩=some (.int .i64 0):=by rw[nQ _ _ Ye];simp[go_sem,q1,dx,oH]
       have r2:w4.frozen? w=false:=by rw[lH _ _ Ye];simp[go_sem,q2,dx,oH]
       have r3:w4.frozen? ⟨w,1,none⟩=false:=by rw[lH _ _ Ye];simp[go_sem,q3,dx,oH]
       clear nQ lH;go_wp2_with fail;refine U11 (v:=fv 3 m) (by simp[results,results252,go_sem,r0,r1]) rfl ?_;exact J195
      |succ k =>
       have HE:=U10 ((Cd _ iz).symm.trans HF.o);have EH:=U10 iz;have pY:=V3q _ _ iz;rw[U16,O0]at pY;have dB:((k:Int)+1==0)=false:=Ye;clear iz Ca Cb Cc Cd;refine Z78 ?_;intro w1 g1 ag au dx oH az;have q0:w1.cell? w=some (.int .i64 0):=(ag _ _ Ye).trans n0;have q1:w1.cell? ⟨w,1,none⟩=some (.int .i64 0):=(ag _ _ Ye).trans n1;have q2:w1.frozen? w=false:=(au _ _ Ye).trans n2;have q3:w1.frozen? ⟨w,1,none⟩=false:=(au _ _ Ye).trans n3;refine Z121 ?_;intro fP x0 x1 x2 x3 xz Bv vA Bw aN;clear ag au n0 n1 n2 n3 fP x3 xz d0 d1 d2 F9
       set_option maxRecDepth 100000 in
       go_wp2_with fail;have fy:(↑m+(↑k+1):Int)=((m+(k+1):Nat):Int):=Ya
       go_roundw
       case rel =>
        rw[fy];refine⟨m+(k+1),j+1,by go_num,Ya,Ya,?_,(aN.o.setAt (m+(k+1))).alloc _,?_,by simp[World.setCell];omega,?_,?_,?_,?_⟩;rw[show ((j+1)==0)=false from by simp,HE.o]
        ·exact ((((HT.o.trans ia.o).gr (((Gr.refl wr).drewN _).trans g1)).setCell (.inl (.inl rfl)) _).alloc _)
        all_goals simp[go_sem,q0,q1,q2,q3,dx,oH,I5]
       case measure =>
        rw[fy,O4h ((aN.o.setAt (m+(k+1))).alloc _),O4h HR.o];omega
    have hI:decide (0<=Lib.indexByte [32,9] s[m])=true:=by
     rw[decide_eq_true_iff,O9l,hb]
    have HB:=U10 hb;clear hb;go_wp2_with fail
    go_quiet ((go_at_call 85;exact O5j (O3v _ true HB.o _) ⟨_,rfl⟩))
    go_wp2_with fail;have e1:(↑m+1:Int)=((m+1:Nat):Int):=Ya
    have Q6:=Oab (bs s) m (by rw[O0];exact hm) HB.o;have jS:=V8 (bs s) (m+1) (by rw[O0];omega);have h3:=H3.o;have qp:RdQ ((wr.setCell ⟨R,1,none⟩ (.int .i64 ((m+1:Nat):Int))).drewN nq) R s (m+1) q out ov:=(aO.o.setAt (m+1)).drewN nq
    go_roundw
    case rel =>
     rw[e1];refine⟨m+1,Ya,Ya,by rw[<-Q6,h3],?_,?_⟩;first|exact qp|exact (aO.o.drewN nq).setAt (m+1)
     exact St.trans ia.o (by first|exact ((St.refl _ _).setCell (.inl (.inl rfl)) _).drewN _|exact ((St.refl _ _).drewN _).setCell (.inl (.inl rfl)) _)
    case measure =>
     rw[e1,Q5.o]
     first|rw[O4h qp]|rw[O4h ((aO.o.drewN nq).setAt (m+1))]
     omega
   have mu:decide (m<s.size)=false:=Ye;have tW:m=V7 (bs s) n:=by
    rw[<-H3.o];exact (O5d (bs s) m (λ h=>absurd h (by rw[O0];exact hm))).symm
   obtain⟨S1,S2,S3,S4,S5⟩:=V5j (j==0) (bs s) n m (by rw[O0];exact hn) tW;have HE:=U10 ((S1 (by rw[O0];omega)).symm.trans HF.o);have AH:((m:Int)==(s.size:Int))=true:=Ye;clear S1 S2 S3 S4 S5 tW;have hu:=ia.o.use w.heap.size Ya (λ hF=>by have:=HS.o.own_lt hF;omega);have n0:wr.cell? w=some (.int .i64 0):=(hu.1 0).trans m0;have n1:wr.cell? ⟨w,1,none⟩=some (.int .i64 0):=(hu.1 1).trans m1;have n2:wr.frozen? w=false:=(hu.2 0).trans m2;have n3:wr.frozen? ⟨w,1,none⟩=false:=(hu.2 1).trans m3;have nT:=ia.o.size;clear hu m0 m1 m2 m3;go_wp2_with fail
   go_quiet (fail)
   go_wp2_with fail
   go_quiet (fail)
   go_wp2_with fail;refine U11 (v:=f0) (by simp[results,results252,go_sem,n0,n1]) rfl ?_;rw[HX.o,<-HE.o];have aa:=HT.o;have aX:=ia.o;have fg:¬FQ R ov w.heap.size:=λ hF=>by have:=HS.o.own_lt hF;omega
   refine⟨rfl,?_,?_,?_⟩;omega;exact RdQ.auto aO.o
   exact St.auto
namespace Pl
def V1y:List UInt8->Nat->Nat
 |_,0=>0
 |[],_+1=>0
 |c::l,d+1=>if V3g c then V1y l d+1 else 0
theorem V5t(l:List UInt8)(d:Nat):V1y l d<=d/\V1y l d<=l.length:=by
 induction l generalizing d with
 |nil=>cases d <;> simp[V1y]
 |cons c l ih =>
  cases d with
  |zero=>simp[V1y]
  |succ d=>have:=ih d;simp only[V1y];split <;> simp <;> omega
theorem O9m(l:List UInt8)(d j:Nat)(hj:j<=V1y l d):V1y l d=j+V1y (l.drop j) (d-j):=by
 induction l generalizing d j with
 |nil=>cases d <;> simp[V1y]at hj <;> subst hj <;> simp[V1y]
 |cons c l ih =>
  cases j with
  |zero=>simp
  |succ j =>
   cases d with
   |zero=>simp[V1y]at hj
   |succ d =>
    simp only[V1y]at hj⊢
    split at hj
    rename_i hc
    rw[U1a hc,ih d j Ya];simp only[List.drop_succ_cons,Nat.add_sub_add_right];omega
    omega
theorem V7l(l:List UInt8)(d:Nat)(h:V1y l d=d):∀c∈l.take d,V3g c=true:=by
 induction l generalizing d with
 |nil=>simp
 |cons c l ih =>
  cases d with
  |zero=>simp
  |succ d =>
   simp only[V1y]at h
   split at h
   rename_i hc
   intro x hx;rw[U35,U2s]at hx;rcases hx with rfl|hx
   exact hc
   exact ih d Ya x hx
   omega
def V19(l:List UInt8)(p d:Nat):V2x Nat :=
 if V1y (l.drop p) d<d then .bad 3 (p+V1y (l.drop p) d)
 else if Lib.validRune (V40 ((l.drop p).take d)) then .ok (V40 ((l.drop p).take d)) else .bad 3 p
def V22(n:Nat):List UInt8:=(Lib.encodeRuneZ n).map λ x=>x.toNat.toUInt8
theorem V7m(l:List UInt8)(p d j:Nat)(hj:j<=V1y (l.drop p) d)(hd:j<d)(he:l.length<=p+j):V19 l p d=.bad 3 (p+j):=by
 have h1:=O9m _ _ _ hj;have h2:(l.drop p).drop j=[]:=by rw[U2j];exact U1t Ya
 rw[h2]at h1;have h3:V1y [] (d-j)=0:=by cases (d-j) <;> rfl
 have h4:V1y (l.drop p) d=j:=Ya
 simp[V19,h4,hd]
theorem V6x(l:List UInt8)(p d j:Nat)(hj:j<=V1y (l.drop p) d)(hd:j<d)(c:UInt8)(r:List UInt8)(he:l.drop (p+j)=c::r):(V3g c=true->j+1<=V1y (l.drop p) d)/\(V3g c=false->V19 l p d=.bad 3 (p+j)):=by
 have h1:=O9m _ _ _ hj;rw[U2j,he]at h1;obtain⟨k,hk⟩:∃k,d-j=k+1:=⟨d-j-1,Ya⟩
 rw[hk]at h1;simp only[V1y]at h1;constructor;intro hc;rw[U1a hc]at h1;omega
 intro hc;rw[U1c (by simp[hc])]at h1;have h4:V1y (l.drop p) d=j:=Ya
 simp[V19,h4,hd]
end Pl
theorem Ogs(s:ByteArray)(i k:Nat)(h:i<=k)(hk:k<=s.size):bs (s.extract i k)=((bs s).drop i).take (k-i):=by
 simp only[bs,U36]
theorem Odx(w:World)(R:Nat)(s:ByteArray)(a:Nat)(q:UInt8)(out:List UInt8)(ov:Value)(h:RdQ w R s a q out ov)(hv:EsV w)(d:Nat)(hd:d=4\/d=8)(a9:a<s.size)(hs:s.size<=20000000)(ap:out.length<=29000000) :
    Calls prog 244 #[.pointer (some ⟨R,0,none⟩),d] w λ e w'=>match V19 (bs s) (a+2) d with
     |.ok n=>e=.returned f0/\∃aH,RdQ w' R s (a+2+d) q (out++V22 n) aH/\St (FQ R ov) (FQ R aH) w w'
     |.bad c p=>e=.returned (fv c p)/\St (FQ R ov) (FQ R ov) w w':=by
 obtain⟨X,hX⟩:∃X:Ending->World->Prop,X=λ e w'=>match V19 (bs s) (a+2) d with
     |.ok n=>e=.returned f0/\∃aH,RdQ w' R s (a+2+d) q (out++V22 n) aH/\St (FQ R ov) (FQ R aH) w w'
     |.bad c p=>e=.returned (fv c p)/\St (FQ R ov) (FQ R ov) w w':=⟨_,rfl⟩
 rw[<-hX];have HX:=U10 hX;refine Z232 ?_;intro c0 c1 c2 c3 fz hR;have HS:=U10 h;have HV:=U10 hv;have Q7:d<=8:=Ya
 have Q8:4<=d:=Ya;clear fz h hX c3 hv hd;go_enter func244,ntmps244;go_wp2_with fail
 go_loopw [6] (λ l wr=>∃j:Nat,l=.int .i64 ((a:Int)+2+j)/\j<=d/\j<=V1y ((bs s).drop (a+2)) d/\Gr w wr/\w.heap.size+1<=wr.heap.size /\
     wr.cell? w=some (.int .i64 0)/\wr.cell? ⟨w,1,none⟩=some (.int .i64 0)/\wr.frozen? w=false/\wr.frozen? ⟨w,1,none⟩=false)
  (λ l _=>a+2+d-(intOf l).toNat)
 case atStart =>
  refine⟨0,Yb,Ya,Ya,(Gr.refl w).alloc _,Yb,?_,?_,?_,?_⟩
  all_goals simp[go_sem]
 case round =>
  obtain⟨j,rfl,hj,I6,hg,hz,m0,m1,m2,m3⟩:=hrel;have hr:=HS.o.gr hg;obtain⟨d0,d1,d2,d3,dz⟩:=hr.cells;have HR:=U10 hr;have HG:=U10 hg;clear hr hg d3 dz c0 c1 c2;by_cases Ml:j<d
  ·by_cases de:s.size<=a+2+j
   ·have hU:=U10 (V7m (bs s) (a+2) d j I6 Ml (by rw[O0];exact de));go_wp2_with fail;refine (O1d _ (a+2+j) Ya _).mono ?_;rintro e w1 ⟨rfl,g1⟩;obtain⟨ag,au,az⟩:=g1.use;have q0:w1.cell? w=some (.int .i64 0):=(ag _ _ Ya).trans m0;have q1:w1.cell? ⟨w,1,none⟩=some (.int .i64 0):=(ag _ _ Ya).trans m1;have q2:w1.frozen? w=false:=(au _ _ Ya).trans m2;have q3:w1.frozen? ⟨w,1,none⟩=false:=(au _ _ Ya).trans m3;clear ag au m0 m1 m2 m3;go_wp2_with fail;refine U11 (v:=fv 3 (a+2+j)) (by simp[results,results244,go_sem,q0,q1]) rfl ?_;rw[HX.o,hU.o];have aa:St (FQ R ov) (FQ R ov) w w1:=((HG.o.trans g1)).st;exact⟨rfl,St.auto⟩
   have kB:a+2+j<s.size:=Ya;obtain⟨u1,u2⟩:=V6x (bs s) (a+2) d j I6 Ml s[a+2+j] _ (O8 s (a+2+j) kB);have ht:bs (s.extract (a+2+j) (a+2+j+1))=[s[a+2+j]]:=by
    rw[Ogs s _ _ Ya Ya,O8 s (a+2+j) kB];simp
   obtain⟨t,pd⟩:∃t,t=s.extract (a+2+j) (a+2+j+1):=⟨_,rfl⟩
   rw[<-pd]at ht;go_wp2_with fail;rw[<-pd];refine (Olv t _ ht _ (HV.o.gr HG.o)).mono ?_;rintro e w1 ⟨g1,nn,vv,rfl,k1,k2⟩;cases hx:V3g s[a+2+j]
   ·obtain⟨T,p,rfl⟩:=k2 hx;have hU:=U10 (u2 hx);clear u1 u2 k1 k2 pd ht hx;obtain⟨ag,au,az⟩:=g1.use;have n0:w1.cell? w=some (.int .i64 0):=(ag _ _ Ya).trans m0;have n1:w1.cell? ⟨w,1,none⟩=some (.int .i64 0):=(ag _ _ Ya).trans m1;have n2:w1.frozen? w=false:=(au _ _ Ya).trans m2;have n3:w1.frozen? ⟨w,1,none⟩=false:=(au _ _ Ya).trans m3;clear ag au m0 m1 m2 m3;go_wp2_with fail;refine (O1d _ (a+2+j) Ya _).mono ?_;rintro e w2 ⟨rfl,g2⟩;obtain⟨ag,au,aM⟩:=g2.use;have q0:w2.cell? w=some (.int .i64 0):=(ag _ _ Ya).trans n0;have q1:w2.cell? ⟨w,1,none⟩=some (.int .i64 0):=(ag _ _ Ya).trans n1;have q2:w2.frozen? w=false:=(au _ _ Ya).trans n2;have q3:w2.frozen? ⟨w,1,none⟩=false:=(au _ _ Ya).trans n3;clear ag au n0 n1 n2 n3;go_wp2_with fail;refine U11 (v:=fv 3 (a+2+j)) (by simp[results,results244,go_sem,q0,q1]) rfl ?_;rw[HX.o,hU.o];have aa:St (FQ R ov) (FQ R ov) w w2:=(((HG.o.trans g1)).trans g2).st;exact⟨rfl,St.auto⟩
   obtain rfl:=k1 hx;have I7:=u1 hx;clear u1 u2 k1 k2 pd ht hx;obtain⟨ag,au,az⟩:=g1.use;have n0:w1.cell? w=some (.int .i64 0):=(ag _ _ Ya).trans m0;have n1:w1.cell? ⟨w,1,none⟩=some (.int .i64 0):=(ag _ _ Ya).trans m1;have n2:w1.frozen? w=false:=(au _ _ Ya).trans m2;have n3:w1.frozen? ⟨w,1,none⟩=false:=(au _ _ Ya).trans m3;clear ag au m0 m1 m2 m3;go_wp2_with fail;refine⟨⟨j+1,(by first|rfl|(congr 1;omega)),Ya,I7,HG.o.trans g1,Ya,n0,n1,n2,n3⟩,by simp[intOf];omega⟩
  obtain rfl:j=d:=Ya;have qq:=V5t ((bs s).drop (a+2)) j;have eF:V1y ((bs s).drop (a+2)) j=j:=Ya;have aP:a+2+j<=s.size:=by
   have:=qq.2;rw[U16,O0]at this;omega
  have aT:=V7l _ _ eF;have ht:bs (s.extract (a+2) (a+2+j))=((bs s).drop (a+2)).take j:=by
   rw[Ogs s _ _ Ya Ya];congr 1;omega
  have vU:(s.extract (a+2) (a+2+j)).size=j:=Ye;have Fa:V19 (bs s) (a+2) j=if Lib.validRune (V40 (bs (s.extract (a+2) (a+2+j)))) then .ok (V40 (bs (s.extract (a+2) (a+2+j)))) else .bad 3 (a+2):=by
   rw[ht];simp[V19,eF]
  have I8:V40 (bs (s.extract (a+2) (a+2+j)))<4294967296:=by
   have h1:=V7i _ 0 aT;rw[<-ht]at h1;have h2:16 ^ (bs (s.extract (a+2) (a+2+j))).length<=16 ^ 8:=U4j Ya (by rw[O0,vU];exact Q7);have h3:V40 (bs (s.extract (a+2) (a+2+j)))<(0+1)*16 ^ (bs (s.extract (a+2) (a+2+j))).length:=h1;omega
  rw[<-ht]at aT;clear qq eF I6 ht;obtain⟨t,pd⟩:∃t,t=s.extract (a+2) (a+2+j):=⟨_,rfl⟩
  rw[<-pd]at vU Fa I8 aT;go_wp2_with fail;rw[<-pd];refine (Olw t Ya Ya aT _).mono ?_;rintro e w1 ⟨g1,rfl⟩;obtain⟨n,hn⟩:∃n,n=V40 (bs t):=⟨_,rfl⟩
  rw[<-hn]at Fa I8⊢;have HU:=U10 Fa;clear Fa aT pd vU hn;obtain⟨ag,au,az⟩:=g1.use;have n0:w1.cell? w=some (.int .i64 0):=(ag _ _ Ya).trans m0;have n1:w1.cell? ⟨w,1,none⟩=some (.int .i64 0):=(ag _ _ Ya).trans m1;have n2:w1.frozen? w=false:=(au _ _ Ya).trans m2;have n3:w1.frozen? ⟨w,1,none⟩=false:=(au _ _ Ya).trans m3;clear ag au m0 m1 m2 m3;by_cases nM:1114111<n
  have hi:(1114111:Int)<n:=Ya;have EQ:=U10 (show Lib.validRune n=false by simp[Lib.validRune];omega);exact J121
  have hi:(n:Int)<=1114111:=Ya;go_wp2_with fail;refine (utf8_ValidRune n w1).mono ?_;refine Z48 ?_;cases Fb:Lib.validRune n
  have EQ:=U10 Fb;clear Fb;exact J121
  have EQ:=U10 Fb;clear Fb;have hw:IntKind.i64.wrap (n:Int)=(n:Int):=by rw[IntKind.wrap_i64];omega
  clear I8 nM
  first|(rename_i hx;have Q9:(n:Int)<=1114111:=hx;clear Q9 hx)|skip
  rename_i K1 b1 K2 b2 K3 b3
  refine b3 _ _ ?_;clear b3 K3;have B2:=U10 b2;have B1:=U10 b1;clear b2 b1;go_wp2_with fail;refine B2.o _ _ ?_;have Mm:decide ((1114111:Int)<(n:Int))=false:=U48 Ya
  try simp only[Mm]
  clear Mm;go_wp2_with fail;refine B1.o _ _ ?_;clear B1 B2;have ib:(V22 n).map Ob=Lib.runeCells n:=Lib.byteCells_encodeRune n;have qq:(Lib.runeCells n).length=(V22 n).length:=Lib.runeCells_length n;have tX:=Lib.runeCells_le n;have a8:V22 n≠[]:=by intro e;rw[qq,e]at tX;simp at tX
  rw[qq]at tX;obtain⟨rb,yx⟩:∃rb,rb=V22 n:=⟨_,rfl⟩
  rw[<-yx]at ib qq tX a8;have HB:=U10 ib;have HL:=U10 qq;have HN:=U10 a8;have HE:=U10 yx;clear ib qq a8 yx;go_wp2_with fail;refine (Om5 w1.heap.size 0 1 n Ya _ Yh).mono ?_;rintro e w2 ⟨gb,cap,rfl,qe,g2,aQ⟩;rw[HL.o];rw[<-HB.o]at aQ;have jx:Gr w1 w2:=((Gr.refl _).alloc _).trans g2;obtain⟨ag,au,aM⟩:=jx.use;simp at qe;have q0:w2.cell? w=some (.int .i64 0):=(ag _ _ Ya).trans n0;have q1:w2.cell? ⟨w,1,none⟩=some (.int .i64 0):=(ag _ _ Ya).trans n1;have q2:w2.frozen? w=false:=(au _ _ Ya).trans n2;have q3:w2.frozen? ⟨w,1,none⟩=false:=(au _ _ Ya).trans n3;have HC:=U10 aQ;have HT:=U10 jx;have vV:=U10 g1;clear ag au n0 n1 n2 n3 aQ jx g1 g2;go_wp2_with fail;refine (O3i _ R s a q out ov ((HR.o.gr vV.o).gr HT.o) _ (2+j) Yb Ya rb gb 0 cap HN.o Ya HC.o Ya).mono ?_;rintro e w3 ⟨rfl,aH,hr,aa⟩;have aV:=aa.use w.heap.size Ya (λ hF=>by have:=HS.o.own_lt hF;omega);have hz:=aa.size;obtain⟨ag,au⟩:=aV;refine Z163 ?_;intro bm bG;have r0:w3.cell? w=some (.int .i64 0):=(ag _).trans q0;have r1:w3.cell? ⟨w,1,none⟩=some (.int .i64 0):=(ag _).trans q1;have r2:w3.frozen? w=false:=(au _).trans q2;have r3:w3.frozen? ⟨w,1,none⟩=false:=(au _).trans q3;clear hr aa ag au q0 q1 q2 q3;go_wp2_with fail;refine U11 (v:=f0) (by simp[results,results244,go_sem,r0,r1]) rfl ?_;rw[HX.o,HU.o,EQ.o,U1a rfl];refine⟨rfl,aH,?_,?_⟩
  have fg:¬FQ R aH w.heap.size:=λ hF=>by
   rcases bG.o.own _ hF with hF|hF
   have:=HS.o.own_lt hF;omega
   omega
  have e1:a+(2+j)=a+2+j:=Ya;have eF:=bm.o;rw[e1,HE.o]at eF;exact RdQ.auto eF
  have d9:St (FQ R ov) (FQ R aH) w w3:=((HG.o.trans (vV.o.trans HT.o)).st).trans bG.o;have aa:=d9;exact St.auto
namespace Pl
def V3h(T:Nat->UInt8×UInt8)(c:UInt8)(k:Nat):Nat->Option Nat
 |0=>none
 |n+1=>if c.toNat=(T k).1.toNat then some k else V3h T c (k+1) n
theorem V7n(T:Nat->UInt8×UInt8)(c:UInt8)(k n:Nat)(h:(c.toNat==(T k).1.toNat)=true):V3h T c k (n+1)=some k:=by
 simp at h;simp[V3h,h]
theorem V6y(T:Nat->UInt8×UInt8)(c:UInt8)(k n:Nat)(h:(c.toNat==(T k).1.toNat)=false):V3h T c k (n+1)=V3h T c (k+1) n:=by
 simp at h;simp[V3h,h]
def V3w(T:Nat->UInt8×UInt8)(l:List UInt8)(a:Nat):V2x (List UInt8×Nat) :=
 match l.drop (a+1) with
 |[] => .bad 3 l.length
 | c::_=>match V3h T c 0 7 with
  |some k => .ok ([(T k).2],a+2)
  |none =>
   if c.toNat=117 then match V19 l (a+2) 4 with|.ok n => .ok (V22 n,a+2+4)|.bad c p => .bad c p
   else if c.toNat=85 then match V19 l (a+2) 8 with|.ok n => .ok (V22 n,a+2+8)|.bad c p => .bad c p
   else .bad 3 (a+1)
theorem V80(T)(l:List UInt8)(a:Nat)(h:l.length=a+1):V3w T l a=.bad 3 (a+1):=by
 unfold V3w;rw[List.drop_of_length_le Ya,h]
theorem V67(T)(l:List UInt8)(a:Nat)(c:UInt8)(r:List UInt8)(h:l.drop (a+1)=c::r):V3w T l a=match V3h T c 0 7 with
    |some k => .ok ([(T k).2],a+2)
    |none =>
     if c.toNat=117 then match V19 l (a+2) 4 with|.ok n => .ok (V22 n,a+2+4)|.bad c p => .bad c p
     else if c.toNat=85 then match V19 l (a+2) 8 with|.ok n => .ok (V22 n,a+2+8)|.bad c p => .bad c p
     else .bad 3 (a+1):=by
 unfold V3w;rw[h]
end Pl
def shC(T:Nat->UInt8×UInt8):Array Value:=#[Ob (T 0).1,Ob (T 0).2,Ob (T 1).1,Ob (T 1).2,Ob (T 2).1,Ob (T 2).2,Ob (T 3).1,Ob (T 3).2,Ob (T 4).1,Ob (T 4).2,Ob (T 5).1,Ob (T 5).2,Ob (T 6).1,Ob (T 6).2]
def ShW(T:Nat->UInt8×UInt8)(w:World):Prop:=∀j v,(shC T)[j]?=some v->w.cell? ⟨0,j,none⟩=some v
theorem ShW.gr{T}{w w':World}(h:ShW T w)(g:Gr w w'):ShW T w':=λ j v hj=>(g.use.1 _ _ (Lib.lt_of_cell (h j v hj))).trans (h j v hj)
theorem Oj6(T:Nat->UInt8×UInt8)(k:Nat)(hk:k<7)(W:World):(Instr.index 108 (.agg (shC T)) k).run prog W=.ok (.agg #[Ob (T k).1,Ob (T k).2]) W:=by
 have:k=0\/k=1\/k=2\/k=3\/k=4\/k=5\/k=6:=Ya
 rcases this with rfl|rfl|rfl|rfl|rfl|rfl|rfl
 all_goals (show _=_;first|kernel_rfl|rfl)
theorem O7z(w:World)(R:Nat)(s:ByteArray)(a:Nat)(q:UInt8)(out:List UInt8)(ov:Value)(h:RdQ w R s a q out ov)(hv:EsV w)(T:Nat->UInt8×UInt8)(ht:ShW T w)(a9:a<s.size)(hs:s.size<=20000000)(ap:out.length<=29000000) :
    Calls prog 243 #[.pointer (some ⟨R,0,none⟩)] w λ e w'=>match V3w T (bs s) a with
     |.ok r=>e=.returned f0/\∃aH,RdQ w' R s r.2 q (out++r.1) aH/\St (FQ R ov) (FQ R aH) w w'
     |.bad c p=>e=.returned (fv c p)/\St (FQ R ov) (FQ R ov) w w':=by
 obtain⟨X,hX⟩:∃X:Ending->World->Prop,X=λ e w'=>match V3w T (bs s) a with
     |.ok r=>e=.returned f0/\∃aH,RdQ w' R s r.2 q (out++r.1) aH/\St (FQ R ov) (FQ R aH) w w'
     |.bad c p=>e=.returned (fv c p)/\St (FQ R ov) (FQ R ov) w w':=⟨_,rfl⟩
 rw[<-hX];have HX:=U10 hX;refine Z232 ?_;intro c0 c1 c2 c3 fz hR;have HS:=U10 h;have HV:=U10 hv;have HT:=U10 ht;clear fz h hX c3 hv ht;have fD:=U1k ((a:Int)+1) Ya;have bB:((a:Int)+1).toNat=a+1:=Ya
 by_cases de:s.size=a+1
 ·have hb:((a:Int)+1==(s.size:Int))=true:=by simp;omega
  have HU:=U10 (V80 T (bs s) a (by rw[O0];exact de));go_enter func243,ntmps243;go_wp2_with fail
  go_quiet (fail)
  go_wp2_with fail;refine (O1d _ (a+1) Ya _).mono ?_;refine Z86 ?_;intro w1 g1 ag au az;have q0:w1.cell? w=some (.int .i64 0):=(ag _ _ Yb).trans Yb;have q1:w1.cell? ⟨w,1,none⟩=some (.int .i64 0):=(ag _ _ Yb).trans Yb;have q2:w1.frozen? w=false:=(au _ _ Yb).trans Yh;have q3:w1.frozen? ⟨w,1,none⟩=false:=(au _ _ Yb).trans Yh;have dQ:w.heap.size<w1.heap.size:=Ya
  clear ag au;go_wp2_with fail;refine U11 (v:=fv 3 (a+1)) (by simp[results,results243,go_sem,q0,q1]) rfl ?_;rw[HX.o,HU.o];exact⟨rfl,St.auto⟩
 have hb:((a:Int)+1==(s.size:Int))=false:=Ye;have kB:a+1<s.size:=Ya;have pI:(0:Int)<=(a:Int)+1:=Ya;have fh:(a:Int)+1<(s.size:Int):=Ya;have t0:w.cell? ⟨0,0,none⟩=some (.int .u8 (T 0).1.toNat):=HT.o 0 _ rfl;have t1:w.cell? ⟨0,1,none⟩=some (.int .u8 (T 0).2.toNat):=HT.o 1 _ rfl;have t2:w.cell? ⟨0,2,none⟩=some (.int .u8 (T 1).1.toNat):=HT.o 2 _ rfl;have t3:w.cell? ⟨0,3,none⟩=some (.int .u8 (T 1).2.toNat):=HT.o 3 _ rfl;have t4:w.cell? ⟨0,4,none⟩=some (.int .u8 (T 2).1.toNat):=HT.o 4 _ rfl;have t5:w.cell? ⟨0,5,none⟩=some (.int .u8 (T 2).2.toNat):=HT.o 5 _ rfl;have t6:w.cell? ⟨0,6,none⟩=some (.int .u8 (T 3).1.toNat):=HT.o 6 _ rfl;have t7:w.cell? ⟨0,7,none⟩=some (.int .u8 (T 3).2.toNat):=HT.o 7 _ rfl;have t8:w.cell? ⟨0,8,none⟩=some (.int .u8 (T 4).1.toNat):=HT.o 8 _ rfl;have t9:w.cell? ⟨0,9,none⟩=some (.int .u8 (T 4).2.toNat):=HT.o 9 _ rfl;have t10:w.cell? ⟨0,10,none⟩=some (.int .u8 (T 5).1.toNat):=HT.o 10 _ rfl;have t11:w.cell? ⟨0,11,none⟩=some (.int .u8 (T 5).2.toNat):=HT.o 11 _ rfl;have t12:w.cell? ⟨0,12,none⟩=some (.int .u8 (T 6).1.toNat):=HT.o 12 _ rfl;have t13:w.cell? ⟨0,13,none⟩=some (.int .u8 (T 6).2.toNat):=HT.o 13 _ rfl;have Uc:0<w.heap.size:=Lib.lt_of_cell t0;have HE:=U10 (V67 T (bs s) a s[a+1] _ (O8 s (a+1) kB));obtain⟨c,Fc⟩:∃c,c=s[a+1]:=⟨_,rfl⟩
 rw[<-Fc]at HE;go_enter func243,ntmps243;go_wp2_with fail
 go_quiet (fail)
 go_wp2_with fail
 go_quiet (fail)
 rw[<-Fc];clear Fc;go_wp2_with fail
 go_loopw [34] (λ v wr=>∃k:Nat,v=.int .i64 k/\k<=7/\V3h T c 0 7=V3h T c k (7-k)/\Gr w wr/\w.heap.size+1<=wr.heap.size /\
  wr.cell? w=some (.int .i64 0)/\wr.cell? ⟨w,1,none⟩=some (.int .i64 0)/\wr.frozen? w=false/\wr.frozen? ⟨w,1,none⟩=false)
  (λ v _=>7-(intOf v).toNat)
 case atStart =>
  refine⟨0,rfl,Ya,rfl,Gr.auto,Yb,?_,?_,?_,?_⟩
  all_goals simp[go_sem]
 case round =>
  obtain⟨k,rfl,hk,hi,hg,hz,m0,m1,m2,m3⟩:=hrel;have hr:=HS.o.gr hg;obtain⟨d0,d1,d2,d3,dz⟩:=hr.cells;have HR:=U10 hr;have HG:=U10 hg;have HI:=U10 hi;have hn:¬FQ R ov wr.heap.size:=λ hF=>by have:=HR.o.own_lt hF;omega
  have iY:¬FQ R ov w.heap.size:=λ hF=>by have:=HS.o.own_lt hF;omega
  have eN:w.heap.size<wr.heap.size:=Ya;have qr:¬w.heap.size=wr.heap.size:=Ya;clear hr hg hi d3 dz c0 c1 c2;by_cases ph:k<7
  ·have i0:∀W,(Instr.index 108 (.agg (shC T)) k).run prog W=.ok (.agg #[Ob (T k).1,Ob (T k).2]) W:=λ W=>Oj6 T k ph W
   simp only[shC,Ob]at i0;have hd:decide (k<7)=true:=Ye
   cases hc:(c.toNat==(T k).1.toNat)
   ·have hm:=U10 (V6y T c k (6-k) hc);obtain⟨b1,b2⟩:=V1u _ _ _ hc;clear hc;go_wp2_with fail;refine⟨⟨k+1,Yb,Ya,?_,Gr.auto,?_,?_,?_,?_,?_⟩,by simp[intOf];omega⟩
    rw[HI.o,show 7-k=6-k+1 by omega,hm.o,show 6-k=7-(k+1) by omega]
    ·simp;omega
    all_goals simp[go_sem,m0,m1,m2,m3,eN,qr]
   have hm:=U10 (V7n T c k (6-k) hc);obtain⟨b1,b2⟩:=V1u _ _ _ hc;clear hc;go_wp2_with fail;refine (O3i _ R s a q out ov (RdQ.auto HR.o) 2 2 rfl Ya [(T k).2] (wr.heap.size+1) 0 1 Yb Ya (O4z _ _ _ _ Yb) Ye).mono ?_;rintro e w1 ⟨rfl,aH,hr,aa⟩;obtain⟨ag,au⟩:=aa.use w.heap.size Ye iY;have az:=aa.size;simp at az;have r0:w1.cell? w=some (.int .i64 0):=(ag _).trans (by simp[go_sem,m0,eN,qr]);have r1:w1.cell? ⟨w,1,none⟩=some (.int .i64 0):=(ag _).trans (by simp[go_sem,m1,eN,qr]);have r2:w1.frozen? w=false:=(au _).trans (by simp[go_sem,m2,eN,qr]);have r3:w1.frozen? ⟨w,1,none⟩=false:=(au _).trans (by simp[go_sem,m3,eN,qr]);refine Z163 ?_;intro aN bG;clear hr aa ag au m0 m1 m2 m3;go_wp2_with fail;refine Z261 ?_;rw[HX.o,HE.o,HI.o,show 7-k=6-k+1 by omega,hm.o];refine⟨rfl,aH,?_,?_⟩
   have fg:¬FQ R aH w.heap.size:=λ hF=>by
    rcases bG.o.own _ hF with hF|hF
    exact iY hF
    simp at hF;omega
   have eF:=aN.o;exact RdQ.auto eF
   have d9:St (FQ R ov) (FQ R aH) w w1:=(Gr.st Gr.auto).trans bG.o;have aa:=d9;exact St.auto
  obtain rfl:k=7:=Ya;have hd:decide ((7:Nat)<7)=false:=Yb;have HN:RowKit.Hid (V3h T c 0 7=none):=U10 HI.o;cases hu:(c.toNat==117)
  ·obtain⟨b1,b2⟩:=V1u _ 117 _ hu;have sI:¬c.toNat=117:=by simpa using hu
   cases hU:(c.toNat==85)
   ·obtain⟨b3,b4⟩:=V1u _ 85 _ hU;have Ce:¬c.toNat=85:=by simpa using hU
    have HF:V3w T (bs s) a=.bad 3 (a+1):=by rw[HE.o,HN.o];simp[sI,Ce]
    have HQ:=U10 HF;clear HF hu hU sI Ce;go_wp2_with fail;refine (O1d _ (a+1) Ya _).mono ?_;rintro e w1 ⟨rfl,g1⟩;obtain⟨ag,au,az⟩:=g1.use;have r0:w1.cell? w=some (.int .i64 0):=(ag _ _ eN).trans m0;have r1:w1.cell? ⟨w,1,none⟩=some (.int .i64 0):=(ag _ _ eN).trans m1;have r2:w1.frozen? w=false:=(au _ _ eN).trans m2;have r3:w1.frozen? ⟨w,1,none⟩=false:=(au _ _ eN).trans m3;clear ag au m0 m1 m2 m3;go_wp2_with fail;refine U11 (v:=fv 3 (a+1)) (by simp[results,results243,go_sem,r0,r1]) rfl ?_;rw[HX.o,HQ.o];have aa:St (FQ R ov) (FQ R ov) w w1:=(HG.o.trans g1).st;exact⟨rfl,St.auto⟩
   obtain⟨b3,b4⟩:=V1u _ 85 _ hU;have Ce:c.toNat=85:=by simpa using hU
   clear hu hU;have HF:V3w T (bs s) a=match V19 (bs s) (a+2) 8 with|.ok n => .ok (V22 n,a+2+8)|.bad c p => .bad c p:=by
    rw[HE.o,HN.o];simp[sI,Ce]
   clear sI Ce;go_wp2_with fail;refine (Odx _ R s a q out ov HR.o (HV.o.gr HG.o) 8 Ya a9 hs ap).mono ?_;intro e w1 hp;cases hq:V19 (bs s) (a+2) 8 with
   |ok n =>
    exact J112
   |bad c' p =>
    exact J120
  obtain⟨b1,b2⟩:=V1u _ 117 _ hu;have sI:c.toNat=117:=by simpa using hu
  clear hu;have HF:V3w T (bs s) a=match V19 (bs s) (a+2) 4 with|.ok n => .ok (V22 n,a+2+4)|.bad c p => .bad c p:=by
   rw[HE.o,HN.o];simp[sI]
  clear sI;go_wp2_with fail;refine (Odx _ R s a q out ov HR.o (HV.o.gr HG.o) 4 Ya a9 hs ap).mono ?_;intro e w1 hp;cases hq:V19 (bs s) (a+2) 4 with
  |ok n =>
   exact J112
  |bad c' p =>
   exact J120
namespace Pl
def V3m(T:Nat->UInt8×UInt8)(l:List UInt8):SR :=
 match V3w T l 0 with
 |.ok r => .go r.2 r.1 false
 |.bad _ p => .bad p
theorem O80(l:List UInt8)(a p d:Nat):V19 l (a+p) d=match V19 (l.drop a) p d with|.ok n => .ok n|.bad c k => .bad c (a+k):=by
 unfold V19;rw[U2j]
 split;simp;omega
 split <;> simp
theorem O6q(l:List UInt8)(p d:Nat){c k:Nat}(h:V19 l p d=.bad c k):c=3:=by
 unfold V19 at h
 split at h;simp at h;exact h.1.symm
 split at h;simp at h
 simp at h;exact h.1.symm
theorem V81(T)(l:List UInt8)(a:Nat)(h:a<=l.length):V3w T l a=match V3m T (l.drop a) with|.go n t _ => .ok (t,a+n)|.bad p => .bad 3 (a+p):=by
 unfold V3m V3w;rw[U2j,U1v,U1v];cases hd:l.drop (a+1) with
 |nil=>simp;omega
 |cons c r =>
  simp only[];cases V3h T c 0 7 with
  |some k=>simp
  |none =>
   simp only[]
   split
   rw[O80 l a 2 4];cases hu:V19 (l.drop a) 2 4 with
   |ok n=>simp <;> omega
   |bad c k=>simp[O6q _ _ _ hu]
   split
   rw[O80 l a 2 8];cases hu:V19 (l.drop a) 2 8 with
   |ok n=>simp <;> omega
   |bad c k=>simp[O6q _ _ _ hu]
   simp
theorem O31(T)(l:List UInt8)(n:Nat)(t:List UInt8)(o:Bool)(h:V3m T l=.go n t o):t.length<=n/\1<=n/\n<=l.length:=by
 have hu:∀d k,V19 l (0+2) d=.ok k->1<=d->2+d<=l.length/\(V22 k).length<=4:=by
  intro d k hk hd;unfold V19 at hk;have h1:=V5t (l.drop (0+2)) d;rw[U16]at h1
  split at hk;simp at hk
  refine⟨Ya,?_⟩;have h2:=Lib.runeCells_le k;rw[Lib.runeCells_length]at h2;exact h2.2
 unfold V3m V3w at h;cases hd:l.drop (0+1) with
 |nil=>rw[hd]at h;simp at h
 |cons c r =>
  have hl:2<=l.length:=by
   have:=U2w List.length hd;rw[U16]at this;simp at this;omega
  rw[hd]at h;simp only[]at h;cases he:V3h T c 0 7 with
  |some k=>rw[he]at h;simp at h;obtain⟨rfl,rfl,_⟩:=h;simp;omega
  |none =>
   rw[he]at h;simp only[]at h
   split at h
   rename_i x hx
   split at hx
   cases hq:V19 l (0+2) 4 with
   |ok k=>rw[hq]at hx;have:=hu 4 k hq Ya;simp at hx h;subst hx;simp at h;obtain⟨rfl,rfl,_⟩:=h;omega
   |bad c p=>rw[hq]at hx;simp at hx
   split at hx
   cases hq:V19 l (0+2) 8 with
   |ok k=>rw[hq]at hx;have:=hu 8 k hq Ya;simp at hx h;subst hx;simp at h;obtain⟨rfl,rfl,_⟩:=h;omega
   |bad c p=>rw[hq]at hx;simp at hx
   simp at hx
   simp at h
theorem V5g(T)(l:List UInt8)(n:Nat)(t:List UInt8)(o:Bool)(h:V3m T l=.go n t o):o=false:=by
 unfold V3m at h
 split at h;simp at h;exact h.2.2
 simp at h
end Pl
structure QW(T:Nat->UInt8×UInt8)(w:World):Prop where
 es:EsV w
 sh:ShW T w
theorem QW.gr{T}{w w':World}(h:QW T w)(g:Gr w w'):QW T w':=⟨h.es.gr g,h.sh.gr g⟩
theorem Obb(w:World)(R:Nat)(s:ByteArray)(a:Nat)(q:UInt8)(out:List UInt8)(ov:Value)(h:RdQ w R s a q out ov)(hv:EsV w)(T:Nat->UInt8×UInt8)(ht:ShW T w)(a9:a<s.size)(hs:s.size<=20000000)(ho:out.length<=a)(hm:(s[a].toNat==q.toNat)=false)(he:(s[a].toNat==92)=true):Calls prog 242 #[.agg #[.pointer (some ⟨R,0,none⟩)]] w (O19 R s a q out ov w (V3m T ((bs s).drop a))):=by
 have hR:=h.lt;refine Z218 ?_;intro b1 b2 sr cR HO HX hX bV;have HS:=U10 h;have HM:=U10 hm;have HV:=U10 hv;have I9:=U10 ht;clear cR hX h hm he hv ht bV;go_enter func242,ntmps242;go_wp2_with fail;refine Z315 ?_;intro w1 g1 ag au az;have hg:Hid (Gr w w1):=by
  have h1:Gr w ((w.alloc (.cells #[.pointer (some ⟨R,0,none⟩)] 170)).alloc (.cells #[(0:Int),(0:Int)] 29)):=Gr.auto;exact h1.trans g1
 have iT:Hid (RdQ w1 R s a q out ov):=HS.o.gr hg.o;have c0:w1.cell? R=some (.string s):=iT.o.cells.1;have c1:w1.cell? ⟨R,1,none⟩=some (.int .i64 a):=iT.o.cells.2.1;go_wp2_with fail
 go_quiet (fail)
 go_wp2_with fail;refine (O7z _ R s a q out ov (RdQ.auto iT.o) (HV.o.gr (hg.o.drewN _)) T (I9.o.gr (hg.o.drewN _)) a9 hs Ya).mono ?_;rw[HX.o];cases sr with
 |bad p =>
  rintro e w2 ⟨rfl,aa⟩;refine Z18 ?_;intro aF d5 aM;have HT:=U10 aa;clear aa;go_wp2_with fail;refine U11 (v:=.tuple #[.bool false,fv 3 (a+p)]) (by simp[results,results242,go_sem,aF,ag]) rfl ⟨rfl,FQ R ov,?_⟩;have aa:St (FQ R ov) (FQ R ov) w w2:=(hg.o.drewN _).st.trans HT.o;exact St.auto
 |go n t over =>
  obtain rfl:=HO.o n t over rfl;rintro e w2 ⟨rfl,aH,hr,aa⟩;refine Z18 ?_;intro aF d5 aM;refine Z163 ?_;intro HR HT;have fg:¬FQ R aH (w.heap.size+1):=λ hF=>by
   rcases HT.o.own _ hF with hF|hF
   have:=HS.o.own_lt hF;omega
   simp at hF;omega
  clear hr aa;go_wp2_with fail;refine U11 (v:=.tuple #[.bool false,f0]) (by simp[results,results242,go_sem,aF,ag]) rfl ⟨rfl,aH,RdQ.auto HR.o,?_⟩;have aa:St (FQ R ov) (FQ R aH) w w2:=(hg.o.drewN _).st.trans HT.o;exact St.auto
namespace Pl
def V52(c:UInt8):Bool:=c.toNat==32 || c.toNat==9 || c.toNat==13 || c.toNat==10
def V41(l:List UInt8):SR:=match V2p true l 1 with
 |.ok n => .go n [] false
 |.bad _ p => .bad p
def V38(T:Nat->UInt8×UInt8)(q:UInt8)(l:List UInt8):SR :=
 match V1k q l with
 |some x=>x
 | none=>match l with
  |[] => .bad 0
  | c::r=>if c.toNat==92 then (match r with
      |[]=>V3m T (c::r)
      |d::_=>if V52 d then V41 (c::r) else V3m T (c::r)) else V33 (c::r)
theorem Oex(f:Nat):∀(b:Bool)(l:List UInt8)(k p:Nat),Ox f b l=.bad k p->k=3:=by
 induction f with
 |zero=>intro b l k p h;simp[Ox]at h
 |succ f ih =>
  intro b l k p h;unfold Ox at h
  split at h;cases h
  rename_i c r hd
  split at h
  rename_i k' p' hf
  have:=V46 _ _ _ hf;cases h;exact this.1
  split at h;cases h;rfl
  cases h
  split at h
  rename_i k' p' hf
  cases h;exact ih _ _ _ _ hf
  cases h
theorem Oj7(f:Nat):∀(b:Bool)(l:List UInt8)(m:Nat),Ox f b l=.ok m->m<=l.length:=by
 induction f with
 |zero=>intro b l m h;simp[Ox]at h;omega
 |succ f ih =>
  intro b l m h;have hb:=O2y l;unfold Ox at h
  split at h;cases h;exact hb
  rename_i c r hd
  have hl:(c::r).length=l.length-blanks l:=by rw[<-hd,U16]
  split at h;cases h
  split at h;cases h
  cases h;exact hb
  rename_i n hn
  have:=V3q _ _ hn
  split at h;cases h
  rename_i m' hm
  have:=ih _ _ _ hm;cases h;rw[U16]at this;omega
theorem V7o(l:List UInt8)(a:Nat)(h:a<l.length):V2p true l (a+1)=match V41 (l.drop a) with
    |.go n _ _ => .ok (a+n)
    |.bad p => .bad 3 (a+p):=by
 have hd:(l.drop a).drop 1=l.drop (a+1):=by rw[U2j]
 unfold V41 V2p;rw[hd];cases hf:Ox ((l.drop (a+1)).length+1) true (l.drop (a+1)) with
 |ok m=>simp only;congr 1;omega
 |bad k p =>
  have:=Oex _ _ _ _ _ hf;subst this;simp only;congr 1;omega
theorem V4y(l:List UInt8)(n:Nat)(t:List UInt8)(o:Bool)(h0:0<l.length)(h:V41 l=.go n t o):t.length<=n/\1<=n/\n<=l.length/\o=false/\t=[]:=by
 unfold V41 V2p at h
 split at h
 rename_i m hm
 split at hm;cases hm
 rename_i m' Mn
 have:=Oj7 _ _ _ _ Mn;rw[U16]at this;cases hm;cases h;exact⟨Yb,Ya,Ya,rfl,rfl⟩
 cases h
end Pl
theorem Obd(c:UInt8):(bs ⟨#[32,9,13,10]⟩).contains c=V52 c:=by
 have h:∀n:Fin 256,(bs ⟨#[32,9,13,10]⟩).contains (UInt8.ofNat n.val)=V52 (UInt8.ofNat n.val):=Yg
 exact J40
theorem Ody(s:ByteArray)(a:Nat)(h1:a+1<s.size):∃rest,s.extract (a+1) s.size=rest/\¬rest.toList=[]/\rest.toList.isEmpty=false/\(0:Int)<(rest.size:Int)/\∃h0:0<rest.size,rest[0]=s[a+1]:=by
 refine⟨_,rfl,?_⟩;have hb:=O4 s (a+1);have hz:(s.extract (a+1) s.size).size=s.size-(a+1):=Yb
 generalize s.extract (a+1) s.size=rest at hb hz⊢;have h0:0<rest.size:=Ya
 have a8:¬rest.toList=[]:=λ e=>by
  rw[U21]at e;have h2:=O0 rest;rw[show bs rest=[] from e]at h2;simp at h2;omega
 refine⟨a8,by simpa using a8,Ya,h0,?_⟩;have e1:=O8 rest 0 h0;have e2:=O8 s (a+1) h1;exact J41
theorem O5h(w:World)(R:Nat)(s:ByteArray)(a:Nat)(q:UInt8)(out:List UInt8)(ov:Value)(h:RdQ w R s a q out ov)(a9:a<s.size)(hs:s.size<=20000000)(ho:out.length<=a)(X:Pl.SR)(hC:V1k q ((bs s).drop a)=some X):Calls prog 251 #[.agg #[.pointer (some ⟨R,0,none⟩)]] w (O19 R s a q out ov w X):=by
 have HC:=U10 hC.symm;clear hC;have hR:=h.lt;have HS:=U10 h;clear h;cases X with
 |bad p =>
  go_enter func251,ntmps251;go_wp2_with fail;refine Z117 ?_;rw[<-HC.o];refine Z86 ?_;intro w2 g1 aF d5 aM;refine Z128 ?_;intro dQ dx;go_wp2_with fail
  go_region
  go_wp2_with fail;exact U11 (v:=.tuple #[.bool false,fv 3 (a+p)]) (by simp[results,results251,go_sem,aF,dQ,dx]) rfl ⟨rfl,FQ R ov,St.auto⟩
 |go n t over =>
  go_enter func251,ntmps251;go_wp2_with fail;refine Z117 ?_;rw[<-HC.o];rintro e w2 ⟨rfl,aH,hr,aa⟩;refine Z219 ?_;intro hu;have aM:=aa.size;simp at aM;obtain⟨aF,d5⟩:=hu;have HR:=U10 hr;have HT:=U10 aa;have fg:¬FQ R aH (w.heap.size+1):=λ hF=>by
   rcases HT.o.own _ hF with hF|hF
   have:=HS.o.own_lt hF;omega
   simp at hF;omega
  clear hr aa;refine Z128 ?_;intro dQ dx;go_wp2_with fail
  go_region
  go_wp2_with fail;refine U11 (v:=.tuple #[.bool over,f0]) (by simp[results,results251,go_sem,aF,dQ,dx]) rfl ⟨rfl,aH,RdQ.auto HR.o,?_⟩;exact J35
theorem O5i(w:World)(R:Nat)(s:ByteArray)(a:Nat)(q:UInt8)(out:List UInt8)(ov:Value)(h:RdQ w R s a q out ov)(a9:a<s.size)(hs:s.size<=20000000)(ho:out.length<=a)(hC:V1k q ((bs s).drop a)=none)(he:(s[a].toNat==92)=false):Calls prog 251 #[.agg #[.pointer (some ⟨R,0,none⟩)]] w (O19 R s a q out ov w (V33 ((bs s).drop a))):=by
 have HC:=U10 hC;clear hC;obtain⟨b1,b2⟩:=V1u _ 92 _ he;clear he;refine Z243 ?_;intro X hX HX;clear hX;have hR:=h.lt;have HS:=U10 h;clear h;go_enter func251,ntmps251;go_wp2_with fail;refine Z309 ?_;intro w1 g1 ag au az hg iT;have c0:w1.cell? R=some (.string s):=iT.o.cells.1;have c1:w1.cell? ⟨R,1,none⟩=some (.int .i64 a):=iT.o.cells.2.1;have my:R<w1.heap.size:=Ya;refine Z170 ?_;intro dQ dx;go_wp2_with fail
 go_quiet (fail)
 go_wp2_with fail;cases X with
 |bad p =>
  refine Z236 ?_;rw[<-HX.o];rintro e w2 ⟨rfl,F',aa⟩;refine Z18 ?_;intro aF d5 aM;have HT:=U10 aa;clear aa;go_wp2_with fail;refine U11 (v:=.tuple #[.bool false,fv 3 (a+p)]) (by simp[results,results251,go_sem,aF,ag,dQ,dx]) rfl ⟨rfl,F',?_⟩;exact J35
 |go n t over =>
  refine Z236 ?_;rw[<-HX.o];rintro e w2 ⟨rfl,aH,hr,aa⟩;refine Z18 ?_;intro aF d5 aM;refine Z163 ?_;intro HR HT;have fg:¬FQ R aH (w.heap.size+1):=λ hF=>by
   rcases HT.o.own _ hF with hF|hF
   have:=HS.o.own_lt hF;omega
   simp at hF;omega
  clear hr aa;go_wp2_with fail;refine U11 (v:=.tuple #[.bool over,f0]) (by simp[results,results251,go_sem,aF,ag,dQ,dx]) rfl ⟨rfl,aH,RdQ.auto HR.o,?_⟩;exact J35
theorem O6l(w:World)(R:Nat)(s:ByteArray)(a:Nat)(q:UInt8)(out:List UInt8)(ov:Value)(h:RdQ w R s a q out ov)(a9:a<s.size)(hs:s.size<=20000000)(ho:out.length<=a)(hC:V1k q ((bs s).drop a)=none)(he:(s[a].toNat==92)=true)(h1:a+1<s.size)(hd:V52 (s[a+1]'h1)=true):Calls prog 251 #[.agg #[.pointer (some ⟨R,0,none⟩)]] w (O19 R s a q out ov w (V41 ((bs s).drop a))):=by
 have HC:=U10 hC;clear hC;obtain⟨b1,b2⟩:=V1u _ 92 _ he;have hX:=V7o (bs s) a (by rw[O0];exact a9);have kz:∀n t o,V41 ((bs s).drop a)=.go n t o->o=false/\t=[]:=λ n t o hh=>by
  have:=V4y _ n t o (by rw[U16,O0];omega) hh;exact⟨this.2.2.2.1,this.2.2.2.2⟩
 obtain⟨sr,cR⟩:∃sr,sr=V41 ((bs s).drop a):=⟨_,rfl⟩
 rw[<-cR]at hX kz⊢;have HX:=U10 hX;have HO:=U10 kz;clear cR kz;have HD:=U10 hd;clear he hX hd;refine Z263 ?_;intro wa;refine Z126 ?_;intro ea eb ec;have hR:=h.lt;have HS:=U10 h;clear h;go_enter func251,ntmps251;go_wp2_with fail;refine Z309 ?_;intro w1 g1 ag au az hg iT;have c0:w1.cell? R=some (.string s):=iT.o.cells.1;have c1:w1.cell? ⟨R,1,none⟩=some (.int .i64 a):=iT.o.cells.2.1;have my:R<w1.heap.size:=Ya
 refine Z170 ?_;intro dQ dx;go_wp2_with fail
 go_quiet (fail)
 go_wp2_with fail
 go_quiet (fail)
 obtain⟨rest,aG,r1,r2,r3,r0,r4⟩:=Ody s a h1;rw[aG];have R4:=U10 r4;have pi:Hid ((bs ⟨#[32,9,13,10]⟩).contains (rest[0]'r0)=true):=U10 (by rw[Obd,R4.o];exact HD.o);clear r4 aG;go_wp2_with (go_at_call 85;refine (O_s ⟨#[32,9,13,10]⟩ _ true pi.o _).mono ?_;rintro e w3 ⟨⟨i,rfl,hi⟩,rfl⟩;have fh:decide (i >= 0)=true:=hi);refine (Om3 _ R s a q out ov (RdQ.auto iT.o) a9 hs).mono ?_;rw[HX.o];cases sr with
 |bad p =>
  exact J176
 |go n t over =>
  obtain⟨rfl,rfl⟩:=HO.o n t over rfl;rintro e w2 ⟨rfl,_,hr,aa⟩;refine Z18 ?_;intro aF d5 aM;refine Z163 ?_;intro HR HT;have fg:¬FQ R ov (w.heap.size+1):=λ hF=>by have:=HS.o.own_lt hF;omega
  clear hr aa;go_wp2_with fail;refine U11 (v:=.tuple #[.bool false,f0]) (by simp[results,results251,go_sem,aF,ag,dQ,dx]) rfl ⟨rfl,ov,by rw[U3j];exact RdQ.auto HR.o,?_⟩;exact J43
theorem O3r(w:World)(R:Nat)(s:ByteArray)(a:Nat)(q:UInt8)(out:List UInt8)(ov:Value)(h:RdQ w R s a q out ov)(a9:a<s.size)(hs:s.size<=20000000)(ho:out.length<=a)(hC:V1k q ((bs s).drop a)=none)(T:Nat->UInt8×UInt8)(hQ:QW T w)(he:(s[a].toNat==92)=true)(hd:∀h1:a+1<s.size,V52 (s[a+1]'h1)=false):Calls prog 251 #[.agg #[.pointer (some ⟨R,0,none⟩)]] w (O19 R s a q out ov w (V3m T ((bs s).drop a))):=by
 have HC:=U10 hC;clear hC;refine Z218 ?_;intro b1 b2 sr cR HO HX hX bV;have HQ:=U10 hQ;have HD:=U10 hd;clear he hX hd bV cR hQ;refine Z263 ?_;intro wa;refine Z126 ?_;intro ea eb ec;have hR:=h.lt;have HS:=U10 h;clear h;go_enter func251,ntmps251;go_wp2_with fail;refine Z309 ?_;intro w1 g1 ag au az hg iT;have c0:w1.cell? R=some (.string s):=iT.o.cells.1;have c1:w1.cell? ⟨R,1,none⟩=some (.int .i64 a):=iT.o.cells.2.1;have my:R<w1.heap.size:=Ya;refine Z170 ?_;intro dQ dx;go_wp2_with fail
 go_quiet (fail)
 go_wp2_with fail
 go_quiet (fail)
 have yy:=hg.o;by_cases h1:a+1<s.size
 ·obtain⟨rest,aG,r1,r2,r3,r0,r4⟩:=Ody s a h1;rw[aG];have R4:=U10 r4;have pi:Hid ((bs ⟨#[32,9,13,10]⟩).contains (rest[0]'r0)=false):=U10 (by rw[Obd,R4.o];exact HD.o h1);clear r4 aG;go_wp2_with (go_at_call 85;refine (O_s ⟨#[32,9,13,10]⟩ _ false pi.o _).mono ?_;rintro e w3 ⟨⟨i,rfl,hi⟩,rfl⟩;have fh:decide (i >= 0)=false:=hi);exact J44
 have aG:s.extract (a+1) s.size=⟨#[]⟩:=by
  apply U30;apply U2q.1;rw[show (s.extract (a+1) s.size).data.toList=bs (s.extract (a+1) s.size) from rfl,O4,U1t (by rw[O0];omega)]
 rw[aG];go_wp2_with fail;exact J44
theorem O6m(w:World)(R:Nat)(s:ByteArray)(a:Nat)(q:UInt8)(out:List UInt8)(ov:Value)(h:RdQ w R s a q out ov)(a9:a<s.size)(hs:s.size<=20000000)(ho:out.length<=a)(T:Nat->UInt8×UInt8)(hQ:QW T w):Calls prog 251 #[.agg #[.pointer (some ⟨R,0,none⟩)]] w (O19 R s a q out ov w (V38 T q ((bs s).drop a))):=by
 unfold V38;cases hC:V1k q ((bs s).drop a) with
 |some X=>exact O5h w R s a q out ov h a9 hs ho X hC
 |none =>
  have hd:=O8 s a a9;simp only
  split;rename_i e;rw[e]at hd;cases hd
  rename_i c r e
  rw[e]at hd;simp only[U27]at hd;obtain⟨rfl,hr⟩:=hd
  split
  rename_i j7
  split
  rename_i e2
  rw[<-e];refine O3r w R s a q out ov h a9 hs ho hC T hQ j7 (λ h1=>?_);have:=O8 s (a+1) h1;rw[<-hr]at this;cases this
  rename_i d r2 e2
  have tY:a+1<s.size:=by
   have h2:=U2w List.length hr;simp only[U1d,U16,O0]at h2;omega
  have pj:=O8 s (a+1) tY;rw[<-hr]at pj;simp only[U27]at pj
  split
  rename_i hf
  rw[<-e];exact O6l w R s a q out ov h a9 hs ho hC j7 tY (by rw[<-pj.1];exact hf)
  rename_i hf
  rw[<-e];refine O3r w R s a q out ov h a9 hs ho hC T hQ j7 (λ h1=>?_);rw[<-pj.1];simpa using hf
  rename_i j7
  rw[<-e];exact O5i w R s a q out ov h a9 hs ho hC (by simpa using j7)
