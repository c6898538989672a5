/- The proof's part 14. -/
import Derived.Test.YtnkgknbdaiakgaaGreatDoorP06
import Derived.Test.YtnkgknbdaiakgaaGreatDoorP08
import Derived.Test.YtnkgknbdaiakgaaGreatDoorP09
import Derived.Test.YtnkgknbdaiakgaaGreatDoorP13
set_option maxHeartbeats 16000000
set_option linter.all false
set_option maxRecDepth 100000
namespace Go.Proofs.YtnkgknbdaiakgaaGreatDoor
open Pl Go.Proofs.Tryz Go.RowKit Go.Joins
theorem O9o(c:UInt8):(0<=Lib.indexByte [32,9] c) ↔ V2o c=true:=by
 by_cases h1:c=32;subst h1;decide
 by_cases h2:c=9;subst h2;decide
 have e1:¬c.toNat=32:=λ e=>h1 (by rw[<-U1b,e];rfl)
 have e2:¬c.toNat=9:=λ e=>h2 (by rw[<-U1b,e];rfl)
 simp[V2o,e1,e2];have e3:((32:UInt8)==c)=false:=by simp;exact λ e=>h1 e.symm
 have e4:((9:UInt8)==c)=false:=by simp;exact λ e=>h2 e.symm
 simp[Lib.indexByte,e3,e4]
def Vad(R:Nat)(w:World):Nat:=(intOf ((w.cell? ⟨R,1,none⟩).getD undef)).toNat
theorem O49{w R s a q out ov}(h:RdQ w R s a q out ov):Vad R w=a:=by
 unfold Vad;rw[h.cells.2.1];simp[intOf]
theorem O3s(c:UInt8)(b:Bool)(h:V2o c=b)(w:World) :
    Calls prog 85 #[.string ⟨#[32,9]⟩,.int .u8 c.toNat] w λ e w'=>e = .returned (.int .i64 (Lib.indexByte [32,9] c))/\w=w':=by
 refine (strings_IndexByte _ _ w).mono ?_;refine Z48 ?_;refine⟨O2n ?_,rfl⟩;rw[show (⟨#[32,9]⟩:ByteArray).data.toList=[32,9] from rfl];congr 1;simp
theorem Oaj(l:List UInt8)(m:Nat)(h:m<l.length)(hb:V2o (l[m]'h)=true):V7 l m=V7 l (m+1):=by
 unfold V7 Pl.blanks;rw[Uw h,Uo,Ua hb];simp;omega
theorem O5j(l:List UInt8)(m:Nat)(h:∀h:m<l.length,V2o (l[m]'h)=false):V7 l m=m:=by
 unfold V7 Pl.blanks;by_cases hm:m<l.length;rw[Uw hm,Uo,Ud (by rw[h hm];simp)];rfl
 rw[Ut (by omega)];rfl
theorem Oll(w:World)(R:Nat)(s:ByteArray)(a:Nat)(q:UInt8)(out:List UInt8)(ov:Value)(h:RdQ w R s a q out ov)
    (aa:a<s.size)(hs:s.size<=20000000) :
    Calls prog 252 #[.pointer (some ⟨R,0,none⟩)] w λ e w'=>match V2t true (bs s) (a+1) with
     |.ok n=>e = .returned f0/\n<=s.size/\RdQ w' R s n q out ov/\St (FQ R ov) (FQ R ov) w w'
     |.bad c p=>e = .returned (fv c p)/\St (FQ R ov) (FQ R ov) w w':=by
 obtain⟨X,hX⟩:∃X:Ending->World->Prop,X=λ e w'=>match V2t true (bs s) (a+1) with
     |.ok n=>e = .returned f0/\n<=s.size/\RdQ w' R s n q out ov/\St (FQ R ov) (FQ R ov) w w'
     |.bad c p=>e = .returned (fv c p)/\St (FQ R ov) (FQ R ov) w w':=⟨_,rfl⟩
 rw[<-hX];have HX:=U0 hX;obtain⟨c0,c1,c2,c3,fz⟩:=h.cells;have DX:=fz 1;have hR:=h.lt;have Gj:¬w.heap.size=R:=by omega
 have HS:=U0 h;clear fz h hX c3;go_enter func252,ntmps252;go_wp2_with fail
 go_loopw [3] (λ l wr=>∃(n j:Nat),l = .int .i64 j/\n<=s.size/\j<=n/\V2t (j==0) (bs s) n=V2t true (bs s) (a+1)/\RdQ wr R s n q out ov/\St (FQ R ov) (FQ R ov) w wr/\w.heap.size+1<=wr.heap.size /\
     wr.cell? ⟨w.heap.size,0,none⟩=some (.int .i64 0)/\wr.cell? ⟨w.heap.size,1,none⟩=some (.int .i64 0)/\wr.frozen? ⟨w.heap.size,0,none⟩=false/\wr.frozen? ⟨w.heap.size,1,none⟩=false)
  (λ _ wr=>s.size-Vad R wr)
 case atStart =>
  have e:(↑a+1:Int)=((a+1:Nat):Int):=by omega
  refine⟨a+1,0,rfl,by omega,by omega,rfl,?_,?_,by simp[World.setCell],?_,?_,?_,?_⟩;rw[e];exact (HS.o.setAt (a+1)).alloc _
  ·exact ((St.refl _ _).setCell (.inl (.inl rfl)) _).alloc _
  all_goals simp[go_sem]
 case round =>
  obtain⟨n,j,rfl,hn,hj,hF,hr,a9,hz,m0,m1,m2,m3⟩:=hrel;have aN:=V8 (bs s) n (by rw[O0];exact hn);rw[O0]at aN;have HF:=U0 hF;refine Z161 ?_;intro HR HT;have Sv:=hr.lt;clear hF hr a9 c0 c1 c2 DX;go_wp2_with fail;obtain⟨wo,rfl⟩:∃wo:World,wo=wr:=⟨_,rfl⟩
  go_loopw [13] (λ _ w2=>∃m:Nat,n<=m/\m<=V7 (bs s) n/\V7 (bs s) m=V7 (bs s) n/\RdQ w2 R s m q out ov/\St (FQ R ov) (FQ R ov) wo w2) (λ _ w2=>s.size-Vad R w2)
  case atStart=>exact⟨n,by omega,by omega,rfl,HR.o,St.refl _ _⟩
  case round =>
   obtain⟨m,h1,h2,h3,d9,aR⟩:=hrel;obtain⟨d0,d1,d2,d3,dz⟩:=d9.cells;have D':=dz 1;have xj:=d9.lt;have jt:=O49 d9;have aP:=U0 d9;have jr:=U0 aR;have H3:=U0 h3;have E0:=U0 jt;clear d9 aR h3 dz d3 jt;by_cases hm:m<s.size
   ·have ky:decide (m<s.size)=true:=by simp;omega
    cases hb:V2o s[m]
    ·have hI:decide (0<=Lib.indexByte [32,9] s[m])=false:=by
      rw[decide_eq_false_iff_not,O9o,hb];simp
     have HB:=U0 hb;clear hb;go_wp2_with fail
     go_quiet ((go_at_call 85;exact O5r (O3s _ false HB.o _) ⟨_,rfl⟩))
     have sL:m=V7 (bs s) n:=by
      rw[<-H3.o];exact (O5j (bs s) m (λ _=>HB.o)).symm
     obtain⟨S1,S2,S3,S4,S5⟩:=V5o (j==0) (bs s) n m (by rw[O0];exact hn) sL;have zR:((m:Int)==(s.size:Int))=false:=by simp;omega
     have iG:m<(bs s).length:=by rw[O0];exact hm
     have Bg:=S2 iG;have Bh:=S3 iG;have Bi:=S4 iG;have Bj:=S5 iG;clear S1 S2 S3 S4 S5 sL;have hu:=jr.o.use w.heap.size (by omega) (λ hF=>by have:=HS.o.own_lt hF;omega);have n0:wr.cell? ⟨w.heap.size,0,none⟩=some (.int .i64 0):=(hu.1 0).trans m0;have n1:wr.cell? ⟨w.heap.size,1,none⟩=some (.int .i64 0):=(hu.1 1).trans m1;have n2:wr.frozen? ⟨w.heap.size,0,none⟩=false:=(hu.2 0).trans m2;have n3:wr.frozen? ⟨w.heap.size,1,none⟩=false:=(hu.2 1).trans m3;have Gk:=jr.o.size;clear hu m0 m1 m2 m3;go_wp2_with fail
     go_quiet (fail)
     go_wp2_with fail;cases j7:Pl.feed ((bs s).drop m) with
     |bad c p =>
      obtain⟨rfl,rfl⟩:=V48 _ _ _ j7;have HE:=U0 ((Bi _ _ j7).symm.trans HF.o);have DA:=U0 j7;clear j7 Bg Bh Bi Bj;refine Z78 ?_;intro w1 g1 ah ar di nH ay;have q0:w1.cell? ⟨w.heap.size,0,none⟩=some (.int .i64 0):=(ah _ _ (by simp;omega)).trans n0;have q1:w1.cell? ⟨w.heap.size,1,none⟩=some (.int .i64 0):=(ah _ _ (by simp;omega)).trans n1;have q2:w1.frozen? ⟨w.heap.size,0,none⟩=false:=(ar _ _ (by simp;omega)).trans n2;have q3:w1.frozen? ⟨w.heap.size,1,none⟩=false:=(ar _ _ (by simp;omega)).trans n3;refine Z121 ?_;intro fJ x0 x1 x2 x3 xz AA uu AB aL;clear ah ar n0 n1 n2 n3 fJ x3 xz d0 d1 d2 D';go_wp2_with fail;refine U1 (v:=fv 3 (m+1)) (by simp[results,results252,go_sem,q0,q1,di,nH]) rfl ?_;exact J190
     |ok k =>
      cases k with
      |zero =>
       cases zS:(j==0)
       ·have HE:=U0 ((Bh j7 zS).symm.trans HF.o);have DA:=U0 j7;obtain⟨b1,b2⟩:=V1o _ 0 _ zS;clear j7 Bg Bh Bi Bj;refine Z78 ?_;intro w1 g1 ah ar di nH ay;have q0:w1.cell? ⟨w.heap.size,0,none⟩=some (.int .i64 0):=(ah _ _ (by simp;omega)).trans n0;have q1:w1.cell? ⟨w.heap.size,1,none⟩=some (.int .i64 0):=(ah _ _ (by simp;omega)).trans n1;have q2:w1.frozen? ⟨w.heap.size,0,none⟩=false:=(ar _ _ (by simp;omega)).trans n2;have q3:w1.frozen? ⟨w.heap.size,1,none⟩=false:=(ar _ _ (by simp;omega)).trans n3;refine Z121 ?_;intro fJ x0 x1 x2 x3 xz AA uu AB aL;clear ah ar n0 n1 n2 n3 fJ x3 xz d0 d1 d2 D';go_wp2_with fail;refine U1 (v:=f0) (by simp[results,results252,go_sem,q0,q1,di,nH]) rfl ?_;rw[HX.o,<-HE.o];have a9:=HT.o;have aR:=jr.o;have eG:¬FQ R ov w.heap.size:=λ hF=>by have:=HS.o.own_lt hF;omega
        refine⟨rfl,?_,?_,?_⟩;omega;exact RdQ.auto aL.o
        exact St.auto
       have HE:=U0 ((Bg j7 zS).symm.trans HF.o);have DA:=U0 j7;obtain⟨b1,b2⟩:=V1o _ 0 _ zS;clear j7 Bg Bh Bi Bj;refine Z78 ?_;intro w1 g1 ah ar di nH ay;have q0:w1.cell? ⟨w.heap.size,0,none⟩=some (.int .i64 0):=(ah _ _ (by simp;omega)).trans n0;have q1:w1.cell? ⟨w.heap.size,1,none⟩=some (.int .i64 0):=(ah _ _ (by simp;omega)).trans n1;have q2:w1.frozen? ⟨w.heap.size,0,none⟩=false:=(ar _ _ (by simp;omega)).trans n2;have q3:w1.frozen? ⟨w.heap.size,1,none⟩=false:=(ar _ _ (by simp;omega)).trans n3;refine Z121 ?_;intro fJ x0 x1 x2 x3 xz AA uu AB aL;clear ah ar n0 n1 n2 n3 fJ x3 xz d0 d1 d2 D';go_wp2_with fail;refine (O1d _ m (by omega) _).mono ?_;refine Z85 ?_;intro w4 g4 mW nV mX;have r0:w4.cell? ⟨w.heap.size,0,none⟩=some (.int .i64 0):=by rw[mW _ _ (by simp;omega)];simp[go_sem,q0,di,nH]
       have r1:w4.cell? ⟨w.heap.size,1,none⟩=some (.int .i64 0):=by rw[mW _ _ (by simp;omega)];simp[go_sem,q1,di,nH]
       have r2:w4.frozen? ⟨w.heap.size,0,none⟩=false:=by rw[nV _ _ (by simp;omega)];simp[go_sem,q2,di,nH]
       have r3:w4.frozen? ⟨w.heap.size,1,none⟩=false:=by rw[nV _ _ (by simp;omega)];simp[go_sem,q3,di,nH]
       clear mW nV;go_wp2_with fail;refine U1 (v:=fv 3 m) (by simp[results,results252,go_sem,r0,r1]) rfl ?_;exact J190
      |succ k =>
       have HE:=U0 ((Bj _ j7).symm.trans HF.o);have DA:=U0 j7;have pi:=V3s _ _ j7;rw[U3,O0]at pi;have dw:((k:Int)+1==0)=false:=by simp;omega
       clear j7 Bg Bh Bi Bj;refine Z78 ?_;intro w1 g1 ah ar di nH ay;have q0:w1.cell? ⟨w.heap.size,0,none⟩=some (.int .i64 0):=(ah _ _ (by simp;omega)).trans n0;have q1:w1.cell? ⟨w.heap.size,1,none⟩=some (.int .i64 0):=(ah _ _ (by simp;omega)).trans n1;have q2:w1.frozen? ⟨w.heap.size,0,none⟩=false:=(ar _ _ (by simp;omega)).trans n2;have q3:w1.frozen? ⟨w.heap.size,1,none⟩=false:=(ar _ _ (by simp;omega)).trans n3;refine Z121 ?_;intro fJ x0 x1 x2 x3 xz AA uu AB aL;clear ah ar n0 n1 n2 n3 fJ x3 xz d0 d1 d2 D'
       set_option maxRecDepth 100000 in
       go_wp2_with fail;have fw:(↑m+(↑k+1):Int)=((m+(k+1):Nat):Int):=by omega
       go_roundw
       case rel =>
        rw[fw];refine⟨m+(k+1),j+1,by go_num,by omega,by omega,?_,(aL.o.setAt (m+(k+1))).alloc _,?_,by simp[World.setCell];omega,?_,?_,?_,?_⟩;rw[show ((j+1)==0)=false from by simp,HE.o]
        ·exact ((((HT.o.trans jr.o).gr (((Gr.refl wr).drewN _).trans g1)).setCell (.inl (.inl rfl)) _).alloc _)
        all_goals simp[go_sem,q0,q1,q2,q3,di,nH,Gj]
       case measure =>
        rw[fw,O49 ((aL.o.setAt (m+(k+1))).alloc _),O49 HR.o];omega
    have hI:decide (0<=Lib.indexByte [32,9] s[m])=true:=by
     rw[decide_eq_true_iff,O9o,hb]
    have HB:=U0 hb;clear hb;go_wp2_with fail
    go_quiet ((go_at_call 85;exact O5r (O3s _ true HB.o _) ⟨_,rfl⟩))
    go_wp2_with fail;have e1:(↑m+1:Int)=((m+1:Nat):Int):=by omega
    have OB:=Oaj (bs s) m (by rw[O0];exact hm) HB.o;have ry:=V8 (bs s) (m+1) (by rw[O0];omega);have h3:=H3.o;have uQ:RdQ ((wr.setCell ⟨R,1,none⟩ (.int .i64 ((m+1:Nat):Int))).drewN nq) R s (m+1) q out ov:=(aP.o.setAt (m+1)).drewN nq
    go_roundw
    case rel =>
     rw[e1];refine⟨m+1,by omega,by omega,by rw[<-OB,h3],?_,?_⟩;first|exact uQ|exact (aP.o.drewN nq).setAt (m+1)
     exact St.trans jr.o (by first|exact ((St.refl _ _).setCell (.inl (.inl rfl)) _).drewN _|exact ((St.refl _ _).drewN _).setCell (.inl (.inl rfl)) _)
    case measure =>
     rw[e1,E0.o]
     first|rw[O49 uQ]|rw[O49 ((aP.o.drewN nq).setAt (m+1))]
     omega
   have ky:decide (m<s.size)=false:=by simp;omega
   have sL:m=V7 (bs s) n:=by
    rw[<-H3.o];exact (O5j (bs s) m (λ h=>absurd h (by rw[O0];exact hm))).symm
   obtain⟨S1,S2,S3,S4,S5⟩:=V5o (j==0) (bs s) n m (by rw[O0];exact hn) sL;have HE:=U0 ((S1 (by rw[O0];omega)).symm.trans HF.o);have zR:((m:Int)==(s.size:Int))=true:=by simp;omega
   clear S1 S2 S3 S4 S5 sL;have hu:=jr.o.use w.heap.size (by omega) (λ hF=>by have:=HS.o.own_lt hF;omega);have n0:wr.cell? ⟨w.heap.size,0,none⟩=some (.int .i64 0):=(hu.1 0).trans m0;have n1:wr.cell? ⟨w.heap.size,1,none⟩=some (.int .i64 0):=(hu.1 1).trans m1;have n2:wr.frozen? ⟨w.heap.size,0,none⟩=false:=(hu.2 0).trans m2;have n3:wr.frozen? ⟨w.heap.size,1,none⟩=false:=(hu.2 1).trans m3;have Gk:=jr.o.size;clear hu m0 m1 m2 m3;go_wp2_with fail
   go_quiet (fail)
   go_wp2_with fail
   go_quiet (fail)
   go_wp2_with fail;refine U1 (v:=f0) (by simp[results,results252,go_sem,n0,n1]) rfl ?_;rw[HX.o,<-HE.o];have a9:=HT.o;have aR:=jr.o;have eG:¬FQ R ov w.heap.size:=λ hF=>by have:=HS.o.own_lt hF;omega
   refine⟨rfl,?_,?_,?_⟩;omega;exact RdQ.auto aP.o
   exact St.auto
namespace Pl
def V1u:List UInt8->Nat->Nat
 |_,0=>0
 |[],_+1=>0
 |c::l,d+1=>if V3j c then V1u l d+1 else 0
theorem V5v(l:List UInt8)(d:Nat):V1u l d<=d/\V1u l d<=l.length:=by
 induction l generalizing d with
 |nil=>cases d <;> simp[V1u]
 |cons c l ih =>
  cases d with
  |zero=>simp[V1u]
  |succ d=>have:=ih d;simp only[V1u];split <;> simp <;> omega
theorem O9p(l:List UInt8)(d j:Nat)(hj:j<=V1u l d):V1u l d=j+V1u (l.drop j) (d-j):=by
 induction l generalizing d j with
 |nil=>cases d <;> simp[V1u]at hj <;> subst hj <;> simp[V1u]
 |cons c l ih =>
  cases j with
  |zero=>simp
  |succ j =>
   cases d with
   |zero=>simp[V1u]at hj
   |succ d =>
    simp only[V1u]at hj⊢
    split at hj
    rename_i hc
    rw[Ua hc,ih d j (by omega)];simp only[List.drop_succ_cons,Nat.add_sub_add_right];omega
    omega
theorem V7k(l:List UInt8)(d:Nat)(h:V1u l d=d):∀c∈l.take d,V3j c=true:=by
 induction l generalizing d with
 |nil=>simp
 |cons c l ih =>
  cases d with
  |zero=>simp
  |succ d =>
   simp only[V1u]at h
   split at h
   rename_i hc
   intro x hx;rw[U2q,U1k]at hx;rcases hx with rfl|hx
   exact hc
   exact ih d (by omega) x hx
   omega
def V15(l:List UInt8)(p d:Nat):V2x Nat :=
 if V1u (l.drop p) d<d then .bad 3 (p+V1u (l.drop p) d)
 else if Lib.validRune (V41 ((l.drop p).take d)) then .ok (V41 ((l.drop p).take d)) else .bad 3 p
def V21(n:Nat):List UInt8:=(Lib.encodeRuneZ n).map λ x=>x.toNat.toUInt8
theorem V7l(l:List UInt8)(p d j:Nat)(hj:j<=V1u (l.drop p) d)(hd:j<d)(he:l.length<=p+j):V15 l p d = .bad 3 (p+j):=by
 have h1:=O9p _ _ _ hj;have h2:(l.drop p).drop j=[]:=by rw[U16];exact Ut (by omega)
 rw[h2]at h1;have h3:V1u [] (d-j)=0:=by cases (d-j) <;> rfl
 have h4:V1u (l.drop p) d=j:=by omega
 simp[V15,h4,hd]
theorem V6y(l:List UInt8)(p d j:Nat)(hj:j<=V1u (l.drop p) d)(hd:j<d)(c:UInt8)(r:List UInt8)(he:l.drop (p+j)=c::r) :
    (V3j c=true->j+1<=V1u (l.drop p) d)/\(V3j c=false->V15 l p d = .bad 3 (p+j)):=by
 have h1:=O9p _ _ _ hj;rw[U16,he]at h1;obtain⟨k,hk⟩:∃k,d-j=k+1:=⟨d-j-1,by omega⟩
 rw[hk]at h1;simp only[V1u]at h1;constructor;intro hc;rw[Ua hc]at h1;omega
 intro hc;rw[Ud (by simp[hc])]at h1;have h4:V1u (l.drop p) d=j:=by omega
 simp[V15,h4,hd]
end Pl
theorem Ogn(s:ByteArray)(i k:Nat)(h:i<=k)(hk:k<=s.size):bs (s.extract i k)=((bs s).drop i).take (k-i):=by
 simp only[bs,U27]
theorem Oe4(w:World)(R:Nat)(s:ByteArray)(a:Nat)(q:UInt8)(out:List UInt8)(ov:Value)(h:RdQ w R s a q out ov)(hv:EsV w)
    (d:Nat)(hd:d=4\/d=8)(aa:a<s.size)(hs:s.size<=20000000)(ao:out.length<=29000000) :
    Calls prog 244 #[.pointer (some ⟨R,0,none⟩),d] w λ e w'=>match V15 (bs s) (a+2) d with
     |.ok n=>e = .returned f0/\∃aH,RdQ w' R s (a+2+d) q (out++V21 n) aH/\St (FQ R ov) (FQ R aH) w w'
     |.bad c p=>e = .returned (fv c p)/\St (FQ R ov) (FQ R ov) w w':=by
 obtain⟨X,hX⟩:∃X:Ending->World->Prop,X=λ e w'=>match V15 (bs s) (a+2) d with
     |.ok n=>e = .returned f0/\∃aH,RdQ w' R s (a+2+d) q (out++V21 n) aH/\St (FQ R ov) (FQ R aH) w w'
     |.bad c p=>e = .returned (fv c p)/\St (FQ R ov) (FQ R ov) w w':=⟨_,rfl⟩
 rw[<-hX];have HX:=U0 hX;refine Z231 ?_;intro c0 c1 c2 c3 fz hR;have HS:=U0 h;have HV:=U0 hv;have OC:d<=8:=by omega
 have OD:4<=d:=by omega
 clear fz h hX c3 hv hd;go_enter func244,ntmps244;go_wp2_with fail
 go_loopw [6] (λ l wr=>∃j:Nat,l = .int .i64 ((a:Int)+2+j)/\j<=d/\j<=V1u ((bs s).drop (a+2)) d/\Gr w wr/\w.heap.size+1<=wr.heap.size /\
     wr.cell? ⟨w.heap.size,0,none⟩=some (.int .i64 0)/\wr.cell? ⟨w.heap.size,1,none⟩=some (.int .i64 0)/\wr.frozen? ⟨w.heap.size,0,none⟩=false/\wr.frozen? ⟨w.heap.size,1,none⟩=false)
  (λ l _=>a+2+d-(intOf l).toNat)
 case atStart =>
  refine⟨0,by simp,by omega,by omega,(Gr.refl w).alloc _,by simp,?_,?_,?_,?_⟩
  all_goals simp[go_sem]
 case round =>
  obtain⟨j,rfl,hj,Gl,hg,hz,m0,m1,m2,m3⟩:=hrel;have hr:=HS.o.gr hg;obtain⟨d0,d1,d2,d3,dz⟩:=hr.cells;have HR:=U0 hr;have HG:=U0 hg;clear hr hg d3 dz c0 c1 c2;by_cases L8:j<d
  ·by_cases bY:s.size<=a+2+j
   ·have hU:=U0 (V7l (bs s) (a+2) d j Gl L8 (by rw[O0];exact bY));go_wp2_with fail;refine (O1d _ (a+2+j) (by omega) _).mono ?_;rintro e w1 ⟨rfl,g1⟩;obtain⟨ah,ar,ay⟩:=g1.use;have q0:w1.cell? ⟨w.heap.size,0,none⟩=some (.int .i64 0):=(ah _ _ (by omega)).trans m0;have q1:w1.cell? ⟨w.heap.size,1,none⟩=some (.int .i64 0):=(ah _ _ (by omega)).trans m1;have q2:w1.frozen? ⟨w.heap.size,0,none⟩=false:=(ar _ _ (by omega)).trans m2;have q3:w1.frozen? ⟨w.heap.size,1,none⟩=false:=(ar _ _ (by omega)).trans m3;clear ah ar m0 m1 m2 m3;go_wp2_with fail;refine U1 (v:=fv 3 (a+2+j)) (by simp[results,results244,go_sem,q0,q1]) rfl ?_;rw[HX.o,hU.o];have a9:St (FQ R ov) (FQ R ov) w w1:=((HG.o.trans g1)).st;exact⟨rfl,St.auto⟩
   have jw:a+2+j<s.size:=by omega
   obtain⟨u1,u2⟩:=V6y (bs s) (a+2) d j Gl L8 s[a+2+j] _ (O8 s (a+2+j) jw);have ht:bs (s.extract (a+2+j) (a+2+j+1))=[s[a+2+j]]:=by
    rw[Ogn s _ _ (by omega) (by omega),O8 s (a+2+j) jw];simp
   obtain⟨t,nZ⟩:∃t,t=s.extract (a+2+j) (a+2+j+1):=⟨_,rfl⟩
   rw[<-nZ]at ht;go_wp2_with fail;rw[<-nZ];refine (Olo t _ ht _ (HV.o.gr HG.o)).mono ?_;rintro e w1 ⟨g1,nn,vv,rfl,k1,k2⟩;cases hx:V3j s[a+2+j]
   ·obtain⟨T,p,rfl⟩:=k2 hx;have hU:=U0 (u2 hx);clear u1 u2 k1 k2 nZ ht hx;obtain⟨ah,ar,ay⟩:=g1.use;have n0:w1.cell? ⟨w.heap.size,0,none⟩=some (.int .i64 0):=(ah _ _ (by omega)).trans m0;have n1:w1.cell? ⟨w.heap.size,1,none⟩=some (.int .i64 0):=(ah _ _ (by omega)).trans m1;have n2:w1.frozen? ⟨w.heap.size,0,none⟩=false:=(ar _ _ (by omega)).trans m2;have n3:w1.frozen? ⟨w.heap.size,1,none⟩=false:=(ar _ _ (by omega)).trans m3;clear ah ar m0 m1 m2 m3;go_wp2_with fail;refine (O1d _ (a+2+j) (by omega) _).mono ?_;rintro e w2 ⟨rfl,g2⟩;obtain⟨ah,ar,aJ⟩:=g2.use;have q0:w2.cell? ⟨w.heap.size,0,none⟩=some (.int .i64 0):=(ah _ _ (by omega)).trans n0;have q1:w2.cell? ⟨w.heap.size,1,none⟩=some (.int .i64 0):=(ah _ _ (by omega)).trans n1;have q2:w2.frozen? ⟨w.heap.size,0,none⟩=false:=(ar _ _ (by omega)).trans n2;have q3:w2.frozen? ⟨w.heap.size,1,none⟩=false:=(ar _ _ (by omega)).trans n3;clear ah ar n0 n1 n2 n3;go_wp2_with fail;refine U1 (v:=fv 3 (a+2+j)) (by simp[results,results244,go_sem,q0,q1]) rfl ?_;rw[HX.o,hU.o];have a9:St (FQ R ov) (FQ R ov) w w2:=(((HG.o.trans g1)).trans g2).st;exact⟨rfl,St.auto⟩
   obtain rfl:=k1 hx;have AS:=u1 hx;clear u1 u2 k1 k2 nZ ht hx;obtain⟨ah,ar,ay⟩:=g1.use;have n0:w1.cell? ⟨w.heap.size,0,none⟩=some (.int .i64 0):=(ah _ _ (by omega)).trans m0;have n1:w1.cell? ⟨w.heap.size,1,none⟩=some (.int .i64 0):=(ah _ _ (by omega)).trans m1;have n2:w1.frozen? ⟨w.heap.size,0,none⟩=false:=(ar _ _ (by omega)).trans m2;have n3:w1.frozen? ⟨w.heap.size,1,none⟩=false:=(ar _ _ (by omega)).trans m3;clear ah ar m0 m1 m2 m3;go_wp2_with fail;refine⟨⟨j+1,(by first|rfl|(congr 1;omega)),by omega,AS,HG.o.trans g1,by omega,n0,n1,n2,n3⟩,by simp[intOf];omega⟩
  obtain rfl:j=d:=by omega
  have py:=V5v ((bs s).drop (a+2)) j;have fe:V1u ((bs s).drop (a+2)) j=j:=by omega
  have aK:a+2+j<=s.size:=by
   have:=py.2;rw[U3,O0]at this;omega
  have bz:=V7k _ _ fe;have ht:bs (s.extract (a+2) (a+2+j))=((bs s).drop (a+2)).take j:=by
   rw[Ogn s _ _ (by omega) (by omega)];congr 1;omega
  have uR:(s.extract (a+2) (a+2+j)).size=j:=by simp;omega
  have E1:V15 (bs s) (a+2) j=if Lib.validRune (V41 (bs (s.extract (a+2) (a+2+j)))) then .ok (V41 (bs (s.extract (a+2) (a+2+j)))) else .bad 3 (a+2):=by
   rw[ht];simp[V15,fe]
  have Gm:V41 (bs (s.extract (a+2) (a+2+j)))<4294967296:=by
   have h1:=V7i _ 0 bz;rw[<-ht]at h1;have h2:16 ^ (bs (s.extract (a+2) (a+2+j))).length<=16 ^ 8:=U3k (by omega) (by rw[O0,uR];exact OC);have h3:V41 (bs (s.extract (a+2) (a+2+j)))<(0+1)*16 ^ (bs (s.extract (a+2) (a+2+j))).length:=h1;omega
  rw[<-ht]at bz;clear py fe Gl ht;obtain⟨t,nZ⟩:∃t,t=s.extract (a+2) (a+2+j):=⟨_,rfl⟩
  rw[<-nZ]at uR E1 Gm bz;go_wp2_with fail;rw[<-nZ];refine (Olp t (by omega) (by omega) bz _).mono ?_;rintro e w1 ⟨g1,rfl⟩;obtain⟨n,hn⟩:∃n,n=V41 (bs t):=⟨_,rfl⟩
  rw[<-hn]at E1 Gm⊢;have HU:=U0 E1;clear E1 bz nZ uR hn;obtain⟨ah,ar,ay⟩:=g1.use;have n0:w1.cell? ⟨w.heap.size,0,none⟩=some (.int .i64 0):=(ah _ _ (by omega)).trans m0;have n1:w1.cell? ⟨w.heap.size,1,none⟩=some (.int .i64 0):=(ah _ _ (by omega)).trans m1;have n2:w1.frozen? ⟨w.heap.size,0,none⟩=false:=(ar _ _ (by omega)).trans m2;have n3:w1.frozen? ⟨w.heap.size,1,none⟩=false:=(ar _ _ (by omega)).trans m3;clear ah ar m0 m1 m2 m3;by_cases mP:1114111<n
  have hi:(1114111:Int)<n:=by omega
  have DJ:=U0 (show Lib.validRune n=false by simp[Lib.validRune];omega);exact J120
  have hi:(n:Int)<=1114111:=by omega
  go_wp2_with fail;refine (utf8_ValidRune n w1).mono ?_;refine Z48 ?_;cases E2:Lib.validRune n
  have DJ:=U0 E2;clear E2;exact J120
  have DJ:=U0 E2;clear E2;have hw:IntKind.i64.wrap (n:Int)=(n:Int):=by rw[IntKind.wrap_i64];omega
  clear Gm mP
  first|(rename_i hx;have OE:(n:Int)<=1114111:=hx;clear OE hx)|skip
  rename_i K1 b1 K2 b2 K3 b3
  refine b3 _ _ ?_;clear b3 K3;have B2:=U0 b2;have B1:=U0 b1;clear b2 b1;go_wp2_with fail;refine B2.o _ _ ?_;have L9:decide ((1114111:Int)<(n:Int))=false:=U3a (by omega)
  try simp only[L9]
  clear L9;go_wp2_with fail;refine B1.o _ _ ?_;clear B1 B2;have gQ:(V21 n).map Ob=Lib.runeCells n:=Lib.byteCells_encodeRune n;have py:(Lib.runeCells n).length=(V21 n).length:=Lib.runeCells_length n;have sM:=Lib.runeCells_le n;have a8:V21 n≠[]:=by intro e;rw[py,e]at sM;simp at sM
  rw[py]at sM;obtain⟨rb,xo⟩:∃rb,rb=V21 n:=⟨_,rfl⟩
  rw[<-xo]at gQ py sM a8;have HB:=U0 gQ;have HL:=U0 py;have HN:=U0 a8;have HE:=U0 xo;clear gQ py a8 xo;go_wp2_with fail;refine (Olr w1.heap.size 0 1 n (by omega) _ (by simp[go_sem])).mono ?_;rintro e w2 ⟨gb,cap,rfl,lW,g2,aV⟩;rw[HL.o];rw[<-HB.o]at aV;have j8:Gr w1 w2:=((Gr.refl _).alloc _).trans g2;obtain⟨ah,ar,aJ⟩:=j8.use;simp at lW;have q0:w2.cell? ⟨w.heap.size,0,none⟩=some (.int .i64 0):=(ah _ _ (by omega)).trans n0;have q1:w2.cell? ⟨w.heap.size,1,none⟩=some (.int .i64 0):=(ah _ _ (by omega)).trans n1;have q2:w2.frozen? ⟨w.heap.size,0,none⟩=false:=(ar _ _ (by omega)).trans n2;have q3:w2.frozen? ⟨w.heap.size,1,none⟩=false:=(ar _ _ (by omega)).trans n3;have HC:=U0 aV;have HT:=U0 j8;have sN:=U0 g1;clear ah ar n0 n1 n2 n3 aV j8 g1 g2;go_wp2_with fail;refine (O3e _ R s a q out ov ((HR.o.gr sN.o).gr HT.o) _ (2+j) (by simp) (by omega) rb gb 0 cap HN.o (by omega) HC.o (by omega)).mono ?_;rintro e w3 ⟨rfl,aH,hr,a9⟩;have aO:=a9.use w.heap.size (by omega) (λ hF=>by have:=HS.o.own_lt hF;omega);have hz:=a9.size;obtain⟨ah,ar⟩:=aO;refine Z161 ?_;intro aW bv;have r0:w3.cell? ⟨w.heap.size,0,none⟩=some (.int .i64 0):=(ah _).trans q0;have r1:w3.cell? ⟨w.heap.size,1,none⟩=some (.int .i64 0):=(ah _).trans q1;have r2:w3.frozen? ⟨w.heap.size,0,none⟩=false:=(ar _).trans q2;have r3:w3.frozen? ⟨w.heap.size,1,none⟩=false:=(ar _).trans q3;clear hr a9 ah ar q0 q1 q2 q3;go_wp2_with fail;refine U1 (v:=f0) (by simp[results,results244,go_sem,r0,r1]) rfl ?_;rw[HX.o,HU.o,DJ.o,Ua rfl];refine⟨rfl,aH,?_,?_⟩
  have eG:¬FQ R aH w.heap.size:=λ hF=>by
   rcases bv.o.own _ hF with hF|hF
   have:=HS.o.own_lt hF;omega
   omega
  have e1:a+(2+j)=a+2+j:=by omega
  have fe:=aW.o;rw[e1,HE.o]at fe;exact RdQ.auto fe
  have er:St (FQ R ov) (FQ R aH) w w3:=((HG.o.trans (sN.o.trans HT.o)).st).trans bv.o;have a9:=er;exact St.auto
namespace Pl
def V3k(T:Nat->UInt8×UInt8)(c:UInt8)(k:Nat):Nat->Option Nat
 |0=>none
 |n+1=>if c.toNat=(T k).1.toNat then some k else V3k T c (k+1) n
theorem V7m(T:Nat->UInt8×UInt8)(c:UInt8)(k n:Nat)(h:(c.toNat==(T k).1.toNat)=true):V3k T c k (n+1)=some k:=by
 simp at h;simp[V3k,h]
theorem V6z(T:Nat->UInt8×UInt8)(c:UInt8)(k n:Nat)(h:(c.toNat==(T k).1.toNat)=false):V3k T c k (n+1)=V3k T c (k+1) n:=by
 simp at h;simp[V3k,h]
def V3x(T:Nat->UInt8×UInt8)(l:List UInt8)(a:Nat):V2x (List UInt8×Nat) :=
 match l.drop (a+1) with
 |[] => .bad 3 l.length
 | c::_=>match V3k T c 0 7 with
  |some k => .ok ([(T k).2],a+2)
  |none =>
   if c.toNat=117 then match V15 l (a+2) 4 with|.ok n => .ok (V21 n,a+2+4)|.bad c p => .bad c p
   else if c.toNat=85 then match V15 l (a+2) 8 with|.ok n => .ok (V21 n,a+2+8)|.bad c p => .bad c p
   else .bad 3 (a+1)
theorem V7y(T)(l:List UInt8)(a:Nat)(h:l.length=a+1):V3x T l a = .bad 3 (a+1):=by
 unfold V3x;rw[List.drop_of_length_le (by omega),h]
theorem V6a(T)(l:List UInt8)(a:Nat)(c:UInt8)(r:List UInt8)(h:l.drop (a+1)=c::r):V3x T l a=match V3k T c 0 7 with
    |some k => .ok ([(T k).2],a+2)
    |none =>
     if c.toNat=117 then match V15 l (a+2) 4 with|.ok n => .ok (V21 n,a+2+4)|.bad c p => .bad c p
     else if c.toNat=85 then match V15 l (a+2) 8 with|.ok n => .ok (V21 n,a+2+8)|.bad c p => .bad c p
     else .bad 3 (a+1):=by
 unfold V3x;rw[h]
end Pl
def shC(T:Nat->UInt8×UInt8):Array Value:=#[Ob (T 0).1,Ob (T 0).2,Ob (T 1).1,Ob (T 1).2,Ob (T 2).1,Ob (T 2).2,Ob (T 3).1,Ob (T 3).2,Ob (T 4).1,Ob (T 4).2,Ob (T 5).1,Ob (T 5).2,Ob (T 6).1,Ob (T 6).2]
def ShW(T:Nat->UInt8×UInt8)(w:World):Prop:=∀j v,(shC T)[j]?=some v->w.cell? ⟨0,j,none⟩=some v
theorem ShW.gr{T}{w w':World}(h:ShW T w)(g:Gr w w'):ShW T w':=λ j v hj=>(g.use.1 _ _ (Lib.lt_of_cell (h j v hj))).trans (h j v hj)
theorem Oj5(T:Nat->UInt8×UInt8)(k:Nat)(hk:k<7)(W:World) :
    (Instr.index 108 (.agg (shC T)) k).run prog W = .ok (.agg #[Ob (T k).1,Ob (T k).2]) W:=by
 have:k=0\/k=1\/k=2\/k=3\/k=4\/k=5\/k=6:=by omega
 rcases this with rfl|rfl|rfl|rfl|rfl|rfl|rfl
 all_goals (show _=_;first|kernel_rfl|rfl)
theorem O7s(w:World)(R:Nat)(s:ByteArray)(a:Nat)(q:UInt8)(out:List UInt8)(ov:Value)(h:RdQ w R s a q out ov)(hv:EsV w)
    (T:Nat->UInt8×UInt8)(ht:ShW T w)(aa:a<s.size)(hs:s.size<=20000000)(ao:out.length<=29000000) :
    Calls prog 243 #[.pointer (some ⟨R,0,none⟩)] w λ e w'=>match V3x T (bs s) a with
     |.ok r=>e = .returned f0/\∃aH,RdQ w' R s r.2 q (out++r.1) aH/\St (FQ R ov) (FQ R aH) w w'
     |.bad c p=>e = .returned (fv c p)/\St (FQ R ov) (FQ R ov) w w':=by
 obtain⟨X,hX⟩:∃X:Ending->World->Prop,X=λ e w'=>match V3x T (bs s) a with
     |.ok r=>e = .returned f0/\∃aH,RdQ w' R s r.2 q (out++r.1) aH/\St (FQ R ov) (FQ R aH) w w'
     |.bad c p=>e = .returned (fv c p)/\St (FQ R ov) (FQ R ov) w w':=⟨_,rfl⟩
 rw[<-hX];have HX:=U0 hX;refine Z231 ?_;intro c0 c1 c2 c3 fz hR;have HS:=U0 h;have HV:=U0 hv;have HT:=U0 ht;clear fz h hX c3 hv ht;have fZ:=Uk ((a:Int)+1) (by omega);have bx:((a:Int)+1).toNat=a+1:=by omega
 by_cases bY:s.size=a+1
 ·have hb:((a:Int)+1==(s.size:Int))=true:=by simp;omega
  have HU:=U0 (V7y T (bs s) a (by rw[O0];exact bY));go_enter func243,ntmps243;go_wp2_with fail
  go_quiet (fail)
  go_wp2_with fail;refine (O1d _ (a+1) (by omega) _).mono ?_;refine Z85 ?_;intro w1 g1 ah ar ay;have q0:w1.cell? ⟨w.heap.size,0,none⟩=some (.int .i64 0):=(ah _ _ (by simp)).trans (by simp);have q1:w1.cell? ⟨w.heap.size,1,none⟩=some (.int .i64 0):=(ah _ _ (by simp)).trans (by simp);have q2:w1.frozen? ⟨w.heap.size,0,none⟩=false:=(ar _ _ (by simp)).trans (by simp[go_sem]);have q3:w1.frozen? ⟨w.heap.size,1,none⟩=false:=(ar _ _ (by simp)).trans (by simp[go_sem]);have dL:w.heap.size<w1.heap.size:=by omega
  clear ah ar;go_wp2_with fail;refine U1 (v:=fv 3 (a+1)) (by simp[results,results243,go_sem,q0,q1]) rfl ?_;rw[HX.o,HU.o];exact⟨rfl,St.auto⟩
 have hb:((a:Int)+1==(s.size:Int))=false:=by simp;omega
 have jw:a+1<s.size:=by omega
 have mF:(0:Int)<=(a:Int)+1:=by omega
 have ei:(a:Int)+1<(s.size:Int):=by omega
 have t0:w.cell? ⟨0,0,none⟩=some (.int .u8 (T 0).1.toNat):=HT.o 0 _ rfl;have t1:w.cell? ⟨0,1,none⟩=some (.int .u8 (T 0).2.toNat):=HT.o 1 _ rfl;have t2:w.cell? ⟨0,2,none⟩=some (.int .u8 (T 1).1.toNat):=HT.o 2 _ rfl;have t3:w.cell? ⟨0,3,none⟩=some (.int .u8 (T 1).2.toNat):=HT.o 3 _ rfl;have t4:w.cell? ⟨0,4,none⟩=some (.int .u8 (T 2).1.toNat):=HT.o 4 _ rfl;have t5:w.cell? ⟨0,5,none⟩=some (.int .u8 (T 2).2.toNat):=HT.o 5 _ rfl;have t6:w.cell? ⟨0,6,none⟩=some (.int .u8 (T 3).1.toNat):=HT.o 6 _ rfl;have t7:w.cell? ⟨0,7,none⟩=some (.int .u8 (T 3).2.toNat):=HT.o 7 _ rfl;have t8:w.cell? ⟨0,8,none⟩=some (.int .u8 (T 4).1.toNat):=HT.o 8 _ rfl;have t9:w.cell? ⟨0,9,none⟩=some (.int .u8 (T 4).2.toNat):=HT.o 9 _ rfl;have t10:w.cell? ⟨0,10,none⟩=some (.int .u8 (T 5).1.toNat):=HT.o 10 _ rfl;have t11:w.cell? ⟨0,11,none⟩=some (.int .u8 (T 5).2.toNat):=HT.o 11 _ rfl;have t12:w.cell? ⟨0,12,none⟩=some (.int .u8 (T 6).1.toNat):=HT.o 12 _ rfl;have t13:w.cell? ⟨0,13,none⟩=some (.int .u8 (T 6).2.toNat):=HT.o 13 _ rfl;have Sw:0<w.heap.size:=Lib.lt_of_cell t0;have HE:=U0 (V6a T (bs s) a s[a+1] _ (O8 s (a+1) jw));obtain⟨c,E3⟩:∃c,c=s[a+1]:=⟨_,rfl⟩
 rw[<-E3]at HE;go_enter func243,ntmps243;go_wp2_with fail
 go_quiet (fail)
 go_wp2_with fail
 go_quiet (fail)
 rw[<-E3];clear E3;go_wp2_with fail
 go_loopw [34] (λ v wr=>∃k:Nat,v = .int .i64 k/\k<=7/\V3k T c 0 7=V3k T c k (7-k)/\Gr w wr/\w.heap.size+1<=wr.heap.size /\
  wr.cell? ⟨w.heap.size,0,none⟩=some (.int .i64 0)/\wr.cell? ⟨w.heap.size,1,none⟩=some (.int .i64 0)/\wr.frozen? ⟨w.heap.size,0,none⟩=false/\wr.frozen? ⟨w.heap.size,1,none⟩=false)
  (λ v _=>7-(intOf v).toNat)
 case atStart =>
  refine⟨0,rfl,by omega,rfl,Gr.auto,by simp,?_,?_,?_,?_⟩
  all_goals simp[go_sem]
 case round =>
  obtain⟨k,rfl,hk,hi,hg,hz,m0,m1,m2,m3⟩:=hrel;have hr:=HS.o.gr hg;obtain⟨d0,d1,d2,d3,dz⟩:=hr.cells;have HR:=U0 hr;have HG:=U0 hg;have HI:=U0 hi;have hn:¬FQ R ov wr.heap.size:=λ hF=>by have:=HR.o.own_lt hF;omega
  have iF:¬FQ R ov w.heap.size:=λ hF=>by have:=HS.o.own_lt hF;omega
  have eI:w.heap.size<wr.heap.size:=by omega
  have pz:¬w.heap.size=wr.heap.size:=by omega
  clear hr hg hi d3 dz c0 c1 c2;by_cases o8:k<7
  ·have i0:∀W,(Instr.index 108 (.agg (shC T)) k).run prog W = .ok (.agg #[Ob (T k).1,Ob (T k).2]) W:=λ W=>Oj5 T k o8 W
   simp only[shC,Ob]at i0;have hd:decide (k<7)=true:=by simp;omega
   cases hc:(c.toNat==(T k).1.toNat)
   ·have hm:=U0 (V6z T c k (6-k) hc);obtain⟨b1,b2⟩:=V1o _ _ _ hc;clear hc;go_wp2_with fail;refine⟨⟨k+1,by simp,by omega,?_,Gr.auto,?_,?_,?_,?_,?_⟩,by simp[intOf];omega⟩
    rw[HI.o,show 7-k=6-k+1 by omega,hm.o,show 6-k=7-(k+1) by omega]
    ·simp;omega
    all_goals simp[go_sem,m0,m1,m2,m3,eI,pz]
   have hm:=U0 (V7m T c k (6-k) hc);obtain⟨b1,b2⟩:=V1o _ _ _ hc;clear hc;go_wp2_with fail;refine (O3e _ R s a q out ov (RdQ.auto HR.o) 2 2 rfl (by omega) [(T k).2] (wr.heap.size+1) 0 1 (by simp) (by omega) (O4q _ _ _ _ (by simp)) (by simp;omega)).mono ?_;rintro e w1 ⟨rfl,aH,hr,a9⟩;obtain⟨ah,ar⟩:=a9.use w.heap.size (by simp;omega) iF;have ay:=a9.size;simp at ay;have r0:w1.cell? ⟨w.heap.size,0,none⟩=some (.int .i64 0):=(ah _).trans (by simp[go_sem,m0,eI,pz]);have r1:w1.cell? ⟨w.heap.size,1,none⟩=some (.int .i64 0):=(ah _).trans (by simp[go_sem,m1,eI,pz]);have r2:w1.frozen? ⟨w.heap.size,0,none⟩=false:=(ar _).trans (by simp[go_sem,m2,eI,pz]);have r3:w1.frozen? ⟨w.heap.size,1,none⟩=false:=(ar _).trans (by simp[go_sem,m3,eI,pz]);refine Z161 ?_;intro aL bv;clear hr a9 ah ar m0 m1 m2 m3;go_wp2_with fail;refine Z259 ?_;rw[HX.o,HE.o,HI.o,show 7-k=6-k+1 by omega,hm.o];refine⟨rfl,aH,?_,?_⟩
   have eG:¬FQ R aH w.heap.size:=λ hF=>by
    rcases bv.o.own _ hF with hF|hF
    exact iF hF
    simp at hF;omega
   have fe:=aL.o;exact RdQ.auto fe
   have er:St (FQ R ov) (FQ R aH) w w1:=(Gr.st Gr.auto).trans bv.o;have a9:=er;exact St.auto
  obtain rfl:k=7:=by omega
  have hd:decide ((7:Nat)<7)=false:=by simp
  have HN:RowKit.Hid (V3k T c 0 7=none):=U0 HI.o;cases hu:(c.toNat==117)
  ·obtain⟨b1,b2⟩:=V1o _ 117 _ hu;have rz:¬c.toNat=117:=by simpa using hu
   cases hU:(c.toNat==85)
   ·obtain⟨b3,b4⟩:=V1o _ 85 _ hU;have Bk:¬c.toNat=85:=by simpa using hU
    have HF:V3x T (bs s) a = .bad 3 (a+1):=by rw[HE.o,HN.o];simp[rz,Bk]
    have HQ:=U0 HF;clear HF hu hU rz Bk;go_wp2_with fail;refine (O1d _ (a+1) (by omega) _).mono ?_;rintro e w1 ⟨rfl,g1⟩;obtain⟨ah,ar,ay⟩:=g1.use;have r0:w1.cell? ⟨w.heap.size,0,none⟩=some (.int .i64 0):=(ah _ _ eI).trans m0;have r1:w1.cell? ⟨w.heap.size,1,none⟩=some (.int .i64 0):=(ah _ _ eI).trans m1;have r2:w1.frozen? ⟨w.heap.size,0,none⟩=false:=(ar _ _ eI).trans m2;have r3:w1.frozen? ⟨w.heap.size,1,none⟩=false:=(ar _ _ eI).trans m3;clear ah ar m0 m1 m2 m3;go_wp2_with fail;refine U1 (v:=fv 3 (a+1)) (by simp[results,results243,go_sem,r0,r1]) rfl ?_;rw[HX.o,HQ.o];have a9:St (FQ R ov) (FQ R ov) w w1:=(HG.o.trans g1).st;exact⟨rfl,St.auto⟩
   obtain⟨b3,b4⟩:=V1o _ 85 _ hU;have Bk:c.toNat=85:=by simpa using hU
   clear hu hU;have HF:V3x T (bs s) a=match V15 (bs s) (a+2) 8 with|.ok n => .ok (V21 n,a+2+8)|.bad c p => .bad c p:=by
    rw[HE.o,HN.o];simp[rz,Bk]
   clear rz Bk;go_wp2_with fail;refine (Oe4 _ R s a q out ov HR.o (HV.o.gr HG.o) 8 (by omega) aa hs ao).mono ?_;intro e w1 hp;cases hq:V15 (bs s) (a+2) 8 with
   |ok n =>
    exact J111
   |bad c' p =>
    exact J119
  obtain⟨b1,b2⟩:=V1o _ 117 _ hu;have rz:c.toNat=117:=by simpa using hu
  clear hu;have HF:V3x T (bs s) a=match V15 (bs s) (a+2) 4 with|.ok n => .ok (V21 n,a+2+4)|.bad c p => .bad c p:=by
   rw[HE.o,HN.o];simp[rz]
  clear rz;go_wp2_with fail;refine (Oe4 _ R s a q out ov HR.o (HV.o.gr HG.o) 4 (by omega) aa hs ao).mono ?_;intro e w1 hp;cases hq:V15 (bs s) (a+2) 4 with
  |ok n =>
   exact J111
  |bad c' p =>
   exact J119
namespace Pl
def V3o(T:Nat->UInt8×UInt8)(l:List UInt8):SR :=
 match V3x T l 0 with
 |.ok r => .go r.2 r.1 false
 |.bad _ p => .bad p
theorem O7t(l:List UInt8)(a p d:Nat):V15 l (a+p) d=match V15 (l.drop a) p d with|.ok n => .ok n|.bad c k => .bad c (a+k):=by
 unfold V15;rw[U16]
 split;simp;omega
 split <;> simp
theorem O6v(l:List UInt8)(p d:Nat){c k:Nat}(h:V15 l p d = .bad c k):c=3:=by
 unfold V15 at h
 split at h;simp at h;exact h.1.symm
 split at h;simp at h
 simp at h;exact h.1.symm
theorem V7z(T)(l:List UInt8)(a:Nat)(h:a<=l.length):V3x T l a=match V3o T (l.drop a) with|.go n t _ => .ok (t,a+n)|.bad p => .bad 3 (a+p):=by
 unfold V3o V3x;rw[U16,Uu,Uu];cases hd:l.drop (a+1) with
 |nil=>simp;omega
 |cons c r =>
  simp only[];cases V3k T c 0 7 with
  |some k=>simp
  |none =>
   simp only[]
   split
   rw[O7t l a 2 4];cases hu:V15 (l.drop a) 2 4 with
   |ok n=>simp <;> omega
   |bad c k=>simp[O6v _ _ _ hu]
   split
   rw[O7t l a 2 8];cases hu:V15 (l.drop a) 2 8 with
   |ok n=>simp <;> omega
   |bad c k=>simp[O6v _ _ _ hu]
   simp
theorem O2v(T)(l:List UInt8)(n:Nat)(t:List UInt8)(o:Bool)(h:V3o T l = .go n t o):t.length<=n/\1<=n/\n<=l.length:=by
 have hu:∀d k,V15 l (0+2) d = .ok k->1<=d->2+d<=l.length/\(V21 k).length<=4:=by
  intro d k hk hd;unfold V15 at hk;have h1:=V5v (l.drop (0+2)) d;rw[U3]at h1
  split at hk;simp at hk
  refine⟨by omega,?_⟩;have h2:=Lib.runeCells_le k;rw[Lib.runeCells_length]at h2;exact h2.2
 unfold V3o V3x at h;cases hd:l.drop (0+1) with
 |nil=>rw[hd]at h;simp at h
 |cons c r =>
  have hl:2<=l.length:=by
   have:=U1q List.length hd;rw[U3]at this;simp at this;omega
  rw[hd]at h;simp only[]at h;cases he:V3k T c 0 7 with
  |some k=>rw[he]at h;simp at h;obtain⟨rfl,rfl,_⟩:=h;simp;omega
  |none =>
   rw[he]at h;simp only[]at h
   split at h
   rename_i x hx
   split at hx
   cases hq:V15 l (0+2) 4 with
   |ok k=>rw[hq]at hx;have:=hu 4 k hq (by omega);simp at hx h;subst hx;simp at h;obtain⟨rfl,rfl,_⟩:=h;omega
   |bad c p=>rw[hq]at hx;simp at hx
   split at hx
   cases hq:V15 l (0+2) 8 with
   |ok k=>rw[hq]at hx;have:=hu 8 k hq (by omega);simp at hx h;subst hx;simp at h;obtain⟨rfl,rfl,_⟩:=h;omega
   |bad c p=>rw[hq]at hx;simp at hx
   simp at hx
   simp at h
theorem V46(T)(l:List UInt8)(n:Nat)(t:List UInt8)(o:Bool)(h:V3o T l = .go n t o):o=false:=by
 unfold V3o at h
 split at h;simp at h;exact h.2.2
 simp at h
end Pl
structure QW(T:Nat->UInt8×UInt8)(w:World):Prop where
 es:EsV w
 sh:ShW T w
theorem QW.gr{T}{w w':World}(h:QW T w)(g:Gr w w'):QW T w':=⟨h.es.gr g,h.sh.gr g⟩
theorem Obb(w:World)(R:Nat)(s:ByteArray)(a:Nat)(q:UInt8)(out:List UInt8)(ov:Value)(h:RdQ w R s a q out ov)(hv:EsV w)
    (T:Nat->UInt8×UInt8)(ht:ShW T w)(aa:a<s.size)(hs:s.size<=20000000)(ho:out.length<=a)(hm:(s[a].toNat==q.toNat)=false)(he:(s[a].toNat==92)=true) :
    Calls prog 242 #[.agg #[.pointer (some ⟨R,0,none⟩)]] w (O18 R s a q out ov w (V3o T ((bs s).drop a))):=by
 have hR:=h.lt;refine Z218 ?_;intro b1 b2 sr cQ HO HX hX bR;have HS:=U0 h;have HM:=U0 hm;have HV:=U0 hv;have OF:=U0 ht;clear cQ hX h hm he hv ht bR;go_enter func242,ntmps242;go_wp2_with fail;refine Z312 ?_;intro w1 g1 ah ar ay;have hg:Hid (Gr w w1):=by
  have h1:Gr w ((w.alloc (.cells #[.pointer (some ⟨R,0,none⟩)] 170)).alloc (.cells #[(0:Int),(0:Int)] 29)):=Gr.auto;exact h1.trans g1
 have iC:Hid (RdQ w1 R s a q out ov):=HS.o.gr hg.o;have c0:w1.cell? ⟨R,0,none⟩=some (.string s):=iC.o.cells.1;have c1:w1.cell? ⟨R,1,none⟩=some (.int .i64 a):=iC.o.cells.2.1;go_wp2_with fail
 go_quiet (fail)
 go_wp2_with fail;refine (O7s _ R s a q out ov (RdQ.auto iC.o) (HV.o.gr (hg.o.drewN _)) T (OF.o.gr (hg.o.drewN _)) aa hs (by omega)).mono ?_;rw[HX.o];cases sr with
 |bad p =>
  rintro e w2 ⟨rfl,a9⟩;refine Z18 ?_;intro aE dt aJ;have HT:=U0 a9;clear a9;go_wp2_with fail;refine U1 (v := .tuple #[.bool false,fv 3 (a+p)]) (by simp[results,results242,go_sem,aE,ah]) rfl ⟨rfl,FQ R ov,?_⟩;have a9:St (FQ R ov) (FQ R ov) w w2:=(hg.o.drewN _).st.trans HT.o;exact St.auto
 |go n t over =>
  obtain rfl:=HO.o n t over rfl;rintro e w2 ⟨rfl,aH,hr,a9⟩;refine Z18 ?_;intro aE dt aJ;refine Z161 ?_;intro HR HT;have eG:¬FQ R aH (w.heap.size+1):=λ hF=>by
   rcases HT.o.own _ hF with hF|hF
   have:=HS.o.own_lt hF;omega
   simp at hF;omega
  clear hr a9;go_wp2_with fail;refine U1 (v := .tuple #[.bool false,f0]) (by simp[results,results242,go_sem,aE,ah]) rfl ⟨rfl,aH,RdQ.auto HR.o,?_⟩;have a9:St (FQ R ov) (FQ R aH) w w2:=(hg.o.drewN _).st.trans HT.o;exact St.auto
namespace Pl
def V5a(c:UInt8):Bool:=c.toNat==32 || c.toNat==9 || c.toNat==13 || c.toNat==10
def V42(l:List UInt8):SR:=match V2t true l 1 with
 |.ok n => .go n [] false
 |.bad _ p => .bad p
def V30(T:Nat->UInt8×UInt8)(q:UInt8)(l:List UInt8):SR :=
 match V1e q l with
 |some x=>x
 | none=>match l with
  |[] => .bad 0
  | c::r=>if c.toNat==92 then (match r with
      |[]=>V3o T (c::r)
      |d::_=>if V5a d then V42 (c::r) else V3o T (c::r)) else V2v (c::r)
theorem Of1(f:Nat):∀(b:Bool)(l:List UInt8)(k p:Nat),Ot f b l = .bad k p->k=3:=by
 induction f with
 |zero=>intro b l k p h;simp[Ot]at h
 |succ f ih =>
  intro b l k p h;unfold Ot at h
  split at h;cases h
  rename_i c r hd
  split at h
  rename_i k' p' hf
  have:=V48 _ _ _ hf;cases h;exact this.1
  split at h;cases h;rfl
  cases h
  split at h
  rename_i k' p' hf
  cases h;exact ih _ _ _ _ hf
  cases h
theorem Oj6(f:Nat):∀(b:Bool)(l:List UInt8)(m:Nat),Ot f b l = .ok m->m<=l.length:=by
 induction f with
 |zero=>intro b l m h;simp[Ot]at h;omega
 |succ f ih =>
  intro b l m h;have hb:=O2u l;unfold Ot at h
  split at h;cases h;exact hb
  rename_i c r hd
  have hl:(c::r).length=l.length-blanks l:=by rw[<-hd,U3]
  split at h;cases h
  split at h;cases h
  cases h;exact hb
  rename_i n hn
  have:=V3s _ _ hn
  split at h;cases h
  rename_i m' hm
  have:=ih _ _ _ hm;cases h;rw[U3]at this;omega
theorem V7n(l:List UInt8)(a:Nat)(h:a<l.length):V2t true l (a+1)=match V42 (l.drop a) with
    |.go n _ _ => .ok (a+n)
    |.bad p => .bad 3 (a+p):=by
 have hd:(l.drop a).drop 1=l.drop (a+1):=by rw[U16]
 unfold V42 V2t;rw[hd];cases hf:Ot ((l.drop (a+1)).length+1) true (l.drop (a+1)) with
 |ok m=>simp only;congr 1;omega
 |bad k p =>
  have:=Of1 _ _ _ _ _ hf;subst this;simp only;congr 1;omega
theorem V4p(l:List UInt8)(n:Nat)(t:List UInt8)(o:Bool)(h0:0<l.length)(h:V42 l = .go n t o):t.length<=n/\1<=n/\n<=l.length/\o=false/\t=[]:=by
 unfold V42 V2t at h
 split at h
 rename_i m hm
 split at hm;cases hm
 rename_i m' OG
 have:=Oj6 _ _ _ _ OG;rw[U3]at this;cases hm;cases h;exact⟨by simp,by omega,by omega,rfl,rfl⟩
 cases h
end Pl
theorem Obd(c:UInt8):(bs ⟨#[32,9,13,10]⟩).contains c=V5a c:=by
 have h:∀n:Fin 256,(bs ⟨#[32,9,13,10]⟩).contains (UInt8.ofNat n.val)=V5a (UInt8.ofNat n.val):=by decide +kernel
 exact J29
theorem Oe5(s:ByteArray)(a:Nat)(h1:a+1<s.size):∃rest,s.extract (a+1) s.size=rest/\¬rest.toList=[]/\rest.toList.isEmpty=false/\(0:Int)<(rest.size:Int)/\∃h0:0<rest.size,rest[0]=s[a+1]:=by
 refine⟨_,rfl,?_⟩;have hb:=O3 s (a+1);have hz:(s.extract (a+1) s.size).size=s.size-(a+1):=by simp
 generalize s.extract (a+1) s.size=rest at hb hz⊢;have h0:0<rest.size:=by omega
 have a8:¬rest.toList=[]:=λ e=>by
  rw[Uz]at e;have h2:=O0 rest;rw[show bs rest=[] from e]at h2;simp at h2;omega
 refine⟨a8,by simpa using a8,by omega,h0,?_⟩;have e1:=O8 rest 0 h0;have e2:=O8 s (a+1) h1;exact J30
theorem O5p(w:World)(R:Nat)(s:ByteArray)(a:Nat)(q:UInt8)(out:List UInt8)(ov:Value)(h:RdQ w R s a q out ov)
    (aa:a<s.size)(hs:s.size<=20000000)(ho:out.length<=a)(X:Pl.SR)(hC:V1e q ((bs s).drop a)=some X) :
    Calls prog 251 #[.agg #[.pointer (some ⟨R,0,none⟩)]] w (O18 R s a q out ov w X):=by
 have HC:=U0 hC.symm;clear hC;have hR:=h.lt;have HS:=U0 h;clear h;cases X with
 |bad p =>
  go_enter func251,ntmps251;go_wp2_with fail;refine Z117 ?_;rw[<-HC.o];refine Z85 ?_;intro w2 g1 aE dt aJ;refine Z128 ?_;intro dL di;go_wp2_with fail
  go_region
  go_wp2_with fail;exact U1 (v := .tuple #[.bool false,fv 3 (a+p)]) (by simp[results,results251,go_sem,aE,dL,di]) rfl ⟨rfl,FQ R ov,St.auto⟩
 |go n t over =>
  go_enter func251,ntmps251;go_wp2_with fail;refine Z117 ?_;rw[<-HC.o];rintro e w2 ⟨rfl,aH,hr,a9⟩;refine Z219 ?_;intro hu;have aJ:=a9.size;simp at aJ;obtain⟨aE,dt⟩:=hu;have HR:=U0 hr;have HT:=U0 a9;have eG:¬FQ R aH (w.heap.size+1):=λ hF=>by
   rcases HT.o.own _ hF with hF|hF
   have:=HS.o.own_lt hF;omega
   simp at hF;omega
  clear hr a9;refine Z128 ?_;intro dL di;go_wp2_with fail
  go_region
  go_wp2_with fail;refine U1 (v := .tuple #[.bool over,f0]) (by simp[results,results251,go_sem,aE,dL,di]) rfl ⟨rfl,aH,RdQ.auto HR.o,?_⟩;exact J16
theorem O5q(w:World)(R:Nat)(s:ByteArray)(a:Nat)(q:UInt8)(out:List UInt8)(ov:Value)(h:RdQ w R s a q out ov)
    (aa:a<s.size)(hs:s.size<=20000000)(ho:out.length<=a)(hC:V1e q ((bs s).drop a)=none)(he:(s[a].toNat==92)=false) :
    Calls prog 251 #[.agg #[.pointer (some ⟨R,0,none⟩)]] w (O18 R s a q out ov w (V2v ((bs s).drop a))):=by
 have HC:=U0 hC;clear hC;obtain⟨b1,b2⟩:=V1o _ 92 _ he;clear he;refine Z241 ?_;intro X hX HX;clear hX;have hR:=h.lt;have HS:=U0 h;clear h;go_enter func251,ntmps251;go_wp2_with fail;refine Z305 ?_;intro w1 g1 ah ar ay hg iC;have c0:w1.cell? ⟨R,0,none⟩=some (.string s):=iC.o.cells.1;have c1:w1.cell? ⟨R,1,none⟩=some (.int .i64 a):=iC.o.cells.2.1;have m7:R<w1.heap.size:=by omega
 refine Z168 ?_;intro dL di;go_wp2_with fail
 go_quiet (fail)
 go_wp2_with fail;cases X with
 |bad p =>
  refine Z235 ?_;rw[<-HX.o];rintro e w2 ⟨rfl,F',a9⟩;refine Z18 ?_;intro aE dt aJ;have HT:=U0 a9;clear a9;go_wp2_with fail;refine U1 (v := .tuple #[.bool false,fv 3 (a+p)]) (by simp[results,results251,go_sem,aE,ah,dL,di]) rfl ⟨rfl,F',?_⟩;exact J16
 |go n t over =>
  refine Z235 ?_;rw[<-HX.o];rintro e w2 ⟨rfl,aH,hr,a9⟩;refine Z18 ?_;intro aE dt aJ;refine Z161 ?_;intro HR HT;have eG:¬FQ R aH (w.heap.size+1):=λ hF=>by
   rcases HT.o.own _ hF with hF|hF
   have:=HS.o.own_lt hF;omega
   simp at hF;omega
  clear hr a9;go_wp2_with fail;refine U1 (v := .tuple #[.bool over,f0]) (by simp[results,results251,go_sem,aE,ah,dL,di]) rfl ⟨rfl,aH,RdQ.auto HR.o,?_⟩;exact J16
theorem O6t(w:World)(R:Nat)(s:ByteArray)(a:Nat)(q:UInt8)(out:List UInt8)(ov:Value)(h:RdQ w R s a q out ov)
    (aa:a<s.size)(hs:s.size<=20000000)(ho:out.length<=a)(hC:V1e q ((bs s).drop a)=none)(he:(s[a].toNat==92)=true)(h1:a+1<s.size)(hd:V5a (s[a+1]'h1)=true) :
    Calls prog 251 #[.agg #[.pointer (some ⟨R,0,none⟩)]] w (O18 R s a q out ov w (V42 ((bs s).drop a))):=by
 have HC:=U0 hC;clear hC;obtain⟨b1,b2⟩:=V1o _ 92 _ he;have hX:=V7n (bs s) a (by rw[O0];exact aa);have il:∀n t o,V42 ((bs s).drop a) = .go n t o->o=false/\t=[]:=λ n t o hh=>by
  have:=V4p _ n t o (by rw[U3,O0];omega) hh;exact⟨this.2.2.2.1,this.2.2.2.2⟩
 obtain⟨sr,cQ⟩:∃sr,sr=V42 ((bs s).drop a):=⟨_,rfl⟩
 rw[<-cQ]at hX il⊢;have HX:=U0 hX;have HO:=U0 il;clear cQ il;have HD:=U0 hd;clear he hX hd;refine Z261 ?_;intro wa;refine Z126 ?_;intro ea eb ec;have hR:=h.lt;have HS:=U0 h;clear h;go_enter func251,ntmps251;go_wp2_with fail;refine Z305 ?_;intro w1 g1 ah ar ay hg iC;have c0:w1.cell? ⟨R,0,none⟩=some (.string s):=iC.o.cells.1;have c1:w1.cell? ⟨R,1,none⟩=some (.int .i64 a):=iC.o.cells.2.1;have m7:R<w1.heap.size:=by omega
 refine Z168 ?_;intro dL di;go_wp2_with fail
 go_quiet (fail)
 go_wp2_with fail
 go_quiet (fail)
 obtain⟨rest,aG,r1,r2,r3,r0,r4⟩:=Oe5 s a h1;rw[aG];have R4:=U0 r4;have o9:Hid ((bs ⟨#[32,9,13,10]⟩).contains (rest[0]'r0)=true):=U0 (by rw[Obd,R4.o];exact HD.o);clear r4 aG;go_wp2_with (go_at_call 85;refine (Oo ⟨#[32,9,13,10]⟩ _ true o9.o _).mono ?_;rintro e w3 ⟨⟨i,rfl,hi⟩,rfl⟩;have ei:decide (i >= 0)=true:=hi);refine (Oll _ R s a q out ov (RdQ.auto iC.o) aa hs).mono ?_;rw[HX.o];cases sr with
 |bad p =>
  exact J175
 |go n t over =>
  obtain⟨rfl,rfl⟩:=HO.o n t over rfl;rintro e w2 ⟨rfl,_,hr,a9⟩;refine Z18 ?_;intro aE dt aJ;refine Z161 ?_;intro HR HT;have eG:¬FQ R ov (w.heap.size+1):=λ hF=>by have:=HS.o.own_lt hF;omega
  clear hr a9;go_wp2_with fail;refine U1 (v := .tuple #[.bool false,f0]) (by simp[results,results251,go_sem,aE,ah,dL,di]) rfl ⟨rfl,ov,by rw[U2g];exact RdQ.auto HR.o,?_⟩;exact J32
theorem O3i(w:World)(R:Nat)(s:ByteArray)(a:Nat)(q:UInt8)(out:List UInt8)(ov:Value)(h:RdQ w R s a q out ov)
    (aa:a<s.size)(hs:s.size<=20000000)(ho:out.length<=a)(hC:V1e q ((bs s).drop a)=none)(T:Nat->UInt8×UInt8)(hQ:QW T w)(he:(s[a].toNat==92)=true)(hd:∀h1:a+1<s.size,V5a (s[a+1]'h1)=false) :
    Calls prog 251 #[.agg #[.pointer (some ⟨R,0,none⟩)]] w (O18 R s a q out ov w (V3o T ((bs s).drop a))):=by
 have HC:=U0 hC;clear hC;refine Z218 ?_;intro b1 b2 sr cQ HO HX hX bR;have HQ:=U0 hQ;have HD:=U0 hd;clear he hX hd bR cQ hQ;refine Z261 ?_;intro wa;refine Z126 ?_;intro ea eb ec;have hR:=h.lt;have HS:=U0 h;clear h;go_enter func251,ntmps251;go_wp2_with fail;refine Z305 ?_;intro w1 g1 ah ar ay hg iC;have c0:w1.cell? ⟨R,0,none⟩=some (.string s):=iC.o.cells.1;have c1:w1.cell? ⟨R,1,none⟩=some (.int .i64 a):=iC.o.cells.2.1;have m7:R<w1.heap.size:=by omega
 refine Z168 ?_;intro dL di;go_wp2_with fail
 go_quiet (fail)
 go_wp2_with fail
 go_quiet (fail)
 have La:=hg.o;by_cases h1:a+1<s.size
 ·obtain⟨rest,aG,r1,r2,r3,r0,r4⟩:=Oe5 s a h1;rw[aG];have R4:=U0 r4;have o9:Hid ((bs ⟨#[32,9,13,10]⟩).contains (rest[0]'r0)=false):=U0 (by rw[Obd,R4.o];exact HD.o h1);clear r4 aG;go_wp2_with (go_at_call 85;refine (Oo ⟨#[32,9,13,10]⟩ _ false o9.o _).mono ?_;rintro e w3 ⟨⟨i,rfl,hi⟩,rfl⟩;have ei:decide (i >= 0)=false:=hi);exact J33
 have aG:s.extract (a+1) s.size=⟨#[]⟩:=by
  apply U1y;apply U21.1;rw[show (s.extract (a+1) s.size).data.toList=bs (s.extract (a+1) s.size) from rfl,O3,Ut (by rw[O0];omega)]
 rw[aG];go_wp2_with fail;exact J33
theorem O6u(w:World)(R:Nat)(s:ByteArray)(a:Nat)(q:UInt8)(out:List UInt8)(ov:Value)(h:RdQ w R s a q out ov)
    (aa:a<s.size)(hs:s.size<=20000000)(ho:out.length<=a)(T:Nat->UInt8×UInt8)(hQ:QW T w) :
    Calls prog 251 #[.agg #[.pointer (some ⟨R,0,none⟩)]] w (O18 R s a q out ov w (V30 T q ((bs s).drop a))):=by
 unfold V30;cases hC:V1e q ((bs s).drop a) with
 |some X=>exact O5p w R s a q out ov h aa hs ho X hC
 |none =>
  have hd:=O8 s a aa;simp only
  split;rename_i e;rw[e]at hd;cases hd
  rename_i c r e
  rw[e]at hd;simp only[U1a]at hd;obtain⟨rfl,hr⟩:=hd
  split
  rename_i lh
  split
  rename_i e2
  rw[<-e];refine O3i w R s a q out ov h aa hs ho hC T hQ lh (λ h1=>?_);have:=O8 s (a+1) h1;rw[<-hr]at this;cases this
  rename_i d r2 e2
  have sO:a+1<s.size:=by
   have h2:=U1q List.length hr;simp only[Ub,U3,O0]at h2;omega
  have oa:=O8 s (a+1) sO;rw[<-hr]at oa;simp only[U1a]at oa
  split
  rename_i hf
  rw[<-e];exact O6t w R s a q out ov h aa hs ho hC lh sO (by rw[<-oa.1];exact hf)
  rename_i hf
  rw[<-e];refine O3i w R s a q out ov h aa hs ho hC T hQ lh (λ h1=>?_);rw[<-oa.1];simpa using hf
  rename_i lh
  rw[<-e];exact O5q w R s a q out ov h aa hs ho hC (by simpa using lh)
