/- The proof's part 15. -/
import Derived.Test.YtnkgknbdaiakgaaGreatDoorY05
import Derived.Test.YtnkgknbdaiakgaaGreatDoorY07
import Derived.Test.YtnkgknbdaiakgaaGreatDoorY09
import Derived.Test.YtnkgknbdaiakgaaGreatDoorY10
set_option maxHeartbeats 16000000
set_option linter.all false
set_option maxRecDepth 100000
namespace Go.Proofs.YtnkgknbdaiakgaaGreatDoor
open Pl Go.Proofs.Tryz Go.RowKit Go.Joins
theorem Oa9(c:UInt8):(0<=Lib.indexByte [32,9] c) ↔ V2x c=true:=by
 by_cases h1:c=32;subst h1;decide
 by_cases h2:c=9;subst h2;decide
 have e1:¬c.toNat=32:=λ e=>h1 (by rw[<-U20,e];rfl)
 have e2:¬c.toNat=9:=λ e=>h2 (by rw[<-U20,e];rfl)
 simp[V2x,e1,e2];have e3:((32:UInt8)==c)=false:=by simp;exact λ e=>h1 e.symm
 have e4:((9:UInt8)==c)=false:=by simp;exact λ e=>h2 e.symm
 simp[Lib.indexByte,e3,e4]
def Vbc(R:Nat)(w:World):Nat:=(intOf ((w.cell? ⟨R,1,none⟩).getD undef)).toNat
theorem O4s{w R s a q out ov}(h:RdQ w R s a q out ov):Vbc R w=a:=by
 unfold Vbc;rw[h.cells.2.1];simp[intOf]
theorem O42(c:UInt8)(b:Bool)(h:V2x c=b)(w:World):Calls prog 85 #[.string ⟨#[32,9]⟩,.int .u8 c.toNat] w λ e w'=>e=.returned (.int .i64 (Lib.indexByte [32,9] c))/\w=w':=by
 refine (strings_IndexByte _ _ w).mono ?_;refine Z44 ?_;refine⟨O2j ?_,rfl⟩;rw[show (⟨#[32,9]⟩:ByteArray).data.toList=[32,9] from rfl];congr 1;simp
theorem Ob0(l:List UInt8)(m:Nat)(h:m<l.length)(hb:V2x (l[m]'h)=true):V7 l m=V7 l (m+1):=by
 unfold V7 Pl.blanks;rw[U1u h,U1o,U18 hb];simp;omega
theorem O5t(l:List UInt8)(m:Nat)(h:∀h:m<l.length,V2x (l[m]'h)=false):V7 l m=m:=by
 unfold V7 Pl.blanks;by_cases hm:m<l.length;rw[U1u hm,U1o,U1b (by rw[h hm];simp)];rfl
 rw[U1w Ya];rfl
theorem Omx(w:World)(R:Nat)(s:ByteArray)(a:Nat)(q:UInt8)(out:List UInt8)(ov:Value)(h:RdQ w R s a q out ov)(aa:a<s.size)(hs:s.size<=20000000) :
    Calls prog 252 #[.pointer (some ⟨R,0,none⟩)] w λ e w'=>match V30 true (bs s) (a+1) with
     |.ok n=>e=.returned f0/\n<=s.size/\RdQ w' R s n q out ov/\St (FQ R ov) (FQ R ov) w w'
     |.bad c p=>e=.returned (fv c p)/\St (FQ R ov) (FQ R ov) w w':=by
 obtain⟨X,hX⟩:∃X:Ending->World->Prop,X=λ e w'=>match V30 true (bs s) (a+1) with
     |.ok n=>e=.returned f0/\n<=s.size/\RdQ w' R s n q out ov/\St (FQ R ov) (FQ R ov) w w'
     |.bad c p=>e=.returned (fv c p)/\St (FQ R ov) (FQ R ov) w w':=⟨_,rfl⟩
 rw[<-hX];have HX:=U10 hX;obtain⟨c0,c1,c2,c3,fz⟩:=h.cells;have EB:=fz 1;have hR:=h.lt;have Ha:¬w.heap.size=R:=Ya
 have HS:=U10 h;clear fz h hX c3;go_enter func252,ntmps252;go_wp2_with fail
 go_loopw [3] (λ l wr=>∃(n j:Nat),l=.int .i64 j/\n<=s.size/\j<=n/\V30 (j==0) (bs s) n=V30 true (bs s) (a+1)/\RdQ wr R s n q out ov/\St (FQ R ov) (FQ R ov) w wr/\w.heap.size+1<=wr.heap.size /\
     wr.cell? w=some (.int .i64 0)/\wr.cell? ⟨w,1,none⟩=some (.int .i64 0)/\wr.frozen? w=false/\wr.frozen? ⟨w,1,none⟩=false)
  (λ _ wr=>s.size-Vbc R wr)
 case atStart =>
  have e:(↑a+1:Int)=((a+1:Nat):Int):=Ya;refine⟨a+1,0,rfl,Ya,Ya,rfl,?_,?_,by simp[World.setCell],?_,?_,?_,?_⟩;rw[e];exact (HS.o.setAt (a+1)).alloc _
  ·exact ((St.refl _ _).setCell (.inl (.inl rfl)) _).alloc _
  all_goals simp[go_sem]
 case round =>
  obtain⟨n,j,rfl,hn,hj,hF,hr,a9,hz,m0,m1,m2,m3⟩:=hrel;have aO:=V8 (bs s) n (by rw[O0];exact hn);rw[O0]at aO;have HF:=U10 hF;refine Z161 ?_;intro HR HT;have U4:=hr.lt;clear hF hr a9 c0 c1 c2 EB;go_wp2_with fail;obtain⟨wo,rfl⟩:∃wo:World,wo=wr:=⟨_,rfl⟩
  go_loopw [13] (λ _ w2=>∃m:Nat,n<=m/\m<=V7 (bs s) n/\V7 (bs s) m=V7 (bs s) n/\RdQ w2 R s m q out ov/\St (FQ R ov) (FQ R ov) wo w2) (λ _ w2=>s.size-Vbc R w2)
  case atStart=>exact⟨n,Ya,Ya,rfl,HR.o,St.refl _ _⟩
  case round =>
   obtain⟨m,h1,h2,h3,cL,aM⟩:=hrel;obtain⟨d0,d1,d2,d3,dz⟩:=cL.cells;have EH:=dz 1;have xG:=cL.lt;have mc:=O4s cL;have aP:=U10 cL;have gd:=U10 aM;have H3:=U10 h3;have PG:=U10 mc;clear cL aM h3 dz d3 mc;by_cases hm:m<s.size
   ·have dZ:decide (m<s.size)=true:=by simp;omega
    cases hb:V2x s[m]
    ·have hI:decide (0<=Lib.indexByte [32,9] s[m])=false:=by
      rw[decide_eq_false_iff_not,Oa9,hb];simp
     have HB:=U10 hb;clear hb;go_wp2_with fail
     go_quiet ((go_at_call 85;exact O5z (O42 _ false HB.o _) ⟨_,rfl⟩))
     have pE:m=V7 (bs s) n:=by
      rw[<-H3.o];exact (O5t (bs s) m (λ _=>HB.o)).symm
     obtain⟨S1,S2,S3,S4,S5⟩:=V64 (j==0) (bs s) n m (by rw[O0];exact hn) pE;have Aa:((m:Int)==(s.size:Int))=false:=Ye;have iL:m<(bs s).length:=by rw[O0];exact hm
     have BH:=S2 iL;have BI:=S3 iL;have BJ:=S4 iL;have BK:=S5 iL;clear S1 S2 S3 S4 S5 pE;have hu:=gd.o.use w.heap.size Ya (λ hF=>by have:=HS.o.own_lt hF;omega);have n0:wr.cell? w=some (.int .i64 0):=(hu.1 0).trans m0;have n1:wr.cell? ⟨w,1,none⟩=some (.int .i64 0):=(hu.1 1).trans m1;have n2:wr.frozen? w=false:=(hu.2 0).trans m2;have n3:wr.frozen? ⟨w,1,none⟩=false:=(hu.2 1).trans m3;have Hc:=gd.o.size;clear hu m0 m1 m2 m3;go_wp2_with fail
     go_quiet (fail)
     go_wp2_with fail;cases fO:Pl.feed ((bs s).drop m) with
     |bad c p =>
      obtain⟨rfl,rfl⟩:=V4m _ _ _ fO;have HE:=U10 ((BJ _ _ fO).symm.trans HF.o);have zH:=U10 fO;clear fO BH BI BJ BK;refine Z77 ?_;intro w1 g1 ah ap dl nP ax;have q0:w1.cell? w=some (.int .i64 0):=(ah _ _ Ye).trans n0;have q1:w1.cell? ⟨w,1,none⟩=some (.int .i64 0):=(ah _ _ Ye).trans n1;have q2:w1.frozen? w=false:=(ap _ _ Ye).trans n2;have q3:w1.frozen? ⟨w,1,none⟩=false:=(ap _ _ Ye).trans n3;refine Z121 ?_;intro fL x0 x1 x2 x3 xz AZ lU A' aN;clear ah ap n0 n1 n2 n3 fL x3 xz d0 d1 d2 EH;go_wp2_with fail;refine U11 (v:=fv 3 (m+1)) (by simp[results,results252,go_sem,q0,q1,dl,nP]) rfl ?_;exact J190
     |ok k =>
      cases k with
      |zero =>
       cases Ab:(j==0)
       ·have HE:=U10 ((BI fO Ab).symm.trans HF.o);have zH:=U10 fO;obtain⟨b1,b2⟩:=V1q _ 0 _ Ab;clear fO BH BI BJ BK;refine Z77 ?_;intro w1 g1 ah ap dl nP ax;have q0:w1.cell? w=some (.int .i64 0):=(ah _ _ Ye).trans n0;have q1:w1.cell? ⟨w,1,none⟩=some (.int .i64 0):=(ah _ _ Ye).trans n1;have q2:w1.frozen? w=false:=(ap _ _ Ye).trans n2;have q3:w1.frozen? ⟨w,1,none⟩=false:=(ap _ _ Ye).trans n3;refine Z121 ?_;intro fL x0 x1 x2 x3 xz AZ lU A' aN;clear ah ap n0 n1 n2 n3 fL x3 xz d0 d1 d2 EH;go_wp2_with fail;refine U11 (v:=f0) (by simp[results,results252,go_sem,q0,q1,dl,nP]) rfl ?_;rw[HX.o,<-HE.o];have a9:=HT.o;have aM:=gd.o;have eX:¬FQ R ov w.heap.size:=λ hF=>by have:=HS.o.own_lt hF;omega
        refine⟨rfl,?_,?_,?_⟩;omega;exact RdQ.auto aN.o
        exact St.auto
       have HE:=U10 ((BH fO Ab).symm.trans HF.o);have zH:=U10 fO;obtain⟨b1,b2⟩:=V1q _ 0 _ Ab;clear fO BH BI BJ BK;refine Z77 ?_;intro w1 g1 ah ap dl nP ax;have q0:w1.cell? w=some (.int .i64 0):=(ah _ _ Ye).trans n0;have q1:w1.cell? ⟨w,1,none⟩=some (.int .i64 0):=(ah _ _ Ye).trans n1;have q2:w1.frozen? w=false:=(ap _ _ Ye).trans n2;have q3:w1.frozen? ⟨w,1,none⟩=false:=(ap _ _ Ye).trans n3;refine Z121 ?_;intro fL x0 x1 x2 x3 xz AZ lU A' aN;clear ah ap n0 n1 n2 n3 fL x3 xz d0 d1 d2 EH;go_wp2_with fail;refine (O1i _ m Ya _).mono ?_;refine Z85 ?_;intro w4 g4 mY o9 mZ;have r0:w4.cell? w=some (.int .i64 0):=by rw[mY _ _ Ye];simp[go_sem,q0,dl,nP]
       have r1:w4.cell? ⟨w,1,none⟩=some (.int .i64 0):=by rw[mY _ _ Ye];simp[go_sem,q1,dl,nP]
       have r2:w4.frozen? w=false:=by rw[o9 _ _ Ye];simp[go_sem,q2,dl,nP]
       have r3:w4.frozen? ⟨w,1,none⟩=false:=by rw[o9 _ _ Ye];simp[go_sem,q3,dl,nP]
       clear mY o9;go_wp2_with fail;refine U11 (v:=fv 3 m) (by simp[results,results252,go_sem,r0,r1]) rfl ?_;exact J190
      |succ k =>
       have HE:=U10 ((BK _ fO).symm.trans HF.o);have zH:=U10 fO;have lh:=V47 _ _ fO;rw[U15,O0]at lh;have dp:((k:Int)+1==0)=false:=Ye;clear fO BH BI BJ BK;refine Z77 ?_;intro w1 g1 ah ap dl nP ax;have q0:w1.cell? w=some (.int .i64 0):=(ah _ _ Ye).trans n0;have q1:w1.cell? ⟨w,1,none⟩=some (.int .i64 0):=(ah _ _ Ye).trans n1;have q2:w1.frozen? w=false:=(ap _ _ Ye).trans n2;have q3:w1.frozen? ⟨w,1,none⟩=false:=(ap _ _ Ye).trans n3;refine Z121 ?_;intro fL x0 x1 x2 x3 xz AZ lU A' aN;clear ah ap n0 n1 n2 n3 fL x3 xz d0 d1 d2 EH
       set_option maxRecDepth 100000 in
       go_wp2_with fail;have fw:(↑m+(↑k+1):Int)=((m+(k+1):Nat):Int):=Ya
       go_roundw
       case rel =>
        rw[fw];refine⟨m+(k+1),j+1,by go_num,Ya,Ya,?_,(aN.o.setAt (m+(k+1))).alloc _,?_,by simp[World.setCell];omega,?_,?_,?_,?_⟩;rw[show ((j+1)==0)=false from by simp,HE.o]
        ·exact ((((HT.o.trans gd.o).gr (((Gr.refl wr).drewN _).trans g1)).setCell (.inl (.inl rfl)) _).alloc _)
        all_goals simp[go_sem,q0,q1,q2,q3,dl,nP,Ha]
       case measure =>
        rw[fw,O4s ((aN.o.setAt (m+(k+1))).alloc _),O4s HR.o];omega
    have hI:decide (0<=Lib.indexByte [32,9] s[m])=true:=by
     rw[decide_eq_true_iff,Oa9,hb]
    have HB:=U10 hb;clear hb;go_wp2_with fail
    go_quiet ((go_at_call 85;exact O5z (O42 _ true HB.o _) ⟨_,rfl⟩))
    go_wp2_with fail;have e1:(↑m+1:Int)=((m+1:Nat):Int):=Ya
    have PH:=Ob0 (bs s) m (by rw[O0];exact hm) HB.o;have rR:=V8 (bs s) (m+1) (by rw[O0];omega);have h3:=H3.o;have vt:RdQ ((wr.setCell ⟨R,1,none⟩ (.int .i64 ((m+1:Nat):Int))).drewN nq) R s (m+1) q out ov:=(aP.o.setAt (m+1)).drewN nq
    go_roundw
    case rel =>
     rw[e1];refine⟨m+1,Ya,Ya,by rw[<-PH,h3],?_,?_⟩;first|exact vt|exact (aP.o.drewN nq).setAt (m+1)
     exact St.trans gd.o (by first|exact ((St.refl _ _).setCell (.inl (.inl rfl)) _).drewN _|exact ((St.refl _ _).drewN _).setCell (.inl (.inl rfl)) _)
    case measure =>
     rw[e1,PG.o]
     first|rw[O4s vt]|rw[O4s ((aP.o.drewN nq).setAt (m+1))]
     omega
   have dZ:decide (m<s.size)=false:=Ye;have pE:m=V7 (bs s) n:=by
    rw[<-H3.o];exact (O5t (bs s) m (λ h=>absurd h (by rw[O0];exact hm))).symm
   obtain⟨S1,S2,S3,S4,S5⟩:=V64 (j==0) (bs s) n m (by rw[O0];exact hn) pE;have HE:=U10 ((S1 (by rw[O0];omega)).symm.trans HF.o);have Aa:((m:Int)==(s.size:Int))=true:=Ye;clear S1 S2 S3 S4 S5 pE;have hu:=gd.o.use w.heap.size Ya (λ hF=>by have:=HS.o.own_lt hF;omega);have n0:wr.cell? w=some (.int .i64 0):=(hu.1 0).trans m0;have n1:wr.cell? ⟨w,1,none⟩=some (.int .i64 0):=(hu.1 1).trans m1;have n2:wr.frozen? w=false:=(hu.2 0).trans m2;have n3:wr.frozen? ⟨w,1,none⟩=false:=(hu.2 1).trans m3;have Hc:=gd.o.size;clear hu m0 m1 m2 m3;go_wp2_with fail
   go_quiet (fail)
   go_wp2_with fail
   go_quiet (fail)
   go_wp2_with fail;refine U11 (v:=f0) (by simp[results,results252,go_sem,n0,n1]) rfl ?_;rw[HX.o,<-HE.o];have a9:=HT.o;have aM:=gd.o;have eX:¬FQ R ov w.heap.size:=λ hF=>by have:=HS.o.own_lt hF;omega
   refine⟨rfl,?_,?_,?_⟩;omega;exact RdQ.auto aP.o
   exact St.auto
namespace Pl
def V1z:List UInt8->Nat->Nat
 |_,0=>0
 |[],_+1=>0
 |c::l,d+1=>if V3v c then V1z l d+1 else 0
theorem V6f(l:List UInt8)(d:Nat):V1z l d<=d/\V1z l d<=l.length:=by
 induction l generalizing d with
 |nil=>cases d <;> simp[V1z]
 |cons c l ih =>
  cases d with
  |zero=>simp[V1z]
  |succ d=>have:=ih d;simp only[V1z];split <;> simp <;> omega
theorem Oaa(l:List UInt8)(d j:Nat)(hj:j<=V1z l d):V1z l d=j+V1z (l.drop j) (d-j):=by
 induction l generalizing d j with
 |nil=>cases d <;> simp[V1z]at hj <;> subst hj <;> simp[V1z]
 |cons c l ih =>
  cases j with
  |zero=>simp
  |succ j =>
   cases d with
   |zero=>simp[V1z]at hj
   |succ d =>
    simp only[V1z]at hj⊢
    split at hj
    rename_i hc
    rw[U18 hc,ih d j Ya];simp only[List.drop_succ_cons,Nat.add_sub_add_right];omega
    omega
theorem V8b(l:List UInt8)(d:Nat)(h:V1z l d=d):∀c∈l.take d,V3v c=true:=by
 induction l generalizing d with
 |nil=>simp
 |cons c l ih =>
  cases d with
  |zero=>simp
  |succ d =>
   simp only[V1z]at h
   split at h
   rename_i hc
   intro x hx;rw[U49,U36]at hx;rcases hx with rfl|hx
   exact hc
   exact ih d Ya x hx
   omega
def V1a(l:List UInt8)(p d:Nat):V35 Nat :=
 if V1z (l.drop p) d<d then .bad 3 (p+V1z (l.drop p) d)
 else if Lib.validRune (V4f ((l.drop p).take d)) then .ok (V4f ((l.drop p).take d)) else .bad 3 p
def V26(n:Nat):List UInt8:=(Lib.encodeRuneZ n).map λ x=>x.toNat.toUInt8
theorem V8c(l:List UInt8)(p d j:Nat)(hj:j<=V1z (l.drop p) d)(hd:j<d)(he:l.length<=p+j):V1a l p d=.bad 3 (p+j):=by
 have h1:=Oaa _ _ _ hj;have h2:(l.drop p).drop j=[]:=by rw[U27];exact U1w Ya
 rw[h2]at h1;have h3:V1z [] (d-j)=0:=by cases (d-j) <;> rfl
 have h4:V1z (l.drop p) d=j:=Ya
 simp[V1a,h4,hd]
theorem V7m(l:List UInt8)(p d j:Nat)(hj:j<=V1z (l.drop p) d)(hd:j<d)(c:UInt8)(r:List UInt8)(he:l.drop (p+j)=c::r):(V3v c=true->j+1<=V1z (l.drop p) d)/\(V3v c=false->V1a l p d=.bad 3 (p+j)):=by
 have h1:=Oaa _ _ _ hj;rw[U27,he]at h1;obtain⟨k,hk⟩:∃k,d-j=k+1:=⟨d-j-1,Ya⟩
 rw[hk]at h1;simp only[V1z]at h1;constructor;intro hc;rw[U18 hc]at h1;omega
 intro hc;rw[U1b (by simp[hc])]at h1;have h4:V1z (l.drop p) d=j:=Ya
 simp[V1a,h4,hd]
end Pl
theorem Ohr(s:ByteArray)(i k:Nat)(h:i<=k)(hk:k<=s.size):bs (s.extract i k)=((bs s).drop i).take (k-i):=by
 simp only[bs,U3b]
theorem Oex(w:World)(R:Nat)(s:ByteArray)(a:Nat)(q:UInt8)(out:List UInt8)(ov:Value)(h:RdQ w R s a q out ov)(hv:EsV w)(d:Nat)(hd:d=4\/d=8)(aa:a<s.size)(hs:s.size<=20000000)(ad:out.length<=29000000) :
    Calls prog 244 #[.pointer (some ⟨R,0,none⟩),d] w λ e w'=>match V1a (bs s) (a+2) d with
     |.ok n=>e=.returned f0/\∃aG,RdQ w' R s (a+2+d) q (out++V26 n) aG/\St (FQ R ov) (FQ R aG) w w'
     |.bad c p=>e=.returned (fv c p)/\St (FQ R ov) (FQ R ov) w w':=by
 obtain⟨X,hX⟩:∃X:Ending->World->Prop,X=λ e w'=>match V1a (bs s) (a+2) d with
     |.ok n=>e=.returned f0/\∃aG,RdQ w' R s (a+2+d) q (out++V26 n) aG/\St (FQ R ov) (FQ R aG) w w'
     |.bad c p=>e=.returned (fv c p)/\St (FQ R ov) (FQ R ov) w w':=⟨_,rfl⟩
 rw[<-hX];have HX:=U10 hX;refine Z232 ?_;intro c0 c1 c2 c3 fz hR;have HS:=U10 h;have HV:=U10 hv;have PI:d<=8:=Ya
 have PJ:4<=d:=Ya;clear fz h hX c3 hv hd;go_enter func244,ntmps244;go_wp2_with fail
 go_loopw [6] (λ l wr=>∃j:Nat,l=.int .i64 ((a:Int)+2+j)/\j<=d/\j<=V1z ((bs s).drop (a+2)) d/\Gr w wr/\w.heap.size+1<=wr.heap.size /\
     wr.cell? w=some (.int .i64 0)/\wr.cell? ⟨w,1,none⟩=some (.int .i64 0)/\wr.frozen? w=false/\wr.frozen? ⟨w,1,none⟩=false)
  (λ l _=>a+2+d-(intOf l).toNat)
 case atStart =>
  refine⟨0,Yb,Ya,Ya,(Gr.refl w).alloc _,Yb,?_,?_,?_,?_⟩
  all_goals simp[go_sem]
 case round =>
  obtain⟨j,rfl,hj,Hd,hg,hz,m0,m1,m2,m3⟩:=hrel;have hr:=HS.o.gr hg;obtain⟨d0,d1,d2,d3,dz⟩:=hr.cells;have HR:=U10 hr;have HG:=U10 hg;clear hr hg d3 dz c0 c1 c2;by_cases LS:j<d
  ·by_cases bD:s.size<=a+2+j
   ·have hU:=U10 (V8c (bs s) (a+2) d j Hd LS (by rw[O0];exact bD));go_wp2_with fail;refine (O1i _ (a+2+j) Ya _).mono ?_;rintro e w1 ⟨rfl,g1⟩;obtain⟨ah,ap,ax⟩:=g1.use;have q0:w1.cell? w=some (.int .i64 0):=(ah _ _ Ya).trans m0;have q1:w1.cell? ⟨w,1,none⟩=some (.int .i64 0):=(ah _ _ Ya).trans m1;have q2:w1.frozen? w=false:=(ap _ _ Ya).trans m2;have q3:w1.frozen? ⟨w,1,none⟩=false:=(ap _ _ Ya).trans m3;clear ah ap m0 m1 m2 m3;go_wp2_with fail;refine U11 (v:=fv 3 (a+2+j)) (by simp[results,results244,go_sem,q0,q1]) rfl ?_;rw[HX.o,hU.o];have a9:St (FQ R ov) (FQ R ov) w w1:=((HG.o.trans g1)).st;exact⟨rfl,St.auto⟩
   have fP:a+2+j<s.size:=Ya;obtain⟨u1,u2⟩:=V7m (bs s) (a+2) d j Hd LS s[a+2+j] _ (O9 s (a+2+j) fP);have ht:bs (s.extract (a+2+j) (a+2+j+1))=[s[a+2+j]]:=by
    rw[Ohr s _ _ Ya Ya,O9 s (a+2+j) fP];simp
   obtain⟨t,od⟩:∃t,t=s.extract (a+2+j) (a+2+j+1):=⟨_,rfl⟩
   rw[<-od]at ht;go_wp2_with fail;rw[<-od];refine (Omp t _ ht _ (HV.o.gr HG.o)).mono ?_;rintro e w1 ⟨g1,nn,vv,rfl,k1,k2⟩;cases hx:V3v s[a+2+j]
   ·obtain⟨T,p,rfl⟩:=k2 hx;have hU:=U10 (u2 hx);clear u1 u2 k1 k2 od ht hx;obtain⟨ah,ap,ax⟩:=g1.use;have n0:w1.cell? w=some (.int .i64 0):=(ah _ _ Ya).trans m0;have n1:w1.cell? ⟨w,1,none⟩=some (.int .i64 0):=(ah _ _ Ya).trans m1;have n2:w1.frozen? w=false:=(ap _ _ Ya).trans m2;have n3:w1.frozen? ⟨w,1,none⟩=false:=(ap _ _ Ya).trans m3;clear ah ap m0 m1 m2 m3;go_wp2_with fail;refine (O1i _ (a+2+j) Ya _).mono ?_;rintro e w2 ⟨rfl,g2⟩;obtain⟨ah,ap,aL⟩:=g2.use;have q0:w2.cell? w=some (.int .i64 0):=(ah _ _ Ya).trans n0;have q1:w2.cell? ⟨w,1,none⟩=some (.int .i64 0):=(ah _ _ Ya).trans n1;have q2:w2.frozen? w=false:=(ap _ _ Ya).trans n2;have q3:w2.frozen? ⟨w,1,none⟩=false:=(ap _ _ Ya).trans n3;clear ah ap n0 n1 n2 n3;go_wp2_with fail;refine U11 (v:=fv 3 (a+2+j)) (by simp[results,results244,go_sem,q0,q1]) rfl ?_;rw[HX.o,hU.o];have a9:St (FQ R ov) (FQ R ov) w w2:=(((HG.o.trans g1)).trans g2).st;exact⟨rfl,St.auto⟩
   obtain rfl:=k1 hx;have He:=u1 hx;clear u1 u2 k1 k2 od ht hx;obtain⟨ah,ap,ax⟩:=g1.use;have n0:w1.cell? w=some (.int .i64 0):=(ah _ _ Ya).trans m0;have n1:w1.cell? ⟨w,1,none⟩=some (.int .i64 0):=(ah _ _ Ya).trans m1;have n2:w1.frozen? w=false:=(ap _ _ Ya).trans m2;have n3:w1.frozen? ⟨w,1,none⟩=false:=(ap _ _ Ya).trans m3;clear ah ap m0 m1 m2 m3;go_wp2_with fail;refine⟨⟨j+1,(by first|rfl|(congr 1;omega)),Ya,He,HG.o.trans g1,Ya,n0,n1,n2,n3⟩,by simp[intOf];omega⟩
  obtain rfl:j=d:=Ya;have me:=V6f ((bs s).drop (a+2)) j;have fd:V1z ((bs s).drop (a+2)) j=j:=Ya;have aQ:a+2+j<=s.size:=by
   have:=me.2;rw[U15,O0]at this;omega
  have aH:=V8b _ _ fd;have ht:bs (s.extract (a+2) (a+2+j))=((bs s).drop (a+2)).take j:=by
   rw[Ohr s _ _ Ya Ya];congr 1;omega
  have rS:(s.extract (a+2) (a+2+j)).size=j:=Ye;have EI:V1a (bs s) (a+2) j=if Lib.validRune (V4f (bs (s.extract (a+2) (a+2+j)))) then .ok (V4f (bs (s.extract (a+2) (a+2+j)))) else .bad 3 (a+2):=by
   rw[ht];simp[V1a,fd]
  have Hf:V4f (bs (s.extract (a+2) (a+2+j)))<4294967296:=by
   have h1:=V89 _ 0 aH;rw[<-ht]at h1;have h2:16 ^ (bs (s.extract (a+2) (a+2+j))).length<=16 ^ 8:=U4q Ya (by rw[O0,rS];exact PI);have h3:V4f (bs (s.extract (a+2) (a+2+j)))<(0+1)*16 ^ (bs (s.extract (a+2) (a+2+j))).length:=h1;omega
  rw[<-ht]at aH;clear me fd Hd ht;obtain⟨t,od⟩:∃t,t=s.extract (a+2) (a+2+j):=⟨_,rfl⟩
  rw[<-od]at rS EI Hf aH;go_wp2_with fail;rw[<-od];refine (Omq t Ya Ya aH _).mono ?_;rintro e w1 ⟨g1,rfl⟩;obtain⟨n,hn⟩:∃n,n=V4f (bs t):=⟨_,rfl⟩
  rw[<-hn]at EI Hf⊢;have HU:=U10 EI;clear EI aH od rS hn;obtain⟨ah,ap,ax⟩:=g1.use;have n0:w1.cell? w=some (.int .i64 0):=(ah _ _ Ya).trans m0;have n1:w1.cell? ⟨w,1,none⟩=some (.int .i64 0):=(ah _ _ Ya).trans m1;have n2:w1.frozen? w=false:=(ap _ _ Ya).trans m2;have n3:w1.frozen? ⟨w,1,none⟩=false:=(ap _ _ Ya).trans m3;clear ah ap m0 m1 m2 m3;by_cases jP:1114111<n
  have hi:(1114111:Int)<n:=Ya;have En:=U10 (show Lib.validRune n=false by simp[Lib.validRune];omega);exact J118
  have hi:(n:Int)<=1114111:=Ya;go_wp2_with fail;refine (utf8_ValidRune n w1).mono ?_;refine Z44 ?_;cases EJ:Lib.validRune n
  have En:=U10 EJ;clear EJ;exact J118
  have En:=U10 EJ;clear EJ;have hw:IntKind.i64.wrap (n:Int)=(n:Int):=by rw[IntKind.wrap_i64];omega
  clear Hf jP
  first|(rename_i hx;have PK:(n:Int)<=1114111:=hx;clear PK hx)|skip
  rename_i K1 b1 K2 b2 K3 b3
  refine b3 _ _ ?_;clear b3 K3;have B2:=U10 b2;have B1:=U10 b1;clear b2 b1;go_wp2_with fail;refine B2.o _ _ ?_;have LU:decide ((1114111:Int)<(n:Int))=false:=U4f Ya
  try simp only[LU]
  clear LU;go_wp2_with fail;refine B1.o _ _ ?_;clear B1 B2;have gR:(V26 n).map O4=Lib.runeCells n:=Lib.byteCells_encodeRune n;have me:(Lib.runeCells n).length=(V26 n).length:=Lib.runeCells_length n;have tA:=Lib.runeCells_le n;have a8:V26 n≠[]:=by intro e;rw[me,e]at tA;simp at tA
  rw[me]at tA;obtain⟨rb,xN⟩:∃rb,rb=V26 n:=⟨_,rfl⟩
  rw[<-xN]at gR me tA a8;have HB:=U10 gR;have HL:=U10 me;have HN:=U10 a8;have HE:=U10 xN;clear gR me a8 xN;go_wp2_with fail;refine (Omz w1.heap.size 0 1 n Ya _ Yg).mono ?_;rintro e w2 ⟨gb,cap,rfl,px,g2,bP⟩;rw[HL.o];rw[<-HB.o]at bP;have fQ:Gr w1 w2:=((Gr.refl _).alloc _).trans g2;obtain⟨ah,ap,aL⟩:=fQ.use;simp at px;have q0:w2.cell? w=some (.int .i64 0):=(ah _ _ Ya).trans n0;have q1:w2.cell? ⟨w,1,none⟩=some (.int .i64 0):=(ah _ _ Ya).trans n1;have q2:w2.frozen? w=false:=(ap _ _ Ya).trans n2;have q3:w2.frozen? ⟨w,1,none⟩=false:=(ap _ _ Ya).trans n3;have HC:=U10 bP;have HT:=U10 fQ;have rU:=U10 g1;clear ah ap n0 n1 n2 n3 bP fQ g1 g2;go_wp2_with fail;refine (O3p _ R s a q out ov ((HR.o.gr rU.o).gr HT.o) _ (2+j) Yb Ya rb gb 0 cap HN.o Ya HC.o Ya).mono ?_;rintro e w3 ⟨rfl,aG,hr,a9⟩;have aR:=a9.use w.heap.size Ya (λ hF=>by have:=HS.o.own_lt hF;omega);have hz:=a9.size;obtain⟨ah,ap⟩:=aR;refine Z161 ?_;intro aW bv;have r0:w3.cell? w=some (.int .i64 0):=(ah _).trans q0;have r1:w3.cell? ⟨w,1,none⟩=some (.int .i64 0):=(ah _).trans q1;have r2:w3.frozen? w=false:=(ap _).trans q2;have r3:w3.frozen? ⟨w,1,none⟩=false:=(ap _).trans q3;clear hr a9 ah ap q0 q1 q2 q3;go_wp2_with fail;refine U11 (v:=f0) (by simp[results,results244,go_sem,r0,r1]) rfl ?_;rw[HX.o,HU.o,En.o,U18 rfl];refine⟨rfl,aG,?_,?_⟩
  have eX:¬FQ R aG w.heap.size:=λ hF=>by
   rcases bv.o.own _ hF with hF|hF
   have:=HS.o.own_lt hF;omega
   omega
  have e1:a+(2+j)=a+2+j:=Ya;have fd:=aW.o;rw[e1,HE.o]at fd;exact RdQ.auto fd
  have eh:St (FQ R ov) (FQ R aG) w w3:=((HG.o.trans (rU.o.trans HT.o)).st).trans bv.o;have a9:=eh;exact St.auto
namespace Pl
def V3w(T:Nat->UInt8×UInt8)(c:UInt8)(k:Nat):Nat->Option Nat
 |0=>none
 |n+1=>if c.toNat=(T k).1.toNat then some k else V3w T c (k+1) n
theorem V8d(T:Nat->UInt8×UInt8)(c:UInt8)(k n:Nat)(h:(c.toNat==(T k).1.toNat)=true):V3w T c k (n+1)=some k:=by
 simp at h;simp[V3w,h]
theorem V7n(T:Nat->UInt8×UInt8)(c:UInt8)(k n:Nat)(h:(c.toNat==(T k).1.toNat)=false):V3w T c k (n+1)=V3w T c (k+1) n:=by
 simp at h;simp[V3w,h]
def V4b(T:Nat->UInt8×UInt8)(l:List UInt8)(a:Nat):V35 (List UInt8×Nat) :=
 match l.drop (a+1) with
 |[] => .bad 3 l.length
 | c::_=>match V3w T c 0 7 with
  |some k => .ok ([(T k).2],a+2)
  |none =>
   if c.toNat=117 then match V1a l (a+2) 4 with|.ok n => .ok (V26 n,a+2+4)|.bad c p => .bad c p
   else if c.toNat=85 then match V1a l (a+2) 8 with|.ok n => .ok (V26 n,a+2+8)|.bad c p => .bad c p
   else .bad 3 (a+1)
theorem V8q(T)(l:List UInt8)(a:Nat)(h:l.length=a+1):V4b T l a=.bad 3 (a+1):=by
 unfold V4b;rw[List.drop_of_length_le Ya,h]
theorem V6v(T)(l:List UInt8)(a:Nat)(c:UInt8)(r:List UInt8)(h:l.drop (a+1)=c::r):V4b T l a=match V3w T c 0 7 with
    |some k => .ok ([(T k).2],a+2)
    |none =>
     if c.toNat=117 then match V1a l (a+2) 4 with|.ok n => .ok (V26 n,a+2+4)|.bad c p => .bad c p
     else if c.toNat=85 then match V1a l (a+2) 8 with|.ok n => .ok (V26 n,a+2+8)|.bad c p => .bad c p
     else .bad 3 (a+1):=by
 unfold V4b;rw[h]
end Pl
def shC(T:Nat->UInt8×UInt8):Array Value:=#[O4 (T 0).1,O4 (T 0).2,O4 (T 1).1,O4 (T 1).2,O4 (T 2).1,O4 (T 2).2,O4 (T 3).1,O4 (T 3).2,O4 (T 4).1,O4 (T 4).2,O4 (T 5).1,O4 (T 5).2,O4 (T 6).1,O4 (T 6).2]
def ShW(T:Nat->UInt8×UInt8)(w:World):Prop:=∀j v,(shC T)[j]?=some v->w.cell? ⟨0,j,none⟩=some v
theorem ShW.gr{T}{w w':World}(h:ShW T w)(g:Gr w w'):ShW T w':=λ j v hj=>(g.use.1 _ _ (Lib.lt_of_cell (h j v hj))).trans (h j v hj)
theorem Oc0(T:Nat->UInt8×UInt8)(k:Nat)(hk:k<7)(W:World):(Instr.index 108 (.agg (shC T)) k).run prog W=.ok (.agg #[O4 (T k).1,O4 (T k).2]) W:=by
 have:k=0\/k=1\/k=2\/k=3\/k=4\/k=5\/k=6:=Ya
 rcases this with rfl|rfl|rfl|rfl|rfl|rfl|rfl
 all_goals (show _=_;first|kernel_rfl|rfl)
theorem O8e(w:World)(R:Nat)(s:ByteArray)(a:Nat)(q:UInt8)(out:List UInt8)(ov:Value)(h:RdQ w R s a q out ov)(hv:EsV w)(T:Nat->UInt8×UInt8)(ht:ShW T w)(aa:a<s.size)(hs:s.size<=20000000)(ad:out.length<=29000000) :
    Calls prog 243 #[.pointer (some ⟨R,0,none⟩)] w λ e w'=>match V4b T (bs s) a with
     |.ok r=>e=.returned f0/\∃aG,RdQ w' R s r.2 q (out++r.1) aG/\St (FQ R ov) (FQ R aG) w w'
     |.bad c p=>e=.returned (fv c p)/\St (FQ R ov) (FQ R ov) w w':=by
 obtain⟨X,hX⟩:∃X:Ending->World->Prop,X=λ e w'=>match V4b T (bs s) a with
     |.ok r=>e=.returned f0/\∃aG,RdQ w' R s r.2 q (out++r.1) aG/\St (FQ R ov) (FQ R aG) w w'
     |.bad c p=>e=.returned (fv c p)/\St (FQ R ov) (FQ R ov) w w':=⟨_,rfl⟩
 rw[<-hX];have HX:=U10 hX;refine Z232 ?_;intro c0 c1 c2 c3 fz hR;have HS:=U10 h;have HV:=U10 hv;have HT:=U10 ht;clear fz h hX c3 hv ht;have fX:=U1i ((a:Int)+1) Ya;have bx:((a:Int)+1).toNat=a+1:=Ya
 by_cases bD:s.size=a+1
 ·have hb:((a:Int)+1==(s.size:Int))=true:=by simp;omega
  have HU:=U10 (V8q T (bs s) a (by rw[O0];exact bD));go_enter func243,ntmps243;go_wp2_with fail
  go_quiet (fail)
  go_wp2_with fail;refine (O1i _ (a+1) Ya _).mono ?_;refine Z85 ?_;intro w1 g1 ah ap ax;have q0:w1.cell? w=some (.int .i64 0):=(ah _ _ Yb).trans Yb;have q1:w1.cell? ⟨w,1,none⟩=some (.int .i64 0):=(ah _ _ Yb).trans Yb;have q2:w1.frozen? w=false:=(ap _ _ Yb).trans Yg;have q3:w1.frozen? ⟨w,1,none⟩=false:=(ap _ _ Yb).trans Yg;have dG:w.heap.size<w1.heap.size:=Ya
  clear ah ap;go_wp2_with fail;refine U11 (v:=fv 3 (a+1)) (by simp[results,results243,go_sem,q0,q1]) rfl ?_;rw[HX.o,HU.o];exact⟨rfl,St.auto⟩
 have hb:((a:Int)+1==(s.size:Int))=false:=Ye;have fP:a+1<s.size:=Ya;have nQ:(0:Int)<=(a:Int)+1:=Ya;have eY:(a:Int)+1<(s.size:Int):=Ya;have t0:w.cell? ⟨0,0,none⟩=some (.int .u8 (T 0).1.toNat):=HT.o 0 _ rfl;have t1:w.cell? ⟨0,1,none⟩=some (.int .u8 (T 0).2.toNat):=HT.o 1 _ rfl;have t2:w.cell? ⟨0,2,none⟩=some (.int .u8 (T 1).1.toNat):=HT.o 2 _ rfl;have t3:w.cell? ⟨0,3,none⟩=some (.int .u8 (T 1).2.toNat):=HT.o 3 _ rfl;have t4:w.cell? ⟨0,4,none⟩=some (.int .u8 (T 2).1.toNat):=HT.o 4 _ rfl;have t5:w.cell? ⟨0,5,none⟩=some (.int .u8 (T 2).2.toNat):=HT.o 5 _ rfl;have t6:w.cell? ⟨0,6,none⟩=some (.int .u8 (T 3).1.toNat):=HT.o 6 _ rfl;have t7:w.cell? ⟨0,7,none⟩=some (.int .u8 (T 3).2.toNat):=HT.o 7 _ rfl;have t8:w.cell? ⟨0,8,none⟩=some (.int .u8 (T 4).1.toNat):=HT.o 8 _ rfl;have t9:w.cell? ⟨0,9,none⟩=some (.int .u8 (T 4).2.toNat):=HT.o 9 _ rfl;have t10:w.cell? ⟨0,10,none⟩=some (.int .u8 (T 5).1.toNat):=HT.o 10 _ rfl;have t11:w.cell? ⟨0,11,none⟩=some (.int .u8 (T 5).2.toNat):=HT.o 11 _ rfl;have t12:w.cell? ⟨0,12,none⟩=some (.int .u8 (T 6).1.toNat):=HT.o 12 _ rfl;have t13:w.cell? ⟨0,13,none⟩=some (.int .u8 (T 6).2.toNat):=HT.o 13 _ rfl;have U5:0<w.heap.size:=Lib.lt_of_cell t0;have HE:=U10 (V6v T (bs s) a s[a+1] _ (O9 s (a+1) fP));obtain⟨c,EK⟩:∃c,c=s[a+1]:=⟨_,rfl⟩
 rw[<-EK]at HE;go_enter func243,ntmps243;go_wp2_with fail
 go_quiet (fail)
 go_wp2_with fail
 go_quiet (fail)
 rw[<-EK];clear EK;go_wp2_with fail
 go_loopw [34] (λ v wr=>∃k:Nat,v=.int .i64 k/\k<=7/\V3w T c 0 7=V3w T c k (7-k)/\Gr w wr/\w.heap.size+1<=wr.heap.size /\
  wr.cell? w=some (.int .i64 0)/\wr.cell? ⟨w,1,none⟩=some (.int .i64 0)/\wr.frozen? w=false/\wr.frozen? ⟨w,1,none⟩=false)
  (λ v _=>7-(intOf v).toNat)
 case atStart =>
  refine⟨0,rfl,Ya,rfl,Gr.auto,Yb,?_,?_,?_,?_⟩
  all_goals simp[go_sem]
 case round =>
  obtain⟨k,rfl,hk,hi,hg,hz,m0,m1,m2,m3⟩:=hrel;have hr:=HS.o.gr hg;obtain⟨d0,d1,d2,d3,dz⟩:=hr.cells;have HR:=U10 hr;have HG:=U10 hg;have HI:=U10 hi;have hn:¬FQ R ov wr.heap.size:=λ hF=>by have:=HR.o.own_lt hF;omega
  have iJ:¬FQ R ov w.heap.size:=λ hF=>by have:=HS.o.own_lt hF;omega
  have eE:w.heap.size<wr.heap.size:=Ya;have pF:¬w.heap.size=wr.heap.size:=Ya;clear hr hg hi d3 dz c0 c1 c2;by_cases oe:k<7
  ·have i0:∀W,(Instr.index 108 (.agg (shC T)) k).run prog W=.ok (.agg #[O4 (T k).1,O4 (T k).2]) W:=λ W=>Oc0 T k oe W
   simp only[shC,O4]at i0;have hd:decide (k<7)=true:=Ye
   cases hc:(c.toNat==(T k).1.toNat)
   ·have hm:=U10 (V7n T c k (6-k) hc);obtain⟨b1,b2⟩:=V1q _ _ _ hc;clear hc;go_wp2_with fail;refine⟨⟨k+1,Yb,Ya,?_,Gr.auto,?_,?_,?_,?_,?_⟩,by simp[intOf];omega⟩
    rw[HI.o,show 7-k=6-k+1 by omega,hm.o,show 6-k=7-(k+1) by omega]
    ·simp;omega
    all_goals simp[go_sem,m0,m1,m2,m3,eE,pF]
   have hm:=U10 (V8d T c k (6-k) hc);obtain⟨b1,b2⟩:=V1q _ _ _ hc;clear hc;go_wp2_with fail;refine (O3p _ R s a q out ov (RdQ.auto HR.o) 2 2 rfl Ya [(T k).2] (wr.heap.size+1) 0 1 Yb Ya (O5a _ _ _ _ Yb) Ye).mono ?_;rintro e w1 ⟨rfl,aG,hr,a9⟩;obtain⟨ah,ap⟩:=a9.use w.heap.size Ye iJ;have ax:=a9.size;simp at ax;have r0:w1.cell? w=some (.int .i64 0):=(ah _).trans (by simp[go_sem,m0,eE,pF]);have r1:w1.cell? ⟨w,1,none⟩=some (.int .i64 0):=(ah _).trans (by simp[go_sem,m1,eE,pF]);have r2:w1.frozen? w=false:=(ap _).trans (by simp[go_sem,m2,eE,pF]);have r3:w1.frozen? ⟨w,1,none⟩=false:=(ap _).trans (by simp[go_sem,m3,eE,pF]);refine Z161 ?_;intro aN bv;clear hr a9 ah ap m0 m1 m2 m3;go_wp2_with fail;refine Z264 ?_;rw[HX.o,HE.o,HI.o,show 7-k=6-k+1 by omega,hm.o];refine⟨rfl,aG,?_,?_⟩
   have eX:¬FQ R aG w.heap.size:=λ hF=>by
    rcases bv.o.own _ hF with hF|hF
    exact iJ hF
    simp at hF;omega
   have fd:=aN.o;exact RdQ.auto fd
   have eh:St (FQ R ov) (FQ R aG) w w1:=(Gr.st Gr.auto).trans bv.o;have a9:=eh;exact St.auto
  obtain rfl:k=7:=Ya;have hd:decide ((7:Nat)<7)=false:=Yb;have HN:RowKit.Hid (V3w T c 0 7=none):=U10 HI.o;cases hu:(c.toNat==117)
  ·obtain⟨b1,b2⟩:=V1q _ 117 _ hu;have xO:¬c.toNat=117:=by simpa using hu
   cases hU:(c.toNat==85)
   ·obtain⟨b3,b4⟩:=V1q _ 85 _ hU;have BL:¬c.toNat=85:=by simpa using hU
    have HF:V4b T (bs s) a=.bad 3 (a+1):=by rw[HE.o,HN.o];simp[xO,BL]
    have HQ:=U10 HF;clear HF hu hU xO BL;go_wp2_with fail;refine (O1i _ (a+1) Ya _).mono ?_;rintro e w1 ⟨rfl,g1⟩;obtain⟨ah,ap,ax⟩:=g1.use;have r0:w1.cell? w=some (.int .i64 0):=(ah _ _ eE).trans m0;have r1:w1.cell? ⟨w,1,none⟩=some (.int .i64 0):=(ah _ _ eE).trans m1;have r2:w1.frozen? w=false:=(ap _ _ eE).trans m2;have r3:w1.frozen? ⟨w,1,none⟩=false:=(ap _ _ eE).trans m3;clear ah ap m0 m1 m2 m3;go_wp2_with fail;refine U11 (v:=fv 3 (a+1)) (by simp[results,results243,go_sem,r0,r1]) rfl ?_;rw[HX.o,HQ.o];have a9:St (FQ R ov) (FQ R ov) w w1:=(HG.o.trans g1).st;exact⟨rfl,St.auto⟩
   obtain⟨b3,b4⟩:=V1q _ 85 _ hU;have BL:c.toNat=85:=by simpa using hU
   clear hu hU;have HF:V4b T (bs s) a=match V1a (bs s) (a+2) 8 with|.ok n => .ok (V26 n,a+2+8)|.bad c p => .bad c p:=by
    rw[HE.o,HN.o];simp[xO,BL]
   clear xO BL;go_wp2_with fail;refine (Oex _ R s a q out ov HR.o (HV.o.gr HG.o) 8 Ya aa hs ad).mono ?_;intro e w1 hp;cases hq:V1a (bs s) (a+2) 8 with
   |ok n =>
    exact J109
   |bad c' p =>
    exact J117
  obtain⟨b1,b2⟩:=V1q _ 117 _ hu;have xO:c.toNat=117:=by simpa using hu
  clear hu;have HF:V4b T (bs s) a=match V1a (bs s) (a+2) 4 with|.ok n => .ok (V26 n,a+2+4)|.bad c p => .bad c p:=by
   rw[HE.o,HN.o];simp[xO]
  clear xO;go_wp2_with fail;refine (Oex _ R s a q out ov HR.o (HV.o.gr HG.o) 4 Ya aa hs ad).mono ?_;intro e w1 hp;cases hq:V1a (bs s) (a+2) 4 with
  |ok n =>
   exact J109
  |bad c' p =>
   exact J117
namespace Pl
def V43(T:Nat->UInt8×UInt8)(l:List UInt8):SR :=
 match V4b T l 0 with
 |.ok r => .go r.2 r.1 false
 |.bad _ p => .bad p
theorem O8f(l:List UInt8)(a p d:Nat):V1a l (a+p) d=match V1a (l.drop a) p d with|.ok n => .ok n|.bad c k => .bad c (a+k):=by
 unfold V1a;rw[U27]
 split;simp;omega
 split <;> simp
theorem O7a(l:List UInt8)(p d:Nat){c k:Nat}(h:V1a l p d=.bad c k):c=3:=by
 unfold V1a at h
 split at h;simp at h;exact h.1.symm
 split at h;simp at h
 simp at h;exact h.1.symm
theorem V8r(T)(l:List UInt8)(a:Nat)(h:a<=l.length):V4b T l a=match V43 T (l.drop a) with|.go n t _ => .ok (t,a+n)|.bad p => .bad 3 (a+p):=by
 unfold V43 V4b;rw[U27,U1q,U1q];cases hd:l.drop (a+1) with
 |nil=>simp;omega
 |cons c r =>
  simp only[];cases V3w T c 0 7 with
  |some k=>simp
  |none =>
   simp only[]
   split
   rw[O8f l a 2 4];cases hu:V1a (l.drop a) 2 4 with
   |ok n=>simp <;> omega
   |bad c k=>simp[O7a _ _ _ hu]
   split
   rw[O8f l a 2 8];cases hu:V1a (l.drop a) 2 8 with
   |ok n=>simp <;> omega
   |bad c k=>simp[O7a _ _ _ hu]
   simp
theorem O37(T)(l:List UInt8)(n:Nat)(t:List UInt8)(o:Bool)(h:V43 T l=.go n t o):t.length<=n/\1<=n/\n<=l.length:=by
 have hu:∀d k,V1a l (0+2) d=.ok k->1<=d->2+d<=l.length/\(V26 k).length<=4:=by
  intro d k hk hd;unfold V1a at hk;have h1:=V6f (l.drop (0+2)) d;rw[U15]at h1
  split at hk;simp at hk
  refine⟨Ya,?_⟩;have h2:=Lib.runeCells_le k;rw[Lib.runeCells_length]at h2;exact h2.2
 unfold V43 V4b at h;cases hd:l.drop (0+1) with
 |nil=>rw[hd]at h;simp at h
 |cons c r =>
  have hl:2<=l.length:=by
   have:=U2b List.length hd;rw[U15]at this;simp at this;omega
  rw[hd]at h;simp only[]at h;cases he:V3w T c 0 7 with
  |some k=>rw[he]at h;simp at h;obtain⟨rfl,rfl,_⟩:=h;simp;omega
  |none =>
   rw[he]at h;simp only[]at h
   split at h
   rename_i x hx
   split at hx
   cases hq:V1a l (0+2) 4 with
   |ok k=>rw[hq]at hx;have:=hu 4 k hq Ya;simp at hx h;subst hx;simp at h;obtain⟨rfl,rfl,_⟩:=h;omega
   |bad c p=>rw[hq]at hx;simp at hx
   split at hx
   cases hq:V1a l (0+2) 8 with
   |ok k=>rw[hq]at hx;have:=hu 8 k hq Ya;simp at hx h;subst hx;simp at h;obtain⟨rfl,rfl,_⟩:=h;omega
   |bad c p=>rw[hq]at hx;simp at hx
   simp at hx
   simp at h
theorem V61(T)(l:List UInt8)(n:Nat)(t:List UInt8)(o:Bool)(h:V43 T l=.go n t o):o=false:=by
 unfold V43 at h
 split at h;simp at h;exact h.2.2
 simp at h
end Pl
structure QW(T:Nat->UInt8×UInt8)(w:World):Prop where
 es:EsV w
 sh:ShW T w
theorem QW.gr{T}{w w':World}(h:QW T w)(g:Gr w w'):QW T w':=⟨h.es.gr g,h.sh.gr g⟩
theorem Oc1(w:World)(R:Nat)(s:ByteArray)(a:Nat)(q:UInt8)(out:List UInt8)(ov:Value)(h:RdQ w R s a q out ov)(hv:EsV w)(T:Nat->UInt8×UInt8)(ht:ShW T w)(aa:a<s.size)(hs:s.size<=20000000)(ho:out.length<=a)(hm:(s[a].toNat==q.toNat)=false)(he:(s[a].toNat==92)=true):Calls prog 242 #[.agg #[.pointer (some ⟨R,0,none⟩)]] w (O19 R s a q out ov w (V43 T ((bs s).drop a))):=by
 have hR:=h.lt;refine Z219 ?_;intro b1 b2 sr cK HO HX hX bR;have HS:=U10 h;have HM:=U10 hm;have HV:=U10 hv;have PL:=U10 ht;clear cK hX h hm he hv ht bR;go_enter func242,ntmps242;go_wp2_with fail;refine Z318 ?_;intro w1 g1 ah ap ax;have hg:Hid (Gr w w1):=by
  have h1:Gr w ((w.alloc (.cells #[.pointer (some ⟨R,0,none⟩)] 170)).alloc (.cells #[(0:Int),(0:Int)] 29)):=Gr.auto;exact h1.trans g1
 have iE:Hid (RdQ w1 R s a q out ov):=HS.o.gr hg.o;have c0:w1.cell? R=some (.string s):=iE.o.cells.1;have c1:w1.cell? ⟨R,1,none⟩=some (.int .i64 a):=iE.o.cells.2.1;go_wp2_with fail
 go_quiet (fail)
 go_wp2_with fail;refine (O8e _ R s a q out ov (RdQ.auto iE.o) (HV.o.gr (hg.o.drewN _)) T (PL.o.gr (hg.o.drewN _)) aa hs Ya).mono ?_;rw[HX.o];cases sr with
 |bad p =>
  rintro e w2 ⟨rfl,a9⟩;refine Z18 ?_;intro aE dj aL;have HT:=U10 a9;clear a9;go_wp2_with fail;refine U11 (v:=.tuple #[.bool false,fv 3 (a+p)]) (by simp[results,results242,go_sem,aE,ah]) rfl ⟨rfl,FQ R ov,?_⟩;have a9:St (FQ R ov) (FQ R ov) w w2:=(hg.o.drewN _).st.trans HT.o;exact St.auto
 |go n t over =>
  obtain rfl:=HO.o n t over rfl;rintro e w2 ⟨rfl,aG,hr,a9⟩;refine Z18 ?_;intro aE dj aL;refine Z161 ?_;intro HR HT;have eX:¬FQ R aG (w.heap.size+1):=λ hF=>by
   rcases HT.o.own _ hF with hF|hF
   have:=HS.o.own_lt hF;omega
   simp at hF;omega
  clear hr a9;go_wp2_with fail;refine U11 (v:=.tuple #[.bool false,f0]) (by simp[results,results242,go_sem,aE,ah]) rfl ⟨rfl,aG,RdQ.auto HR.o,?_⟩;have a9:St (FQ R ov) (FQ R aG) w w2:=(hg.o.drewN _).st.trans HT.o;exact St.auto
namespace Pl
def V5m(c:UInt8):Bool:=c.toNat==32 || c.toNat==9 || c.toNat==13 || c.toNat==10
def V4g(l:List UInt8):SR:=match V30 true l 1 with
 |.ok n => .go n [] false
 |.bad _ p => .bad p
def V3e(T:Nat->UInt8×UInt8)(q:UInt8)(l:List UInt8):SR :=
 match V1m q l with
 |some x=>x
 | none=>match l with
  |[] => .bad 0
  | c::r=>if c.toNat==92 then (match r with
      |[]=>V43 T (c::r)
      |d::_=>if V5m d then V4g (c::r) else V43 T (c::r)) else V32 (c::r)
theorem Ofz(f:Nat):∀(b:Bool)(l:List UInt8)(k p:Nat),O_v f b l=.bad k p->k=3:=by
 induction f with
 |zero=>intro b l k p h;simp[O_v]at h
 |succ f ih =>
  intro b l k p h;unfold O_v at h
  split at h;cases h
  rename_i c r hd
  split at h
  rename_i k' p' hf
  have:=V4m _ _ _ hf;cases h;exact this.1
  split at h;cases h;rfl
  cases h
  split at h
  rename_i k' p' hf
  cases h;exact ih _ _ _ _ hf
  cases h
theorem Ojy(f:Nat):∀(b:Bool)(l:List UInt8)(m:Nat),O_v f b l=.ok m->m<=l.length:=by
 induction f with
 |zero=>intro b l m h;simp[O_v]at h;omega
 |succ f ih =>
  intro b l m h;have hb:=O34 l;unfold O_v at h
  split at h;cases h;exact hb
  rename_i c r hd
  have hl:(c::r).length=l.length-blanks l:=by rw[<-hd,U15]
  split at h;cases h
  split at h;cases h
  cases h;exact hb
  rename_i n hn
  have:=V47 _ _ hn
  split at h;cases h
  rename_i m' hm
  have:=ih _ _ _ hm;cases h;rw[U15]at this;omega
theorem V8e(l:List UInt8)(a:Nat)(h:a<l.length):V30 true l (a+1)=match V4g (l.drop a) with
    |.go n _ _ => .ok (a+n)
    |.bad p => .bad 3 (a+p):=by
 have hd:(l.drop a).drop 1=l.drop (a+1):=by rw[U27]
 unfold V4g V30;rw[hd];cases hf:O_v ((l.drop (a+1)).length+1) true (l.drop (a+1)) with
 |ok m=>simp only;congr 1;omega
 |bad k p =>
  have:=Ofz _ _ _ _ _ hf;subst this;simp only;congr 1;omega
theorem V5c(l:List UInt8)(n:Nat)(t:List UInt8)(o:Bool)(h0:0<l.length)(h:V4g l=.go n t o):t.length<=n/\1<=n/\n<=l.length/\o=false/\t=[]:=by
 unfold V4g V30 at h
 split at h
 rename_i m hm
 split at hm;cases hm
 rename_i m' PM
 have:=Ojy _ _ _ _ PM;rw[U15]at this;cases hm;cases h;exact⟨Yb,Ya,Ya,rfl,rfl⟩
 cases h
end Pl
theorem Oc3(c:UInt8):(bs ⟨#[32,9,13,10]⟩).contains c=V5m c:=by
 have h:∀n:Fin 256,(bs ⟨#[32,9,13,10]⟩).contains (UInt8.ofNat n.val)=V5m (UInt8.ofNat n.val):=Yi
 exact J36
theorem Oey(s:ByteArray)(a:Nat)(h1:a+1<s.size):∃rest,s.extract (a+1) s.size=rest/\¬rest.toList=[]/\rest.toList.isEmpty=false/\(0:Int)<(rest.size:Int)/\∃h0:0<rest.size,rest[0]=s[a+1]:=by
 refine⟨_,rfl,?_⟩;have hb:=O3 s (a+1);have hz:(s.extract (a+1) s.size).size=s.size-(a+1):=Yb
 generalize s.extract (a+1) s.size=rest at hb hz⊢;have h0:0<rest.size:=Ya
 have a8:¬rest.toList=[]:=λ e=>by
  rw[U1y]at e;have h2:=O0 rest;rw[show bs rest=[] from e]at h2;simp at h2;omega
 refine⟨a8,by simpa using a8,Ya,h0,?_⟩;have e1:=O9 rest 0 h0;have e2:=O9 s (a+1) h1;exact J37
theorem O5x(w:World)(R:Nat)(s:ByteArray)(a:Nat)(q:UInt8)(out:List UInt8)(ov:Value)(h:RdQ w R s a q out ov)(aa:a<s.size)(hs:s.size<=20000000)(ho:out.length<=a)(X:Pl.SR)(hC:V1m q ((bs s).drop a)=some X):Calls prog 251 #[.agg #[.pointer (some ⟨R,0,none⟩)]] w (O19 R s a q out ov w X):=by
 have HC:=U10 hC.symm;clear hC;have hR:=h.lt;have HS:=U10 h;clear h;cases X with
 |bad p =>
  go_enter func251,ntmps251;go_wp2_with fail;refine Z117 ?_;rw[<-HC.o];refine Z85 ?_;intro w2 g1 aE dj aL;refine Z127 ?_;intro dG dl;go_wp2_with fail
  go_region
  go_wp2_with fail;exact U11 (v:=.tuple #[.bool false,fv 3 (a+p)]) (by simp[results,results251,go_sem,aE,dG,dl]) rfl ⟨rfl,FQ R ov,St.auto⟩
 |go n t over =>
  go_enter func251,ntmps251;go_wp2_with fail;refine Z117 ?_;rw[<-HC.o];rintro e w2 ⟨rfl,aG,hr,a9⟩;refine Z220 ?_;intro hu;have aL:=a9.size;simp at aL;obtain⟨aE,dj⟩:=hu;have HR:=U10 hr;have HT:=U10 a9;have eX:¬FQ R aG (w.heap.size+1):=λ hF=>by
   rcases HT.o.own _ hF with hF|hF
   have:=HS.o.own_lt hF;omega
   simp at hF;omega
  clear hr a9;refine Z127 ?_;intro dG dl;go_wp2_with fail
  go_region
  go_wp2_with fail;refine U11 (v:=.tuple #[.bool over,f0]) (by simp[results,results251,go_sem,aE,dG,dl]) rfl ⟨rfl,aG,RdQ.auto HR.o,?_⟩;exact J31
theorem O5y(w:World)(R:Nat)(s:ByteArray)(a:Nat)(q:UInt8)(out:List UInt8)(ov:Value)(h:RdQ w R s a q out ov)(aa:a<s.size)(hs:s.size<=20000000)(ho:out.length<=a)(hC:V1m q ((bs s).drop a)=none)(he:(s[a].toNat==92)=false):Calls prog 251 #[.agg #[.pointer (some ⟨R,0,none⟩)]] w (O19 R s a q out ov w (V32 ((bs s).drop a))):=by
 have HC:=U10 hC;clear hC;obtain⟨b1,b2⟩:=V1q _ 92 _ he;clear he;refine Z244 ?_;intro X hX HX;clear hX;have hR:=h.lt;have HS:=U10 h;clear h;go_enter func251,ntmps251;go_wp2_with fail;refine Z312 ?_;intro w1 g1 ah ap ax hg iE;have c0:w1.cell? R=some (.string s):=iE.o.cells.1;have c1:w1.cell? ⟨R,1,none⟩=some (.int .i64 a):=iE.o.cells.2.1;have pG:R<w1.heap.size:=Ya;refine Z168 ?_;intro dG dl;go_wp2_with fail
 go_quiet (fail)
 go_wp2_with fail;cases X with
 |bad p =>
  refine Z236 ?_;rw[<-HX.o];rintro e w2 ⟨rfl,F',a9⟩;refine Z18 ?_;intro aE dj aL;have HT:=U10 a9;clear a9;go_wp2_with fail;refine U11 (v:=.tuple #[.bool false,fv 3 (a+p)]) (by simp[results,results251,go_sem,aE,ah,dG,dl]) rfl ⟨rfl,F',?_⟩;exact J31
 |go n t over =>
  refine Z236 ?_;rw[<-HX.o];rintro e w2 ⟨rfl,aG,hr,a9⟩;refine Z18 ?_;intro aE dj aL;refine Z161 ?_;intro HR HT;have eX:¬FQ R aG (w.heap.size+1):=λ hF=>by
   rcases HT.o.own _ hF with hF|hF
   have:=HS.o.own_lt hF;omega
   simp at hF;omega
  clear hr a9;go_wp2_with fail;refine U11 (v:=.tuple #[.bool over,f0]) (by simp[results,results251,go_sem,aE,ah,dG,dl]) rfl ⟨rfl,aG,RdQ.auto HR.o,?_⟩;exact J31
theorem O75(w:World)(R:Nat)(s:ByteArray)(a:Nat)(q:UInt8)(out:List UInt8)(ov:Value)(h:RdQ w R s a q out ov)(aa:a<s.size)(hs:s.size<=20000000)(ho:out.length<=a)(hC:V1m q ((bs s).drop a)=none)(he:(s[a].toNat==92)=true)(h1:a+1<s.size)(hd:V5m (s[a+1]'h1)=true):Calls prog 251 #[.agg #[.pointer (some ⟨R,0,none⟩)]] w (O19 R s a q out ov w (V4g ((bs s).drop a))):=by
 have HC:=U10 hC;clear hC;obtain⟨b1,b2⟩:=V1q _ 92 _ he;have hX:=V8e (bs s) a (by rw[O0];exact aa);have jR:∀n t o,V4g ((bs s).drop a)=.go n t o->o=false/\t=[]:=λ n t o hh=>by
  have:=V5c _ n t o (by rw[U15,O0];omega) hh;exact⟨this.2.2.2.1,this.2.2.2.2⟩
 obtain⟨sr,cK⟩:∃sr,sr=V4g ((bs s).drop a):=⟨_,rfl⟩
 rw[<-cK]at hX jR⊢;have HX:=U10 hX;have HO:=U10 jR;clear cK jR;have HD:=U10 hd;clear he hX hd;refine Z266 ?_;intro wa;refine Z126 ?_;intro ea eb ec;have hR:=h.lt;have HS:=U10 h;clear h;go_enter func251,ntmps251;go_wp2_with fail;refine Z312 ?_;intro w1 g1 ah ap ax hg iE;have c0:w1.cell? R=some (.string s):=iE.o.cells.1;have c1:w1.cell? ⟨R,1,none⟩=some (.int .i64 a):=iE.o.cells.2.1;have pG:R<w1.heap.size:=Ya
 refine Z168 ?_;intro dG dl;go_wp2_with fail
 go_quiet (fail)
 go_wp2_with fail
 go_quiet (fail)
 obtain⟨rest,aF,r1,r2,r3,r0,r4⟩:=Oey s a h1;rw[aF];have R4:=U10 r4;have og:Hid ((bs ⟨#[32,9,13,10]⟩).contains (rest[0]'r0)=true):=U10 (by rw[Oc3,R4.o];exact HD.o);clear r4 aF;go_wp2_with (go_at_call 85;refine (Oq ⟨#[32,9,13,10]⟩ _ true og.o _).mono ?_;rintro e w3 ⟨⟨i,rfl,hi⟩,rfl⟩;have eY:decide (i >= 0)=true:=hi);refine (Omx _ R s a q out ov (RdQ.auto iE.o) aa hs).mono ?_;rw[HX.o];cases sr with
 |bad p =>
  exact J173
 |go n t over =>
  obtain⟨rfl,rfl⟩:=HO.o n t over rfl;rintro e w2 ⟨rfl,_,hr,a9⟩;refine Z18 ?_;intro aE dj aL;refine Z161 ?_;intro HR HT;have eX:¬FQ R ov (w.heap.size+1):=λ hF=>by have:=HS.o.own_lt hF;omega
  clear hr a9;go_wp2_with fail;refine U11 (v:=.tuple #[.bool false,f0]) (by simp[results,results251,go_sem,aE,ah,dG,dl]) rfl ⟨rfl,ov,by rw[U3k];exact RdQ.auto HR.o,?_⟩;exact J39
theorem O3y(w:World)(R:Nat)(s:ByteArray)(a:Nat)(q:UInt8)(out:List UInt8)(ov:Value)(h:RdQ w R s a q out ov)(aa:a<s.size)(hs:s.size<=20000000)(ho:out.length<=a)(hC:V1m q ((bs s).drop a)=none)(T:Nat->UInt8×UInt8)(hQ:QW T w)(he:(s[a].toNat==92)=true)(hd:∀h1:a+1<s.size,V5m (s[a+1]'h1)=false):Calls prog 251 #[.agg #[.pointer (some ⟨R,0,none⟩)]] w (O19 R s a q out ov w (V43 T ((bs s).drop a))):=by
 have HC:=U10 hC;clear hC;refine Z219 ?_;intro b1 b2 sr cK HO HX hX bR;have HQ:=U10 hQ;have HD:=U10 hd;clear he hX hd bR cK hQ;refine Z266 ?_;intro wa;refine Z126 ?_;intro ea eb ec;have hR:=h.lt;have HS:=U10 h;clear h;go_enter func251,ntmps251;go_wp2_with fail;refine Z312 ?_;intro w1 g1 ah ap ax hg iE;have c0:w1.cell? R=some (.string s):=iE.o.cells.1;have c1:w1.cell? ⟨R,1,none⟩=some (.int .i64 a):=iE.o.cells.2.1;have pG:R<w1.heap.size:=Ya;refine Z168 ?_;intro dG dl;go_wp2_with fail
 go_quiet (fail)
 go_wp2_with fail
 go_quiet (fail)
 have LV:=hg.o;by_cases h1:a+1<s.size
 ·obtain⟨rest,aF,r1,r2,r3,r0,r4⟩:=Oey s a h1;rw[aF];have R4:=U10 r4;have og:Hid ((bs ⟨#[32,9,13,10]⟩).contains (rest[0]'r0)=false):=U10 (by rw[Oc3,R4.o];exact HD.o h1);clear r4 aF;go_wp2_with (go_at_call 85;refine (Oq ⟨#[32,9,13,10]⟩ _ false og.o _).mono ?_;rintro e w3 ⟨⟨i,rfl,hi⟩,rfl⟩;have eY:decide (i >= 0)=false:=hi);exact J40
 have aF:s.extract (a+1) s.size=⟨#[]⟩:=by
  apply U31;apply U32.1;rw[show (s.extract (a+1) s.size).data.toList=bs (s.extract (a+1) s.size) from rfl,O3,U1w (by rw[O0];omega)]
 rw[aF];go_wp2_with fail;exact J40
theorem O76(w:World)(R:Nat)(s:ByteArray)(a:Nat)(q:UInt8)(out:List UInt8)(ov:Value)(h:RdQ w R s a q out ov)(aa:a<s.size)(hs:s.size<=20000000)(ho:out.length<=a)(T:Nat->UInt8×UInt8)(hQ:QW T w):Calls prog 251 #[.agg #[.pointer (some ⟨R,0,none⟩)]] w (O19 R s a q out ov w (V3e T q ((bs s).drop a))):=by
 unfold V3e;cases hC:V1m q ((bs s).drop a) with
 |some X=>exact O5x w R s a q out ov h aa hs ho X hC
 |none =>
  have hd:=O9 s a aa;simp only
  split;rename_i e;rw[e]at hd;cases hd
  rename_i c r e
  rw[e]at hd;simp only[U24]at hd;obtain⟨rfl,hr⟩:=hd
  split
  rename_i jd
  split
  rename_i e2
  rw[<-e];refine O3y w R s a q out ov h aa hs ho hC T hQ jd (λ h1=>?_);have:=O9 s (a+1) h1;rw[<-hr]at this;cases this
  rename_i d r2 e2
  have tC:a+1<s.size:=by
   have h2:=U2b List.length hr;simp only[U17,U15,O0]at h2;omega
  have io:=O9 s (a+1) tC;rw[<-hr]at io;simp only[U24]at io
  split
  rename_i hf
  rw[<-e];exact O75 w R s a q out ov h aa hs ho hC jd tC (by rw[<-io.1];exact hf)
  rename_i hf
  rw[<-e];refine O3y w R s a q out ov h aa hs ho hC T hQ jd (λ h1=>?_);rw[<-io.1];simpa using hf
  rename_i jd
  rw[<-e];exact O5y w R s a q out ov h aa hs ho hC (by simpa using jd)
