/- The proof's part 34. -/
import Derived.Test.YtnkgknbdaiakgaaGreatDoorP24
import Derived.Test.YtnkgknbdaiakgaaGreatDoorP25
set_option maxHeartbeats 16000000
set_option linter.all false
set_option maxRecDepth 100000
namespace Go.Proofs.YtnkgknbdaiakgaaGreatDoor
open Pl Go.Proofs.Tryz Go.RowKit Go.Shelf Go.Joins
attribute [local go_sem] Uy
variable {Tb:Nat->UInt8×UInt8}
namespace Pl
theorem Odk{l t:Bs}{k:Nat}(h:V2i l = .ok (k,t)):k≠8:=by
 unfold V2i at h
 split at h;exact J38
 split at h;exact J38
 split at h
 split at h;exact J38
 cases h
 cases h
theorem Ohg{l t:Bs}{k:Nat}(h:V5b l = .ok (k,t)):k≠8:=by
 unfold V5b at h
 split at h;exact J38
 cases h
def V47(l:Bs):Nat:=if 0<(Vf l).long then (Vf l).long else (V3f l).length
def V4u(l:Bs):V2x (Nat×Bs):=if 0<(Vf l).long then V5b (l.take (V47 l)) else V2i (l.take (V47 l))
theorem V8s(l:Bs):Vd l=match V4u l with
    |.ok (k,x) => .ok (k,x,V47 l)
    |.bad c _ => .bad c 0:=by
 unfold Vd V4u V47;by_cases h:0<(Vf l).long;simp only[Ua h];unfold V5b;cases V1q (l.take (Vf l).long) <;> rfl
 simp only[Ud h];have:l.take (V3f l).length=V3f l:=(U2o.1 (U2y V39)).symm;rw[this];rfl
theorem V7s(l:Bs):V47 l<=l.length:=by
 unfold V47
 split;exact V55 l
 exact Ogr l
theorem V6s{l t:Bs}{k:Nat}(h:V4u l = .ok (k,t)):k≠8:=by
 unfold V4u at h
 split at h;exact Ohg h
 exact Odk h
theorem V8t(c:UInt8)(h:V39 c=true):c.toNat<128:=by
 unfold V39 V3e at h;simp at h;omega
end Pl
theorem Ohh(E:Vz)(hE:E.scal=Vd)(w:World)(R B base:Nat)(s:ByteArray)(root:Int)(nv:Value)(L:List Vw)(own:Nat->Nat)(h:RdV w R B base s root nv L own)(hs:s.size<=20000000)(hg:GW Tb base w)
    (i d:Int)(n:Nat)(hi:i=n)(hn:n<=s.size)(X:Va (Nat×Nat×Vc))
    (hX:(match E.scal ((bs s).drop n) with
     |.non => .non
     |.bad c _ => .bad c n
     |.ok (k,t,m)=>if Pl.room (L.map (·.nd)) then .ok ((L.map (·.nd)).length,n+m,L.map (·.nd)++[V5k k t n (n+m)]) else .non:Va (Nat×Nat×Vc))=X) (a8:X ≠ .non) :
    Calls prog 42 #[.pointer (some ⟨R,0,none⟩),i,d] w (O4c s R B base root own w X):=by
 subst hi;rw[hE]at hX;obtain⟨c0,c1,c2,c3,fz⟩:=h.cells;have hR:=h.R_lt;have H:=U0 h;have HG:=U0 hg;have As:Hid (¬FV own w.heap.size):=h.not_new (U2 _);obtain⟨rest,aG⟩:=ExZ (s.extract n s.size)
 have qi:bs rest=(bs s).drop n:=by rw[<-aG,O3]
 have oe:rest.size=s.size-n:=by rw[<-O0,qi,U3,O0]
 rw[<-qi,V8s]at hX;obtain⟨k,hk⟩:=ExZ (V47 (bs rest))
 have ju:k<=rest.size:=by rw[<-hk,<-O0];exact V7s _
 obtain⟨tk,lX⟩:=ExZ (rest.extract 0 k)
 have fR:bs tk=(bs rest).take k:=by rw[<-lX,O1y]
 have uR:tk.size=k:=by rw[<-lX];simp;omega
 obtain⟨Y,hY⟩:=ExZ (V4u (bs rest))
 have iM:∀k' t',Y = .ok (k',t')->k'≠8:=λ k' t' e=>V6s (hY.trans e)
 rw[hk,hY]at hX;have HL:=U0 (Omi rest (by omega));have Bw:IntKind.i64.wrap ((n:Int)+(k:Int))=(n:Int)+(k:Int):=Uk _ ⟨by omega,by omega⟩;have NC:n+k<=s.size:=by omega
 have dw:(0:Int)<=(k:Int):=by omega
 have PO:(k:Int)<=(rest.size:Int):=by omega
 by_cases rG:0<(Vf (bs rest)).long
 ·have vp:(Vf (bs rest)).long=k:=by rw[<-hk];unfold V47;rw[Ua rG]
  have yd:V5b (bs tk)=Y:=by rw[<-hY,fR,<-hk];unfold V4u;rw[Ua rG]
  rw[vp]at HL rG;have PP:decide (0<k)=true:=by simpa using rG
  have HP:=U0 (Oas tk (by omega));rw[yd]at HP;cases hy:Y with
  |bad c p =>
   rw[hy]at hX HP;simp only at hX;subst hX;clear a8 hk fz c0 c1 c3 h hg hy qi oe uR vp yd hY rG iM fR;go_enter func42,ntmps42;go_wp2_with fail;refine (HL.o _).mono ?_;rintro e w1 ⟨rfl,g1⟩;have cy:Gr w w1:=Gr.auto;have dl:=((FX.new w (0:Int) (0:Int) 29).gr g1)
   clear g1;exact J130
  |ok r =>
   obtain⟨k8,t0⟩:=r;have um:Hid (k8≠8):=U0 (iM _ _ hy);rw[hy]at hX HP;simp only at hX;cases hr:Pl.room (L.map (·.nd)) with
   |false=>rw[hr,Ud (by simp)]at hX;exact absurd hX.symm a8
   |true =>
   rw[hr,Ua rfl]at hX;subst hX;have HR:=U0 hr;clear a8 hk fz c0 c1 c3 h hg hy qi oe uR vp yd hY rG iM fR hr;go_enter func42,ntmps42;go_wp2_with fail;refine (HL.o _).mono ?_;rintro e w1 ⟨rfl,g1⟩;have cy:Gr w w1:=Gr.auto;have dl:=((FX.new w (0:Int) (0:Int) 29).gr g1)
   clear g1;go_wp2_with fail;refine Z286 ?_;intro w3 kk x cc jI g3;obtain⟨cZ,hx,dT⟩:=jI;have hF:=dl.gr g3;have dh:Gr w w3:=cy.trans g3;clear g3 cy dl;subst dT hx cZ;go_wp2_with fail;have hS:FX w.heap.size (0:Int) (0:Int) w3.drew:=hF.gr (Gr.refl _).drew;refine Z163 ?_;refine Z32 ?_;refine Z42 ?_;refine Reg.ty 5 ?_;refine Reg.ty 6 ?_;refine Reg.ty 8 ?_;refine Reg.tl 9 hS ?_ (hy:=by intro w ab;obtain⟨q0,q1,qf,ql⟩:=ab;go_simp;try with_reducible rfl);refine Reg.on 7 ?_;go_simp;refine (O9q w w3.drew R B base s root nv L own H.o dh.drew HR.o kk um.o x n (n+k) _ rfl _ (by simp)).mono ?_;rintro e w4 ⟨rfl,nv',own',oD,kK,fV,jE⟩;have d7:=hS.st jE As.o;refine⟨by first|exact d7|exact λ _=>d7|exact λ _ _=>d7,?_⟩;refine Reg.pt ?_;refine Reg.ty 10 ?_;refine Reg.ty 11 ?_;obtain⟨p0,p1,pf,pl⟩:=d7;have eG:¬FV own' w.heap.size:=by
    intro hf;rcases fV _ hf with e|e
    exact As.o e
    have:=hS.2.2.2;omega
   have H3:=U0 oD;have wl:=U0 kK;have wn:=U0 fV;clear oD kK fV jE;refine Reg.on 12 ?_;go_simp;refine Z12 ?_;go_wp2_with fail;refine Z144 ?_;exact (wl.o.setCell (.inr (U2 _)) _).setCell (.inr (U2 _)) _
 have vp:(V3f (bs rest)).length=k:=by rw[<-hk];unfold V47;rw[Ud rG]
 have yd:V2i (bs tk)=Y:=by rw[<-hY,fR,<-hk];unfold V4u;rw[Ud rG]
 have h0:(Vf (bs rest)).long=0:=by omega
 rw[h0]at HL;obtain⟨tr,M5⟩:=ExZ (rest.extract k rest.size)
 have BX:tr.size=rest.size-k:=by rw[<-M5];simp
 have LU:IntKind.i64.wrap ((rest.size:Int)-(tr.size:Int))=(k:Int):=by rw[Uk _ ⟨by omega,by omega⟩];omega
 have HT:=U0 (Ogs rest);rw[vp,M5]at HT;have aB:∀c∈bs tk,c.toNat<128:=λ c hc=>by
  have e:(bs rest).take (V3f (bs rest)).length=V3f (bs rest):=(U2o.1 (U2y V39)).symm;rw[fR,<-vp,e]at hc;exact V8t c (V5l V39 _ c hc)
 have HP:=U0 (Oc1 tk (by omega) aB);rw[yd]at HP;cases hy:Y with
 |bad c p =>
  rw[hy]at hX HP;simp only at hX;subst hX;clear a8 hk fz c0 c1 c3 h hg hy qi oe uR vp yd hY rG iM fR aB h0 BX;go_enter func42,ntmps42;go_wp2_with fail;refine (HL.o _).mono ?_;rintro e w1 ⟨rfl,g1⟩;go_wp2_with fail;refine (HT.o _).mono ?_;rintro e w1 ⟨rfl,g2⟩;have cy:Gr w w1:=Gr.auto;have dl:=(((FX.new w (0:Int) (0:Int) 29).gr g1).gr g2)
  clear g1 g2;exact J130
 |ok r =>
  obtain⟨k8,t0⟩:=r;have um:Hid (k8≠8):=U0 (iM _ _ hy);rw[hy]at hX HP;simp only at hX;cases hr:Pl.room (L.map (·.nd)) with
  |false=>rw[hr,Ud (by simp)]at hX;exact absurd hX.symm a8
  |true =>
  rw[hr,Ua rfl]at hX;subst hX;have HR:=U0 hr;clear a8 hk fz c0 c1 c3 h hg hy qi oe uR vp yd hY rG iM fR aB h0 BX hr;go_enter func42,ntmps42;go_wp2_with fail;refine (HL.o _).mono ?_;rintro e w1 ⟨rfl,g1⟩;go_wp2_with fail;refine (HT.o _).mono ?_;rintro e w1 ⟨rfl,g2⟩;have cy:Gr w w1:=Gr.auto;have dl:=(((FX.new w (0:Int) (0:Int) 29).gr g1).gr g2)
  clear g1 g2;go_wp2_with fail;refine Z286 ?_;intro w3 kk x cc jI g3;obtain⟨cZ,hx,dT⟩:=jI;have hF:=dl.gr g3;have dh:Gr w w3:=cy.trans g3;clear g3 cy dl;subst dT hx cZ;go_wp2_with fail;have hS:FX w.heap.size (0:Int) (0:Int) w3.drew:=hF.gr (Gr.refl _).drew;refine Z163 ?_;refine Z32 ?_;refine Z42 ?_;refine Reg.ty 5 ?_;refine Reg.ty 6 ?_;refine Reg.ty 8 ?_;refine Reg.tl 9 hS ?_ (hy:=by intro w ab;obtain⟨q0,q1,qf,ql⟩:=ab;go_simp;try with_reducible rfl);refine Reg.on 7 ?_;go_simp;refine (O9q w w3.drew R B base s root nv L own H.o dh.drew HR.o kk um.o x n (n+k) _ rfl _ (by simp)).mono ?_;rintro e w4 ⟨rfl,nv',own',oD,kK,fV,jE⟩;have d7:=hS.st jE As.o;refine⟨by first|exact d7|exact λ _=>d7|exact λ _ _=>d7,?_⟩;refine Reg.pt ?_;refine Reg.ty 10 ?_;refine Reg.ty 11 ?_;obtain⟨p0,p1,pf,pl⟩:=d7;have eG:¬FV own' w.heap.size:=by
   intro hf;rcases fV _ hf with e|e
   exact As.o e
   have:=hS.2.2.2;omega
  have H3:=U0 oD;have wl:=U0 kK;have wn:=U0 fV;clear oD kK fV jE;refine Reg.on 12 ?_;go_simp;refine Z12 ?_;go_wp2_with fail;refine Z144 ?_;exact (wl.o.setCell (.inr (U2 _)) _).setCell (.inr (U2 _)) _
