/- The proof's part 32. -/
import Derived.Test.YtnkgknbdaiakgaaGreatDoorQ23
import Derived.Test.YtnkgknbdaiakgaaGreatDoorQ30
set_option maxHeartbeats 16000000
set_option linter.all false
set_option maxRecDepth 100000
namespace Go.Proofs.YtnkgknbdaiakgaaGreatDoor
open Pl Go.Proofs.Tryz Go.RowKit Go.Shelf Go.Joins
attribute [local go_sem] U22
variable {Tb:Nat->UInt8×UInt8}
namespace Pl
theorem Odm{l t:Bs}{k:Nat}(h:V2j l=.ok (k,t)):k≠8:=by
 unfold V2j at h
 split at h;exact J1
 split at h;exact J1
 split at h
 split at h;exact J1
 cases h
 cases h
theorem Oib{l t:Bs}{k:Nat}(h:V53 l=.ok (k,t)):k≠8:=by
 unfold V53 at h
 split at h;exact J1
 cases h
def V45(l:Bs):Nat:=if 0<(Vh l).long then (Vh l).long else (V3e l).length
def V4n(l:Bs):V2x (Nat×Bs):=if 0<(Vh l).long then V53 (l.take (V45 l)) else V2j (l.take (V45 l))
theorem V8t(l:Bs):Ve l=match V4n l with
    |.ok (k,x) => .ok (k,x,V45 l)
    |.bad c _ => .bad c 0:=by
 unfold Ve V4n V45;by_cases h:0<(Vh l).long;simp only[U1a h];unfold V53;cases V1w (l.take (Vh l).long) <;> rfl
 simp only[U1c h];have:l.take (V3e l).length=V3e l:=(U3s.1 (U3y V3a)).symm;rw[this];rfl
theorem V7s(l:Bs):V45 l<=l.length:=by
 unfold V45
 split;exact V4z l
 exact Ohx l
theorem V6s{l t:Bs}{k:Nat}(h:V4n l=.ok (k,t)):k≠8:=by
 unfold V4n at h
 split at h;exact Oib h
 exact Odm h
theorem V8u(c:UInt8)(h:V3a c=true):c.toNat<128:=by
 unfold V3a V3c at h;simp at h;omega
end Pl
theorem Oic(E:Vv)(hE:E.scal=Ve)(w:World)(R B base:Nat)(s:ByteArray)(root:Int)(nv:Value)(L:List Vy)(own:Nat->Nat)(h:RdV w R B base s root nv L own)(hs:s.size<=20000000)(hg:GW Tb base w)(i d:Int)(n:Nat)(hi:i=n)(hn:n<=s.size)(X:V9 (Nat×Nat×Vc))
    (hX:(match E.scal ((bs s).drop n) with
     |.non => .non
     |.bad c _ => .bad c n
     |.ok (k,t,m)=>if Pl.room (L.map (·.nd)) then .ok ((L.map (·.nd)).length,n+m,L.map (·.nd)++[V4t k t n (n+m)]) else .non:V9 (Nat×Nat×Vc))=X) (a8:X≠.non) :
    Calls prog 42 #[.pointer (some ⟨R,0,none⟩),i,d] w (O4l s R B base root own w X):=by
 subst hi;rw[hE]at hX;obtain⟨c0,c1,c2,c3,fz⟩:=h.cells;have hR:=h.R_lt;have H:=U10 h;have HG:=U10 hg;have Bl:Hid (¬FV own w.heap.size):=h.not_new (U12 _);obtain⟨rest,aG⟩:=ExZ (s.extract n s.size)
 have qY:bs rest=(bs s).drop n:=by rw[<-aG,O4]
 have pm:rest.size=s.size-n:=by rw[<-O0,qY,U16,O0]
 rw[<-qY,V8t]at hX;obtain⟨k,hk⟩:=ExZ (V45 (bs rest))
 have jR:k<=rest.size:=by rw[<-hk,<-O0];exact V7s _
 obtain⟨tk,jt⟩:=ExZ (rest.extract 0 k)
 have iD:bs tk=(bs rest).take k:=by rw[<-jt,O1w]
 have vU:tk.size=k:=by rw[<-jt];simp;omega
 obtain⟨Y,hY⟩:=ExZ (V4n (bs rest))
 have jc:∀k' t',Y=.ok (k',t')->k'≠8:=λ k' t' e=>V6s (hY.trans e)
 rw[hk,hY]at hX;have HL:=U10 (Onf rest Ya);have CF:IntKind.i64.wrap ((n:Int)+(k:Int))=(n:Int)+(k:Int):=U1k _ ⟨Ya,Ya⟩;have PI:n+k<=s.size:=Ya
 have dB:(0:Int)<=(k:Int):=Ya;have Rf:(k:Int)<=(rest.size:Int):=Ya
 by_cases sM:0<(Vh (bs rest)).long
 ·have lT:(Vh (bs rest)).long=k:=by rw[<-hk];unfold V45;rw[U1a sM]
  have zd:V53 (bs tk)=Y:=by rw[<-hY,iD,<-hk];unfold V4n;rw[U1a sM]
  rw[lT]at HL sM;have Rg:decide (0<k)=true:=by simpa using sM
  have HP:=U10 (Oak tk Ya);rw[zd]at HP;cases hy:Y with
  |bad c p =>
   rw[hy]at hX HP;simp only at hX;subst hX;clear a8 hk fz c0 c1 c3 h hg hy qY pm vU lT zd hY sM jc iD;go_enter func42,ntmps42;go_wp2_with fail;refine (HL.o _).mono ?_;rintro e w1 ⟨rfl,g1⟩;have cB:Gr w w1:=Gr.auto;have dl:=((FX.new w (0:Int) (0:Int) 29).gr g1)
   clear g1;exact J131
  |ok r =>
   obtain⟨k8,t0⟩:=r;have vt:Hid (k8≠8):=U10 (jc _ _ hy);rw[hy]at hX HP;simp only at hX;cases hr:Pl.room (L.map (·.nd)) with
   |false=>rw[hr,U1c Yb]at hX;exact absurd hX.symm a8
   |true =>
   rw[hr,U1a rfl]at hX;subst hX;have HR:=U10 hr;clear a8 hk fz c0 c1 c3 h hg hy qY pm vU lT zd hY sM jc iD hr;go_enter func42,ntmps42;go_wp2_with fail;refine (HL.o _).mono ?_;rintro e w1 ⟨rfl,g1⟩;have cB:Gr w w1:=Gr.auto;have dl:=((FX.new w (0:Int) (0:Int) 29).gr g1)
   clear g1;exact J125
 have lT:(V3e (bs rest)).length=k:=by rw[<-hk];unfold V45;rw[U1c sM]
 have zd:V2j (bs tk)=Y:=by rw[<-hY,iD,<-hk];unfold V4n;rw[U1c sM]
 have h0:(Vh (bs rest)).long=0:=Ya;rw[h0]at HL;obtain⟨tr,Ni⟩:=ExZ (rest.extract k rest.size)
 have CV:tr.size=rest.size-k:=by rw[<-Ni];simp
 have MC:IntKind.i64.wrap ((rest.size:Int)-(tr.size:Int))=(k:Int):=by rw[U1k _ ⟨Ya,Ya⟩];omega
 have HT:=U10 (Ohy rest);rw[lT,Ni]at HT;have aB:∀c∈bs tk,c.toNat<128:=λ c hc=>by
  have e:(bs rest).take (V3e (bs rest)).length=V3e (bs rest):=(U3s.1 (U3y V3a)).symm;rw[iD,<-lT,e]at hc;exact V8u c (V5d V3a _ c hc)
 have HP:=U10 (Och tk Ya aB);rw[zd]at HP;cases hy:Y with
 |bad c p =>
  rw[hy]at hX HP;simp only at hX;subst hX;clear a8 hk fz c0 c1 c3 h hg hy qY pm vU lT zd hY sM jc iD aB h0 CV;go_enter func42,ntmps42;go_wp2_with fail;refine (HL.o _).mono ?_;rintro e w1 ⟨rfl,g1⟩;go_wp2_with fail;refine (HT.o _).mono ?_;rintro e w1 ⟨rfl,g2⟩;have cB:Gr w w1:=Gr.auto;have dl:=(((FX.new w (0:Int) (0:Int) 29).gr g1).gr g2)
  clear g1 g2;exact J131
 |ok r =>
  obtain⟨k8,t0⟩:=r;have vt:Hid (k8≠8):=U10 (jc _ _ hy);rw[hy]at hX HP;simp only at hX;cases hr:Pl.room (L.map (·.nd)) with
  |false=>rw[hr,U1c Yb]at hX;exact absurd hX.symm a8
  |true =>
  rw[hr,U1a rfl]at hX;subst hX;have HR:=U10 hr;clear a8 hk fz c0 c1 c3 h hg hy qY pm vU lT zd hY sM jc iD aB h0 CV hr;go_enter func42,ntmps42;go_wp2_with fail;refine (HL.o _).mono ?_;rintro e w1 ⟨rfl,g1⟩;go_wp2_with fail;refine (HT.o _).mono ?_;rintro e w1 ⟨rfl,g2⟩;have cB:Gr w w1:=Gr.auto;have dl:=(((FX.new w (0:Int) (0:Int) 29).gr g1).gr g2)
  clear g1 g2;exact J125
