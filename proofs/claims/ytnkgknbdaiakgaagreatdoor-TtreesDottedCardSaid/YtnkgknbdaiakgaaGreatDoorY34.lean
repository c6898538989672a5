/- The proof's part 34. -/
import Derived.Test.YtnkgknbdaiakgaaGreatDoorY25
import Derived.Test.YtnkgknbdaiakgaaGreatDoorY31
set_option maxHeartbeats 16000000
set_option linter.all false
set_option maxRecDepth 100000
namespace Go.Proofs.YtnkgknbdaiakgaaGreatDoor
open Pl Go.Proofs.Tryz Go.RowKit Go.Shelf Go.Joins
attribute [local go_sem] U28
variable {Tb:Nat->UInt8×UInt8}
namespace Pl
theorem Oen{l t:Bs}{k:Nat}(h:V2l l=.ok (k,t)):k≠8:=by
 unfold V2l at h
 split at h;exact J1
 split at h;exact J1
 split at h
 split at h;exact J1
 cases h
 cases h
theorem Oj6{l t:Bs}{k:Nat}(h:V5n l=.ok (k,t)):k≠8:=by
 unfold V5n at h
 split at h;exact J1
 cases h
def V4l(l:Bs):Nat:=if 0<(Vh l).long then (Vh l).long else (V3m l).length
def V52(l:Bs):V35 (Nat×Bs):=if 0<(Vh l).long then V5n (l.take (V4l l)) else V2l (l.take (V4l l))
theorem V9i(l:Bs):Vl l=match V52 l with
    |.ok (k,x) => .ok (k,x,V4l l)
    |.bad c _ => .bad c 0:=by
 unfold Vl V52 V4l;by_cases h:0<(Vh l).long;simp only[U18 h];unfold V5n;cases V1x (l.take (Vh l).long) <;> rfl
 simp only[U1b h];have:l.take (V3m l).length=V3m l:=(U3t.1 (U41 V2w)).symm;rw[this];rfl
theorem V8i(l:Bs):V4l l<=l.length:=by
 unfold V4l
 split;exact V5d l
 exact Ois l
theorem V7f{l t:Bs}{k:Nat}(h:V52 l=.ok (k,t)):k≠8:=by
 unfold V52 at h
 split at h;exact Oj6 h
 exact Oen h
theorem V9j(c:UInt8)(h:V2w c=true):c.toNat<128:=by
 unfold V2w V3d at h;simp at h;omega
end Pl
theorem Oj7(E:V19)(hE:E.scal=Vl)(w:World)(R B base:Nat)(s:ByteArray)(root:Int)(nv:Value)(L:List NdR)(own:Nat->Nat)(h:RdV w R B base s root nv L own)(hs:s.size<=20000000)(hg:GW Tb base w)(i d:Int)(n:Nat)(hi:i=n)(hn:n<=s.size)(X:Va (Nat×Nat×Ve))
    (hX:(match E.scal ((bs s).drop n) with
     |.non => .non
     |.bad c _ => .bad c n
     |.ok (k,t,m)=>if Pl.room (L.map (·.nd)) then .ok ((L.map (·.nd)).length,n+m,L.map (·.nd)++[V5w k t n (n+m)]) else .non:Va (Nat×Nat×Ve))=X) (a8:X≠.non) :
    Calls prog 42 #[.pointer (some ⟨R,0,none⟩),i,d] w (O4v s R B base root own w X):=by
 subst hi;rw[hE]at hX;obtain⟨c0,c1,c2,c3,fz⟩:=h.cells;have hR:=h.R_lt;have H:=U10 h;have HG:=U10 hg;have AQ:Hid (¬FV own w.heap.size):=h.not_new (U12 _);obtain⟨rest,aF⟩:=ExZ (s.extract n s.size)
 have qo:bs rest=(bs s).drop n:=by rw[<-aF,O3]
 have om:rest.size=s.size-n:=by rw[<-O0,qo,U15,O0]
 rw[<-qo,V9i]at hX;obtain⟨k,hk⟩:=ExZ (V4l (bs rest))
 have gl:k<=rest.size:=by rw[<-hk,<-O0];exact V8i _
 obtain⟨tk,jQ⟩:=ExZ (rest.extract 0 k)
 have iu:bs tk=(bs rest).take k:=by rw[<-jQ,O23]
 have rS:tk.size=k:=by rw[<-jQ];simp;omega
 obtain⟨Y,hY⟩:=ExZ (V52 (bs rest))
 have iV:∀k' t',Y=.ok (k',t')->k'≠8:=λ k' t' e=>V7f (hY.trans e)
 rw[hk,hY]at hX;have HL:=U10 (Oo7 rest Ya);have Ca:IntKind.i64.wrap ((n:Int)+(k:Int))=(n:Int)+(k:Int):=U1i _ ⟨Ya,Ya⟩;have Ei:n+k<=s.size:=Ya
 have dp:(0:Int)<=(k:Int):=Ya;have QZ:(k:Int)<=(rest.size:Int):=Ya
 by_cases si:0<(Vh (bs rest)).long
 ·have vI:(Vh (bs rest)).long=k:=by rw[<-hk];unfold V4l;rw[U18 si]
  have yA:V5n (bs tk)=Y:=by rw[<-hY,iu,<-hk];unfold V52;rw[U18 si]
  rw[vI]at HL si;have Q':decide (0<k)=true:=by simpa using si
  have HP:=U10 (Oba tk Ya);rw[yA]at HP;cases hy:Y with
  |bad c p =>
   rw[hy]at hX HP;simp only at hX;subst hX;clear a8 hk fz c0 c1 c3 h hg hy qo om rS vI yA hY si iV iu;go_enter func42,ntmps42;go_wp2_with fail;refine (HL.o _).mono ?_;rintro e w1 ⟨rfl,g1⟩;have cx:Gr w w1:=Gr.auto;have d9:=((FX.new w (0:Int) (0:Int) 29).gr g1)
   clear g1;exact J128
  |ok r =>
   obtain⟨k8,t0⟩:=r;have uO:Hid (k8≠8):=U10 (iV _ _ hy);rw[hy]at hX HP;simp only at hX;cases hr:Pl.room (L.map (·.nd)) with
   |false=>rw[hr,U1b Yb]at hX;exact absurd hX.symm a8
   |true =>
   rw[hr,U18 rfl]at hX;subst hX;have HR:=U10 hr;clear a8 hk fz c0 c1 c3 h hg hy qo om rS vI yA hY si iV iu hr;go_enter func42,ntmps42;go_wp2_with fail;refine (HL.o _).mono ?_;rintro e w1 ⟨rfl,g1⟩;have cx:Gr w w1:=Gr.auto;have d9:=((FX.new w (0:Int) (0:Int) 29).gr g1)
   clear g1;exact J122
 have vI:(V3m (bs rest)).length=k:=by rw[<-hk];unfold V4l;rw[U1b si]
 have yA:V2l (bs tk)=Y:=by rw[<-hY,iu,<-hk];unfold V52;rw[U1b si]
 have h0:(Vh (bs rest)).long=0:=Ya;rw[h0]at HL;obtain⟨tr,MQ⟩:=ExZ (rest.extract k rest.size)
 have Cs:tr.size=rest.size-k:=by rw[<-MQ];simp
 have Ai:IntKind.i64.wrap ((rest.size:Int)-(tr.size:Int))=(k:Int):=by rw[U1i _ ⟨Ya,Ya⟩];omega
 have HT:=U10 (Oit rest);rw[vI,MQ]at HT;have az:∀c∈bs tk,c.toNat<128:=λ c hc=>by
  have e:(bs rest).take (V3m (bs rest)).length=V3m (bs rest):=(U3t.1 (U41 V2w)).symm;rw[iu,<-vI,e]at hc;exact V9j c (Pl.takeWhile_all V2w _ c hc)
 have HP:=U10 (Odb tk Ya az);rw[yA]at HP;cases hy:Y with
 |bad c p =>
  rw[hy]at hX HP;simp only at hX;subst hX;clear a8 hk fz c0 c1 c3 h hg hy qo om rS vI yA hY si iV iu az h0 Cs;go_enter func42,ntmps42;go_wp2_with fail;refine (HL.o _).mono ?_;rintro e w1 ⟨rfl,g1⟩;go_wp2_with fail;refine (HT.o _).mono ?_;rintro e w1 ⟨rfl,g2⟩;have cx:Gr w w1:=Gr.auto;have d9:=(((FX.new w (0:Int) (0:Int) 29).gr g1).gr g2)
  clear g1 g2;exact J128
 |ok r =>
  obtain⟨k8,t0⟩:=r;have uO:Hid (k8≠8):=U10 (iV _ _ hy);rw[hy]at hX HP;simp only at hX;cases hr:Pl.room (L.map (·.nd)) with
  |false=>rw[hr,U1b Yb]at hX;exact absurd hX.symm a8
  |true =>
  rw[hr,U18 rfl]at hX;subst hX;have HR:=U10 hr;clear a8 hk fz c0 c1 c3 h hg hy qo om rS vI yA hY si iV iu az h0 Cs hr;go_enter func42,ntmps42;go_wp2_with fail;refine (HL.o _).mono ?_;rintro e w1 ⟨rfl,g1⟩;go_wp2_with fail;refine (HT.o _).mono ?_;rintro e w1 ⟨rfl,g2⟩;have cx:Gr w w1:=Gr.auto;have d9:=(((FX.new w (0:Int) (0:Int) 29).gr g1).gr g2)
  clear g1 g2;exact J122
