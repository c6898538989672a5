/- The proof's part 20. -/
import Derived.Test.YtnkgknbdaiakgaaGreatDoorY19
set_option maxHeartbeats 16000000
set_option linter.all false
namespace Go.Proofs.YtnkgknbdaiakgaaGreatDoor.Pl
def tk(p:UInt8->Bool)(many:Nat)(l:Bs):Bs×Bs:=(l.take (V4h p many l),l.drop (V4h p many l))
structure Dw where
 minus:Bool
 whole:Bs
 part:Bs
 sign:Bs
 power:Bs
def V48(N:Nat)(l:Bs):Option Dw :=
 let a1:=tk V2m 1 l
 let a2:=tk O2 N a1.2
 if a2.1=[]\/(1<a2.1.length/\a2.1[0]?=some 48) then none else
 let a3:=tk V2u 1 a2.2
 let a4:=if a3.1.isEmpty then ([],a3.2) else tk O2 N a3.2
 let a5:=tk Vz 1 a4.2
 let a6:=if a5.1.isEmpty then ([],a5.2) else tk Vx 1 a5.2
 let a7:=if a5.1.isEmpty then ([],a6.2) else tk O2 N a6.2
 if a7.2.isEmpty&&(a3.1.isEmpty==a4.1.isEmpty)&&(a5.1.isEmpty==a7.1.isEmpty) then some ⟨!a1.1.isEmpty,a2.1,a4.1,a6.1,a7.1⟩ else none
theorem Oh4(p:UInt8->Bool)(l:Bs):V4h p 1 l=if Vg p l then 1 else 0:=by
 unfold V4h;cases l with
 |nil=>rfl
 |cons c l =>
  rw[U1o];unfold Vg;simp only;by_cases h:p c=true;rw[U18 h,U18 h];simp
  rw[U1b h,U1b h];simp
theorem Oh5(p:UInt8->Bool)(many:Nat)(l:Bs)(h:l.length<=many):V4h p many l=(l.takeWhile p).length:=by
 have:=Vn p l;unfold V4h;omega
theorem O86(p:UInt8->Bool)(l:Bs):tk p 1 l=if Vg p l then (l.take 1,l.drop 1) else ([],l):=by
 unfold tk;rw[Oh4]
 split <;> simp
theorem O87(p:UInt8->Bool)(N:Nat)(l:Bs)(h:l.length<=N):tk p N l=(l.takeWhile p,l.dropWhile p):=by
 unfold tk;rw[Oh5 p N l h,O98];congr 1;exact (U3t.1 (U41 p)).symm
theorem O56(p:UInt8->Bool)(l:Bs)(h:Vg p l=true):(l.take 1).isEmpty=false:=by
 cases l with
 |nil=>cases h
 |cons c l=>rfl
theorem Ofr(l:Bs)(h:Vg Vx l=true):(l.take 1=[45]) ↔ Vg V2m l=true:=by
 cases l with
 |nil=>cases h
 |cons c l =>
  simp only[U49,List.take_zero,U24,and_true,Vg,V2m,U2w];rw[<-U20];rfl
theorem Odx(l:Bs)(h:Vg Vx l=false):Vg V2m l=false:=by
 cases l with
 |nil=>rfl
 |cons c l =>
  simp only[Vg,Vx,Bool.or_eq_false_iff]at h;exact h.2
theorem Oh6(p:UInt8->Bool)(l:Bs)(N:Nat)(h:l.length<=N):(l.dropWhile p).length<=N:=U1k (by have:=V4r p l;omega) h
theorem O61(l:Bs)(k N:Nat)(h:l.length<=N):(l.drop k).length<=N:=by rw[U15];omega
theorem V8t(N:Nat)(l:Bs)(hN:l.length<=N):V58 l=(V48 N l).map λ d=>⟨d.minus,d.whole,d.part,decide (d.sign=[45]),d.power⟩:=by
 unfold V58 V48;simp only;rw[O86 V2m];have key:∀(m:Bool)(l1:Bs),l1.length<=N ->
     (if l1.takeWhile O2=[]\/(1<(l1.takeWhile O2).length/\(l1.takeWhile O2)[0]?=some 48) then none else
      (let pt:=Vg V2u (l1.dropWhile O2)
      let l3:=if pt then (l1.dropWhile O2).drop 1 else l1.dropWhile O2
      let part:=if pt then l3.takeWhile O2 else []
      let l4:=if pt then l3.dropWhile O2 else l3
      let ra:=Vg Vz l4
      let l5:=if ra then l4.drop 1 else l4
      let sg:=ra&&Vg Vx l5
      let ng:=ra&&Vg V2m l5
      let l6:=if sg then l5.drop 1 else l5
      let pw:=if ra then l6.takeWhile O2 else []
      let l7:=if ra then l6.dropWhile O2 else l6
      if l7=[]/\pt = !part.isEmpty/\ra = !pw.isEmpty then some (⟨m,l1.takeWhile O2,part,ng,pw⟩:Dec) else none)) =
     ((if (tk O2 N l1).1=[]\/(1<(tk O2 N l1).1.length/\(tk O2 N l1).1[0]?=some 48) then none else
      (let a3:=tk V2u 1 (tk O2 N l1).2
      let a4:=if a3.1.isEmpty then ([],a3.2) else tk O2 N a3.2
      let a5:=tk Vz 1 a4.2
      let a6:=if a5.1.isEmpty then ([],a5.2) else tk Vx 1 a5.2
      let a7:=if a5.1.isEmpty then ([],a6.2) else tk O2 N a6.2
      if a7.2.isEmpty&&(a3.1.isEmpty==a4.1.isEmpty)&&(a5.1.isEmpty==a7.1.isEmpty) then some (⟨m,(tk O2 N l1).1,a4.1,a6.1,a7.1⟩:Dw) else none)).map λ d=>⟨d.minus,d.whole,d.part,decide (d.sign=[45]),d.power⟩):=by
  intro m l1 h1;rw[O87 O2 N l1 h1];simp only;by_cases hw:l1.takeWhile O2=[]\/(1<(l1.takeWhile O2).length/\(l1.takeWhile O2)[0]?=some 48);rw[U18 hw,U18 hw];rfl
  rw[U1b hw,U1b hw];have h2:=Oh6 O2 l1 N h1;generalize l1.takeWhile O2=wh;generalize l1.dropWhile O2=l2 at h2⊢;rw[O86 V2u];have vw:∀(pt:Bool)(part l4:Bs)(e3:Bool),e3 = !pt->l4.length<=N ->
      (if (if Vg Vz l4 then (if (Vg Vz l4&&Vg Vx (if Vg Vz l4 then l4.drop 1 else l4)) then (if Vg Vz l4 then l4.drop 1 else l4).drop 1 else (if Vg Vz l4 then l4.drop 1 else l4)).dropWhile O2 else (if (Vg Vz l4&&Vg Vx (if Vg Vz l4 then l4.drop 1 else l4)) then (if Vg Vz l4 then l4.drop 1 else l4).drop 1 else (if Vg Vz l4 then l4.drop 1 else l4)))=[]/\pt = !part.isEmpty/\Vg Vz l4 = !(if Vg Vz l4 then (if (Vg Vz l4&&Vg Vx (if Vg Vz l4 then l4.drop 1 else l4)) then (if Vg Vz l4 then l4.drop 1 else l4).drop 1 else (if Vg Vz l4 then l4.drop 1 else l4)).takeWhile O2 else []).isEmpty
       then some (⟨m,wh,part,Vg Vz l4&&Vg V2m (if Vg Vz l4 then l4.drop 1 else l4),(if Vg Vz l4 then (if (Vg Vz l4&&Vg Vx (if Vg Vz l4 then l4.drop 1 else l4)) then (if Vg Vz l4 then l4.drop 1 else l4).drop 1 else (if Vg Vz l4 then l4.drop 1 else l4)).takeWhile O2 else [])⟩:Dec) else none) =
      ((let a5:=tk Vz 1 l4
      let a6:=if a5.1.isEmpty then ([],a5.2) else tk Vx 1 a5.2
      let a7:=if a5.1.isEmpty then ([],a6.2) else tk O2 N a6.2
      if a7.2.isEmpty&&(e3==part.isEmpty)&&(a5.1.isEmpty==a7.1.isEmpty) then some (⟨m,wh,part,a6.1,a7.1⟩:Dw) else none).map λ d=>⟨d.minus,d.whole,d.part,decide (d.sign=[45]),d.power⟩):=by
   intro pt part l4 e3 Bc h4;subst Bc;rw[O86 Vz];cases hr:Vg Vz l4 with
   |false =>
    simp only[U1v,U2c,U4w,U4x,U2i];cases l4 with
    |nil=>cases pt <;> cases part <;> simp
    |cons c l=>simp
   |true =>
    have e1:=O56 Vz l4 hr;simp only[U2i,Bool.true_and,e1,U1v,U2c];have h5:=O61 l4 1 N h4;generalize l4.drop 1=l5 at h5⊢;rw[O86 Vx];cases hs:Vg Vx l5 with
    |false =>
     have hm:=Odx l5 hs;simp only[U1v,U2c];rw[O87 O2 N l5 h5,hm];simp only;cases l5.dropWhile O2 with
     |nil=>cases pt <;> cases part <;> cases l5.takeWhile O2 <;> simp
     |cons c l=>simp
    |true =>
     have hm:=Ofr l5 hs;simp only[U2i];rw[O87 O2 N (l5.drop 1) (O61 _ _ _ h5)];simp only;have hd:decide (l5.take 1=[45])=Vg V2m l5:=by
      cases hh:Vg V2m l5 with
      |true=>simpa using hm.2 hh
      |false=>simp only[decide_eq_false_iff_not];intro e;rw[hm.1 e]at hh;cases hh
     cases (l5.drop 1).dropWhile O2 with
     |nil=>cases pt <;> cases part <;> cases (l5.drop 1).takeWhile O2 <;> simp[hd]
     |cons c l=>simp
  cases hp:Vg V2u l2 with
  |false =>
   simp only[U1v,U2c,U4x,U2i];exact vw false [] l2 true rfl h2
  |true =>
   have e1:=O56 V2u l2 hp;simp only[U2i,e1,U1v,U2c];rw[O87 O2 N (l2.drop 1) (O61 _ _ _ h2)];simp only;exact vw true _ _ false rfl (Oh6 O2 _ N (O61 _ _ _ h2))
 cases hm:Vg V2m l with
 |false =>
  simp only[U1v,U2c,U4x,Bool.not_true];exact key false l hN
 |true =>
  have e1:=O56 V2m l hm;simp only[U2i,e1,Bool.not_false];exact key true (l.drop 1) (O61 _ _ _ hN)
