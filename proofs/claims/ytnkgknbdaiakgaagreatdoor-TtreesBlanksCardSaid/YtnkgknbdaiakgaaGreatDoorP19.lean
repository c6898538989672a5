/- The proof's part 19. -/
import Derived.Test.YtnkgknbdaiakgaaGreatDoorP18
set_option maxHeartbeats 16000000
set_option linter.all false
namespace Go.Proofs.YtnkgknbdaiakgaaGreatDoor.Pl
def tk(p:UInt8->Bool)(many:Nat)(l:Bs):Bs×Bs:=(l.take (V43 p many l),l.drop (V43 p many l))
structure Dw where
 minus:Bool
 whole:Bs
 part:Bs
 sign:Bs
 power:Bs
def V3t(N:Nat)(l:Bs):Option Dw :=
 let a1:=tk V2k 1 l
 let a2:=tk O2 N a1.2
 if a2.1=[]\/(1<a2.1.length/\a2.1[0]?=some 48) then none else
 let a3:=tk V2p 1 a2.2
 let a4:=if a3.1.isEmpty then ([],a3.2) else tk O2 N a3.2
 let a5:=tk Vs 1 a4.2
 let a6:=if a5.1.isEmpty then ([],a5.2) else tk Vq 1 a5.2
 let a7:=if a5.1.isEmpty then ([],a6.2) else tk O2 N a6.2
 if a7.2.isEmpty&&(a3.1.isEmpty==a4.1.isEmpty)&&(a5.1.isEmpty==a7.1.isEmpty) then some ⟨!a1.1.isEmpty,a2.1,a4.1,a6.1,a7.1⟩ else none
theorem Ogz(p:UInt8->Bool)(l:Bs):V43 p 1 l=if Ve p l then 1 else 0:=by
 unfold V43;cases l with
 |nil=>rfl
 |cons c l =>
  rw[Uo];unfold Ve;simp only;by_cases h:p c=true;rw[Ua h,Ua h];simp
  rw[Ud h,Ud h];simp
theorem Oh0(p:UInt8->Bool)(many:Nat)(l:Bs)(h:l.length<=many):V43 p many l=(l.takeWhile p).length:=by
 have:=Vg p l;unfold V43;omega
theorem O86(p:UInt8->Bool)(l:Bs):tk p 1 l=if Ve p l then (l.take 1,l.drop 1) else ([],l):=by
 unfold tk;rw[Ogz]
 split <;> simp
theorem O87(p:UInt8->Bool)(N:Nat)(l:Bs)(h:l.length<=N):tk p N l=(l.takeWhile p,l.dropWhile p):=by
 unfold tk;rw[Oh0 p N l h,O8u];congr 1;exact (U2o.1 (U2y p)).symm
theorem O4x(p:UInt8->Bool)(l:Bs)(h:Ve p l=true):(l.take 1).isEmpty=false:=by
 cases l with
 |nil=>cases h
 |cons c l=>rfl
theorem Ofb(l:Bs)(h:Ve Vq l=true):(l.take 1=[45]) ↔ Ve V2k l=true:=by
 cases l with
 |nil=>cases h
 |cons c l =>
  simp only[U2q,List.take_zero,U1a,and_true,Ve,V2k,U1v];rw[<-U1b];rfl
theorem Odh(l:Bs)(h:Ve Vq l=false):Ve V2k l=false:=by
 cases l with
 |nil=>rfl
 |cons c l =>
  simp only[Ve,Vq,Bool.or_eq_false_iff]at h;exact h.2
theorem Oh1(p:UInt8->Bool)(l:Bs)(N:Nat)(h:l.length<=N):(l.dropWhile p).length<=N:=Uj (by have:=V4e p l;omega) h
theorem O5y(l:Bs)(k N:Nat)(h:l.length<=N):(l.drop k).length<=N:=by rw[U3];omega
theorem V81(N:Nat)(l:Bs)(hN:l.length<=N):V50 l=(V3t N l).map λ d=>⟨d.minus,d.whole,d.part,decide (d.sign=[45]),d.power⟩:=by
 unfold V50 V3t;simp only;rw[O86 V2k];have key:∀(m:Bool)(l1:Bs),l1.length<=N ->
     (if l1.takeWhile O2=[]\/(1<(l1.takeWhile O2).length/\(l1.takeWhile O2)[0]?=some 48) then none else
      (let pt:=Ve V2p (l1.dropWhile O2)
      let l3:=if pt then (l1.dropWhile O2).drop 1 else l1.dropWhile O2
      let part:=if pt then l3.takeWhile O2 else []
      let l4:=if pt then l3.dropWhile O2 else l3
      let ra:=Ve Vs l4
      let l5:=if ra then l4.drop 1 else l4
      let sg:=ra&&Ve Vq l5
      let ng:=ra&&Ve V2k l5
      let l6:=if sg then l5.drop 1 else l5
      let pw:=if ra then l6.takeWhile O2 else []
      let l7:=if ra then l6.dropWhile O2 else l6
      if l7=[]/\pt = !part.isEmpty/\ra = !pw.isEmpty then some (⟨m,l1.takeWhile O2,part,ng,pw⟩:Dec) else none)) =
     ((if (tk O2 N l1).1=[]\/(1<(tk O2 N l1).1.length/\(tk O2 N l1).1[0]?=some 48) then none else
      (let a3:=tk V2p 1 (tk O2 N l1).2
      let a4:=if a3.1.isEmpty then ([],a3.2) else tk O2 N a3.2
      let a5:=tk Vs 1 a4.2
      let a6:=if a5.1.isEmpty then ([],a5.2) else tk Vq 1 a5.2
      let a7:=if a5.1.isEmpty then ([],a6.2) else tk O2 N a6.2
      if a7.2.isEmpty&&(a3.1.isEmpty==a4.1.isEmpty)&&(a5.1.isEmpty==a7.1.isEmpty) then some (⟨m,(tk O2 N l1).1,a4.1,a6.1,a7.1⟩:Dw) else none)).map λ d=>⟨d.minus,d.whole,d.part,decide (d.sign=[45]),d.power⟩):=by
  intro m l1 h1;rw[O87 O2 N l1 h1];simp only;by_cases hw:l1.takeWhile O2=[]\/(1<(l1.takeWhile O2).length/\(l1.takeWhile O2)[0]?=some 48);rw[Ua hw,Ua hw];rfl
  rw[Ud hw,Ud hw];have h2:=Oh1 O2 l1 N h1;generalize l1.takeWhile O2=wh;generalize l1.dropWhile O2=l2 at h2⊢;rw[O86 V2p];have uT:∀(pt:Bool)(part l4:Bs)(e3:Bool),e3 = !pt->l4.length<=N ->
      (if (if Ve Vs l4 then (if (Ve Vs l4&&Ve Vq (if Ve Vs l4 then l4.drop 1 else l4)) then (if Ve Vs l4 then l4.drop 1 else l4).drop 1 else (if Ve Vs l4 then l4.drop 1 else l4)).dropWhile O2 else (if (Ve Vs l4&&Ve Vq (if Ve Vs l4 then l4.drop 1 else l4)) then (if Ve Vs l4 then l4.drop 1 else l4).drop 1 else (if Ve Vs l4 then l4.drop 1 else l4)))=[]/\pt = !part.isEmpty/\Ve Vs l4 = !(if Ve Vs l4 then (if (Ve Vs l4&&Ve Vq (if Ve Vs l4 then l4.drop 1 else l4)) then (if Ve Vs l4 then l4.drop 1 else l4).drop 1 else (if Ve Vs l4 then l4.drop 1 else l4)).takeWhile O2 else []).isEmpty
       then some (⟨m,wh,part,Ve Vs l4&&Ve V2k (if Ve Vs l4 then l4.drop 1 else l4),(if Ve Vs l4 then (if (Ve Vs l4&&Ve Vq (if Ve Vs l4 then l4.drop 1 else l4)) then (if Ve Vs l4 then l4.drop 1 else l4).drop 1 else (if Ve Vs l4 then l4.drop 1 else l4)).takeWhile O2 else [])⟩:Dec) else none) =
      ((let a5:=tk Vs 1 l4
      let a6:=if a5.1.isEmpty then ([],a5.2) else tk Vq 1 a5.2
      let a7:=if a5.1.isEmpty then ([],a6.2) else tk O2 N a6.2
      if a7.2.isEmpty&&(e3==part.isEmpty)&&(a5.1.isEmpty==a7.1.isEmpty) then some (⟨m,wh,part,a6.1,a7.1⟩:Dw) else none).map λ d=>⟨d.minus,d.whole,d.part,decide (d.sign=[45]),d.power⟩):=by
   intro pt part l4 e3 AM h4;subst AM;rw[O86 Vs];cases hr:Ve Vs l4 with
   |false =>
    simp only[U11,U1d,U3o,List.isEmpty_nil,U1j];cases l4 with
    |nil=>cases pt <;> cases part <;> simp
    |cons c l=>simp
   |true =>
    have e1:=O4x Vs l4 hr;simp only[U1j,Bool.true_and,e1,U11,U1d];have h5:=O5y l4 1 N h4;generalize l4.drop 1=l5 at h5⊢;rw[O86 Vq];cases hs:Ve Vq l5 with
    |false =>
     have hm:=Odh l5 hs;simp only[U11,U1d];rw[O87 O2 N l5 h5,hm];simp only;cases l5.dropWhile O2 with
     |nil=>cases pt <;> cases part <;> cases l5.takeWhile O2 <;> simp
     |cons c l=>simp
    |true =>
     have hm:=Ofb l5 hs;simp only[U1j];rw[O87 O2 N (l5.drop 1) (O5y _ _ _ h5)];simp only;have hd:decide (l5.take 1=[45])=Ve V2k l5:=by
      cases hh:Ve V2k l5 with
      |true=>simpa using hm.2 hh
      |false=>simp only[decide_eq_false_iff_not];intro e;rw[hm.1 e]at hh;cases hh
     cases (l5.drop 1).dropWhile O2 with
     |nil=>cases pt <;> cases part <;> cases (l5.drop 1).takeWhile O2 <;> simp[hd]
     |cons c l=>simp
  cases hp:Ve V2p l2 with
  |false =>
   simp only[U11,U1d,List.isEmpty_nil,U1j];exact uT false [] l2 true rfl h2
  |true =>
   have e1:=O4x V2p l2 hp;simp only[U1j,e1,U11,U1d];rw[O87 O2 N (l2.drop 1) (O5y _ _ _ h2)];simp only;exact uT true _ _ false rfl (Oh1 O2 _ N (O5y _ _ _ h2))
 cases hm:Ve V2k l with
 |false =>
  simp only[U11,U1d,List.isEmpty_nil,Bool.not_true];exact key false l hN
 |true =>
  have e1:=O4x V2k l hm;simp only[U1j,e1,Bool.not_false];exact key true (l.drop 1) (O5y _ _ _ hN)
