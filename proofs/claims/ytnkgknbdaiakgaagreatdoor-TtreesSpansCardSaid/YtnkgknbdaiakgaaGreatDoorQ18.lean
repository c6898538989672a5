/- The proof's part 18. -/
import Derived.Test.YtnkgknbdaiakgaaGreatDoorQ17
set_option maxHeartbeats 16000000
set_option linter.all false
namespace Go.Proofs.YtnkgknbdaiakgaaGreatDoor.Pl
def tk(p:UInt8->Bool)(many:Nat)(l:Bs):Bs×Bs:=(l.take (V42 p many l),l.drop (V42 p many l))
structure Dw where
 minus:Bool
 whole:Bs
 part:Bs
 sign:Bs
 power:Bs
def V3s(N:Nat)(l:Bs):Option Dw :=
 let a1:=tk V2k 1 l
 let a2:=tk O2 N a1.2
 if a2.1=[]\/(1<a2.1.length/\a2.1[0]?=some 48) then none else
 let a3:=tk V2m 1 a2.2
 let a4:=if a3.1.isEmpty then ([],a3.2) else tk O2 N a3.2
 let a5:=tk Vr 1 a4.2
 let a6:=if a5.1.isEmpty then ([],a5.2) else tk Vq 1 a5.2
 let a7:=if a5.1.isEmpty then ([],a6.2) else tk O2 N a6.2
 if a7.2.isEmpty&&(a3.1.isEmpty==a4.1.isEmpty)&&(a5.1.isEmpty==a7.1.isEmpty) then some ⟨!a1.1.isEmpty,a2.1,a4.1,a6.1,a7.1⟩ else none
theorem Og4(p:UInt8->Bool)(l:Bs):V42 p 1 l=if Vg p l then 1 else 0:=by
 unfold V42;cases l with
 |nil=>rfl
 |cons c l =>
  rw[U1p];unfold Vg;simp only;by_cases h:p c=true;rw[U1a h,U1a h];simp
  rw[U1c h,U1c h];simp
theorem Og5(p:UInt8->Bool)(many:Nat)(l:Bs)(h:l.length<=many):V42 p many l=(l.takeWhile p).length:=by
 have:=Vj p l;unfold V42;omega
theorem O7r(p:UInt8->Bool)(l:Bs):tk p 1 l=if Vg p l then (l.take 1,l.drop 1) else ([],l):=by
 unfold tk;rw[Og4]
 split <;> simp
theorem O7s(p:UInt8->Bool)(N:Nat)(l:Bs)(h:l.length<=N):tk p N l=(l.takeWhile p,l.dropWhile p):=by
 unfold tk;rw[Og5 p N l h,O8m];congr 1;exact (U3s.1 (U3y p)).symm
theorem O4t(p:UInt8->Bool)(l:Bs)(h:Vg p l=true):(l.take 1).isEmpty=false:=by
 cases l with
 |nil=>cases h
 |cons c l=>rfl
theorem Oeo(l:Bs)(h:Vg Vq l=true):(l.take 1=[45]) ↔ Vg V2k l=true:=by
 cases l with
 |nil=>cases h
 |cons c l =>
  simp only[U35,List.take_zero,U27,and_true,Vg,V2k,U2z];rw[<-U2d];rfl
theorem Od0(l:Bs)(h:Vg Vq l=false):Vg V2k l=false:=by
 cases l with
 |nil=>rfl
 |cons c l =>
  simp only[Vg,Vq,Bool.or_eq_false_iff]at h;exact h.2
theorem Og6(p:UInt8->Bool)(l:Bs)(N:Nat)(h:l.length<=N):(l.dropWhile p).length<=N:=U1l (by have:=V4b p l;omega) h
theorem O5l(l:Bs)(k N:Nat)(h:l.length<=N):(l.drop k).length<=N:=by rw[U16];omega
theorem V83(N:Nat)(l:Bs)(hN:l.length<=N):V4v l=(V3s N l).map λ d=>⟨d.minus,d.whole,d.part,decide (d.sign=[45]),d.power⟩:=by
 unfold V4v V3s;simp only;rw[O7r V2k];have key:∀(m:Bool)(l1:Bs),l1.length<=N ->
     (if l1.takeWhile O2=[]\/(1<(l1.takeWhile O2).length/\(l1.takeWhile O2)[0]?=some 48) then none else
      (let pt:=Vg V2m (l1.dropWhile O2)
      let l3:=if pt then (l1.dropWhile O2).drop 1 else l1.dropWhile O2
      let part:=if pt then l3.takeWhile O2 else []
      let l4:=if pt then l3.dropWhile O2 else l3
      let ra:=Vg Vr l4
      let l5:=if ra then l4.drop 1 else l4
      let sg:=ra&&Vg Vq l5
      let ng:=ra&&Vg V2k l5
      let l6:=if sg then l5.drop 1 else l5
      let pw:=if ra then l6.takeWhile O2 else []
      let l7:=if ra then l6.dropWhile O2 else l6
      if l7=[]/\pt = !part.isEmpty/\ra = !pw.isEmpty then some (⟨m,l1.takeWhile O2,part,ng,pw⟩:Dec) else none)) =
     ((if (tk O2 N l1).1=[]\/(1<(tk O2 N l1).1.length/\(tk O2 N l1).1[0]?=some 48) then none else
      (let a3:=tk V2m 1 (tk O2 N l1).2
      let a4:=if a3.1.isEmpty then ([],a3.2) else tk O2 N a3.2
      let a5:=tk Vr 1 a4.2
      let a6:=if a5.1.isEmpty then ([],a5.2) else tk Vq 1 a5.2
      let a7:=if a5.1.isEmpty then ([],a6.2) else tk O2 N a6.2
      if a7.2.isEmpty&&(a3.1.isEmpty==a4.1.isEmpty)&&(a5.1.isEmpty==a7.1.isEmpty) then some (⟨m,(tk O2 N l1).1,a4.1,a6.1,a7.1⟩:Dw) else none)).map λ d=>⟨d.minus,d.whole,d.part,decide (d.sign=[45]),d.power⟩):=by
  intro m l1 h1;rw[O7s O2 N l1 h1];simp only;by_cases hw:l1.takeWhile O2=[]\/(1<(l1.takeWhile O2).length/\(l1.takeWhile O2)[0]?=some 48);rw[U1a hw,U1a hw];rfl
  rw[U1c hw,U1c hw];have h2:=Og6 O2 l1 N h1;generalize l1.takeWhile O2=wh;generalize l1.dropWhile O2=l2 at h2⊢;rw[O7r V2m];have vY:∀(pt:Bool)(part l4:Bs)(e3:Bool),e3 = !pt->l4.length<=N ->
      (if (if Vg Vr l4 then (if (Vg Vr l4&&Vg Vq (if Vg Vr l4 then l4.drop 1 else l4)) then (if Vg Vr l4 then l4.drop 1 else l4).drop 1 else (if Vg Vr l4 then l4.drop 1 else l4)).dropWhile O2 else (if (Vg Vr l4&&Vg Vq (if Vg Vr l4 then l4.drop 1 else l4)) then (if Vg Vr l4 then l4.drop 1 else l4).drop 1 else (if Vg Vr l4 then l4.drop 1 else l4)))=[]/\pt = !part.isEmpty/\Vg Vr l4 = !(if Vg Vr l4 then (if (Vg Vr l4&&Vg Vq (if Vg Vr l4 then l4.drop 1 else l4)) then (if Vg Vr l4 then l4.drop 1 else l4).drop 1 else (if Vg Vr l4 then l4.drop 1 else l4)).takeWhile O2 else []).isEmpty
       then some (⟨m,wh,part,Vg Vr l4&&Vg V2k (if Vg Vr l4 then l4.drop 1 else l4),(if Vg Vr l4 then (if (Vg Vr l4&&Vg Vq (if Vg Vr l4 then l4.drop 1 else l4)) then (if Vg Vr l4 then l4.drop 1 else l4).drop 1 else (if Vg Vr l4 then l4.drop 1 else l4)).takeWhile O2 else [])⟩:Dec) else none) =
      ((let a5:=tk Vr 1 l4
      let a6:=if a5.1.isEmpty then ([],a5.2) else tk Vq 1 a5.2
      let a7:=if a5.1.isEmpty then ([],a6.2) else tk O2 N a6.2
      if a7.2.isEmpty&&(e3==part.isEmpty)&&(a5.1.isEmpty==a7.1.isEmpty) then some (⟨m,wh,part,a6.1,a7.1⟩:Dw) else none).map λ d=>⟨d.minus,d.whole,d.part,decide (d.sign=[45]),d.power⟩):=by
   intro pt part l4 e3 BG h4;subst BG;rw[O7r Vr];cases hr:Vg Vr l4 with
   |false =>
    simp only[U23,U2f,U4l,List.isEmpty_nil,U2o];cases l4 with
    |nil=>cases pt <;> cases part <;> simp
    |cons c l=>simp
   |true =>
    have e1:=O4t Vr l4 hr;simp only[U2o,Bool.true_and,e1,U23,U2f];have h5:=O5l l4 1 N h4;generalize l4.drop 1=l5 at h5⊢;rw[O7r Vq];cases hs:Vg Vq l5 with
    |false =>
     have hm:=Od0 l5 hs;simp only[U23,U2f];rw[O7s O2 N l5 h5,hm];simp only;cases l5.dropWhile O2 with
     |nil=>cases pt <;> cases part <;> cases l5.takeWhile O2 <;> simp
     |cons c l=>simp
    |true =>
     have hm:=Oeo l5 hs;simp only[U2o];rw[O7s O2 N (l5.drop 1) (O5l _ _ _ h5)];simp only;have hd:decide (l5.take 1=[45])=Vg V2k l5:=by
      cases hh:Vg V2k l5 with
      |true=>simpa using hm.2 hh
      |false=>simp only[decide_eq_false_iff_not];intro e;rw[hm.1 e]at hh;cases hh
     cases (l5.drop 1).dropWhile O2 with
     |nil=>cases pt <;> cases part <;> cases (l5.drop 1).takeWhile O2 <;> simp[hd]
     |cons c l=>simp
  cases hp:Vg V2m l2 with
  |false =>
   simp only[U23,U2f,List.isEmpty_nil,U2o];exact vY false [] l2 true rfl h2
  |true =>
   have e1:=O4t V2m l2 hp;simp only[U2o,e1,U23,U2f];rw[O7s O2 N (l2.drop 1) (O5l _ _ _ h2)];simp only;exact vY true _ _ false rfl (Og6 O2 _ N (O5l _ _ _ h2))
 cases hm:Vg V2k l with
 |false =>
  simp only[U23,U2f,List.isEmpty_nil,Bool.not_true];exact key false l hN
 |true =>
  have e1:=O4t V2k l hm;simp only[U2o,e1,Bool.not_false];exact key true (l.drop 1) (O5l _ _ _ hN)
