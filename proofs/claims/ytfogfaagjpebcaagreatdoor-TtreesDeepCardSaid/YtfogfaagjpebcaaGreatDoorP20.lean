/-
 The walks and plain laws that the claim rests on, part 20.
-/
import Derived.Test.YtfogfaagjpebcaaGreatDoorP00
import Derived.Test.YtfogfaagjpebcaaGreatDoorP19
set_option maxHeartbeats 16000000
set_option linter.all false
set_option linter.unusedVariables false
set_option linter.unusedSimpArgs false
namespace Go.Proofs.YtfogfaagjpebcaaGreatDoor.Pl
def tk (p:UInt8→Bool) (many:Nat) (l:Bs):Bs × Bs:=(l.take (takeN p many l),l.drop (takeN p many l))
structure Dw where
 minus:Bool
 whole:Bs
 part:Bs
 sign:Bs
 power:Bs
def dSplit (N:Nat) (l:Bs):Option Dw :=
 let a1:=tk isMinus 1 l
 let a2:=tk isDec N a1.2
 if a2.1=[]∨(1<a2.1.length∧a2.1[0]?=some 48) then none else
 let a3:=tk isDot 1 a2.2
 let a4:=if a3.1.isEmpty then ([],a3.2) else tk isDec N a3.2
 let a5:=tk isRaise 1 a4.2
 let a6:=if a5.1.isEmpty then ([],a5.2) else tk isSign 1 a5.2
 let a7:=if a5.1.isEmpty then ([],a6.2) else tk isDec N a6.2
 if a7.2.isEmpty && (a3.1.isEmpty==a4.1.isEmpty) && (a5.1.isEmpty==a7.1.isEmpty) then some ⟨!a1.1.isEmpty,a2.1,a4.1,a6.1,a7.1⟩ else none
theorem takeN_one (p:UInt8→Bool) (l:Bs):takeN p 1 l=if heads p l then 1 else 0:=by
 unfold takeN;cases l with
 | nil=>rfl
 | cons c l =>
  rw[List.takeWhile_cons];unfold heads;simp only;by_cases h:p c=true
  · rw[if_pos h,if_pos h];simp
  rw[if_neg h,if_neg h];simp
theorem takeN_all (p:UInt8→Bool) (many:Nat) (l:Bs) (h:l.length≤many):takeN p many l=(l.takeWhile p).length:=by
 have:=takeWhile_length_le p l;unfold takeN;omega
theorem tk_one (p:UInt8→Bool) (l:Bs):tk p 1 l=if heads p l then (l.take 1,l.drop 1) else ([],l):=by
 unfold tk;rw[takeN_one]
 split <;> simp
theorem tk_all (p:UInt8→Bool) (N:Nat) (l:Bs) (h:l.length≤N):tk p N l=(l.takeWhile p,l.dropWhile p):=by
 unfold tk;rw[takeN_all p N l h,drop_takeWhile];congr 1;exact (List.prefix_iff_eq_take.1 (List.takeWhile_prefix p)).symm
theorem take_heads (p:UInt8→Bool) (l:Bs) (h:heads p l=true):(l.take 1).isEmpty=false:=by
 cases l with
 | nil=>cases h
 | cons c l=>rfl
theorem sign_heads (l:Bs) (h:heads isSign l=true):(l.take 1=[45]) ↔ heads isMinus l=true:=by
 cases l with
 | nil=>cases h
 | cons c l =>
  simp only[List.take_succ_cons,List.take_zero,List.cons.injEq,and_true,heads,isMinus,beq_iff_eq];rw[←UInt8.toNat_inj];rfl
theorem minus_heads (l:Bs) (h:heads isSign l=false):heads isMinus l=false:=by
 cases l with
 | nil=>rfl
 | cons c l =>
  simp only[heads,isSign,Bool.or_eq_false_iff]at h;exact h.2
theorem dw_len (p:UInt8→Bool) (l:Bs) (N:Nat) (h:l.length≤N):(l.dropWhile p).length≤N:=Nat.le_trans (by have:=takeWhile_dropWhile p l;omega) h
theorem dr_len (l:Bs) (k N:Nat) (h:l.length≤N):(l.drop k).length≤N:=by rw[List.length_drop];omega
theorem dSplit_eq (N:Nat) (l:Bs) (hN:l.length≤N):decSplit l=(dSplit N l).map fun d=>⟨d.minus,d.whole,d.part,decide (d.sign=[45]),d.power⟩:=by
 unfold decSplit dSplit;simp only;rw[tk_one isMinus];have key:∀(m:Bool) (l1:Bs),l1.length≤N →
     (if l1.takeWhile isDec=[]∨(1<(l1.takeWhile isDec).length∧(l1.takeWhile isDec)[0]?=some 48) then none else
      (let pt:=heads isDot (l1.dropWhile isDec)
      let l3:=if pt then (l1.dropWhile isDec).drop 1 else l1.dropWhile isDec
      let part:=if pt then l3.takeWhile isDec else []
      let l4:=if pt then l3.dropWhile isDec else l3
      let ra:=heads isRaise l4
      let l5:=if ra then l4.drop 1 else l4
      let sg:=ra && heads isSign l5
      let ng:=ra && heads isMinus l5
      let l6:=if sg then l5.drop 1 else l5
      let pw:=if ra then l6.takeWhile isDec else []
      let l7:=if ra then l6.dropWhile isDec else l6
      if l7=[]∧pt = !part.isEmpty∧ra = !pw.isEmpty then some (⟨m,l1.takeWhile isDec,part,ng,pw⟩:Dec) else none)) =
     ((if (tk isDec N l1).1=[]∨(1<(tk isDec N l1).1.length∧(tk isDec N l1).1[0]?=some 48) then none else
      (let a3:=tk isDot 1 (tk isDec N l1).2
      let a4:=if a3.1.isEmpty then ([],a3.2) else tk isDec N a3.2
      let a5:=tk isRaise 1 a4.2
      let a6:=if a5.1.isEmpty then ([],a5.2) else tk isSign 1 a5.2
      let a7:=if a5.1.isEmpty then ([],a6.2) else tk isDec N a6.2
      if a7.2.isEmpty && (a3.1.isEmpty==a4.1.isEmpty) && (a5.1.isEmpty==a7.1.isEmpty) then some (⟨m,(tk isDec N l1).1,a4.1,a6.1,a7.1⟩:Dw) else none)).map fun d=>⟨d.minus,d.whole,d.part,decide (d.sign=[45]),d.power⟩):=by
  intro m l1 h1;rw[tk_all isDec N l1 h1];simp only;by_cases hw:l1.takeWhile isDec=[]∨(1<(l1.takeWhile isDec).length∧(l1.takeWhile isDec)[0]?=some 48)
  · rw[if_pos hw,if_pos hw];rfl
  rw[if_neg hw,if_neg hw];have h2:=dw_len isDec l1 N h1;generalize l1.takeWhile isDec=wh;generalize l1.dropWhile isDec=l2 at h2 ⊢;rw[tk_one isDot];have raise:∀(pt:Bool) (part l4:Bs) (e3:Bool),e3 = !pt→l4.length≤N →
      (if (if heads isRaise l4 then (if (heads isRaise l4 && heads isSign (if heads isRaise l4 then l4.drop 1 else l4)) then (if heads isRaise l4 then l4.drop 1 else l4).drop 1 else (if heads isRaise l4 then l4.drop 1 else l4)).dropWhile isDec else (if (heads isRaise l4 && heads isSign (if heads isRaise l4 then l4.drop 1 else l4)) then (if heads isRaise l4 then l4.drop 1 else l4).drop 1 else (if heads isRaise l4 then l4.drop 1 else l4)))=[]∧pt = !part.isEmpty∧heads isRaise l4 = !(if heads isRaise l4 then (if (heads isRaise l4 && heads isSign (if heads isRaise l4 then l4.drop 1 else l4)) then (if heads isRaise l4 then l4.drop 1 else l4).drop 1 else (if heads isRaise l4 then l4.drop 1 else l4)).takeWhile isDec else []).isEmpty
       then some (⟨m,wh,part,heads isRaise l4 && heads isMinus (if heads isRaise l4 then l4.drop 1 else l4),(if heads isRaise l4 then (if (heads isRaise l4 && heads isSign (if heads isRaise l4 then l4.drop 1 else l4)) then (if heads isRaise l4 then l4.drop 1 else l4).drop 1 else (if heads isRaise l4 then l4.drop 1 else l4)).takeWhile isDec else [])⟩:Dec) else none) =
      ((let a5:=tk isRaise 1 l4
      let a6:=if a5.1.isEmpty then ([],a5.2) else tk isSign 1 a5.2
      let a7:=if a5.1.isEmpty then ([],a6.2) else tk isDec N a6.2
      if a7.2.isEmpty && (e3==part.isEmpty) && (a5.1.isEmpty==a7.1.isEmpty) then some (⟨m,wh,part,a6.1,a7.1⟩:Dw) else none).map fun d=>⟨d.minus,d.whole,d.part,decide (d.sign=[45]),d.power⟩):=by
   intro pt part l4 e3 he3 h4;subst he3;rw[tk_one isRaise];cases hr:heads isRaise l4 with
   | false =>
    simp only[Bool.false_eq_true,if_false,Bool.false_and,List.isEmpty_nil,if_true];cases l4 with
    | nil=>cases pt <;> cases part <;> simp
    | cons c l=>simp
   | true =>
    have e1:=take_heads isRaise l4 hr;simp only[if_true,Bool.true_and,e1,Bool.false_eq_true,if_false];have h5:=dr_len l4 1 N h4;generalize l4.drop 1=l5 at h5 ⊢;rw[tk_one isSign];cases hs:heads isSign l5 with
    | false =>
     have hm:=minus_heads l5 hs;simp only[Bool.false_eq_true,if_false];rw[tk_all isDec N l5 h5,hm];simp only;cases l5.dropWhile isDec with
     | nil=>cases pt <;> cases part <;> cases l5.takeWhile isDec <;> simp
     | cons c l=>simp
    | true =>
     have hm:=sign_heads l5 hs;simp only[if_true];rw[tk_all isDec N (l5.drop 1) (dr_len _ _ _ h5)];simp only;have hd:decide (l5.take 1=[45])=heads isMinus l5:=by
      cases hh:heads isMinus l5 with
      | true=>simpa using hm.2 hh
      | false=>simp only[decide_eq_false_iff_not];intro e;rw[hm.1 e]at hh;cases hh
     cases (l5.drop 1).dropWhile isDec with
     | nil=>cases pt <;> cases part <;> cases (l5.drop 1).takeWhile isDec <;> simp[hd]
     | cons c l=>simp
  cases hp:heads isDot l2 with
  | false =>
   simp only[Bool.false_eq_true,if_false,List.isEmpty_nil,if_true];exact raise false [] l2 true rfl h2
  | true =>
   have e1:=take_heads isDot l2 hp;simp only[if_true,e1,Bool.false_eq_true,if_false];rw[tk_all isDec N (l2.drop 1) (dr_len _ _ _ h2)];simp only;exact raise true _ _ false rfl (dw_len isDec _ N (dr_len _ _ _ h2))
 cases hm:heads isMinus l with
 | false =>
  simp only[Bool.false_eq_true,if_false,List.isEmpty_nil,Bool.not_true];exact key false l hN
 | true =>
  have e1:=take_heads isMinus l hm;simp only[if_true,e1,Bool.not_false];exact key true (l.drop 1) (dr_len _ _ _ hN)
end Go.Proofs.YtfogfaagjpebcaaGreatDoor.Pl
