/-
 The walks and plain laws that the claim rests on, part 1.
-/
import Derived.Test.YtfogfaagjpebcaaGreatDoorP00
set_option maxHeartbeats 16000000
set_option linter.all false
set_option linter.unusedVariables false
set_option linter.unusedSimpArgs false
namespace Go.Proofs.YtfogfaagjpebcaaGreatDoor.Pl
abbrev Bs:=List UInt8
inductive Out (α : Type) where
 | ok (a : α)
 | bad (c:Nat) (p:Nat)
def Out.map {α β : Type} (f : α → β):Out α → Out β
 | .ok a => .ok (f a)
 | .bad c p => .bad c p
def isBlank (c:UInt8):Bool:=c.toNat==32 || c.toNat==9
def blanks (l:Bs):Nat:=(l.takeWhile isBlank).length
def blanksAt (l:Bs) (n:Nat):Nat:=n+blanks (l.drop n)
theorem takeWhile_length_le (p:UInt8→Bool) (l:Bs):(l.takeWhile p).length≤l.length:=by
 induction l with
 | nil=>simp
 | cons a l ih=>simp only[List.takeWhile_cons];split <;> simp <;> omega
theorem takeWhile_dropWhile (p:UInt8→Bool) (l:Bs):(l.takeWhile p).length+(l.dropWhile p).length=l.length:=by
 rw[←List.length_append,List.takeWhile_append_dropWhile]
theorem drop_takeWhile (p:UInt8→Bool) (l:Bs):l.drop (l.takeWhile p).length=l.dropWhile p:=by
 induction l with
 | nil=>simp
 | cons a l ih=>simp only[List.takeWhile_cons,List.dropWhile_cons];split <;> simp_all
theorem blanks_le (l:Bs):blanks l≤l.length:=takeWhile_length_le _ _
theorem blanksAt_le (l:Bs) (n:Nat) (h:n≤l.length):n≤blanksAt l n∧blanksAt l n≤l.length:=by
 unfold blanksAt;have:=blanks_le (l.drop n);simp at this;omega
def ctl (n:Nat):Bool:=decide (n<32) && n != 9 || n==127
def isCtl (c:UInt8):Bool:=ctl c.toNat
def comment:Bs→Nat
 | 35::l=>1+(l.takeWhile fun c => !isCtl c).length
 | _=>0
theorem comment_le (l:Bs):comment l≤l.length:=by
 unfold comment;split
 · have:=takeWhile_length_le (fun c => !isCtl c) ‹_›;simp;omega
 omega
def commentAt (l:Bs) (n:Nat):Nat:=n+comment (l.drop n)
theorem commentAt_le (l:Bs) (n:Nat) (h:n≤l.length):n≤commentAt l n∧commentAt l n≤l.length:=by
 unfold commentAt;have:=comment_le (l.drop n);simp at this;omega
def gapStep (l:Bs):Out Nat :=
 let m:=blanks l+comment (l.drop (blanks l))
 match l.drop m with
 | 13::10::_ => .ok (m+2)
 | 10::_ => .ok (m+1)
 | 13::_ => .bad 3 (m+1)
 | _ => .ok m
def gapF:Nat→Bs→Out Nat
 | 0,_ => .ok 0
 | f+1,l =>
  match gapStep l with
  | .bad c p => .bad c p
  | .ok 0 => .ok 0
  | .ok (n+1) =>
   match gapF f (l.drop (n+1)) with
   | .bad c p => .bad c (n+1+p)
   | .ok k => .ok (n+1+k)
def gap (l:Bs):Out Nat:=gapF (l.length+1) l
def gapAt (l:Bs) (n:Nat):Out Nat :=
 match gap (l.drop n) with
 | .bad c p => .bad c (n+p)
 | .ok k => .ok (n+k)
theorem gapStep_le (l:Bs) (n:Nat) (h:gapStep l = .ok n):n≤l.length:=by
 unfold gapStep at h;have h1:=blanks_le l;have h2:=comment_le (l.drop (blanks l));rw[List.length_drop]at h2;revert h;generalize hm:blanks l+comment (l.drop (blanks l))=m;have h3:m≤l.length:=by omega
 have hl:∀r,l.drop m=r→m+r.length=l.length:=by
  intro r hr;rw[←hr,List.length_drop];omega
 dsimp only
 split
 all_goals intro h
 · rename_i r hr;have:=hl _ hr;simp at this;cases h;omega
 · rename_i r hr;have:=hl _ hr;simp at this;cases h;omega
 · cases h
 cases h;exact h3
theorem gapF_more:∀f g (l:Bs),l.length<f→l.length<g→gapF f l=gapF g l:=by
 intro f
 induction f with
 | zero=>intro g l h;omega
 | succ f ih =>
  intro g l hf hg
  match g,hg with
  | g+1,hg =>
   unfold gapF;cases hs:gapStep l with
   | bad c p=>rfl
   | ok n =>
    cases n with
    | zero=>rfl
    | succ n =>
     have:=gapStep_le l _ hs;simp only;rw[ih g (l.drop (n+1)) (by rw[List.length_drop];omega) (by rw[List.length_drop];omega)]
theorem gap_step (l:Bs):gap l=match gapStep l with
    | .bad c p => .bad c p
    | .ok 0 => .ok 0
    | .ok (n+1) =>
     match gap (l.drop (n+1)) with
     | .bad c p => .bad c (n+1+p)
     | .ok k => .ok (n+1+k):=by
 unfold gap;rw[gapF];cases hs:gapStep l with
 | bad c p=>rfl
 | ok n =>
  cases n with
  | zero=>rfl
  | succ n =>
   have:=gapStep_le l _ hs;simp only;rw[gapF_more l.length ((l.drop (n+1)).length+1) (l.drop (n+1)) (by rw[List.length_drop];omega) (by omega)]
theorem gapAt_bad (l:Bs) (n c p:Nat) (h:gapStep (l.drop n) = .bad c p):gapAt l n = .bad c (n+p):=by
 unfold gapAt;rw[gap_step,h]
theorem gapAt_stop (l:Bs) (n:Nat) (h:gapStep (l.drop n) = .ok 0):gapAt l n = .ok n:=by
 unfold gapAt;rw[gap_step,h];rfl
theorem gapAt_go (l:Bs) (n k:Nat) (h:gapStep (l.drop n) = .ok k) (hk:k≠0):gapAt l n=gapAt l (n+k):=by
 match k,hk with
 | k+1,_ =>
  unfold gapAt;rw[gap_step,h];simp only[List.drop_drop];cases gap (l.drop (n+(k+1))) with
  | bad c p=>simp only;congr 1;omega
  | ok m=>simp only;congr 1;omega
def pre:Bs→Bs→Bool
 | _,[]=>true
 | [],_::_=>false
 | a::l,b::p=>a==b && pre l p
theorem gapAt_gap (l:Bs) (n:Nat) (h:n≤l.length):let m:=commentAt l (blanksAt l n)
    (pre (l.drop m) [13,10]=true→gapAt l n=gapAt l (m+2)) ∧
    (pre (l.drop m) [13,10]=false→pre (l.drop m) [10]=true→gapAt l n=gapAt l (m+1)) ∧
    (pre (l.drop m) [13,10]=false→pre (l.drop m) [10]=false→pre (l.drop m) [13]=true→gapAt l n = .bad 3 (m+1)) ∧
    (pre (l.drop m) [13,10]=false→pre (l.drop m) [10]=false→pre (l.drop m) [13]=false→m=n→gapAt l n = .ok n) ∧
    (pre (l.drop m) [13,10]=false→pre (l.drop m) [10]=false→pre (l.drop m) [13]=false→m≠n→gapAt l n=gapAt l m):=by
 intro m;have hb:=blanksAt_le l n h;have hc:=commentAt_le l (blanksAt l n) hb.2;have hm:m=n+(blanks (l.drop n)+comment ((l.drop n).drop (blanks (l.drop n)))):=by
  show commentAt l (blanksAt l n)=_;unfold commentAt blanksAt;rw[List.drop_drop];omega
 have hd:(l.drop n).drop (blanks (l.drop n)+comment ((l.drop n).drop (blanks (l.drop n))))=l.drop m:=by
  rw[List.drop_drop,hm]
 have hs:gapStep (l.drop n)=match l.drop m with
     | 13::10::_ => .ok (m-n+2)
     | 10::_ => .ok (m-n+1)
     | 13::_ => .bad 3 (m-n+1)
     | _ => .ok (m-n):=by
  unfold gapStep;simp only;rw[hd,show m-n=blanks (l.drop n)+comment ((l.drop n).drop (blanks (l.drop n))) from by omega]
 have hle:n≤m:=by omega
 clear_value m
 generalize l.drop m=r at hs ⊢;refine⟨fun h1=>?_,fun h1 h2=>?_,fun h1 h2 h3=>?_,fun h1 h2 h3 h4=>?_,fun h1 h2 h3 h4=>?_⟩
 · match r,h1,hs with
   | 13::10::_,_,hs=>rw[gapAt_go l n _ hs (by omega)];congr 1;omega
   | [],h1,_=>simp[pre]at h1
   | [a],h1,_=>simp[pre]at h1
   | a::b::r,h1,hs =>
    simp[pre]at h1;obtain⟨rfl,rfl⟩:=h1;rw[gapAt_go l n _ hs (by omega)];congr 1;omega
 · match r,h2,hs with
   | [],h2,_=>simp[pre]at h2
   | a::r,h2,hs =>
    simp[pre]at h2;subst h2;rw[gapAt_go l n _ hs (by omega)];congr 1;omega
 · match r,h1,h3,hs with
   | [],_,h3,_=>simp[pre]at h3
   | [a],_,h3,hs =>
    simp[pre]at h3;subst h3;rw[gapAt_bad l n _ _ hs];congr 1;omega
   | a::b::r,h1,h3,hs =>
    simp[pre]at h3;subst h3;simp[pre]at h1;have:gapStep (l.drop n) = .bad 3 (m-n+1):=by
     rw[hs]
     split
     · rename_i e;simp only[List.cons.injEq]at e;exact absurd e.2.1 h1
     · rename_i e;simp at e
     · rfl
     rename_i _ _ e3;exact absurd rfl (e3 _)
    rw[gapAt_bad l n _ _ this];congr 1;omega
 · have:gapStep (l.drop n) = .ok (m-n):=by
    rw[hs]
    split
    · simp[pre]at h1
    · simp[pre]at h2
    · simp[pre]at h3
    rfl
   rw[h4,Nat.sub_self]at this;rw[gapAt_stop l n this]
 have:gapStep (l.drop n) = .ok (m-n):=by
  rw[hs]
  split
  · simp[pre]at h1
  · simp[pre]at h2
  · simp[pre]at h3
  rfl
 rw[gapAt_go l n _ this (by omega)];congr 1;omega
theorem pre_length (l p:Bs) (h:pre l p=true):p.length≤l.length:=by
 induction p generalizing l with
 | nil=>simp
 | cons b p ih =>
  match l,h with
  | [],h=>simp[pre]at h
  | a::l,h=>simp[pre]at h;have:=ih l h.2;simp;omega
def isPlain (c:UInt8):Bool:=c.toNat==9 || decide (32≤c.toNat) && c.toNat != 127
def long (l:Bs):Bool:=match l with
 | 34::34::34::_=>true
 | 39::39::39::_=>true
 | _=>false
def longAt (l:Bs) (n:Nat):Bool:=long (l.drop n)
inductive SR where
 | go (n:Nat) (tells:Bs) (over:Bool)
 | bad (p:Nat)
def feed:Bs→Out Nat
 | 10::_ => .ok 1
 | 13::10::_ => .ok 2
 | 13::_ => .bad 3 1
 | _ => .ok 0
def itself:Bs→SR
 | [] => .bad 0
 | c::_=>if isPlain c then .go 1 [c] false else .bad 0
end Go.Proofs.YtfogfaagjpebcaaGreatDoor.Pl
namespace Go.Proofs.YtfogfaagjpebcaaGreatDoor.Pl
def run (q:UInt8) (l:Bs):Nat:=(l.takeWhile fun c=>c.toNat==q.toNat).length
def marksN (q:UInt8) (l:Bs):Nat:=min 5 (run q l)
def marks (q:UInt8) (l:Bs):SR :=
 let n:=marksN q l
 if 3≤n then .go n (List.replicate (n-3) q) true else .go n (List.replicate n q) false
theorem run_le (q:UInt8) (l:Bs):run q l≤l.length:=takeWhile_length_le _ _
theorem run_get (q:UInt8) (l:Bs) (k:Nat) (h:k<l.length):(l[k]'h).toNat=q.toNat→k≤run q l→k+1≤run q l:=by
 unfold run
 induction l generalizing k with
 | nil=>simp at h
 | cons c l ih =>
  intro h1 h2;rw[List.takeWhile_cons]at h2 ⊢;cases k with
  | zero =>
   simp at h1;rw[if_pos (by simpa using h1)];simp
  | succ k =>
   split at h2
   · rename_i hc
     rw[if_pos hc];simp at h1 h2 ⊢;have:=ih k (by simpa using h) h1 h2;omega
   simp at h2
theorem run_stop (q:UInt8) (l:Bs) (k:Nat) (h:∀hk:k<l.length,(l[k]'hk).toNat≠q.toNat):k≤run q l→run q l=k:=by
 unfold run
 induction l generalizing k with
 | nil=>intro h2;simp at h2 ⊢;omega
 | cons c l ih =>
  intro h2;rw[List.takeWhile_cons]at h2 ⊢;cases k with
  | zero =>
   have:=h (by simp);rw[if_neg (by simpa using this)];rfl
  | succ k =>
   split at h2
   · rename_i hc
     rw[if_pos hc];simp at h2 ⊢;exact ih k (fun hk=>by have:=h (by simp;omega);rwa [List.getElem_cons_succ]at this) h2
   simp at h2
theorem run_drop (q:UInt8) (l:Bs) (a k:Nat) (ha:a≤l.length) (hk:k≤run q (l.drop a)) :
    (∃h:a+k<l.length,k<5∧((l[a+k]'h).toNat==q.toNat)=true∧k+1≤run q (l.drop a)) ∨
    (k≤5→marksN q (l.drop a)=k∧(¬a+k<l.length∨(a+k<l.length∧¬k<5)∨(∃h:a+k<l.length,k<5∧((l[a+k]'h).toNat==q.toNat)=false))):=by
 have hl:=run_le q (l.drop a);rw[List.length_drop]at hl;by_cases h1:a+k<l.length
 · by_cases h2:k<5
   · cases h3:((l[a+k]'h1).toNat==q.toNat)
     · refine .inr fun _=>⟨?_,.inr (.inr ⟨h1,h2,h3⟩)⟩
       have:=run_stop q (l.drop a) k (fun hk'=>by simpa using h3) hk;unfold marksN;omega
     refine .inl ⟨h1,h2,h3,?_⟩;exact run_get q (l.drop a) k (by rw[List.length_drop];omega) (by simpa using h3) hk
   exact .inr fun _=>⟨by unfold marksN;omega,.inr (.inl ⟨h1,h2⟩)⟩
 exact .inr fun _=>⟨by unfold marksN;omega,.inl h1⟩
def common (q:UInt8) (l:Bs):Option SR :=
 match l with
 | []=>none
 | c::r =>
  if c.toNat==q.toNat then some (marks q (c::r)) else
  match feed (c::r) with
  | .ok 0=>none
  | .ok (n+1)=>some (.go (n+1) ((c::r).take (n+1)) false)
  | .bad _ p=>some (.bad p)
def stepLit (q:UInt8):Bs→SR
 | [] => .bad 0
 | c::r=>if c.toNat==q.toNat then .go 1 [] true else itself (c::r)
def stepLongLit (q:UInt8) (l:Bs):SR :=
 match common q l with
 | some x=>x
 | none=>itself l
theorem feed_bad (l:Bs) (c p:Nat) (h:feed l = .bad c p):c=3∧p=1:=by
 unfold feed at h
 split at h <;> simp_all
theorem feed_le (l:Bs) (n:Nat) (h:feed l = .ok n):n≤l.length:=by
 unfold feed at h
 split at h <;> simp_all <;> omega
def foldF:Nat→Bool→Bs→Out Nat
 | 0,_,_ => .ok 0
 | f+1,first,l =>
  match l.drop (blanks l) with
  | [] => .ok (blanks l)
  | c::r =>
   match feed (c::r) with
   | .bad k p => .bad k (blanks l+p)
   | .ok 0=>if first then .bad 3 (blanks l) else .ok (blanks l)
   | .ok (n+1) =>
    match foldF f false ((c::r).drop (n+1)) with
    | .bad k p => .bad k (blanks l+(n+1)+p)
    | .ok m => .ok (blanks l+(n+1)+m)
def foldAt (first:Bool) (l:Bs) (n:Nat):Out Nat :=
 match foldF ((l.drop n).length+1) first (l.drop n) with
 | .bad k p => .bad k (n+p)
 | .ok m => .ok (n+m)
theorem foldF_more:∀f g first (l:Bs),l.length<f→l.length<g→foldF f first l=foldF g first l:=by
 intro f
 induction f with
 | zero=>intro g first l h;omega
 | succ f ih =>
  intro g first l hf hg
  match g,hg with
  | g+1,hg =>
   unfold foldF;cases hd:l.drop (blanks l) with
   | nil=>rfl
   | cons c r =>
    have hl:(c::r).length≤l.length:=by rw[←hd,List.length_drop];omega
    simp only;cases hs:feed (c::r) with
    | bad k p=>rfl
    | ok n =>
     cases n with
     | zero=>rfl
     | succ n =>
      have:=feed_le _ _ hs;simp only;rw[ih g false ((c::r).drop (n+1)) (by rw[List.length_drop];omega) (by rw[List.length_drop];omega)]
theorem foldAt_step (first:Bool) (l:Bs) (n m:Nat) (hn:n≤l.length) (hm:m=blanksAt l n) :
    (m=l.length→foldAt first l n = .ok m) ∧
    (m<l.length→feed (l.drop m) = .ok 0→first=true→foldAt first l n = .bad 3 m) ∧
    (m<l.length→feed (l.drop m) = .ok 0→first=false→foldAt first l n = .ok m) ∧
    (m<l.length→∀k p,feed (l.drop m) = .bad k p→foldAt first l n = .bad k (m+p)) ∧
    (m<l.length→∀k,feed (l.drop m) = .ok (k+1)→foldAt first l n=foldAt false l (m+(k+1))):=by
 have hb:=blanksAt_le l n hn;rw[←hm]at hb;have hd:(l.drop n).drop (blanks (l.drop n))=l.drop m:=by rw[List.drop_drop,hm];rfl
 have hmb:m=n+blanks (l.drop n):=by rw[hm];rfl
 refine⟨fun h=>?_,fun h h1 h2=>?_,fun h h1 h2=>?_,fun h k p h1=>?_,fun h k h1=>?_⟩
 · unfold foldAt foldF;rw[hd,List.drop_eq_nil_of_le (by omega)];simp only;rw[hmb]
 all_goals
  obtain⟨c,r,hcr⟩:∃c r,l.drop m=c::r:=⟨_,_,List.drop_eq_getElem_cons h⟩
  rw[hcr]at h1
  conv=>lhs;unfold foldAt foldF
  rw[hd,hcr];simp only;rw[h1]
 · simp only;rw[if_pos h2,hmb]
 · simp only;rw[if_neg (by rw[h2];simp),hmb]
 · simp only;rw[hmb,Nat.add_assoc]
 simp only;have hkl:=feed_le _ _ h1;rw[←hcr,List.length_drop]at hkl;rw[←hcr,List.drop_drop,foldF_more _ ((l.drop (m+(k+1))).length+1) false (l.drop (m+(k+1))) (by rw[List.length_drop,List.length_drop];omega) (by omega)];unfold foldAt;cases foldF ((l.drop (m+(k+1))).length+1) false (l.drop (m+(k+1))) with
 | bad k2 p2=>simp only;congr 1;omega
 | ok m2=>simp only;congr 1;omega
end Go.Proofs.YtfogfaagjpebcaaGreatDoor.Pl
