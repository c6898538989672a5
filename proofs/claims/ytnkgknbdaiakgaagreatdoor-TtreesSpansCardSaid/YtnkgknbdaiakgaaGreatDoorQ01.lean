/- The proof's part 01. -/
import Derived.Test.YtnkgknbdaiakgaaGreatDoorQ00
set_option maxHeartbeats 16000000
set_option linter.all false
namespace Go.Proofs.YtnkgknbdaiakgaaGreatDoor.Pl
abbrev Bs:=List UInt8
inductive V2x (α : Type) where
 |ok (a : α)
 |bad (c:Nat) (p:Nat)
def V2x.map{α β : Type}(f : α -> β):V2x α -> V2x β
 |.ok a => .ok (f a)
 |.bad c p => .bad c p
def V2r(c:UInt8):Bool:=c.toNat==32 || c.toNat==9
def blanks(l:Bs):Nat:=(l.takeWhile V2r).length
def V7(l:Bs)(n:Nat):Nat:=n+blanks (l.drop n)
theorem Vj(p:UInt8->Bool)(l:Bs):(l.takeWhile p).length<=l.length:=by
 induction l with
 |nil=>simp
 |cons a l ih=>simp only[U1p];split <;> simp <;> omega
theorem V4b(p:UInt8->Bool)(l:Bs):(l.takeWhile p).length+(l.dropWhile p).length=l.length:=by
 rw[<-U1b,U40]
theorem O8m(p:UInt8->Bool)(l:Bs):l.drop (l.takeWhile p).length=l.dropWhile p:=by
 induction l with
 |nil=>simp
 |cons a l ih=>simp only[U1p,U3c];split <;> simp_all
theorem O2y(l:Bs):blanks l<=l.length:=Vj _ _
theorem V8(l:Bs)(n:Nat)(h:n<=l.length):n<=V7 l n/\V7 l n<=l.length:=by
 unfold V7;have:=O2y (l.drop n);simp at this;omega
def V5h(n:Nat):Bool:=decide (n<32)&&n != 9 || n==127
def V2l(c:UInt8):Bool:=V5h c.toNat
def comment:Bs->Nat
 |35::l=>1+(l.takeWhile λ c => !V2l c).length
 |_=>0
theorem O4q(l:Bs):comment l<=l.length:=by
 unfold comment;split;have:=Vj (λ c => !V2l c) ‹_›;simp;omega
 omega
def Vx(l:Bs)(n:Nat):Nat:=n+comment (l.drop n)
theorem V3i(l:Bs)(n:Nat)(h:n<=l.length):n<=Vx l n/\Vx l n<=l.length:=by
 unfold Vx;have:=O4q (l.drop n);simp at this;omega
def V1x(l:Bs):V2x Nat :=
 let m:=blanks l+comment (l.drop (blanks l))
 match l.drop m with
 |13::10::_ => .ok (m+2)
 |10::_ => .ok (m+1)
 |13::_ => .bad 3 (m+1)
 |_ => .ok m
def V4r:Nat->Bs->V2x Nat
 |0,_ => .ok 0
 |f+1,l =>
  match V1x l with
  |.bad c p => .bad c p
  |.ok 0 => .ok 0
  |.ok (n+1) =>
   match V4r f (l.drop (n+1)) with
   |.bad c p => .bad c (n+1+p)
   |.ok k => .ok (n+1+k)
def gap(l:Bs):V2x Nat:=V4r (l.length+1) l
def Vt(l:Bs)(n:Nat):V2x Nat :=
 match gap (l.drop n) with
 |.bad c p => .bad c (n+p)
 |.ok k => .ok (n+k)
theorem O4r(l:Bs)(n:Nat)(h:V1x l=.ok n):n<=l.length:=by
 unfold V1x at h;have h1:=O2y l;have h2:=O4q (l.drop (blanks l));rw[U16]at h2;revert h;generalize hm:blanks l+comment (l.drop (blanks l))=m;have h3:m<=l.length:=Ya
 have hl:∀r,l.drop m=r->m+r.length=l.length:=by
  intro r hr;rw[<-hr,U16];omega
 dsimp only
 split
 all_goals intro h
 rename_i r hr;have:=hl _ hr;simp at this;cases h;omega;rename_i r hr;have:=hl _ hr;simp at this;cases h;omega;cases h
 cases h;exact h3
theorem Og2:∀f g (l:Bs),l.length<f->l.length<g->V4r f l=V4r g l:=by
 intro f
 induction f with
 |zero=>intro g l h;omega
 |succ f ih =>
  intro g l hf hg
  match g,hg with
  |g+1,hg =>
   unfold V4r;cases hs:V1x l with
   |bad c p=>rfl
   |ok n =>
    cases n with
    |zero=>rfl
    |succ n =>
     have:=O4r l _ hs;simp only;rw[ih g (l.drop (n+1)) (by rw[U16];omega) (by rw[U16];omega)]
theorem O2p(l:Bs):gap l=match V1x l with
    |.bad c p => .bad c p
    |.ok 0 => .ok 0
    |.ok (n+1) =>
     match gap (l.drop (n+1)) with
     |.bad c p => .bad c (n+1+p)
     |.ok k => .ok (n+1+k):=by
 unfold gap;rw[V4r];cases hs:V1x l with
 |bad c p=>rfl
 |ok n =>
  cases n with
  |zero=>rfl
  |succ n =>
   have:=O4r l _ hs;simp only;rw[Og2 l.length ((l.drop (n+1)).length+1) (l.drop (n+1)) (by rw[U16];omega) Ya]
theorem O9d(l:Bs)(n c p:Nat)(h:V1x (l.drop n)=.bad c p):Vt l n=.bad c (n+p):=by
 unfold Vt;rw[O2p,h]
theorem Oel(l:Bs)(n:Nat)(h:V1x (l.drop n)=.ok 0):Vt l n=.ok n:=by
 unfold Vt;rw[O2p,h];rfl
theorem O4s(l:Bs)(n k:Nat)(h:V1x (l.drop n)=.ok k)(hk:k≠0):Vt l n=Vt l (n+k):=by
 match k,hk with
 |k+1,_ =>
  unfold Vt;rw[O2p,h];simp only[U2j];cases gap (l.drop (n+(k+1))) with
  |bad c p=>simp only;congr 1;omega
  |ok m=>simp only;congr 1;omega
def pre:Bs->Bs->Bool
 |_,[]=>true
 |[],_::_=>false
 |a::l,b::p=>a==b&&pre l p
theorem V7z(l:Bs)(n:Nat)(h:n<=l.length):let m:=Vx l (V7 l n)
    (pre (l.drop m) [13,10]=true->Vt l n=Vt l (m+2)) /\
    (pre (l.drop m) [13,10]=false->pre (l.drop m) [10]=true->Vt l n=Vt l (m+1)) /\
    (pre (l.drop m) [13,10]=false->pre (l.drop m) [10]=false->pre (l.drop m) [13]=true->Vt l n=.bad 3 (m+1)) /\
    (pre (l.drop m) [13,10]=false->pre (l.drop m) [10]=false->pre (l.drop m) [13]=false->m=n->Vt l n=.ok n) /\
    (pre (l.drop m) [13,10]=false->pre (l.drop m) [10]=false->pre (l.drop m) [13]=false->m≠n->Vt l n=Vt l m):=by
 intro m;have hb:=V8 l n h;have hc:=V3i l (V7 l n) hb.2;have hm:m=n+(blanks (l.drop n)+comment ((l.drop n).drop (blanks (l.drop n)))):=by
  show Vx l (V7 l n)=_;unfold Vx V7;rw[U2j];omega
 have hd:(l.drop n).drop (blanks (l.drop n)+comment ((l.drop n).drop (blanks (l.drop n))))=l.drop m:=by
  rw[U2j,hm]
 have hs:V1x (l.drop n)=match l.drop m with
     |13::10::_ => .ok (m-n+2)
     |10::_ => .ok (m-n+1)
     |13::_ => .bad 3 (m-n+1)
     |_ => .ok (m-n):=by
  unfold V1x;simp only;rw[hd,show m-n=blanks (l.drop n)+comment ((l.drop n).drop (blanks (l.drop n))) from by omega]
 have aP:n<=m:=Ya
 clear_value m
 generalize l.drop m=r at hs⊢;refine⟨λ h1=>?_,λ h1 h2=>?_,λ h1 h2 h3=>?_,λ h1 h2 h3 h4=>?_,λ h1 h2 h3 h4=>?_⟩
 match r,h1,hs with
 |13::10::_,_,hs=>rw[O4s l n _ hs Ya];congr 1;omega
 |[],h1,_=>simp[pre]at h1
 |[a],h1,_=>simp[pre]at h1
 |a::b::r,h1,hs =>
  simp[pre]at h1;obtain⟨rfl,rfl⟩:=h1;rw[O4s l n _ hs Ya];congr 1;omega
 match r,h2,hs with
 |[],h2,_=>simp[pre]at h2
 |a::r,h2,hs =>
  simp[pre]at h2;subst h2;rw[O4s l n _ hs Ya];congr 1;omega
 match r,h1,h3,hs with
 |[],_,h3,_=>simp[pre]at h3
 |[a],_,h3,hs =>
  simp[pre]at h3;subst h3;rw[O9d l n _ _ hs];congr 1;omega
 |a::b::r,h1,h3,hs =>
  simp[pre]at h3;subst h3;simp[pre]at h1;have:V1x (l.drop n)=.bad 3 (m-n+1):=by
   rw[hs]
   split;rename_i e;simp only[U27]at e;exact absurd e.2.1 h1;rename_i e;simp at e;rfl
   rename_i _ _ e3;exact absurd rfl (e3 _)
  rw[O9d l n _ _ this];congr 1;omega
 have:V1x (l.drop n)=.ok (m-n):=by
  rw[hs]
  split;simp[pre]at h1;simp[pre]at h2;simp[pre]at h3
  rfl
 rw[h4,U42]at this;rw[Oel l n this]
 have:V1x (l.drop n)=.ok (m-n):=by
  rw[hs]
  split;simp[pre]at h1;simp[pre]at h2;simp[pre]at h3
  rfl
 rw[O4s l n _ this Ya];congr 1;omega
theorem V1i(l p:Bs)(h:pre l p=true):p.length<=l.length:=by
 induction p generalizing l with
 |nil=>simp
 |cons b p ih =>
  match l,h with
  |[],h=>simp[pre]at h
  |a::l,h=>simp[pre]at h;have:=ih l h.2;simp;omega
def V3u(c:UInt8):Bool:=c.toNat==9 || decide (32<=c.toNat)&&c.toNat != 127
def long(l:Bs):Bool:=match l with
 |34::34::34::_=>true
 |39::39::39::_=>true
 |_=>false
def V35(l:Bs)(n:Nat):Bool:=long (l.drop n)
inductive SR where
 |go (n:Nat) (tells:Bs) (over:Bool)
 |bad (p:Nat)
def feed:Bs->V2x Nat
 |10::_ => .ok 1
 |13::10::_ => .ok 2
 |13::_ => .bad 3 1
 |_ => .ok 0
def V33:Bs->SR
 |[] => .bad 0
 |c::_=>if V3u c then .go 1 [c] false else .bad 0
def run(q:UInt8)(l:Bs):Nat:=(l.takeWhile λ c=>c.toNat==q.toNat).length
def O2i(q:UInt8)(l:Bs):Nat:=min 5 (run q l)
def V3j(q:UInt8)(l:Bs):SR :=
 let n:=O2i q l
 if 3<=n then .go n (List.replicate (n-3) q) true else .go n (List.replicate n q) false
theorem Ogp(q:UInt8)(l:Bs):run q l<=l.length:=Vj _ _
theorem Om2(q:UInt8)(l:Bs)(k:Nat)(h:k<l.length):(l[k]'h).toNat=q.toNat->k<=run q l->k+1<=run q l:=by
 unfold run
 induction l generalizing k with
 |nil=>simp at h
 |cons c l ih =>
  intro h1 h2;rw[U1p]at h2⊢;cases k with
  |zero =>
   simp at h1;rw[U1a (by simpa using h1)];simp
  |succ k =>
   split at h2
   rename_i hc
   rw[U1a hc];simp at h1 h2⊢;have:=ih k (by simpa using h) h1 h2;omega
   simp at h2
theorem Oj1(q:UInt8)(l:Bs)(k:Nat)(h:∀hk:k<l.length,(l[k]'hk).toNat≠q.toNat):k<=run q l->run q l=k:=by
 unfold run
 induction l generalizing k with
 |nil=>intro h2;simp at h2⊢;omega
 |cons c l ih =>
  intro h2;rw[U1p]at h2⊢;cases k with
  |zero =>
   have:=h Yb;rw[U1c (by simpa using this)];rfl
  |succ k =>
   split at h2
   rename_i hc
   rw[U1a hc];simp at h2⊢;exact ih k (λ hk=>by have:=h Ye;rwa [U3v]at this) h2
   simp at h2
theorem V8j(q:UInt8)(l:Bs)(a k:Nat)(ha:a<=l.length)(hk:k<=run q (l.drop a)):(∃h:a+k<l.length,k<5/\((l[a+k]'h).toNat==q.toNat)=true/\k+1<=run q (l.drop a)) \/(k<=5->O2i q (l.drop a)=k/\(¬a+k<l.length\/(a+k<l.length/\¬k<5)\/(∃h:a+k<l.length,k<5/\((l[a+k]'h).toNat==q.toNat)=false))):=by
 have hl:=Ogp q (l.drop a);rw[U16]at hl;by_cases h1:a+k<l.length
 by_cases h2:k<5
 cases h3:((l[a+k]'h1).toNat==q.toNat)
 refine .inr λ _=>⟨?_,.inr (.inr ⟨h1,h2,h3⟩)⟩
 have:=Oj1 q (l.drop a) k (λ ed=>by simpa using h3) hk;unfold O2i;omega
 refine .inl ⟨h1,h2,h3,?_⟩;exact Om2 q (l.drop a) k (by rw[U16];omega) (by simpa using h3) hk
 exact .inr λ _=>⟨by unfold O2i;omega,.inr (.inl ⟨h1,h2⟩)⟩
 exact .inr λ _=>⟨by unfold O2i;omega,.inl h1⟩
def V1k(q:UInt8)(l:Bs):Option SR :=
 match l with
 |[]=>none
 |c::r =>
  if c.toNat==q.toNat then some (V3j q (c::r)) else
  match feed (c::r) with
  |.ok 0=>none
  |.ok (n+1)=>some (.go (n+1) ((c::r).take (n+1)) false)
  |.bad _ p=>some (.bad p)
def V4s(q:UInt8):Bs->SR
 |[] => .bad 0
 |c::r=>if c.toNat==q.toNat then .go 1 [] true else V33 (c::r)
def V2u(q:UInt8)(l:Bs):SR :=
 match V1k q l with
 |some x=>x
 |none=>V33 l
theorem V46(l:Bs)(c p:Nat)(h:feed l=.bad c p):c=3/\p=1:=by
 unfold feed at h
 split at h <;> simp_all
theorem V3q(l:Bs)(n:Nat)(h:feed l=.ok n):n<=l.length:=by
 unfold feed at h
 split at h <;> simp_all <;> omega
def Ox:Nat->Bool->Bs->V2x Nat
 |0,_,_ => .ok 0
 |f+1,first,l =>
  match l.drop (blanks l) with
  |[] => .ok (blanks l)
  |c::r =>
   match feed (c::r) with
   |.bad k p => .bad k (blanks l+p)
   |.ok 0=>if first then .bad 3 (blanks l) else .ok (blanks l)
   |.ok (n+1) =>
    match Ox f false ((c::r).drop (n+1)) with
    |.bad k p => .bad k (blanks l+(n+1)+p)
    |.ok m => .ok (blanks l+(n+1)+m)
def V2p(first:Bool)(l:Bs)(n:Nat):V2x Nat :=
 match Ox ((l.drop n).length+1) first (l.drop n) with
 |.bad k p => .bad k (n+p)
 |.ok m => .ok (n+m)
theorem O50:∀f g first (l:Bs),l.length<f->l.length<g->Ox f first l=Ox g first l:=by
 intro f
 induction f with
 |zero=>intro g first l h;omega
 |succ f ih =>
  intro g first l hf hg
  match g,hg with
  |g+1,hg =>
   unfold Ox;cases hd:l.drop (blanks l) with
   |nil=>rfl
   |cons c r =>
    have hl:(c::r).length<=l.length:=by rw[<-hd,U16];omega
    simp only;cases hs:feed (c::r) with
    |bad k p=>rfl
    |ok n =>
     cases n with
     |zero=>rfl
     |succ n =>
      have:=V3q _ _ hs;simp only;rw[ih g false ((c::r).drop (n+1)) (by rw[U16];omega) (by rw[U16];omega)]
theorem V5j(first:Bool)(l:Bs)(n m:Nat)(hn:n<=l.length)(hm:m=V7 l n):(m=l.length->V2p first l n=.ok m) /\(m<l.length->feed (l.drop m)=.ok 0->first=true->V2p first l n=.bad 3 m) /\(m<l.length->feed (l.drop m)=.ok 0->first=false->V2p first l n=.ok m) /\(m<l.length->∀k p,feed (l.drop m)=.bad k p->V2p first l n=.bad k (m+p)) /\(m<l.length->∀k,feed (l.drop m)=.ok (k+1)->V2p first l n=V2p false l (m+(k+1))):=by
 have hb:=V8 l n hn;rw[<-hm]at hb;have hd:(l.drop n).drop (blanks (l.drop n))=l.drop m:=by rw[U2j,hm];rfl
 have EY:m=n+blanks (l.drop n):=by rw[hm];rfl
 refine⟨λ h=>?_,λ h h1 h2=>?_,λ h h1 h2=>?_,λ h k p h1=>?_,λ h k h1=>?_⟩
 ·unfold V2p Ox;rw[hd,U1t Ya];simp only;rw[EY]
 all_goals
  obtain⟨c,r,AC⟩:∃c r,l.drop m=c::r:=⟨_,_,U1u h⟩
  rw[AC]at h1
  conv=>lhs;unfold V2p Ox
  rw[hd,AC];simp only;rw[h1]
 simp only;rw[U1a h2,EY];simp only;rw[U1c (by rw[h2];simp),EY];simp only;rw[EY,U28]
 simp only;have pY:=V3q _ _ h1;rw[<-AC,U16]at pY;rw[<-AC,U2j,O50 _ ((l.drop (m+(k+1))).length+1) false (l.drop (m+(k+1))) (by rw[U16,U16];omega) Ya];unfold V2p;cases Ox ((l.drop (m+(k+1))).length+1) false (l.drop (m+(k+1))) with
 |bad k2 p2=>simp only;congr 1;omega
 |ok m2=>simp only;congr 1;omega
