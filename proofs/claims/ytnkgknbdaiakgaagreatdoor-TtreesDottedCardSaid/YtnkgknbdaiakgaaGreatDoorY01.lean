/- The proof's part 01. -/
import Derived.Test.YtnkgknbdaiakgaaGreatDoorY00
set_option maxHeartbeats 16000000
set_option linter.all false
namespace Go.Proofs.YtnkgknbdaiakgaaGreatDoor.Pl
abbrev Bs:=List UInt8
inductive V35 (α : Type) where
 |ok (a : α)
 |bad (c:Nat) (p:Nat)
def V35.map{α β : Type}(f : α -> β):V35 α -> V35 β
 |.ok a => .ok (f a)
 |.bad c p => .bad c p
def V2x(c:UInt8):Bool:=c.toNat==32 || c.toNat==9
def blanks(l:Bs):Nat:=(l.takeWhile V2x).length
def V7(l:Bs)(n:Nat):Nat:=n+blanks (l.drop n)
theorem Vn(p:UInt8->Bool)(l:Bs):(l.takeWhile p).length<=l.length:=by
 induction l with
 |nil=>simp
 |cons a l ih=>simp only[U1o];split <;> simp <;> omega
theorem V4r(p:UInt8->Bool)(l:Bs):(l.takeWhile p).length+(l.dropWhile p).length=l.length:=by
 rw[<-U1c,U45]
theorem O98(p:UInt8->Bool)(l:Bs):l.drop (l.takeWhile p).length=l.dropWhile p:=by
 induction l with
 |nil=>simp
 |cons a l ih=>simp only[U1o,U3d];split <;> simp_all
theorem O34(l:Bs):blanks l<=l.length:=Vn _ _
theorem V8(l:Bs)(n:Nat)(h:n<=l.length):n<=V7 l n/\V7 l n<=l.length:=by
 unfold V7;have:=O34 (l.drop n);simp at this;omega
def V63(n:Nat):Bool:=decide (n<32)&&n != 9 || n==127
def V2t(c:UInt8):Bool:=V63 c.toNat
def comment:Bs->Nat
 |35::l=>1+(l.takeWhile λ c => !V2t c).length
 |_=>0
theorem O51(l:Bs):comment l<=l.length:=by
 unfold comment;split;have:=Vn (λ c => !V2t c) ‹_›;simp;omega
 omega
def Vs(l:Bs)(n:Nat):Nat:=n+comment (l.drop n)
theorem V3y(l:Bs)(n:Nat)(h:n<=l.length):n<=Vs l n/\Vs l n<=l.length:=by
 unfold Vs;have:=O51 (l.drop n);simp at this;omega
def V1y(l:Bs):V35 Nat :=
 let m:=blanks l+comment (l.drop (blanks l))
 match l.drop m with
 |13::10::_ => .ok (m+2)
 |10::_ => .ok (m+1)
 |13::_ => .bad 3 (m+1)
 |_ => .ok m
def V55:Nat->Bs->V35 Nat
 |0,_ => .ok 0
 |f+1,l =>
  match V1y l with
  |.bad c p => .bad c p
  |.ok 0 => .ok 0
  |.ok (n+1) =>
   match V55 f (l.drop (n+1)) with
   |.bad c p => .bad c (n+1+p)
   |.ok k => .ok (n+1+k)
def gap(l:Bs):V35 Nat:=V55 (l.length+1) l
def Vy(l:Bs)(n:Nat):V35 Nat :=
 match gap (l.drop n) with
 |.bad c p => .bad c (n+p)
 |.ok k => .ok (n+k)
theorem O52(l:Bs)(n:Nat)(h:V1y l=.ok n):n<=l.length:=by
 unfold V1y at h;have h1:=O34 l;have h2:=O51 (l.drop (blanks l));rw[U15]at h2;revert h;generalize hm:blanks l+comment (l.drop (blanks l))=m;have h3:m<=l.length:=Ya
 have hl:∀r,l.drop m=r->m+r.length=l.length:=by
  intro r hr;rw[<-hr,U15];omega
 dsimp only
 split
 all_goals intro h
 rename_i r hr;have:=hl _ hr;simp at this;cases h;omega;rename_i r hr;have:=hl _ hr;simp at this;cases h;omega;cases h
 cases h;exact h3
theorem Oh2:∀f g (l:Bs),l.length<f->l.length<g->V55 f l=V55 g l:=by
 intro f
 induction f with
 |zero=>intro g l h;omega
 |succ f ih =>
  intro g l hf hg
  match g,hg with
  |g+1,hg =>
   unfold V55;cases hs:V1y l with
   |bad c p=>rfl
   |ok n =>
    cases n with
    |zero=>rfl
    |succ n =>
     have:=O52 l _ hs;simp only;rw[ih g (l.drop (n+1)) (by rw[U15];omega) (by rw[U15];omega)]
theorem O2v(l:Bs):gap l=match V1y l with
    |.bad c p => .bad c p
    |.ok 0 => .ok 0
    |.ok (n+1) =>
     match gap (l.drop (n+1)) with
     |.bad c p => .bad c (n+1+p)
     |.ok k => .ok (n+1+k):=by
 unfold gap;rw[V55];cases hs:V1y l with
 |bad c p=>rfl
 |ok n =>
  cases n with
  |zero=>rfl
  |succ n =>
   have:=O52 l _ hs;simp only;rw[Oh2 l.length ((l.drop (n+1)).length+1) (l.drop (n+1)) (by rw[U15];omega) Ya]
theorem Oa1(l:Bs)(n c p:Nat)(h:V1y (l.drop n)=.bad c p):Vy l n=.bad c (n+p):=by
 unfold Vy;rw[O2v,h]
theorem Ofo(l:Bs)(n:Nat)(h:V1y (l.drop n)=.ok 0):Vy l n=.ok n:=by
 unfold Vy;rw[O2v,h];rfl
theorem O53(l:Bs)(n k:Nat)(h:V1y (l.drop n)=.ok k)(hk:k≠0):Vy l n=Vy l (n+k):=by
 match k,hk with
 |k+1,_ =>
  unfold Vy;rw[O2v,h];simp only[U27];cases gap (l.drop (n+(k+1))) with
  |bad c p=>simp only;congr 1;omega
  |ok m=>simp only;congr 1;omega
def pre:Bs->Bs->Bool
 |_,[]=>true
 |[],_::_=>false
 |a::l,b::p=>a==b&&pre l p
theorem V8p(l:Bs)(n:Nat)(h:n<=l.length):let m:=Vs l (V7 l n)
    (pre (l.drop m) [13,10]=true->Vy l n=Vy l (m+2)) /\
    (pre (l.drop m) [13,10]=false->pre (l.drop m) [10]=true->Vy l n=Vy l (m+1)) /\
    (pre (l.drop m) [13,10]=false->pre (l.drop m) [10]=false->pre (l.drop m) [13]=true->Vy l n=.bad 3 (m+1)) /\
    (pre (l.drop m) [13,10]=false->pre (l.drop m) [10]=false->pre (l.drop m) [13]=false->m=n->Vy l n=.ok n) /\
    (pre (l.drop m) [13,10]=false->pre (l.drop m) [10]=false->pre (l.drop m) [13]=false->m≠n->Vy l n=Vy l m):=by
 intro m;have hb:=V8 l n h;have hc:=V3y l (V7 l n) hb.2;have hm:m=n+(blanks (l.drop n)+comment ((l.drop n).drop (blanks (l.drop n)))):=by
  show Vs l (V7 l n)=_;unfold Vs V7;rw[U27];omega
 have hd:(l.drop n).drop (blanks (l.drop n)+comment ((l.drop n).drop (blanks (l.drop n))))=l.drop m:=by
  rw[U27,hm]
 have hs:V1y (l.drop n)=match l.drop m with
     |13::10::_ => .ok (m-n+2)
     |10::_ => .ok (m-n+1)
     |13::_ => .bad 3 (m-n+1)
     |_ => .ok (m-n):=by
  unfold V1y;simp only;rw[hd,show m-n=blanks (l.drop n)+comment ((l.drop n).drop (blanks (l.drop n))) from by omega]
 have aQ:n<=m:=Ya
 clear_value m
 generalize l.drop m=r at hs⊢;refine⟨λ h1=>?_,λ h1 h2=>?_,λ h1 h2 h3=>?_,λ h1 h2 h3 h4=>?_,λ h1 h2 h3 h4=>?_⟩
 match r,h1,hs with
 |13::10::_,_,hs=>rw[O53 l n _ hs Ya];congr 1;omega
 |[],h1,_=>simp[pre]at h1
 |[a],h1,_=>simp[pre]at h1
 |a::b::r,h1,hs =>
  simp[pre]at h1;obtain⟨rfl,rfl⟩:=h1;rw[O53 l n _ hs Ya];congr 1;omega
 match r,h2,hs with
 |[],h2,_=>simp[pre]at h2
 |a::r,h2,hs =>
  simp[pre]at h2;subst h2;rw[O53 l n _ hs Ya];congr 1;omega
 match r,h1,h3,hs with
 |[],_,h3,_=>simp[pre]at h3
 |[a],_,h3,hs =>
  simp[pre]at h3;subst h3;rw[Oa1 l n _ _ hs];congr 1;omega
 |a::b::r,h1,h3,hs =>
  simp[pre]at h3;subst h3;simp[pre]at h1;have:V1y (l.drop n)=.bad 3 (m-n+1):=by
   rw[hs]
   split;rename_i e;simp only[U24]at e;exact absurd e.2.1 h1;rename_i e;simp at e;rfl
   rename_i _ _ e3;exact absurd rfl (e3 _)
  rw[Oa1 l n _ _ this];congr 1;omega
 have:V1y (l.drop n)=.ok (m-n):=by
  rw[hs]
  split;simp[pre]at h1;simp[pre]at h2;simp[pre]at h3
  rfl
 rw[h4,U3y]at this;rw[Ofo l n this]
 have:V1y (l.drop n)=.ok (m-n):=by
  rw[hs]
  split;simp[pre]at h1;simp[pre]at h2;simp[pre]at h3
  rfl
 rw[O53 l n _ this Ya];congr 1;omega
theorem V1w(l p:Bs)(h:pre l p=true):p.length<=l.length:=by
 induction p generalizing l with
 |nil=>simp
 |cons b p ih =>
  match l,h with
  |[],h=>simp[pre]at h
  |a::l,h=>simp[pre]at h;have:=ih l h.2;simp;omega
def V2r(c:UInt8):Bool:=c.toNat==9 || decide (32<=c.toNat)&&c.toNat != 127
def long(l:Bs):Bool:=match l with
 |34::34::34::_=>true
 |39::39::39::_=>true
 |_=>false
def V3u(l:Bs)(n:Nat):Bool:=long (l.drop n)
inductive SR where
 |go (n:Nat) (tells:Bs) (over:Bool)
 |bad (p:Nat)
def feed:Bs->V35 Nat
 |10::_ => .ok 1
 |13::10::_ => .ok 2
 |13::_ => .bad 3 1
 |_ => .ok 0
def V32:Bs->SR
 |[] => .bad 0
 |c::_=>if V2r c then .go 1 [c] false else .bad 0
def run(q:UInt8)(l:Bs):Nat:=(l.takeWhile λ c=>c.toNat==q.toNat).length
def O2q(q:UInt8)(l:Bs):Nat:=min 5 (run q l)
def V3z(q:UInt8)(l:Bs):SR :=
 let n:=O2q q l
 if 3<=n then .go n (List.replicate (n-3) q) true else .go n (List.replicate n q) false
theorem Oho(q:UInt8)(l:Bs):run q l<=l.length:=Vn _ _
theorem Omw(q:UInt8)(l:Bs)(k:Nat)(h:k<l.length):(l[k]'h).toNat=q.toNat->k<=run q l->k+1<=run q l:=by
 unfold run
 induction l generalizing k with
 |nil=>simp at h
 |cons c l ih =>
  intro h1 h2;rw[U1o]at h2⊢;cases k with
  |zero =>
   simp at h1;rw[U18 (by simpa using h1)];simp
  |succ k =>
   split at h2
   rename_i hc
   rw[U18 hc];simp at h1 h2⊢;have:=ih k (by simpa using h) h1 h2;omega
   simp at h2
theorem Ojt(q:UInt8)(l:Bs)(k:Nat)(h:∀hk:k<l.length,(l[k]'hk).toNat≠q.toNat):k<=run q l->run q l=k:=by
 unfold run
 induction l generalizing k with
 |nil=>intro h2;simp at h2⊢;omega
 |cons c l ih =>
  intro h2;rw[U1o]at h2⊢;cases k with
  |zero =>
   have:=h Yb;rw[U1b (by simpa using this)];rfl
  |succ k =>
   split at h2
   rename_i hc
   rw[U18 hc];simp at h2⊢;exact ih k (λ hk=>by have:=h Ye;rwa [U3w]at this) h2
   simp at h2
theorem V99(q:UInt8)(l:Bs)(a k:Nat)(ha:a<=l.length)(hk:k<=run q (l.drop a)):(∃h:a+k<l.length,k<5/\((l[a+k]'h).toNat==q.toNat)=true/\k+1<=run q (l.drop a)) \/(k<=5->O2q q (l.drop a)=k/\(¬a+k<l.length\/(a+k<l.length/\¬k<5)\/(∃h:a+k<l.length,k<5/\((l[a+k]'h).toNat==q.toNat)=false))):=by
 have hl:=Oho q (l.drop a);rw[U15]at hl;by_cases h1:a+k<l.length
 by_cases h2:k<5
 cases h3:((l[a+k]'h1).toNat==q.toNat)
 refine .inr λ _=>⟨?_,.inr (.inr ⟨h1,h2,h3⟩)⟩
 have:=Ojt q (l.drop a) k (λ gh=>by simpa using h3) hk;unfold O2q;omega
 refine .inl ⟨h1,h2,h3,?_⟩;exact Omw q (l.drop a) k (by rw[U15];omega) (by simpa using h3) hk
 exact .inr λ _=>⟨by unfold O2q;omega,.inr (.inl ⟨h1,h2⟩)⟩
 exact .inr λ _=>⟨by unfold O2q;omega,.inl h1⟩
def V1m(q:UInt8)(l:Bs):Option SR :=
 match l with
 |[]=>none
 |c::r =>
  if c.toNat==q.toNat then some (V3z q (c::r)) else
  match feed (c::r) with
  |.ok 0=>none
  |.ok (n+1)=>some (.go (n+1) ((c::r).take (n+1)) false)
  |.bad _ p=>some (.bad p)
def V56(q:UInt8):Bs->SR
 |[] => .bad 0
 |c::r=>if c.toNat==q.toNat then .go 1 [] true else V32 (c::r)
def V33(q:UInt8)(l:Bs):SR :=
 match V1m q l with
 |some x=>x
 |none=>V32 l
theorem V4m(l:Bs)(c p:Nat)(h:feed l=.bad c p):c=3/\p=1:=by
 unfold feed at h
 split at h <;> simp_all
theorem V47(l:Bs)(n:Nat)(h:feed l=.ok n):n<=l.length:=by
 unfold feed at h
 split at h <;> simp_all <;> omega
def O_v:Nat->Bool->Bs->V35 Nat
 |0,_,_ => .ok 0
 |f+1,first,l =>
  match l.drop (blanks l) with
  |[] => .ok (blanks l)
  |c::r =>
   match feed (c::r) with
   |.bad k p => .bad k (blanks l+p)
   |.ok 0=>if first then .bad 3 (blanks l) else .ok (blanks l)
   |.ok (n+1) =>
    match O_v f false ((c::r).drop (n+1)) with
    |.bad k p => .bad k (blanks l+(n+1)+p)
    |.ok m => .ok (blanks l+(n+1)+m)
def V30(first:Bool)(l:Bs)(n:Nat):V35 Nat :=
 match O_v ((l.drop n).length+1) first (l.drop n) with
 |.bad k p => .bad k (n+p)
 |.ok m => .ok (n+m)
theorem O5b:∀f g first (l:Bs),l.length<f->l.length<g->O_v f first l=O_v g first l:=by
 intro f
 induction f with
 |zero=>intro g first l h;omega
 |succ f ih =>
  intro g first l hf hg
  match g,hg with
  |g+1,hg =>
   unfold O_v;cases hd:l.drop (blanks l) with
   |nil=>rfl
   |cons c r =>
    have hl:(c::r).length<=l.length:=by rw[<-hd,U15];omega
    simp only;cases hs:feed (c::r) with
    |bad k p=>rfl
    |ok n =>
     cases n with
     |zero=>rfl
     |succ n =>
      have:=V47 _ _ hs;simp only;rw[ih g false ((c::r).drop (n+1)) (by rw[U15];omega) (by rw[U15];omega)]
theorem V64(first:Bool)(l:Bs)(n m:Nat)(hn:n<=l.length)(hm:m=V7 l n):(m=l.length->V30 first l n=.ok m) /\(m<l.length->feed (l.drop m)=.ok 0->first=true->V30 first l n=.bad 3 m) /\(m<l.length->feed (l.drop m)=.ok 0->first=false->V30 first l n=.ok m) /\(m<l.length->∀k p,feed (l.drop m)=.bad k p->V30 first l n=.bad k (m+p)) /\(m<l.length->∀k,feed (l.drop m)=.ok (k+1)->V30 first l n=V30 false l (m+(k+1))):=by
 have hb:=V8 l n hn;rw[<-hm]at hb;have hd:(l.drop n).drop (blanks (l.drop n))=l.drop m:=by rw[U27,hm];rfl
 have Ev:m=n+blanks (l.drop n):=by rw[hm];rfl
 refine⟨λ h=>?_,λ h h1 h2=>?_,λ h h1 h2=>?_,λ h k p h1=>?_,λ h k h1=>?_⟩
 ·unfold V30 O_v;rw[hd,U1w Ya];simp only;rw[Ev]
 all_goals
  obtain⟨c,r,A7⟩:∃c r,l.drop m=c::r:=⟨_,_,U1u h⟩
  rw[A7]at h1
  conv=>lhs;unfold V30 O_v
  rw[hd,A7];simp only;rw[h1]
 simp only;rw[U18 h2,Ev];simp only;rw[U1b (by rw[h2];simp),Ev];simp only;rw[Ev,U2a]
 simp only;have lh:=V47 _ _ h1;rw[<-A7,U15]at lh;rw[<-A7,U27,O5b _ ((l.drop (m+(k+1))).length+1) false (l.drop (m+(k+1))) (by rw[U15,U15];omega) Ya];unfold V30;cases O_v ((l.drop (m+(k+1))).length+1) false (l.drop (m+(k+1))) with
 |bad k2 p2=>simp only;congr 1;omega
 |ok m2=>simp only;congr 1;omega
