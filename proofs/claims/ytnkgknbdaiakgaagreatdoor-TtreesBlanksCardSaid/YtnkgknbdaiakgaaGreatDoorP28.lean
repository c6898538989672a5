/- The proof's part 28. -/
import Derived.Test.YtnkgknbdaiakgaaGreatDoorP27
set_option maxHeartbeats 16000000
set_option linter.all false
namespace Go.Proofs.YtnkgknbdaiakgaaGreatDoor.Pl
structure V8f(E:Vz)(s:Bs)(n e:Nat)(it:It):Prop where
 le:n<=e/\e<=s.length
 blank:it.kind=0->it.ws=[]/\e=n
 ws:it.kind≠0->it.ws≠[]
 pair:it.kind=1->(∃w,it.ws.getLast?=some w/\w.2.2<it.va)/\it.va<it.vb/\it.vb=e/\V1l E s it.va 0 = .ok (it.root,it.vb,it.nds)/\V8y [] it.root it.vb it.nds
 other:it.kind≠1->it.va=0/\it.vb=0/\it.root=0/\it.nds=[]
 kind:it.kind<=3
 spans:∀x∈it.ws,x.2.1<=x.2.2/\x.2.2<=e
section
variable {E:Vz}(hE:V10 E)(s:Bs)(hs:s.length<=20000000)
include hE hs
theorem O8k(kind n:Nat)(az:Bs)(hk:kind=2\/kind=3)(hn:n+az.length<=s.length):V2e E s kind n az ≠ .non/\(∀c p,V2e E s kind n az = .bad c p->p<=s.length/\c≠0)/\(∀e it,V2e E s kind n az = .ok (e,it)->V8f E s n e it):=by
 have hb:=V8 s (n+az.length) hn;obtain⟨k1,k2,k3⟩:=O_s hE hb.2;unfold V2e;cases cS:V1k E s (V7 s (n+az.length)) with
 |non=>exact absurd cS k3
 |bad c p=>exact⟨by simp,λ c' p' h=>by (cases h;exact k2 _ _ cS),λ e it h=>by (cases h)⟩
 |ok r =>
  obtain⟨ws,e⟩:=r;obtain⟨h1,h2,h3,h4,h5⟩:=k1 _ _ cS;have aA:=V8 s e h2;obtain⟨i1,i2⟩:=V4h s az (V7 s e) aA.2;simp only;cases hi:isF s (V7 s e) az with
  |bad c p=>exact⟨by simp,λ c' p' h=>by (cases h;have:=i2 _ _ hi;exact⟨this.1,by omega⟩),λ e it h=>by (cases h)⟩
  |ok m =>
   obtain⟨i3,i4⟩:=i1 _ hi;refine⟨by simp,λ c' p' h=>by (cases h),λ e' it h=>?_⟩;cases h;exact⟨⟨by omega,i4⟩,λ h=>by (simp only at h;omega),λ _=>h3,λ h=>by (simp only at h;omega),λ _=>⟨rfl,rfl,rfl,rfl⟩,by simp only;omega,λ x hx=>by (have:=h4 x hx;omega)⟩
theorem Okc(n:Nat)(hn:n<=s.length):V4b E s n ≠ .non/\(∀c p,V4b E s n = .bad c p->p<=s.length/\c≠0)/\(∀e it,V4b E s n = .ok (e,it)->V8f E s n e it/\it.kind=1):=by
 obtain⟨k1,k2,k3⟩:=O_s hE hn;unfold V4b;cases cS:V1k E s n with
 |non=>exact absurd cS k3
 |bad c p=>exact⟨by simp,λ c' p' h=>by (cases h;exact k2 _ _ cS),λ e it h=>by (cases h)⟩
 |ok r =>
  obtain⟨ws,e⟩:=r;obtain⟨h1,h2,h3,h4,h5⟩:=k1 _ _ cS;have aA:=V8 s e h2;obtain⟨i1,i2⟩:=V4h s [61] (V7 s e) aA.2;simp only;cases hi:isF s (V7 s e) [61] with
  |bad c p=>exact⟨by simp,λ c' p' h=>by (cases h;have:=i2 _ _ hi;exact⟨this.1,by omega⟩),λ e it h=>by (cases h)⟩
  |ok m =>
   obtain⟨i3,i4⟩:=i1 _ hi;simp only[Ub,Ur]at i3;have aO:=V8 s m i4;obtain⟨r1,r2,r3⟩:=O2e hE s hs (V7 s m) 0 aO.2;simp only;cases hr:V1l E s (V7 s m) 0 with
   |non=>exact absurd hr r1
   |bad c p=>exact⟨by simp,λ c' p' h=>by (cases h;exact r2 _ _ hr),λ e it h=>by (cases h)⟩
   |ok v =>
    obtain⟨root,e2,nds⟩:=v;obtain⟨r4,r5,r6⟩:=r3 _ _ _ hr;refine⟨by simp,λ c' p' h=>by (cases h),λ e' it h=>?_⟩;cases h;refine⟨⟨⟨by omega,r5⟩,λ h=>by (cases h),λ _=>h3,λ _=>⟨?_,r4,rfl,hr,r6⟩,λ h=>absurd rfl h,by simp only;omega,λ x hx=>by (have:=h4 x hx;omega)⟩,rfl⟩;cases hl:ws.getLast? with
    |none=>rw[U31]at hl;exact absurd hl h3
    |some w =>
     rw[hl]at h5;simp only[U18,Uc]at h5;exact⟨w,rfl,by simp only;omega⟩
theorem O3q(n:Nat)(hn:n<=s.length):V2d E s n ≠ .non/\(∀c p,V2d E s n = .bad c p->p<=s.length/\c≠0)/\(∀e it,V2d E s n = .ok (e,it)->V8f E s n e it):=by
 unfold V2d
 split
 rename_i h
 have:=V18 _ _ h;rw[U3]at this;simp only[Ub,Ur]at this;exact O8k hE s hs 3 n [93,93] (.inr rfl) (by simp only[Ub,Ur];omega)
 split
 rename_i h
 have:=V18 _ _ h;rw[U3]at this;simp only[Ub,Ur]at this;exact O8k hE s hs 2 n [93] (.inl rfl) (by simp only[Ub,Ur];omega)
 split;refine⟨by simp,λ c p h=>by (cases h),λ e it h=>?_⟩;cases h;exact⟨⟨U2 _,hn⟩,λ _=>⟨rfl,rfl⟩,λ h=>absurd rfl h,λ h=>by (cases h),λ _=>⟨rfl,rfl,rfl,rfl⟩,by simp,λ x hx=>by (cases hx)⟩
 obtain⟨p1,p2,p3⟩:=Okc hE s hs n hn;exact⟨p1,p2,λ e it h=>(p3 e it h).1⟩
structure Vbk(E:Vz)(s:Bs)(n:Nat)(it:It):Prop where
 a:it.a=n
 lt:n<it.b
 le:it.b<=s.length
 fin:it.b=s.length\/V9 s (it.b-1)=10
 ws:it.kind≠0->it.ws≠[]
 blank:it.kind=0->it.ws=[]
 pair:it.kind=1->(∃w,it.ws.getLast?=some w/\w.2.2<it.va)/\it.va<it.vb/\it.vb<=it.b/\V1l E s it.va 0 = .ok (it.root,it.vb,it.nds)/\V8y [] it.root it.vb it.nds
 other:it.kind≠1->it.va=0/\it.vb=0/\it.root=0/\it.nds=[]
 kind:it.kind<=3
 spans:∀x∈it.ws,x.2.1<=x.2.2/\x.2.2<=s.length
theorem O1m(n:Nat)(hn:n<s.length):V2h E s n ≠ .non/\(∀c p,V2h E s n = .bad c p->p<=s.length/\c≠0)/\(∀it,V2h E s n = .ok it->Vbk E s n it):=by
 have hb:=V8 s n (by omega);obtain⟨b1,b2,b3⟩:=O3q hE s hs (V7 s n) hb.2;unfold V2h;cases cj:V2d E s (V7 s n) with
 |non=>exact absurd cj b1
 |bad c p=>exact⟨by simp,λ c' p' h=>by (cases h;exact b2 _ _ cj),λ it h=>by (cases h)⟩
 |ok r =>
  obtain⟨e,it⟩:=r;have q:=b3 _ _ cj;obtain⟨c1,c2⟩:=V4n s e q.le.2;simp only;cases hc:V1b s e with
  |bad c p=>exact⟨by simp,λ c' p' h=>by (cases h;exact c2 _ _ hc),λ it h=>by (cases h)⟩
  |ok m =>
   obtain⟨c3,c4,c5⟩:=c1 _ hc;have jb:=V8 s e q.le.2;have E3:=V3n s (V7 s e) jb.2;have hq:=q.le;refine⟨by simp,λ c' p' h=>by (cases h),λ ma h=>?_⟩;cases h;refine⟨rfl,?_,c4,?_,q.ws,λ h=>(q.blank h).1,λ h=>?_,q.other,q.kind,λ x hx=>by (have:=q.spans x hx;omega)⟩;simp only;omega
   simp only;rcases c5 with h|h
   exact .inl h.1
   exact .inr h.2
   obtain⟨p1,p2,p3,p4,p5⟩:=q.pair h;exact⟨p1,p2,by simp only;omega,p4,p5⟩
end
structure ItR(k:Nat)(x y:It):Prop where
 kind:y.kind=x.kind
 a:y.a=k+x.a
 b:y.b=k+x.b
 ws:V53 (KR 0 k) x.ws y.ws
 val:x.kind=1->y.va=k+x.va/\y.vb=k+x.vb
 root:y.root=x.root
 nds:RS 0 x.nds y.nds
section
variable {E:Vz}(hE:V10 E){s1 s2:Bs}{k:Nat}(A:V3y s1 s2 k)(hs:s1.length<=20000000)
theorem V3y.get{s1 s2:Bs}{k:Nat}(A:V3y s1 s2 k)(n:Nat):s2[k+n]?=s1[n]?:=by
 have h1:s2[k+n]?=(s2.drop (k+n))[0]?:=by rw[U1f];rfl
 have h2:s1[n]?=(s1.drop n)[0]?:=by rw[U1f];rfl
 rw[h1,h2,A.dr n]
theorem O65{s1 s2:Bs}{k:Nat}(A:V3y s1 s2 k)(ac:Bs):∀n,isF s2 (k+n) ac=match isF s1 n ac with
    |.ok m => .ok (k+m)
    |.bad c p => .bad c (k+p):=by
 induction ac with
 |nil=>intro n;rfl
 |cons w ws ih =>
  intro n;unfold isF;rw[A.get]
  split;rw[U12,ih]
  rfl
theorem Oaw{s1 s2:Bs}{k:Nat}(A:V3y s1 s2 k)(n:Nat):V1b s2 (k+n)=match V1b s1 n with
    |.ok m => .ok (k+m)
    |.bad c p => .bad c (k+p):=by
 unfold V1b;simp only;rw[A.blanks,A.comment,A.byte,A.len,O65 A];by_cases h:Vr s1 (V7 s1 n)=s1.length;rw[Ua (by omega),Ua h]
 rw[Ud (by omega),Ud h]
 split;rfl
 split;rfl
 rfl
inductive RI (k:Nat):Va It->Va It->Prop
 |bad (c p:Nat):RI k (.bad c p) (.bad c (k+p))
 |ok (x y:It):ItR k x y->RI k (.ok x) (.ok y)
inductive RB (k:Nat):Va (Nat×It)->Va (Nat×It)->Prop
 |bad (c p:Nat):RB k (.bad c p) (.bad c (k+p))
 |ok (e:Nat) (x y:It):y.kind=x.kind->V53 (KR 0 k) x.ws y.ws->(x.kind=1->y.va=k+x.va/\y.vb=k+x.vb)->y.root=x.root->RS 0 x.nds y.nds->RB k (.ok (e,x)) (.ok (k+e,y))
include hE A hs
theorem O5n(kind n:Nat)(az:Bs)(hk:kind=2\/kind=3)(hn:n+az.length<=s1.length):RB k (V2e E s1 kind n az) (V2e E s2 kind (k+n) az):=by
 have hb:=V8 s1 (n+az.length) hn;obtain⟨k1,k2,k3⟩:=O_s hE hb.2;unfold V2e;rw[U12,A.blanks,O5c hE A _ hb.2];cases cS:V1k E s1 (V7 s1 (n+az.length)) with
 |non=>exact absurd cS k3
 |bad c p=>exact .bad c p
 |ok r =>
  obtain⟨ws,e⟩:=r;simp only[shO];rw[A.blanks,O65 A];cases hi:isF s1 (V7 s1 e) az with
  |bad c p=>exact .bad c p
  |ok m=>exact .ok m _ _ rfl (Ofy k ws) (λ h=>by (simp only at h;omega)) rfl (RS.nil [])
theorem Odt(n:Nat)(hn:n<=s1.length):RB k (V4b E s1 n) (V4b E s2 (k+n)):=by
 obtain⟨k1,k2,k3⟩:=O_s hE hn;unfold V4b;rw[O5c hE A _ hn];cases cS:V1k E s1 n with
 |non=>exact absurd cS k3
 |bad c p=>exact .bad c p
 |ok r =>
  obtain⟨ws,e⟩:=r;obtain⟨h1,h2,h3,h4,h5⟩:=k1 _ _ cS;have aA:=V8 s1 e h2;simp only[shO];rw[A.blanks,O65 A];cases hi:isF s1 (V7 s1 e) [61] with
  |bad c p=>exact .bad c p
  |ok m =>
   obtain⟨i3,i4⟩:=(V4h s1 [61] (V7 s1 e) aA.2).1 _ hi;have aO:=V8 s1 m i4;simp only;rw[A.blanks];have hr:=O75 hE A hs (V7 s1 m) 0 aO.2;generalize V1l E s1 (V7 s1 m) 0=X at hr⊢;generalize V1l E s2 (k+V7 s1 m) 0=Y at hr⊢;cases hr with
   |bad c p=>exact .bad c p
   |ok i e2 st1 st2 G9=>exact .ok e2 _ _ rfl (Ofy k ws) (λ _=>⟨rfl,rfl⟩) rfl G9
theorem Odu(n:Nat)(hn:n<=s1.length):RB k (V2d E s1 n) (V2d E s2 (k+n)):=by
 unfold V2d;rw[A.dr]
 split
 rename_i h
 have:=V18 _ _ h;rw[U3]at this;simp only[Ub,Ur]at this;exact O5n hE A hs 3 n [93,93] (.inr rfl) (by simp only[Ub,Ur];omega)
 split
 rename_i h
 have:=V18 _ _ h;rw[U3]at this;simp only[Ub,Ur]at this;exact O5n hE A hs 2 n [93] (.inl rfl) (by simp only[Ub,Ur];omega)
 split;exact .ok n _ _ rfl .nil (λ h=>by (cases h)) rfl (RS.nil [])
 exact Odt hE A hs n hn
theorem O76(n:Nat)(hn:n<=s1.length):RI k (V2h E s1 n) (V2h E s2 (k+n)):=by
 have hb:=V8 s1 n hn;have cj:=Odu hE A hs (V7 s1 n) hb.2;unfold V2h;rw[A.blanks];generalize V2d E s1 (V7 s1 n)=X at cj⊢;generalize V2d E s2 (k+V7 s1 n)=Y at cj⊢;cases cj with
 |bad c p=>exact .bad c p
 |ok e x y h1 h2 h3 h4 h5 =>
  simp only;rw[Oaw A];cases V1b s1 e with
  |bad c p=>exact .bad c p
  |ok m=>exact .ok _ _ ⟨h1,rfl,rfl,h2,h3,h4,h5⟩
end
def Rk(st:Vc)(r:Nat->Nat):Prop:=∀(i:Nat) nd,st[i]?=some nd->∀x∈nd.subs,r x<r i
def Own(b:Nat)(st:Vc):Prop:=∀(i:Nat) nd,b<=i->st[i]?=some nd->∀x∈nd.subs,b<=x
structure VR(st:Vc)(i:Nat)(st':Vc):Prop where
 wf:WF st'
 lo:st.length<=i
 hi:i<st'.length
 keep:V3d st.length st st'
 rk:∃r,Rk st' r
 own:Own st.length st'
def VRk(V:V24):Prop:=∀d n st i e st',WF st->V d n st = .ok (i,e,st')->(∃r,Rk st r)->VR st i st'
theorem Okj(r:Nat->Nat):∀n,∃K,∀i,i<n->r i<K:=by
 intro n
 induction n with
 |zero=>exact⟨0,λ i h=>by omega⟩
 |succ n ih =>
  obtain⟨K,h⟩:=ih;refine⟨K+r n+1,λ i hi=>?_⟩;by_cases jw:i<n;have:=h i jw;omega
  have:i=n:=by omega
  subst this;omega
theorem Rk.app{st:Vc}{r:Nat->Nat}(h:Rk st r)(hw:WF st)(nd:Nd)(hn:∀x∈nd.subs,x<st.length):∃r',Rk (st++[nd]) r':=by
 obtain⟨K,hK⟩:=Okj r st.length;refine⟨λ j=>if j<st.length then r j else K,λ i x hx y hy=>?_⟩;by_cases hi:i<st.length;rw[U9 hi]at hx;have dL:=(hw i x hx).lt y hy;simp only[Ua hi,Ua dL];exact h i x hx y hy
 have h2:=(U7.1 hx).1;simp only[Ug,U19]at h2;have:i=st.length:=by omega
 subst this;simp at hx;subst hx;have dL:=hn y hy;simp only[Ua dL,Ud (Nat.lt_irrefl _)];exact hK y dL
theorem Own.app{b:Nat}{st:Vc}(h:Own b st)(nd:Nd)(hn:∀x∈nd.subs,b<=x):Own b (st++[nd]):=by
 intro i x hb hx y hy;by_cases hi:i<st.length;rw[U9 hi]at hx;exact h i x hb hx y hy
 have h2:=(U7.1 hx).1;simp only[Ug,U19]at h2;have:i=st.length:=by omega
 subst this;simp at hx;subst hx;exact hn y hy
theorem Own.mono{b:Nat}{st st':Vc}(h:Own b st){c:Nat}(hc:b<=c)(hk:V3d c st st')(ho:Own c st'):Own b st':=by
 intro i x hb hx y hy;by_cases hi:i<c;exact h i x hb ((hk i hi).symm.trans hx) y hy
 have:=ho i x (by omega) hx y hy;omega
theorem Rk.put{st:Vc}{r:Nat->Nat}(h:Rk st r)(c:Nat)(ho:Own c st)(t i:Nat)(w:Bs)(sp:Nat×Nat)(ht:t<c)(hi:c<=i)(aB:∀(j:Nat) nd,j<c->st[j]?=some nd->∀x∈nd.subs,x<c):∃r',Rk (Vo st t w sp i) r':=by
 refine⟨λ j=>if j<c then r j+r i+1 else r j,λ j x hx y hy=>?_⟩;rw[O13]at hx;by_cases hj:t=j
 subst hj;rw[Ua rfl]at hx;cases hg:st[t]? with
 |none=>rw[hg]at hx;cases hx
 |some nd =>
  rw[hg]at hx;simp only[U18,Uc]at hx;subst hx;simp only[Ua ht];rcases U1t.1 (show y∈nd.subs++[i] from hy) with hy|hy
  have h1:=aB t nd ht hg y hy;have h2:=h t nd hg y hy;simp only[Ua h1];omega
  simp at hy;subst hy;simp only[Ud (show ¬y<c by omega)];omega
 rw[Ud hj]at hx;have h2:=h j x hx y hy;by_cases H6:j<c;have h1:=aB j x H6 hx y hy;simp only[Ua H6,Ua h1];omega
 have h1:=ho j x (by omega) hx y hy;simp only[Ud H6,Ud (show ¬y<c by omega)];exact h2
theorem Own.put{b:Nat}{st:Vc}(h:Own b st)(t i:Nat)(w:Bs)(sp:Nat×Nat)(hi:b<=i):Own b (Vo st t w sp i):=by
 intro j x hb hx y hy;rw[O13]at hx;by_cases hj:t=j
 subst hj;rw[Ua rfl]at hx;cases hg:st[t]? with
 |none=>rw[hg]at hx;cases hx
 |some nd =>
  rw[hg]at hx;simp only[U18,Uc]at hx;subst hx;rcases U1t.1 (show y∈nd.subs++[i] from hy) with hy|hy
  exact h t nd hb hg y hy
  simp at hy;omega
 rw[Ud hj]at hx;exact h j x hb hx y hy
theorem O3f(st:Vc):Own st.length st:=λ i nd hb hx=>by have:=(U7.1 hx).1;omega
theorem Oij(b table:Nat):∀(ws:List KW)(into d:Nat)(st:Vc)(ax d':Nat)(st':Vc),WF st->b<=table->table<=into->into<st.length->V3m table ws into d st = .ok (ax,d',st')->(∃r,Rk st r)->Own b st ->
    (∃r,Rk st' r)/\Own b st'/\WF st'/\table<=ax/\ax<st'.length/\st.length<=st'.length/\V3d table st st':=by
 intro ws
 induction ws with
 |nil=>intro into d st ax d' st' _ _ _ _ h;simp[V3m]at h
 |cons v rest ih =>
  intro into d st ax d' st' hw hb ht jw h hr ho;obtain⟨w,u1,u2⟩:=v;unfold V3m at h;cases hs:V12 st into w with
  |non=>rw[hs]at h;cases h
  |no =>
   rw[hs]at h;cases rest with
   |nil=>simp only[Va.ok.injEq,U6]at h;obtain⟨rfl,rfl,rfl⟩:=h;exact⟨hr,ho,hw,ht,jw,U2 _,V3d.refl _ _⟩
   |cons y r2 =>
    simp only at h
    split at h;cases h
    split at h
    obtain⟨r,hr⟩:=hr;obtain⟨nd,bP⟩:∃nd,st[into]?=some nd:=⟨_,Uh jw⟩
    have fZ:WF (st++[V2b (table+1)]):=hw.app _ ⟨λ _=>⟨rfl,rfl⟩,List.Pairwise.nil,λ x hx=>(by cases hx),λ _=>⟨rfl,by show table+1<=st.length;omega⟩⟩;have xC:(st++[V2b (table+1)])[into]?=some nd:=by rw[U9 jw];exact bP
    have fh:WF (Vo (st++[V2b (table+1)]) into w (u1,u2) st.length):=fZ.put into st.length w (u1,u2) nd xC (λ x hx=>(hw into nd bP).lt x hx) (by simp);obtain⟨r1,aU⟩:=hr.app hw (V2b (table+1)) (λ x hx=>by cases hx);have rB:Own b (st++[V2b (table+1)]):=ho.app _ (λ x hx=>by cases hx);have Pn:Own st.length (st++[V2b (table+1)]):=(O3f st).app _ (λ x hx=>by cases hx);have d9:=aU.put st.length Pn into st.length w (u1,u2) jw (U2 _) (λ j x hj hx y hy=>by
     rw[U9 hj]at hx;exact (hw j x hx).lt y hy)
    have ao:(Vo (st++[V2b (table+1)]) into w (u1,u2) st.length).length=st.length+1:=by unfold Vo;simp
    obtain⟨g1,g2,g3,g4,g5,g6,g7⟩:=ih st.length (d+1) _ ax d' st' fh hb (by omega) (by rw[ao];omega) h d9 (rB.put into st.length w (u1,u2) (by omega));refine⟨g1,g2,g3,g4,g5,by omega,λ j hj=>?_⟩;rw[g7 j hj,O13,Ud (by omega),U9 (by omega)]
    cases h
  |yes i =>
   rw[hs]at h;cases rest with
   |nil=>cases h
   |cons y r2 =>
    simp only at h
    split at h
    rename_i LD
    refine Z280 ?_;intro eK;have LF:table<=i:=by
     unfold V37 at LD
     split at LD
     rename_i nd bP
     have:=(hw i nd bP).own (by omega);omega
     omega
    exact ih i (d+1) st ax d' st' hw hb LF eK h hr ho
    cases h
section
variable {E:Vz}{s:Bs}{V:V24}(hV:VRk V)
include hV
theorem Od4(b table n d:Nat)(st:Vc)(e:Nat)(st':Vc)(hw:WF st)(hb:b<=table)(ht:table<st.length)(h:V1s E V s table n d st = .ok (e,st'))(hr:∃r,Rk st r)(ho:Own b st) :
    (∃r,Rk st' r)/\Own b st'/\WF st'/\st.length<=st'.length/\V3d table st st':=by
 unfold V1s at h
 split at h;cases h
 cases h
 rename_i ws e0 _
 split at h;cases h
 cases h
 rename_i into d' st1 ti
 obtain⟨g1,g2,g3,g4,g5,g6,g7⟩:=Oij b table ws table d st into d' st1 hw hb (U2 _) ht ti hr ho;simp only at h
 split at h
 split at h;cases h
 cases h
 rename_i i e2 st2 hv
 have q:=hV _ _ _ _ _ _ g3 hv g1;obtain⟨r2,d9⟩:=q.rk;have il:=q.own;have zx:=q.lo;have DO:=q.hi
 split at h;cases h
 rename_i w a b' _
 split at h
 simp only[Va.ok.injEq,U6]at h;obtain⟨rfl,rfl⟩:=h;obtain⟨nd,bP⟩:∃nd,st1[into]?=some nd:=⟨_,Uh g5⟩
 have td:st2[into]?=some nd:=(q.keep into g5).trans bP;have xm:Own b st2:=g2.mono (by omega) q.keep il;refine⟨d9.put st1.length il into i w (a,b') g5 q.lo (λ j x hj hx y hy=>?_),xm.put into i w (a,b') (by omega),q.wf.put into i w (a,b') nd td (λ x hx=>by have:=(g3 into nd bP).lt x hx;omega) q.hi,?_,λ j hj=>?_⟩;have:=(q.keep j hj).symm.trans hx;exact (g3 j x this).lt y hy;unfold Vo;rw[List.length_modify];omega
 rw[O13,Ud (by omega),q.keep j (by omega)];exact g7 j hj
 cases h
 cases h
theorem On8(b table d:Nat)(hb:b<=table):∀(f n:Nat)(st:Vc)(e:Nat)(st':Vc),WF st->table<st.length->V2g E V s table d f n st = .ok (e,st')->(∃r,Rk st r)->Own b st ->
    (∃r,Rk st' r)/\Own b st'/\WF st'/\st.length<=st'.length/\V3d table st st':=by
 intro f
 induction f with
 |zero=>intro n st e st' _ _ h;simp[V2g]at h
 |succ f ih =>
  intro n st e st' hw ht h hr ho;unfold V2g at h
  split at h;cases h
  cases h
  rename_i e1 st1 hp
  obtain⟨g1,g2,g3,g4,g5⟩:=Od4 hV b table n d st e1 st1 hw hb ht hp hr ho;simp only at h
  split at h;simp only[Va.ok.injEq,U6]at h;obtain⟨rfl,rfl⟩:=h;exact⟨g1,g2,g3,g4,g5⟩
  split at h;obtain⟨k1,k2,k3,k4,k5⟩:=ih _ st1 e st' g3 (by omega) h g1 g2;exact⟨k1,k2,k3,by omega,g5.trans k5⟩
  cases h
theorem Oik(d n:Nat)(st:Vc)(i e:Nat)(st':Vc)(hw:WF st)(h:V1z E V s d n st = .ok (i,e,st'))(hr:∃r,Rk st r):VR st i st':=by
 unfold V1z at h
 split at h;cases h
 split at h
 simp only at h;refine Z203 ?_;intro fZ;obtain⟨r,hr⟩:=hr;have aU:=hr.app hw V1f (λ x hx=>by cases hx);have rB:Own st.length (st++[V1f]):=(O3f st).app _ (λ x hx=>by cases hx);have key:∀e1 st1,(if V9 s (V7 s (n+1))=125 then Va.ok (V7 s (n+1),st++[V1f]) else V2g E V s st.length d (s.length+2) (V7 s (n+1)) (st++[V1f])) = .ok (e1,st1)->(∃r,Rk st1 r)/\Own st.length st1/\WF st1/\st.length<st1.length/\V3d st.length st st1:=by
  intro e1 st1 h
  split at h;simp only[Va.ok.injEq,U6]at h;obtain⟨rfl,rfl⟩:=h;exact⟨aU,rB,fZ,by simp,V3d.app _ _ _ (U2 _)⟩
  obtain⟨g1,g2,g3,g4,g5⟩:=On8 hV st.length st.length d (U2 _) _ _ _ _ _ fZ (by simp) h aU rB;exact⟨g1,g2,g3,by simp at g4;omega,(V3d.app _ _ _ (U2 _)).trans g5⟩
 split at h;cases h
 cases h
 rename_i e1 st1 hk
 obtain⟨⟨r2,g1⟩,g2,g3,g4,g5⟩:=key _ _ hk
 split at h
 simp only[Va.ok.injEq,U6]at h;obtain⟨rfl,rfl,rfl⟩:=h;have dZ:∀(j:Nat) x,(st1.modify st.length λ nd=>{ nd with sp:=((n:Int),((e1+1:Nat):Int)) })[j]?=some x->∃y,st1[j]?=some y/\x.subs=y.subs/\x.kind=y.kind/\x.keys=y.keys/\x.spots=y.spots/\x.owner=y.owner:=by
  intro j x hx;rw[Oz]at hx
  split at hx
  cases hg:st1[j]? with
  |none=>rw[hg]at hx;cases hx
  |some y=>rw[hg]at hx;simp only[U18,Uc]at hx;subst hx;exact⟨y,rfl,rfl,rfl,rfl,rfl,rfl⟩
  exact⟨x,hx,rfl,rfl,rfl,rfl,rfl⟩
 have ao:(st1.modify st.length λ nd=>{ nd with sp:=((n:Int),((e1+1:Nat):Int)) }).length=st1.length:=by simp
 refine⟨λ j x hx=>?_,U2 _,by rw[ao];exact g4,λ j hj=>?_,⟨r2,λ j x hx y hy=>?_⟩,λ j x hb hx y hy=>?_⟩;obtain⟨z,hz,h1,h2,h3,h4,h5⟩:=dZ j x hx;have q:=g3 j z hz;rw[ao];exact⟨λ hk=>by rw[h3,h4,h1];exact q.len (h2 ▸ hk),h1 ▸ q.up,λ y hy=>q.lt y (h1 ▸ hy),λ ho=>by rw[h2,h5];exact q.own (h5 ▸ ho)⟩;rw[Oz,Ud (by omega)];exact g5 j hj;obtain⟨z,hz,zZ,_⟩:=dZ j x hx;exact g1 j z hz y (zZ ▸ hy)
 obtain⟨z,hz,zZ,_⟩:=dZ j x hx;exact g2 j z hb hz y (zZ ▸ hy)
 cases h
 cases h
theorem Okk(d b:Nat):∀(f n:Nat)(subs:List Nat)(st:Vc)(l:List Nat)(e:Nat)(st':Vc),WF st->b<=st.length->V1h V s d f n subs st = .ok (l,e,st')->(∃r,Rk st r)->Own b st->subs.Pairwise (· < ·)->(∀x∈subs,b<=x/\x<st.length) ->
    (∃r,Rk st' r)/\Own b st'/\WF st'/\st.length<=st'.length/\V3d st.length st st'/\l.Pairwise (· < ·)/\∀x∈l,b<=x/\x<st'.length:=by
 intro f
 induction f with
 |zero=>intro n subs st l e st' _ _ h;simp[V1h]at h
 |succ f ih =>
  intro n subs st l e st' hw hb h hr ho LG dZ;unfold V1h at h
  split at h;simp only[Va.ok.injEq,U6]at h;obtain⟨rfl,rfl,rfl⟩:=h;exact⟨hr,ho,hw,U2 _,V3d.refl _ _,LG,dZ⟩
  split at h;cases h
  cases h
  rename_i i e1 st1 hv
  have q:=hV _ _ _ _ _ _ hw hv hr;have d9:=q.rk;have il:=q.own;have zx:=q.lo;have DO:=q.hi;have Bz:Own b st1:=ho.mono hb q.keep il;have dC:∀x∈subs++[i],b<=x/\x<st1.length:=by
   intro x hx;rcases U1t.1 hx with hx|hx
   have:=dZ x hx;omega
   simp at hx;omega
  have BA:(subs++[i]).Pairwise (· < ·):=List.pairwise_append.2 ⟨LG,List.pairwise_singleton _ _,λ x hx y hy=>by
   have:=dZ x hx;simp at hy;omega⟩
  split at h;cases h
  split at h;cases h
  split at h;simp only[Va.ok.injEq,U6]at h;obtain⟨rfl,rfl,rfl⟩:=h;exact⟨d9,Bz,q.wf,by omega,q.keep,BA,dC⟩
  split at h
  split at h;cases h
  obtain⟨k1,k2,k3,k4,k5,k6,k7⟩:=ih _ _ st1 l e st' q.wf (by omega) h d9 Bz BA dC;exact⟨k1,k2,k3,by omega,q.keep.trans (k5.mono (by omega)),k6,k7⟩
  cases h
theorem Okl(d n:Nat)(st:Vc)(i e:Nat)(st':Vc)(hw:WF st)(h:V2s V s d n st = .ok (i,e,st'))(hr:∃r,Rk st r):VR st i st':=by
 unfold V2s at h
 split at h;cases h
 split at h;cases h
 split at h;cases h
 cases h
 rename_i subs e1 st1 hl
 obtain⟨⟨r,g1⟩,g2,g3,g5,g6,g7,g4⟩:=Okk hV d st.length _ _ _ _ _ _ _ hw (U2 _) hl hr (O3f st) List.Pairwise.nil (λ x hx=>by cases hx)
 split at h;simp only[Va.ok.injEq,U6]at h;obtain⟨rfl,rfl,rfl⟩:=h;exact⟨g3.app _ ⟨λ hk=>(by cases hk),g7,λ x hx=>(by have:=(g4 x hx).2;omega),λ h=>absurd rfl h⟩,g5,by simp,g6.trans (V3d.app _ _ _ g5),g1.app g3 _ (λ x hx=>(g4 x hx).2),g2.app _ (λ x hx=>(g4 x hx).1)⟩
 cases h
end
theorem Oes{st:Vc}(hw:WF st)(hr:∃r,Rk st r)(k:Nat)(t:Bs)(a b:Nat)(hk:k≠8):VR st st.length (st++[V5k k t a b]):=by
 obtain⟨r,hr⟩:=hr;exact⟨hw.app _ ⟨λ h=>absurd h hk,List.Pairwise.nil,λ x hx=>(by cases hx),λ h=>absurd rfl h⟩,U2 _,by simp,V3d.app _ _ _ (U2 _),hr.app hw _ (λ x hx=>by cases hx),(O3f st).app _ (λ x hx=>by cases hx)⟩
theorem O68{E:Vz}(hE:V10 E)(s:Bs):∀f,VRk (V19 E s f):=by
 intro f
 induction f with
 |zero=>intro d n st i e st' _ h;simp[V19]at h
 |succ f ih =>
  intro d n st i e st' hw h hr;unfold V19 at h;simp only at h
  split at h
  split at h;cases h
  cases h
  split at h;simp only[Va.ok.injEq,U6]at h;obtain⟨rfl,rfl,rfl⟩:=h;exact Oes hw hr _ _ _ _ (by decide)
  cases h
  split at h;exact Okl ih d n st i e st' hw h hr
  split at h;exact Oik ih d n st i e st' hw h hr
  split at h;cases h
  cases h
  rename_i k t m hs
  split at h;simp only[Va.ok.injEq,U6]at h;obtain⟨rfl,rfl,rfl⟩:=h;exact Oes hw hr _ _ _ _ (by have:=(hE.scalK _ _ _ _ hs).2.2;omega)
  cases h
theorem On1(q:UInt8)(l:Bs)(k:Nat)(h:k<run q l):∃c,l[k]?=some c/\c.toNat=q.toNat:=by
 unfold run at h
 induction l generalizing k with
 |nil=>simp at h
 |cons a l ih =>
  rw[Uo]at h
  split at h
  rename_i ha
  cases k with
  |zero=>exact⟨a,rfl,by simpa using ha⟩
  |succ k=>exact ih k (by simpa using h)
  simp at h
theorem Og0(T)(long:Bool)(q:UInt8)(l:Bs)(m:Nat)(t:Bs)(h:V17 T long q l=some (.go m t true)):∃c,l[m-1]?=some c/\c.toNat=q.toNat:=by
 have fQ:∀l m t,V2v l ≠ .go m t true:=by
  intro l m t h;unfold V2v at h
  split at h;cases h
  split at h <;> cases h
 have pO:∀x,V1e q l=some x->x = .go m t true->∃c,l[m-1]?=some c/\c.toNat=q.toNat:=by
  intro x hx he;subst he;unfold V1e at hx
  split at hx;cases hx
  rename_i c r
  split at hx
  rename_i hc
  simp only[Uc]at hx;unfold V3i at hx;simp only at hx
  split at hx
  rename_i h3
  cases hx;have h4:O1q q (c::r)<=run q (c::r):=by unfold O1q;omega
  exact On1 q (c::r) _ (by omega)
  cases hx
  split at hx <;> cases hx
 unfold V17 at h
 split at h
 split at h
 simp only[Uc]at h;unfold V2q at h
 split at h;rename_i x hx;exact pO x hx h
 exact absurd h (fQ _ _ _)
 simp only[Uc]at h;unfold V30 at h
 split at h;rename_i x hx;exact pO x hx h
 split at h;cases h
 rename_i c r _
 split at h
 split at h;have:=V46 _ _ _ _ _ h;cases this
 split at h;have:=V4p _ _ _ _ (by simp) h;have:=this.2.2.2.1;cases this
 have:=V46 _ _ _ _ _ h;cases this
 exact absurd h (fQ _ _ _)
 split at h
 simp only[Uc]at h;unfold V4k at h
 split at h;cases h
 rename_i c r
 split at h
 rename_i hc
 cases h;exact⟨c,rfl,by simpa using hc⟩
 exact absurd h (fQ _ _ _)
 unfold V4d at h
 split at h;cases h
 rename_i c r
 split at h
 rename_i hc
 cases h;exact⟨c,rfl,by simpa using hc⟩
 split at h;simp only[Uc]at h;have:=V46 _ _ _ _ _ h;cases this
 simp only[Uc]at h;exact absurd h (fQ _ _ _)
theorem O8l(T)(long:Bool)(q:UInt8)(l:Bs):∀(f n:Nat)(out t:Bs)(k:Nat),V2m (V17 T long q) l f n out = .ok (t,k)->∃c,l[k-1]?=some c/\c.toNat=q.toNat:=by
 intro f
 induction f with
 |zero=>intro n out t k h;simp[V2m]at h
 |succ f ih =>
  intro n out t k h;unfold V2m at h
  split at h;cases h
  rename_i c r hd
  split at h;cases h
  cases h
  rename_i m t' over hs
  split at h
  rename_i ho
  subst ho;have hm:=V3c T long q _ m t' true hs;obtain⟨c',h1,h2⟩:=Og0 T long q _ m t' hs;simp only[Va.ok.injEq,U6]at h;refine⟨c',?_,h2⟩;rw[<-h1,<-hd,U1f];congr 1;omega
  exact ih _ _ _ _ h
theorem Oi5(T)(l t:Bs)(k:Nat)(h:Vj T l = .ok (t,k)):l[k-1]?≠some 10:=by
 intro bD;have key:∀q:UInt8,isQ q->(∃c,l[k-1]?=some c/\c.toNat=q.toNat)->False:=by
  rintro q hq ⟨c,h1,h2⟩;rw[bD]at h1;cases h1;rcases hq with rfl|rfl <;> cases h2
 unfold Vj at h
 split at h;cases h
 rename_i c r
 split at h
 rename_i hq
 refine Z274 ?_;intro hQ
 split at h
 split at h;cases h
 exact key c hQ (O8l T true c _ _ _ _ _ _ h)
 exact key c hQ (O8l T false c _ _ _ _ _ _ h)
 cases h
theorem O5d(t:Bs):Om (10::t) := .inr ⟨10,t,rfl,by simp,λ h=>by (cases h)⟩
theorem Oct(l:Bs)(n:Nat)(c:UInt8)(h:l[n]?=some c):l=l.take n++c::l.drop (n+1):=by
 have aa:=(U7.1 h)
 rw[<-aa.2,List.getElem_cons_drop,List.take_append_drop]
theorem Og1(l:Bs)(k:Nat)(t:Bs)(m:Nat)(h:Vd l = .ok (k,t,m)):l[m-1]?≠some 10:=by
 intro bD;have h1:=(O30 l).2.1 k t m h;have hs:=Oct l (m-1) 10 bD;have h2:Vd (l.take (m-1)) = .ok (k,t,m):=by
  rw[<-O44 (l.take (m-1)) (O5d (l.drop (m-1+1))),<-hs];exact h
 have h3:=(O30 _).2.1 k t m h2;rw[U17]at h3;omega
structure V4v(E:Vz):Prop where
 str:∀l t k,E.str l = .ok (t,k)->l[k-1]?≠some 10
 scal:∀l k t m,E.scal l = .ok (k,t,m)->l[m-1]?≠some 10
theorem V8o(T):V4v (Vbj T):=⟨Oi5 T,Og1⟩
theorem O5e{s:Bs}{n:Nat}(h:V9 s n=10):s[n]?=some 10:=by
 have aa:=byteAt_lt h (by decide);rw[Ofl aa]at h;rw[Uh aa];congr 1;rw[<-U1b];exact h
theorem Og2{s:Bs}{V:V24}(d:Nat):∀(f n:Nat)(subs:List Nat)(st:Vc)(l:List Nat)(e:Nat)(st':Vc),V1h V s d f n subs st = .ok (l,e,st')->V9 s e=93:=by
 intro f
 induction f with
 |zero=>intro n subs st l e st' h;simp[V1h]at h
 |succ f ih =>
  intro n subs st l e st' h;unfold V1h at h
  split at h;rename_i lr;simp only[Va.ok.injEq,U6]at h;rw[<-h.2.1];exact lr
  split at h;cases h
  cases h
  split at h;cases h
  split at h;cases h
  split at h;rename_i lr;simp only[Va.ok.injEq,U6]at h;rw[<-h.2.1];exact lr
  split at h
  split at h;cases h
  exact ih _ _ _ _ _ _ h
  cases h
theorem Oi6{E:Vz}{s:Bs}{V:V24}(table d:Nat):∀(f n:Nat)(st:Vc)(e:Nat)(st':Vc),V2g E V s table d f n st = .ok (e,st')->V9 s e=125:=by
 intro f
 induction f with
 |zero=>intro n st e st' h;simp[V2g]at h
 |succ f ih =>
  intro n st e st' h;unfold V2g at h
  split at h;cases h
  cases h
  simp only at h
  split at h;rename_i lr;simp only[Va.ok.injEq,U6]at h;rw[<-h.1];exact lr
  split at h;exact ih _ _ _ _ h
  cases h
theorem Odv{E:Vz}(hE:V10 E)(hN:V4v E)(s:Bs)(f d n:Nat)(st:Vc)(i e:Nat)(st':Vc)(hn:n<=s.length)(h:V19 E s f d n st = .ok (i,e,st')):V9 s (e-1)≠10:=by
 cases f with
 |zero=>simp[V19]at h
 |succ f =>
  unfold V19 at h;simp only at h
  split at h
  cases hs:E.str (s.drop n) with
  |non=>rw[hs]at h;cases h
  |bad c p=>rw[hs]at h;cases h
  |ok v =>
   obtain⟨t,m⟩:=v;have h1:=hN.str _ _ _ hs;have h2:=hE.strK _ _ _ hs;exact J156
  split at h
  unfold V2s at h
  split at h;cases h
  split at h;cases h
  split at h;cases h
  cases h
  rename_i hl
  have:=Og2 _ _ _ _ _ _ _ _ hl
  split at h;simp only[Va.ok.injEq,U6]at h;rw[<-h.2.1,U2w,this];decide
  cases h
  split at h
  unfold V1z at h
  split at h;cases h
  split at h
  simp only at h
  split at h;cases h
  cases h
  rename_i e1 st1 hp
  split at h
  simp only[Va.ok.injEq,U6]at h;have dI:V9 s e1=125:=by
   split at hp;rename_i dI;simp only[Va.ok.injEq,U6]at hp;rw[<-hp.1];exact dI
   exact Oi6 _ _ _ _ _ _ _ hp
  rw[<-h.2.1,U2w,dI];decide
  cases h
  cases h
  cases hs:E.scal (s.drop n) with
  |non=>rw[hs]at h;cases h
  |bad c p=>rw[hs]at h;cases h
  |ok v =>
   obtain⟨q,t,m⟩:=v;have h1:=hN.scal _ _ _ _ hs;have h2:=hE.scalK _ _ _ _ hs;exact J156
theorem Okd(s:Bs)(ac:Bs)(w:UInt8)(hw:w≠10):∀n m,isF s n (ac++[w]) = .ok m->V9 s (m-1)≠10:=by
 induction ac with
 |nil =>
  intro n m h;simp only[U1c]at h;unfold isF at h
  split at h
  rename_i hg
  simp only[isF,V2x.ok.injEq]at h;intro bD;have:=O5e bD;rw[<-h,U2w,hg]at this;simp only[Uc]at this;exact hw this
  cases h
 |cons a l ih =>
  intro n m h;rw[Un]at h;unfold isF at h
  split at h;exact ih _ _ h
  cases h
theorem O8m{E:Vz}(hE:V10 E)(hN:V4v E)(s:Bs)(n e:Nat)(it:It)(hn:n<=s.length)(h:V2d E s n = .ok (e,it)):e=n\/V9 s (e-1)≠10:=by
 have hh:∀kind ac w,w≠10->V2e E s kind n (ac++[w]) = .ok (e,it)->V9 s (e-1)≠10:=by
  intro kind ac w hw h;unfold V2e at h
  split at h;cases h
  cases h
  split at h;cases h
  rename_i m hi
  cases h;exact Okd s ac w hw _ _ hi
 unfold V2d at h
 split at h;exact .inr (hh 3 [93] 93 (by decide) h)
 split at h;exact .inr (hh 2 [] 93 (by decide) h)
 split at h;cases h;exact .inl rfl
 right;unfold V4b at h;cases hk:V1k E s n with
 |non=>rw[hk]at h;cases h
 |bad c p=>rw[hk]at h;cases h
 |ok r =>
  obtain⟨ws,e0⟩:=r;have aK:=(O_s hE hn).1 _ _ hk;have hb:=V8 s e0 aK.2.1;rw[hk]at h;simp only at h;cases hi:isF s (V7 s e0) [61] with
  |bad c p=>rw[hi]at h;cases h
  |ok m =>
   have hm:=(V4h s [61] _ hb.2).1 _ hi;have aA:=V8 s m hm.2;rw[hi]at h;simp only at h;cases hr:V1l E s (V7 s m) 0 with
   |non=>rw[hr]at h;cases h
   |bad c p=>rw[hr]at h;cases h
   |ok v =>
    obtain⟨root,e2,nds⟩:=v;rw[hr]at h;cases h;exact Odv hE hN s 258 _ _ [] root _ nds aA.2 hr
structure V4t(x s1 s2:Bs)(a1 a2:Nat):Prop where
 c1:∃t,s1.drop a1=x++10::t
 c2:∃t,s2.drop a2=x++10::t
namespace V4t
variable {x s1 s2:Bs}{a1 a2:Nat}
theorem symm(T:V4t x s1 s2 a1 a2):V4t x s2 s1 a2 a1:=⟨T.c2,T.c1⟩
theorem len1(T:V4t x s1 s2 a1 a2):a1+x.length<s1.length:=by
 obtain⟨t,h⟩:=T.c1;have:=U1q List.length h;rw[U3]at this;simp only[Ug,Ub]at this;omega
theorem two(T:V4t x s1 s2 a1 a2):Two x s1 s2 a1 a2:=by
 obtain⟨t1,h1⟩:=T.c1;obtain⟨t2,h2⟩:=T.c2;exact⟨⟨_,O5d t1,h1⟩,⟨_,O5d t2,h2⟩,by have:=T.len1;omega,by have:=T.symm.len1;omega⟩
theorem d1(T:V4t x s1 s2 a1 a2){j:Nat}(hj:j<=x.length):∃t,s1.drop (a1+j)=x.drop j++10::t:=by
 obtain⟨t,h⟩:=T.c1;refine⟨t,?_⟩;rw[<-U16,h,U22,show j-x.length=0 by omega];rfl
theorem g1(T:V4t x s1 s2 a1 a2){j:Nat}(hj:j<=x.length):s1[a1+j]?=(x++[10])[j]?:=by
 obtain⟨t,h⟩:=T.c1;rw[<-U1f,h];by_cases hl:j<x.length;rw[U9 hl,U9 hl]
 have:j=x.length:=by omega
 subst this;simp
theorem get(T:V4t x s1 s2 a1 a2){j:Nat}(hj:j<=x.length):s2[a2+j]?=s1[a1+j]?:=by rw[T.g1 hj,T.symm.g1 hj]
theorem byte(T:V4t x s1 s2 a1 a2){j:Nat}(hj:j<=x.length):V9 s2 (a2+j)=V9 s1 (a1+j):=by unfold V9;rw[T.get hj]
theorem bl1(T:V4t x s1 s2 a1 a2){j:Nat}(hj:j<=x.length):V7 s1 (a1+j)=a1+(j+Pl.blanks (x.drop j))/\j+Pl.blanks (x.drop j)<=x.length:=by
 obtain⟨t,h⟩:=T.d1 hj;have aK:=O2u (x.drop j);rw[U3]at aK;have:∀(u t:Bs),Pl.blanks (u++10::t)=Pl.blanks u:=by
  intro u t;unfold Pl.blanks;congr 1;exact J88
 unfold V7;rw[h,this];exact⟨by omega,by omega⟩
theorem co1(T:V4t x s1 s2 a1 a2){j:Nat}(hj:j<=x.length):Vr s1 (a1+j)=a1+(j+Pl.comment (x.drop j))/\j+Pl.comment (x.drop j)<=x.length:=by
 obtain⟨t,h⟩:=T.d1 hj;have aK:=O31 (x.drop j);rw[U3]at aK;have Po:∀(u t:Bs),(u++10::t).takeWhile (λ c => !V2f c)=u.takeWhile (λ c => !V2f c):=by
  intro u t;exact J88
 have:∀(u t:Bs),Pl.comment (u++10::t)=Pl.comment u:=by
  intro u t
  match u with
  |[]=>rfl
  |a::u =>
   rw[Un];by_cases ha:a=35;subst ha;simp only[Pl.comment,Po]
   unfold Pl.comment
   split;exact J163
   split;exact J163
   rfl
 unfold Vr;rw[h,this];exact⟨by omega,by omega⟩
theorem isF(T:V4t x s1 s2 a1 a2)(ac:Bs):∀(j m:Nat),isF s1 (a1+j) ac = .ok m->m<=a1+x.length+1->m=a1+(j+ac.length)/\Pl.isF s2 (a2+j) ac = .ok (a2+(j+ac.length)):=by
 induction ac with
 |nil =>
  intro j m h hm;simp only[Pl.isF,V2x.ok.injEq]at h;exact⟨by simp only[Ur];omega,rfl⟩
 |cons w ws ih =>
  intro j m h hm;unfold Pl.isF at h⊢
  split at h
  rename_i hg
  have aa:=(U7.1 hg).1;have aK:=((V4h s1 ws (a1+j+1) (by omega)).1 _ h).1;rw[T.get (by omega),Ua hg];rw[U12]at h⊢;obtain⟨h1,h2⟩:=ih (j+1) m h hm;refine⟨by simp only[Ub];omega,?_⟩;rw[h2];simp only[Ub];congr 1;omega
  cases h
theorem closed(T:V4t x s1 s2 a1 a2){j m:Nat}(hj:j<=x.length)(h:V1b s1 (a1+j) = .ok m)(hm:m<=a1+x.length+1):∃q,m=a1+q/\V1b s2 (a2+j) = .ok (a2+q):=by
 obtain⟨b1,b2⟩:=T.bl1 hj;obtain⟨b3,b4⟩:=T.symm.bl1 hj;obtain⟨o1,o2⟩:=T.co1 b2;obtain⟨o3,o4⟩:=T.symm.co1 b2;have l1:=T.len1;have l2:=T.symm.len1;unfold V1b at h⊢;simp only at h⊢;rw[b1,o1]at h;rw[b3,o3];generalize j+Pl.blanks (x.drop j)+Pl.comment (x.drop (j+Pl.blanks (x.drop j)))=q at h o2⊢;rw[Ud (by omega)]at h;rw[Ud (by omega),T.byte o2]
 split at h
 rename_i bD
 rw[Ua bD];simp only[V2x.ok.injEq]at h;exact⟨q+1,by omega,rfl⟩
 rename_i bD
 rw[Ud bD]
 split at h
 rename_i eS
 rw[Ua eS];obtain⟨h1,h2⟩:=T.isF [13,10] q m h hm;exact⟨_,h1,h2⟩
 cases h
theorem pre(T:V4t x s1 s2 a1 a2){j:Nat}(hj:j<=x.length)(p:Bs)(hp:∀c∈p,c≠10):Pl.pre (s2.drop (a2+j)) p=Pl.pre (s1.drop (a1+j)) p:=by
 obtain⟨t1,h1⟩:=T.d1 hj;obtain⟨t2,h2⟩:=T.symm.d1 hj;rw[h1,h2];generalize x.drop j=u
 induction p generalizing u with
 |nil=>cases u <;> rfl
 |cons a p ih =>
  cases u with
  |nil =>
   simp only[U1c,Pl.pre];have:(10:UInt8)≠a:=λ e=>hp a (by simp) e.symm
   have h2:((10:UInt8)==a)=false:=by simpa using this
   rw[h2];rfl
  |cons c u =>
   simp only[Un,Pl.pre];rw[ih (λ c hc=>hp c (U15 _ hc)) u]
end V4t
structure ItC(a1 a2:Nat)(x y:It):Prop where
 kind:y.kind=x.kind
 b:∃q,x.b=a1+q/\y.b=a2+q
 ws:V53 (KR a1 a2) x.ws y.ws
 val:x.kind=1->∃p q,x.va=a1+p/\y.va=a2+p/\x.vb=a1+q/\y.vb=a2+q
 root:y.root=x.root
 nds:RS 0 x.nds y.nds
structure BoC(a1 a2 e1 e2:Nat)(x y:It):Prop where
 kind:y.kind=x.kind
 e:∃q,e1=a1+q/\e2=a2+q
 ws:V53 (KR a1 a2) x.ws y.ws
 val:x.kind=1->∃p q,x.va=a1+p/\y.va=a2+p/\x.vb=a1+q/\y.vb=a2+q
 root:y.root=x.root
 nds:RS 0 x.nds y.nds
section
variable {E:Vz}(hE:V10 E){x s1 s2:Bs}{a1 a2:Nat}(T:V4t x s1 s2 a1 a2)
include hE T
theorem O77(kind j:Nat)(az:Bs)(hk:kind=2\/kind=3)(xH:az≠[])(BB:∀c∈az,c≠10)(hj:j+az.length<=x.length)(e:Nat)(it:It)(h:V2e E s1 kind (a1+j) az = .ok (e,it))(he:e<=a1+x.length) :
    ∃e' ma,V2e E s2 kind (a2+j) az = .ok (e',ma)/\BoC a1 a2 e e' it ma:=by
 have l1:=T.len1;have l2:=T.symm.len1;obtain⟨b1,b2⟩:=T.bl1 hj;obtain⟨b3,b4⟩:=T.symm.bl1 hj;unfold V2e at h⊢;rw[U12,b1]at h;rw[U12,b3];generalize j+az.length+blanks (x.drop (j+az.length))=q at h b2⊢;cases cS:V1k E s1 (a1+q) with
 |non=>rw[cS]at h;cases h
 |bad c p=>rw[cS]at h;cases h
 |ok r =>
  obtain⟨ws,e0⟩:=r;have aK:=(O_s hE (s:=s1) (n:=a1+q) (by omega)).1 _ _ cS;have hb:=V8 s1 e0 aK.2.1;rw[cS]at h;simp only at h;cases hi:isF s1 (V7 s1 e0) az with
  |bad c p=>rw[hi]at h;cases h
  |ok m =>
   rw[hi]at h;cases h;have hm:=(V4h s1 az _ hb.2).1 _ hi;have eu:0<az.length:=U2b.2 xH;obtain⟨k0,e9,g1,g2,g3,g4,g5⟩:=O5a hE T.two (s1.length+2) (s2.length+2) q e0 [] [] ws b2 (by omega) .nil cS (by omega);have sH:V1k E s2 (a2+q) = .ok (e9,a2+k0):=g4;rw[sH];subst g1;obtain⟨b5,b6⟩:=T.bl1 (j:=k0) (by omega);obtain⟨b7,b8⟩:=T.symm.bl1 (j:=k0) (by omega);rw[b5]at hi;simp only;rw[b7];obtain⟨i1,i2⟩:=T.isF az _ _ hi (by omega);rw[i2];exact⟨_,_,rfl,rfl,⟨_,i1,rfl⟩,g5,λ h=>by (simp only at h;omega),rfl,RS.nil []⟩
theorem Oi7(j:Nat)(hj:j<=x.length)(e:Nat)(it:It)(h:V4b E s1 (a1+j) = .ok (e,it))(he:e<=a1+x.length) :
    ∃e' ma,V4b E s2 (a2+j) = .ok (e',ma)/\BoC a1 a2 e e' it ma:=by
 have l1:=T.len1;have l2:=T.symm.len1;unfold V4b at h⊢;cases cS:V1k E s1 (a1+j) with
 |non=>rw[cS]at h;cases h
 |bad c p=>rw[cS]at h;cases h
 |ok r =>
  obtain⟨ws,e0⟩:=r;have aK:=(O_s hE (s:=s1) (n:=a1+j) (by omega)).1 _ _ cS;have hb:=V8 s1 e0 aK.2.1;rw[cS]at h;simp only at h;cases hi:isF s1 (V7 s1 e0) [61] with
  |bad c p=>rw[hi]at h;cases h
  |ok m =>
   have hm:=(V4h s1 [61] _ hb.2).1 _ hi;simp only[Ub,Ur]at hm;have aA:=V8 s1 m hm.2;rw[hi]at h;simp only at h;cases hr:V1l E s1 (V7 s1 m) 0 with
   |non=>rw[hr]at h;cases h
   |bad c p=>rw[hr]at h;cases h
   |ok v =>
    obtain⟨root,e2,nds⟩:=v;have xF:=(O16 hE s1 258 _ _ [] aA.2).1 _ _ _ hr;rw[hr]at h;cases h;obtain⟨k0,e9,g1,g2,g3,g4,g5⟩:=O5a hE T.two (s1.length+2) (s2.length+2) j e0 [] [] ws hj (by omega) .nil cS (by omega);have sH:V1k E s2 (a2+j) = .ok (e9,a2+k0):=g4;rw[sH];subst g1;obtain⟨b5,b6⟩:=T.bl1 (j:=k0) (by omega);obtain⟨b7,b8⟩:=T.symm.bl1 (j:=k0) (by omega);rw[b5]at hi;simp only;rw[b7];obtain⟨i1,i2⟩:=T.isF [61] _ _ hi (by omega);rw[i2];simp only;generalize k0+blanks (x.drop k0)+[61].length=q at i1⊢;subst i1;obtain⟨b9,Pp⟩:=T.bl1 (j:=q) (by omega);obtain⟨Pq,SZ⟩:=T.symm.bl1 (j:=q) (by omega);rw[b9]at hr;obtain⟨q2,st2,r1,r2,r3⟩:=Oa5 hE T.two Pp hr he;rw[Pq,r2];exact⟨_,_,rfl,rfl,⟨q2,r1,rfl⟩,g5,λ _=>⟨_,q2,b9,rfl,r1,rfl⟩,rfl,r3⟩
theorem Oi8(hN:V4v E)(it:It)(hs:s1.length<=20000000)(h:V2h E s1 a1 = .ok it)(hb:it.b=a1+x.length+1):∃ma,V2h E s2 a2 = .ok ma/\ItC a1 a2 it ma/\ma.a=a2:=by
 have l1:=T.len1;have l2:=T.symm.len1;obtain⟨b1,b2⟩:=T.bl1 (j:=0) (by omega);obtain⟨b3,b4⟩:=T.symm.bl1 (j:=0) (by omega);simp only[U2z]at b1 b3;unfold V2h at h⊢;rw[b1]at h;rw[b3];generalize 0+blanks (x.drop 0)=j at h b2 b4⊢;obtain⟨o1,o2,o3⟩:=O3q hE s1 hs (a1+j) (by omega);cases cj:V2d E s1 (a1+j) with
 |non=>rw[cj]at h;cases h
 |bad c p=>rw[cj]at h;cases h
 |ok r =>
  obtain⟨e,bJ⟩:=r;have cJ:=o3 _ _ cj;have aK:=cJ.le;have cA:=O8m hE hN s1 (a1+j) e bJ (by omega) cj;rw[cj]at h;simp only at h;cases hc:V1b s1 e with
  |bad c p=>rw[hc]at h;cases h
  |ok m =>
   have cX:=(V4n s1 e aK.2).1 _ hc;rw[hc]at h;cases h;simp only at hb;have he:e<=a1+x.length:=by
    exact J147
   have pp:∃e' ma,V2d E s2 (a2+j) = .ok (e',ma)/\BoC a1 a2 e e' bJ ma:=by
    have fY:=T.pre b2 [91,91] (by decide);have jt:=T.pre b2 [91] (by decide);have H7:V14 (s2.drop (a2+j))=V14 (s1.drop (a1+j)):=by
     obtain⟨t1,h1⟩:=T.d1 b2;obtain⟨t2,h2⟩:=T.symm.d1 b2;rw[h1,h2];cases x.drop j with
     |nil=>rfl
     |cons c u=>rfl
    unfold V2d at cj⊢;rw[fY,jt,H7];have ao:∀p:Bs,(∀c∈p,c≠10)->Pl.pre (s1.drop (a1+j)) p=true->j+p.length<=x.length:=by
     intro p hp cV;obtain⟨t1,h1⟩:=T.d1 b2;rw[h1]at cV;have:∀(u p:Bs),(∀c∈p,c≠10)->Pl.pre (u++10::t1) p=true->p.length<=u.length:=by
      intro u
      induction u with
      |nil =>
       intro p hp cV;cases p with
       |nil=>simp
       |cons a p =>
        simp only[U1c,Pl.pre,Uf,U1v]at cV;exact absurd cV.1.symm (hp a (by simp))
      |cons c u ih =>
       intro p hp cV;cases p with
       |nil=>simp
       |cons a p =>
        simp only[Un,Pl.pre,Uf]at cV;have:=ih p (λ c hc=>hp c (U15 _ hc)) cV.2;simp only[Ub];omega
     have:=this _ p hp cV;rw[U3]at this;omega
    split at cj
    rename_i cV
    rw[Ua cV];exact O77 hE T 3 j [93,93] (.inr rfl) (by simp) (by decide) (by have:=ao [91,91] (by decide) cV;simpa using this) e bJ cj he
    rename_i cV
    rw[Ud cV]
    split at cj
    rename_i mb
    rw[Ua mb];exact O77 hE T 2 j [93] (.inl rfl) (by simp) (by decide) (by have:=ao [91] (by decide) mb;simpa using this) e bJ cj he
    rename_i mb
    rw[Ud mb]
    split at cj
    rename_i aN
    rw[Ua aN];cases cj;exact⟨_,_,rfl,rfl,⟨j,rfl,rfl⟩,.nil,λ h=>by (cases h),rfl,RS.nil []⟩
    rename_i aN
    rw[Ud aN];exact Oi7 hE T j b2 e bJ cj he
   obtain⟨e',ma,q1,q2⟩:=pp;obtain⟨k,rfl,rfl⟩:=q2.e;rw[q1];simp only;obtain⟨q,r1,r2⟩:=T.closed (j:=k) (by omega) hc (by omega);rw[r2];exact⟨_,rfl,⟨q2.kind,⟨q,r1,rfl⟩,q2.ws,q2.val,q2.root,q2.nds⟩,rfl⟩
end
theorem O5f{a1 a2:Nat}{l m:List KW}(h:V53 (KR a1 a2) l m):m.map (·.1)=l.map (·.1):=by
 induction h with
 |nil=>rfl
 |cons h _ ih=>rw[U2i,U2i,ih,h.1]
