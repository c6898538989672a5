/- The proof's part 27. -/
import Derived.Test.YtnkgknbdaiakgaaGreatDoorP25
import Derived.Test.YtnkgknbdaiakgaaGreatDoorP26
set_option maxHeartbeats 16000000
set_option linter.all false
namespace Go.Proofs.YtnkgknbdaiakgaaGreatDoor.Pl
def isQ(q:UInt8):Prop:=q=34\/q=39
theorem Oi1{r:Bs}(h:Om r){q:UInt8}(hq:isQ q)(u:Bs):run q (u++r)=run q u:=by
 unfold run;rw[O38 h];rintro c hc;rcases hq with rfl|rfl <;> rcases hc with rfl|rfl|rfl|rfl|rfl|rfl|rfl|rfl <;> decide
theorem Ofr(u r:Bs)(d:Nat)(h:d<=u.length):V1u (u++r) d=V1u u d:=by
 induction u generalizing d with
 |nil=>simp only[Ur,Nat.le_zero]at h;subst h;cases r <;> rfl
 |cons c u ih =>
  cases d with
  |zero=>rfl
  |succ d =>
   rw[Un];unfold V1u;rw[ih d (by simpa using h)]
theorem O3a(u r:Bs)(p d:Nat)(h:p+d<=u.length):V15 (u++r) p d=V15 u p d:=by
 unfold V15;rw[Ox u r p (by omega),Ofr _ _ _ (by rw[U3];omega),U1s (by rw[U3];omega)]
theorem Oa6(T)(w r r':Bs)(m:Nat)(t:Bs)(o:Bool)(h:V3o T (w++r) = .go m t o)(hm:m<=w.length):V3o T (w++r') = .go m t o:=by
 have h2:2<=m:=by
  unfold V3o V3x at h
  split at h
  rename_i x hx
  cases h
  split at hx;cases hx
  split at hx;cases hx;simp
  split at hx
  split at hx;cases hx;simp
  cases hx
  split at hx
  split at hx;cases hx;simp
  cases hx
  cases hx
  cases h
 match w,hm with
 |[],hm=>simp at hm;omega
 |[a],hm=>simp at hm;omega
 |a::b::w,hm =>
  unfold V3o at h⊢;have e0:∀r:Bs,(a::b::w++r).drop (0+1)=b::(w++r):=λ r=>rfl
  rw[V6a T _ 0 b (w++r) (e0 r)]at h;rw[V6a T _ 0 b (w++r') (e0 r')];cases hi:V3k T b 0 7 with
  |some k=>rw[hi]at h;exact h
  |none =>
   rw[hi]at h;simp only at h⊢
   split at h
   rename_i x hx
   cases h
   split at hx
   rename_i xD
   rw[Ua xD];cases hu:V15 (a::b::w++r) (0+2) 4 with
   |bad c p=>rw[hu]at hx;cases hx
   |ok n =>
    rw[hu]at hx;cases hx;simp only at hm;rw[O3a (a::b::w) r (0+2) 4 (by omega)]at hu;rw[O3a (a::b::w) r' (0+2) 4 (by omega),hu]
   rename_i xD
   rw[Ud xD]
   split at hx
   rename_i Pg
   rw[Ua Pg];cases hu:V15 (a::b::w++r) (0+2) 8 with
   |bad c p=>rw[hu]at hx;cases hx
   |ok n =>
    rw[hu]at hx;cases hx;simp only at hm;rw[O3a (a::b::w) r (0+2) 8 (by omega)]at hu;rw[O3a (a::b::w) r' (0+2) 8 (by omega),hu]
   cases hx
   cases h
theorem O63(T)(l:Bs)(p:Nat)(h:V3o T l = .bad p)(h0:0<l.length):p<=l.length:=by
 have uZ:∀d c q,V15 l (0+2) d = .bad c q->2<=l.length->q<=l.length:=by
  intro d c q hu h2;unfold V15 at hu;have:=(V5v (l.drop (0+2)) d).2;rw[U3]at this
  split at hu;cases hu;omega
  split at hu <;> cases hu;omega
 unfold V3o V3x at h
 split at h;cases h
 rename_i c' p' hx
 cases h
 split at hx;cases hx;exact U2 _
 rename_i c r hd
 have:=U1q List.length hd;rw[U3]at this;simp only[Ub]at this
 split at hx;cases hx
 split at hx
 split at hx;cases hx
 rename_i hu;cases hx;exact uZ _ _ _ hu (by omega)
 split at hx
 split at hx;cases hx
 rename_i hu;cases hx;exact uZ _ _ _ hu (by omega)
 cases hx;omega
theorem O3p(w r r':Bs)(m:Nat)(h:feed (w++r) = .ok m)(hw:w≠[])(hm:m<=w.length):feed (w++r') = .ok m:=by
 match w,hw with
 |[a],_ =>
  simp only[Un,U1c,Ub,Ur]at h hm⊢;by_cases bD:a=10;subst bD;exact h
  by_cases eS:a=13
  subst eS;unfold feed at h
  split at h;rename_i e;simp at e;exact J38;cases h
  exact J84
  exact J181
 |a::b::w,_ =>
  simp only[Un]at h⊢;by_cases bD:a=10;subst bD;exact h
  by_cases eS:a=13
  subst eS;by_cases hb:b=10;subst hb;exact h
  unfold feed at h
  split at h;rename_i e;simp at e;rename_i e;simp only[U1a]at e;exact absurd e.2.1 hb;cases h
  exact J84
  exact J181
theorem Ofs(w r r':Bs)(hw:w≠[]):V2v (w++r')=V2v (w++r):=by
 match w,hw with
 |a::w,_=>rfl
theorem O73{q:UInt8}(hq:isQ q)(u:Bs){r:Bs}(h:Om r):V3i q (u++r)=V3i q u:=by
 unfold V3i O1q;rw[Oi1 h hq]
theorem Oft{q:UInt8}(hq:isQ q)(w:Bs){r r':Bs}(hr:Om r)(eH:Om r')(hw:w≠[]) :
    (∀x,V1e q (w++r)=some x->(∀m t o,x = .go m t o->m<=w.length->V1e q (w++r')=some x))/\(V1e q (w++r)=none->V1e q (w++r')=none):=by
 match w,hw with
 |c::w,_ =>
  rw[Un,Un];unfold V1e;simp only
  split;refine⟨λ x hx m t o he hm=>?_,λ h=>by cases h⟩;rw[<-hx,<-Un,<-Un,O73 hq _ hr,O73 hq _ eH]
  refine⟨λ x hx m t o he hm=>?_,λ hx=>?_⟩
  subst he
  split at hx;cases hx
  rename_i n hf
  cases hx;rw[<-Un]at hf;rw[<-Un,O3p (c::w) r r' (n+1) hf (by simp) hm];simp only;rw[<-Un,U1s hm,U1s hm]
  cases hx
  split at hx
  rename_i hf
  rw[<-Un]at hf;rw[<-Un,O3p (c::w) r r' 0 hf (by simp) (by simp)];cases hx
  cases hx
theorem Oi2:∀(f:Nat)(first:Bool)(u r r':Bs)(m:Nat),Ot f first (u++r) = .ok m->m<u.length->u.length<f->Ot f first (u++r') = .ok m:=by
 intro f
 induction f with
 |zero=>intro first u r r' m _ _ h;omega
 |succ f ih =>
  intro first u r r' m h hm hf
  have hb:blanks (u++r)<=m:=by
   unfold Ot at h
   split at h;cases h;exact U2 _
   split at h;cases h
   split at h;cases h
   cases h;exact U2 _
   split at h;cases h
   exact J38
  have aA:blanks (u++r')=blanks (u++r):=by
   unfold blanks;rw[O29 _ u r r' (by unfold blanks at hb;omega)]
  unfold Ot at h⊢;rw[aA];rw[Ox u r _ (by omega)]at h;rw[Ox u r' _ (by omega)];generalize blanks (u++r)=b at h hb⊢;have hl:(u.drop b).length=u.length-b:=U3
  match hv:u.drop b,hl with
  |[],hl=>simp at hl;omega
  |c::v,hl =>
   rw[hv]at h;simp only[Un]at h⊢;rw[<-Un]at h⊢;cases j7:feed (c::v++r) with
   |bad k p=>rw[j7]at h;cases h
   |ok n =>
    rw[j7]at h;cases n with
    |zero =>
     rw[O3p (c::v) r r' 0 j7 (by simp) (by simp)];exact h
    |succ n =>
     simp only at h;cases hg:Ot f false ((c::v++r).drop (n+1)) with
     |bad k p=>rw[hg]at h;cases h
     |ok k =>
      rw[hg]at h;simp only[V2x.ok.injEq]at h;have aK:n+1<=(c::v).length:=by omega
      rw[O3p (c::v) r r' (n+1) j7 (by simp) aK];simp only;rw[Ox _ _ _ aK]at hg;rw[Ox _ _ _ aK,ih false ((c::v).drop (n+1)) r r' k hg (by rw[U3];omega) (by rw[U3];omega)];simp only;rw[h]
theorem Ofu(c:UInt8)(w r r':Bs)(m:Nat)(t:Bs)(o:Bool)(h:V42 (c::w++r) = .go m t o)(hm:m<(c::w).length):V42 (c::w++r') = .go m t o:=by
 unfold V42 V2t at h⊢;have e:∀r:Bs,(c::w++r).drop 1=w++r:=λ r=>rfl
 rw[e]at h;rw[e]
 split at h
 rename_i n hn
 split at hn;cases hn
 rename_i k hk
 cases hn;cases h;simp only[Ub]at hm;have h1:Ot ((w++r).length+(w++r').length+1) true (w++r) = .ok k:=by
  rw[O4r _ ((w++r).length+1) true (w++r) (by omega) (by omega)];exact hk
 have h2:=Oi2 _ true w r r' k h1 (by omega) (by simp only[Ug];omega);rw[O4r ((w++r').length+1) ((w++r).length+(w++r').length+1) true (w++r') (by omega) (by omega),h2]
 cases h
def SL(step:Bs->Option SR):Prop:=∀w r r' m t o,Om r->Om r'->w≠[]->step (w++r)=some (.go m t o)->m<=w.length->(o=false->m<w.length)->step (w++r')=some (.go m t o)
theorem O74(T)(long:Bool){q:UInt8}(hq:isQ q):SL (V17 T long q):=by
 intro w r r' m t o hr eH hw h hm ho;unfold V17 at h⊢
 split at h
 rename_i hl
 rw[Ua hl];obtain⟨c1,c2⟩:=Oft hq w hr eH hw
 split at h
 rename_i n9
 rw[Ua n9];simp only[Uc]at h⊢;unfold V2q at h⊢;cases hc:V1e q (w++r) with
 |some x =>
  rw[hc]at h;simp only at h;rw[c1 x hc m t o h hm];exact h
 |none =>
  rw[hc]at h;rw[c2 hc,Ofs w r r' hw];exact h
 rename_i n9
 rw[Ud n9];simp only[Uc]at h⊢;unfold V30 at h⊢;cases hc:V1e q (w++r) with
 |some x =>
  rw[hc]at h;simp only at h;rw[c1 x hc m t o h hm];exact h
 |none =>
  rw[hc]at h;rw[c2 hc]
  match w,hw with
  |c::v,_ =>
   simp only[Un]at h⊢;by_cases lh:(c.toNat==92)=true
   rw[Ua lh]at h;rw[Ua lh]
   match v with
   |[] =>
    exfalso;simp only[U1c]at h;simp only[Ub,Ur]at hm ho;have ao:1<=m/\o=false:=by
     split at h;have:=O2v _ _ _ _ _ h;exact⟨this.2.1,V46 _ _ _ _ _ h⟩
     split at h;have:=V4p _ _ _ _ (by simp) h;exact⟨this.2.1,this.2.2.2.1⟩
     have:=O2v _ _ _ _ _ h;exact⟨this.2.1,V46 _ _ _ _ _ h⟩
    have:=ho ao.2;omega
   |d::v =>
    simp only[Un]at h⊢;by_cases hd:V5a d=true;rw[Ua hd]at h;rw[Ua hd];have ao:=V4p _ _ _ _ (by simp) h;exact Ofu c (d::v) r r' m t o h (ho ao.2.2.2.1)
    rw[Ud hd]at h;rw[Ud hd];exact Oa6 T (c::d::v) r r' m t o h hm
   rw[Ud lh]at h;rw[Ud lh];exact h
 rename_i hl
 rw[Ud hl]
 split at h
 rename_i n9
 rw[Ua n9]
 match w,hw with
 |c::v,_=>exact h
 rename_i n9
 rw[Ud n9]
 match w,hw with
 |c::v,_ =>
  simp only[Un]at h⊢;unfold V4d at h⊢;simp only at h⊢;by_cases Eh:(c.toNat==q.toNat)=true;rw[Ua Eh]at h;rw[Ua Eh];exact h
  rw[Ud Eh]at h;rw[Ud Eh];by_cases lh:(c.toNat==92)=true;rw[Ua lh]at h;rw[Ua lh];simp only[Uc]at h⊢;exact Oa6 T (c::v) r r' m t o h hm
  rw[Ud lh]at h;rw[Ud lh];exact h
theorem Oav(T)(long:Bool)(q c:UInt8)(r:Bs):∃sr,V17 T long q (c::r)=some sr/\∀p,sr = .bad p->p<=(c::r).length:=by
 have hit:∀p,V2v (c::r) = .bad p->p<=(c::r).length:=by
  intro p h;unfold V2v at h;simp only at h
  split at h;cases h
  cases h;simp
 have pO:∀x,V1e q (c::r)=some x->∀p,x = .bad p->p<=(c::r).length:=by
  intro x hx p he;subst he;unfold V1e at hx;simp only at hx
  split at hx
  simp only[Uc]at hx;unfold V3i at hx;simp only at hx
  split at hx <;> cases hx
  split at hx;cases hx
  cases hx
  rename_i k p' hf
  cases hx;have:=V48 _ _ _ hf;simp;omega
 unfold V17
 split
 split
 refine⟨_,rfl,λ p h=>?_⟩;unfold V2q at h
 split at h;rename_i x hx;exact pO x hx p h
 exact hit p h
 refine⟨_,rfl,λ p h=>?_⟩;unfold V30 at h
 split at h;rename_i x hx;exact pO x hx p h
 simp only at h
 split at h
 split at h;exact O63 T _ p h (by simp)
 split at h
 unfold V42 V2t at h
 split at h;cases h
 rename_i k p' hx
 cases h
 split at hx
 rename_i k2 p2 hf
 cases hx;have aK:∀(f:Nat)(b:Bool)(l:Bs)(k p:Nat),Ot f b l = .bad k p->p<=l.length:=by
  intro f
  induction f with
  |zero=>intro b l k p h;simp[Ot]at h
  |succ f ih =>
   intro b l k p h;have hb:=O2u l;unfold Ot at h
   split at h;cases h
   rename_i c r hd
   have hl:(c::r).length=l.length-blanks l:=by rw[<-hd,U3]
   simp only[Ub]at hl
   split at h
   rename_i k' p' hf
   have:=V48 _ _ _ hf;exact J38
   split at h;exact J38
   cases h
   rename_i n hn
   have:=V3s _ _ hn
   split at h
   rename_i k' p' hf
   have:=ih _ _ _ _ hf;rw[U3]at this;simp only[Ub]at this;cases h;simp only[Ub]at *;omega
   cases h
 have:=aK _ _ _ _ _ hf;rw[U3]at this;simp only[Ub]at this⊢;omega
 cases hx
 exact O63 T _ p h (by simp)
 exact hit p h
 split
 refine⟨_,rfl,λ p h=>?_⟩;unfold V4k at h;simp only at h
 split at h;cases h
 exact hit p h
 unfold V4d;simp only
 split;exact⟨_,rfl,λ p h=>by cases h⟩
 split;exact⟨_,rfl,λ p h=>O63 T _ p h (by simp)⟩
 exact⟨_,rfl,λ p h=>hit p h⟩
theorem O64(T)(long:Bool)(q:UInt8)(l:Bs):∀(f n:Nat)(out:Bs),n<=l.length->l.length<n+f ->
    V2m (V17 T long q) l f n out ≠ .non/\(∀t k,V2m (V17 T long q) l f n out = .ok (t,k)->n<k/\k<=l.length)/\(∀c p,V2m (V17 T long q) l f n out = .bad c p->p<=l.length/\c=3):=by
 intro f
 induction f with
 |zero=>intro n out h1 h2;omega
 |succ f ih =>
  intro n out hn hf;unfold V2m
  split;exact⟨by simp,λ t k h=>by simp at h,λ c p h=>by cases h;exact⟨U2 _,rfl⟩⟩
  rename_i c r hd
  have ao:(c::r).length=l.length-n:=by rw[<-hd,U3]
  obtain⟨sr,h1,h2⟩:=Oav T long q c r;rw[h1];cases sr with
  |bad p =>
   have:=h2 p rfl;exact⟨by simp,λ t k h=>by simp at h,λ c p h=>by cases h;exact⟨by omega,rfl⟩⟩
  |go m t over =>
   have:=V3c T long q _ m t over h1;simp only[Ub]at ao this;simp only
   split;exact⟨by simp,λ t k h=>by (simp only[Va.ok.injEq,U6]at h;omega),λ c p h=>by simp at h⟩
   obtain⟨i1,i2,i3⟩:=ih (n+m) (out++t) (by omega) (by omega);exact⟨i1,λ t k h=>by (have:=i2 t k h;omega),i3⟩
theorem Oa7{step:Bs->Option SR}(hS:SL step)(ao:∀l m t o,step l=some (.go m t o)->1<=m/\m<=l.length)(u r r':Bs)(hr:Om r)(eH:Om r'):∀(f f' n:Nat)(out t:Bs)(k:Nat),V2m step (u++r) f n out = .ok (t,k)->k<=u.length->u.length<n+f' ->
    V2m step (u++r') f' n out = .ok (t,k):=by
 intro f
 induction f with
 |zero=>intro f' n out t k h;simp[V2m]at h
 |succ f ih =>
  intro f' n out t k h hk hf;have aB:n<k:=by
   exact J86
  match f',hf with
  |0,hf=>omega
  |f'+1,hf =>
  unfold V2m at h⊢;rw[Ox u r n (by omega)]at h;rw[Ox u r' n (by omega)];have hl:(u.drop n).length=u.length-n:=U3
  match hv:u.drop n,hl with
  |[],hl=>simp at hl;omega
  |c::v,hl =>
   rw[hv]at h;simp only[Un]at h⊢;rw[<-Un]at h⊢
   split at h;cases h
   cases h
   rename_i m t' over hs
   have hm:=ao _ _ _ _ hs
   split at h
   rename_i ho
   simp only[Va.ok.injEq,U6]at h;rw[hS (c::v) r r' m t' over hr eH (by simp) hs (by omega) (λ e=>by rw[ho]at e;cases e)];simp only;rw[Ua ho];simp only[Va.ok.injEq,U6];exact h
   rename_i ho
   have LB:n+m<k:=by
    exact J86
   rw[hS (c::v) r r' m t' over hr eH (by simp) hs (by omega) (λ _=>by omega)];simp only;rw[Ud ho];exact ih f' (n+m) (out++t') t k h hk (by omega)
theorem O5b(T)(l:Bs):Vj T l ≠ .non/\(∀t k,Vj T l = .ok (t,k)->1<=k/\k<=l.length)/\(∀c p,Vj T l = .bad c p->p<=l.length/\c≠0):=by
 unfold Vj
 split;exact⟨by simp,λ t k h=>by simp at h,λ c p h=>by cases h;exact⟨U2 _,by decide⟩⟩
 rename_i c r
 split
 split
 rename_i hl
 have h3:=O57 _ hl;cases hf:feed ((c::r).drop 3) with
 |bad k p =>
  have:=V48 _ _ _ hf;refine⟨by simp,λ t k h=>by simp at h,λ c' p' h=>?_⟩;cases h;have h4:(c::r).drop 3≠[]:=by intro e;rw[e]at hf;simp[feed]at hf
  have h5:0<((c::r).drop 3).length:=U2b.2 h4;rw[U3]at h5;exact⟨by omega,by omega⟩
 |ok m =>
  have:=V3s _ _ hf;rw[U3]at this;obtain⟨h1,h2,h4⟩:=O64 T true c (c::r) ((c::r).length+2) (3+m) [] (by omega) (by omega);exact J87
 obtain⟨h1,h2,h4⟩:=O64 T false c (c::r) ((c::r).length+2) 1 [] (by simp) (by omega);exact J87
 exact⟨by simp,λ t k h=>by simp at h,λ c' p h=>by cases h;exact⟨by simp,by decide⟩⟩
theorem O5m(T)(long:Bool)(q:UInt8):∀l m t o,V17 T long q l=some (.go m t o)->1<=m/\m<=l.length:=λ l m t o h=>(V3c T long q l m t o h).2
theorem Okb(T):Loc (Vj T):=by
 intro u r r' t k hr eH h hk;have bz:=(O5b T (u++r)).2.1 t k h
 match u,hk with
 |[],hk=>simp at hk;omega
 |c::u,hk =>
  rw[Un]at h⊢;unfold Vj at h⊢;simp only at h⊢
  split at h
  rename_i hq
  rw[Ua hq];refine Z274 ?_;intro hQ;rw[<-Un]at h⊢;rw[O39 (c::u) hr]at h;rw[O39 (c::u) eH]
  split at h
  rename_i hl
  rw[Ua hl];have h3:=O57 _ hl;rw[Ox (c::u) r 3 h3]at h;rw[Ox (c::u) r' 3 h3];cases hf:feed ((c::u).drop 3++r) with
  |bad k p=>rw[hf]at h;cases h
  |ok m =>
   rw[hf]at h;simp only at h;have Ph:=V3s _ _ hf;have dM:=(O64 T true c (c::u++r) ((c::u++r).length+2) (3+m) [] (by simp only[Ug,U3]at Ph⊢;omega) (by omega)).2.1 _ _ h;have a8:(c::u).drop 3≠[]:=by
    intro e;have:=U1q List.length e;rw[U3]at this;simp only[Ur]at this;omega
   rw[O3p _ r r' m hf a8 (by rw[U3];omega)];simp only;exact Oa7 (O74 T true hQ) (O5m T true c) (c::u) r r' hr eH _ _ _ _ t k h hk (by simp only[Ug];omega)
  rename_i hl
  rw[Ud hl];exact Oa7 (O74 T false hQ) (O5m T false c) (c::u) r r' hr eH _ _ _ _ t k h hk (by simp only[Ug];omega)
  cases h
structure SN(b:Nat)(x y:Nd):Prop where
 kind:x.kind=y.kind
 text:x.text=y.text
 keys:x.keys=y.keys
 spots:x.spots.length=y.spots.length
 subs:x.subs=y.subs.map (b+·)
 own:x.owner=if y.owner=0 then 0 else b+y.owner
structure RS(b:Nat)(st1 st2:Vc):Prop where
 len:st1.length=b+st2.length
 at':∀j y,st2[j]?=some y->∃x,st1[b+j]?=some x/\SN b x y
theorem RS.get{b:Nat}{st1 st2:Vc}(h:RS b st1 st2)(j:Nat):(st1[b+j]?=none/\st2[j]?=none)\/∃x y,st1[b+j]?=some x/\st2[j]?=some y/\SN b x y:=by
 cases hy:st2[j]? with
 |none =>
  left;refine⟨?_,rfl⟩;rw[List.getElem?_eq_none_iff]at hy⊢;have:=h.len;omega
 |some y =>
  obtain⟨x,hx,hs⟩:=h.at' j y hy;exact .inr ⟨x,y,hx,rfl,hs⟩
theorem RS.nil(st:Vc):RS st.length st []:=⟨by simp,λ j y h=>by simp at h⟩
theorem RS.app{b:Nat}{st1 st2:Vc}(h:RS b st1 st2){x y:Nd}(hs:SN b x y):RS b (st1++[x]) (st2++[y]):=by
 refine⟨by simp[h.len];omega,λ j z hz=>?_⟩;by_cases hj:j<st2.length;rw[U9 hj]at hz;obtain⟨x',hx,kB⟩:=h.at' j z hz;have:=h.len;exact⟨x',by rw[U9 (by omega)];exact hx,kB⟩
 have h2:=(U7.1 hz).1;simp only[Ug,U19]at h2;have:j=st2.length:=by omega
 subst this;simp at hz;subst hz;exact⟨x,by rw[<-h.len];simp,hs⟩
theorem RS.mod{b:Nat}{st1 st2:Vc}(h:RS b st1 st2)(t:Nat)(f g:Nd->Nd)(Aq:∀x y,SN b x y->SN b (f x) (g y)):RS b (st1.modify (b+t) f) (st2.modify t g):=by
 refine⟨by simp[h.len],λ j z hz=>?_⟩;rw[Oz]at hz;rw[Oz]
 split at hz
 rename_i e
 subst e;rw[Ua rfl];cases hy:st2[t]? with
 |none=>rw[hy]at hz;simp at hz
 |some y =>
  rw[hy]at hz;simp only[U18,Uc]at hz;subst hz;obtain⟨x,hx,hs⟩:=h.at' t y hy;rw[hx];exact⟨_,rfl,Aq x y hs⟩
 rename_i e
 rw[Ud (by omega)];exact h.at' j z hz
theorem SN.put{b:Nat}{x y:Nd}(h:SN b x y)(w:Bs)(sp Ei:Nat×Nat)(i:Nat):SN b (Vy x w sp (b+i)) (Vy y w Ei i) :=
 ⟨h.kind,h.text,by simp[Vy,h.keys],by simp[Vy,h.spots],by simp[Vy,h.subs],h.own⟩
theorem RS.put{b:Nat}{st1 st2:Vc}(h:RS b st1 st2)(t:Nat)(w:Bs)(sp Ei:Nat×Nat)(i:Nat):RS b (Vo st1 (b+t) w sp (b+i)) (Vo st2 t w Ei i) :=
 h.mod t _ _ λ _ _ hs=>hs.put w sp Ei i
theorem RS.kind8{b:Nat}{st1 st2:Vc}(h:RS b st1 st2)(t:Nat)(hk:kind8 st1 (b+t)=true):kind8 st2 t=true:=by
 unfold Pl.kind8 at hk⊢;have hl:=h.len;rcases h.get t with⟨h1,h2⟩|⟨x,y,h1,h2,hs⟩
 rw[h1]at hk;simp at hk
 rw[h1]at hk;rw[h2];simp only[Uf,Ux,U1v]at hk⊢;have e1:=hs.kind;have e2:=U1q List.length hs.keys;have e3:=hs.spots;have e4:=U1q List.length hs.subs;rw[Ul]at e4;omega
theorem RS.room{b:Nat}{st1 st2:Vc}(h:RS b st1 st2)(hk:room st1=true):room st2=true:=by
 unfold Pl.room at hk⊢;simp only[Ux]at hk⊢;have:=h.len;omega
theorem RS.sub{b:Nat}{st1 st2:Vc}(h:RS b st1 st2)(t:Nat)(w:Bs):(V12 st1 (b+t) w = .non/\V12 st2 t w = .non)\/(V12 st1 (b+t) w = .no/\V12 st2 t w = .no)\/∃i,V12 st1 (b+t) w = .yes (b+i)/\V12 st2 t w = .yes i:=by
 unfold V12;rcases h.get t with⟨h1,h2⟩|⟨x,y,h1,h2,hs⟩
 rw[h1,h2];exact .inl ⟨rfl,rfl⟩
 rw[h1,h2];simp only;rw[hs.keys];cases hf:y.keys.findIdx? (λ x=>x==w) with
 |none=>exact .inr (.inl ⟨rfl,rfl⟩)
 |some j =>
  simp only;rw[hs.subs,Uq];cases hj:y.subs[j]? with
  |none=>exact .inl ⟨rfl,rfl⟩
  |some i =>
   simp only[U18];have:=h.len;by_cases hi:i<st2.length;rw[Ua (by omega),Ua hi];exact .inr (.inr ⟨i,rfl,rfl⟩)
   rw[Ud (by omega),Ud hi];exact .inl ⟨rfl,rfl⟩
theorem RS.owner{b:Nat}{st1 st2:Vc}(h:RS b st1 st2)(i:Nat):V37 st1 (b+i)=if V37 st2 i=0 then 0 else b+V37 st2 i:=by
 unfold V37;rcases h.get i with⟨h1,h2⟩|⟨x,y,h1,h2,hs⟩
 rw[h1,h2];simp
 rw[h1,h2];exact hs.own
theorem Oeo(b a1 a2:Nat):∀(th e9:List KW)(table into d:Nat)(st1 st2 aT:Vc)(i1 d':Nat),V53 (KR a1 a2) th e9->RS b st1 st2->V3m (b+table) th (b+into) d st1 = .ok (i1,d',aT) ->
    ∃i2 cU,i1=b+i2/\V3m table e9 into d st2 = .ok (i2,d',cU)/\RS b aT cU:=by
 intro th
 induction th with
 |nil=>intro e9 table into d st1 st2 aT i1 d' _ _ h;simp[V3m]at h
 |cons v rest ih =>
  intro e9 table into d st1 st2 aT i1 d' hk hr h;cases hk with
  |cons hv aG =>
   rename_i v2 u'
   obtain⟨w,u1,u2⟩:=v;obtain⟨w',Pi,Pj⟩:=v2;obtain⟨hw,p,q,e1,e2⟩:=hv;simp only at hw;subst hw;unfold V3m at h⊢;rcases hr.sub into w with⟨h1,h2⟩|⟨h1,h2⟩|⟨i,h1,h2⟩
   rw[h1]at h;cases h
   rw[h1]at h;rw[h2];simp only at h⊢;cases aG with
   |nil =>
    simp only[Va.ok.injEq,U6]at h;obtain⟨rfl,rfl,rfl⟩:=h;exact⟨into,st2,rfl,rfl,hr⟩
   |cons hb hc =>
    simp only at h⊢
    split at h;cases h
    rename_i hd
    rw[Ud hd]
    split at h
    rename_i ju
    simp only[Uf]at ju;rw[hr.kind8 into ju.1,hr.room ju.2];simp only[Bool.and_self,U1j];have hl:=hr.len;have d9:RS b (Vo (st1++[V2b (b+table+1)]) (b+into) w (u1,u2) st1.length) (Vo (st2++[V2b (table+1)]) into w (Pi,Pj) st2.length):=by
     rw[hl];exact (hr.app (x:=V2b (b+table+1)) (y:=V2b (table+1)) ⟨rfl,rfl,rfl,rfl,rfl,((Ud (show ¬(V2b (table+1)).owner=0 from Nat.succ_ne_zero table)).trans (U12 b table 1).symm).symm⟩).put into w _ _ st2.length
    rw[hl]at h d9;exact ih _ table st2.length (d+1) _ _ aT i1 d' (.cons hb hc) d9 h
    cases h
   rw[h1]at h;rw[h2];simp only at h⊢;cases aG with
   |nil=>cases h
   |cons hb hc =>
    simp only at h⊢;have ho:=hr.owner i
    split at h
    rename_i A3
    rw[ho]at A3
    split at A3;omega
    rw[Ua (by omega)];exact ih _ table i (d+1) st1 st2 aT i1 d' (.cons hb hc) hr h
    cases h
def V9n(x s1 s2:Bs)(a1 a2:Nat)(D:Nat)(V1 V2:V24):Prop:=∀d j b st1 st2 i e aT,D<=d->j<=x.length->RS b st1 st2->V1 d (a1+j) st1 = .ok (i,e,aT)->e<=a1+x.length ->
    ∃k i2 cU,e=a1+k/\i=b+i2/\V2 d (a2+j) st2 = .ok (i2,a2+k,cU)/\RS b aT cU
section
variable {E:Vz}(hE:V10 E){x s1 s2:Bs}{a1 a2:Nat}(T:Two x s1 s2 a1 a2){V1 V2:V24}(hV:VLe s1 V1){D:Nat}(hS:V9n x s1 s2 a1 a2 D V1 V2)
include hE T hV hS
theorem Oa4(b table j d:Nat)(hD:D<=d+1)(st1 st2 aT:Vc)(e:Nat)(hj:j<=x.length)(hr:RS b st1 st2)(jS:∀ws into d' st',V3m (b+table) ws (b+table) d st1 = .ok (into,d',st')->d<=d')(h:V1s E V1 s1 (b+table) (a1+j) d st1 = .ok (e,aT))(he:e<=a1+x.length) :
    ∃k cU,e=a1+k/\j<k/\V1s E V2 s2 table (a2+j) d st2 = .ok (a2+k,cU)/\RS b aT cU:=by
 have T1:=T.h1;have T2:=T.h2;unfold V1s at h⊢;cases hk:V1k E s1 (a1+j) with
 |non=>rw[hk]at h;cases h
 |bad c p=>rw[hk]at h;cases h
 |ok r =>
  obtain⟨ws,e0⟩:=r;obtain⟨h1,h2,h3,_,_⟩:=(O_s hE (s:=s1) (n:=a1+j) (by omega)).1 _ _ hk;have hb:=V8 s1 e0 h2;rw[hk]at h;simp only at h;cases hw:V3m (b+table) ws (b+table) d st1 with
  |non=>rw[hw]at h;cases h
  |bad c p=>rw[hw]at h;cases h
  |ok r2 =>
   obtain⟨into,d',dR⟩:=r2;have pJ:=jS _ _ _ _ hw;rw[hw]at h;simp only at h
   split at h
   rename_i eV
   have aa:=byteAt_lt eV (by decide);have aA:=V8 s1 (V7 s1 e0+1) (by omega);cases hv:V1 (d'+1) (V7 s1 (V7 s1 e0+1)) dR with
   |non=>rw[hv]at h;cases h
   |bad c p=>rw[hv]at h;cases h
   |ok r3 =>
    obtain⟨i,e2,en⟩:=r3;have xF:=(hV (d'+1) (V7 s1 (V7 s1 e0+1)) dR aA.2).1 _ _ _ hv;rw[hv]at h;simp only at h;have FG:e=e2:=by
     split at h;cases h
     split at h;simp only[Va.ok.injEq,U6]at h;exact h.1.symm
     cases h
    subst FG;obtain⟨k0,e9,g1,g2,g3,g4,g5⟩:=O5a hE T (s1.length+2) (s2.length+2) j e0 [] [] ws hj (by omega) .nil hk (by omega);subst g1;have sH:V1k E s2 (a2+j) = .ok (e9,a2+k0):=g4;rw[sH];refine Z245 ?_;intro k1 bx;rw[bx]at eV aa hb aA hv xF;rw[U12]at hv aA xF;refine Z244 ?_;intro k2 cb;rw[cb]at hv aA xF;obtain⟨q1,q2⟩:=T.blanks bx (by omega);obtain⟨q3,q4⟩:=T.blanks cb (by omega);obtain⟨i2,Ej,w1,w2,w3⟩:=Oeo b a1 a2 ws e9 table table d st1 st2 dR into d' g5 hr hw;subst w1;rw[w2];simp only;rw[q1,T.byte (by omega),Ua eV,U12,q3];obtain⟨k3,i3,Pk,v1,v2,v3,v4⟩:=hS (d'+1) k2 b dR Ej i e en (by omega) (by omega) w3 hv he;rw[v3];simp only;rcases g5.last with⟨l1,l2⟩|⟨y,z,l1,l2,l3⟩
    rw[U31]at l1;exact absurd l1 h3
    obtain⟨wy,ya,yb⟩:=y;obtain⟨wz,za,zb⟩:=z;rw[l1]at h;rw[l2];have GY:wy=wz:=l3.1;subst GY;simp only at h⊢
    split at h
    rename_i h8
    rw[Ua (v4.kind8 i2 h8)];simp only[Va.ok.injEq,U6]at h;obtain⟨_,rfl⟩:=h;subst v1 v2;exact⟨k3,_,rfl,by omega,rfl,v4.put i2 wy _ _ i3⟩
    cases h
   cases h
theorem Oka(b table d:Nat)(hD:D<=d+1)(jS:∀st ws into d' st',V3m (b+table) ws (b+table) d st = .ok (into,d',st')->d<=d'):∀(f1 f2 j:Nat)(st1 st2 aT:Vc)(e:Nat),j<=x.length->s2.length<a2+j+f2->RS b st1 st2 ->
    V2g E V1 s1 (b+table) d f1 (a1+j) st1 = .ok (e,aT)->e<a1+x.length->∃k cU,e=a1+k/\j<k/\V2g E V2 s2 table d f2 (a2+j) st2 = .ok (a2+k,cU)/\RS b aT cU:=by
 intro f1
 induction f1 with
 |zero=>intro f2 j st1 st2 aT e _ _ _ h;simp[V2g]at h
 |succ f1 ih =>
  intro f2 j st1 st2 aT e hj hf hr h he;have T1:=T.h1;have T2:=T.h2
  match f2,hf with
  |0,hf=>omega
  |f2+1,hf =>
  unfold V2g at h⊢;cases hp:V1s E V1 s1 (b+table) (a1+j) d st1 with
  |non=>rw[hp]at h;cases h
  |bad c p=>rw[hp]at h;cases h
  |ok r =>
   obtain⟨e0,dR⟩:=r;have Pm:=(O58 hE hV (b+table) (a1+j) d st1 (by omega)).1 _ _ hp;have hb:=V8 s1 e0 Pm.2;rw[hp]at h;simp only at h
   split at h
   rename_i dI
   simp only[Va.ok.injEq,U6]at h;obtain⟨h,rfl⟩:=h;obtain⟨k0,en,q1,q2,q3,q4⟩:=Oa4 hE T hV hS b table j d hD st1 st2 dR e0 hj hr (jS st1) hp (by omega);subst q1;rw[q3];refine Z245 ?_;intro k1 bx;rw[bx]at dI hb h;obtain⟨g1,g2⟩:=T.blanks bx (by omega);rw[g1,T.byte (by omega),Ua dI];exact⟨k1,en,h.symm,by omega,rfl,q4⟩
   rename_i dI
   split at h
   rename_i jy
   have aa:=byteAt_lt jy (by decide);have aA:=V8 s1 (V7 s1 e0+1) (by omega);have nZ:=(O4l hE hV (b+table) d f1 _ dR aA.2).1 _ _ h;obtain⟨k0,en,q1,q2,q3,q4⟩:=Oa4 hE T hV hS b table j d hD st1 st2 dR e0 hj hr (jS st1) hp (by omega);subst q1;rw[q3];refine Z245 ?_;intro k1 bx;rw[bx]at dI jy hb aa aA h nZ;rw[U12]at aA h nZ;refine Z244 ?_;intro k2 cb;rw[cb]at h aA nZ;obtain⟨g1,g2⟩:=T.blanks bx (by omega);obtain⟨g3,g4⟩:=T.blanks cb (by omega);rw[g1,T.byte (by omega),Ud dI,Ua jy,U12,g3];obtain⟨k3,Ej,r1,r2,r3,r4⟩:=ih f2 k2 dR en aT e (by omega) (by omega) q4 h he;exact⟨k3,Ej,r1,by omega,r3,r4⟩
   cases h
omit hE
theorem Ohz(b d:Nat)(hD:D<=d+1):∀(f1 f2 j:Nat)(subs:List Nat)(st1 st2 aT:Vc)(e:Nat)(l:List Nat),j<=x.length->s2.length<a2+j+f2->RS b st1 st2 ->
    V1h V1 s1 d f1 (a1+j) (subs.map (b+·)) st1 = .ok (l,e,aT)->e<a1+x.length->∃k l2 cU,e=a1+k/\l=l2.map (b+·)/\V1h V2 s2 d f2 (a2+j) subs st2 = .ok (l2,a2+k,cU)/\RS b aT cU:=by
 intro f1
 induction f1 with
 |zero=>intro f2 j subs st1 st2 aT e l _ _ _ h;simp[V1h]at h
 |succ f1 ih =>
  intro f2 j subs st1 st2 aT e l hj hf hr h he;have T1:=T.h1;have T2:=T.h2
  match f2,hf with
  |0,hf=>omega
  |f2+1,hf =>
  unfold V1h at h⊢
  split at h
  rename_i lr
  simp only[Va.ok.injEq,U6]at h;obtain⟨rfl,rfl,rfl⟩:=h;rw[T.byte (by omega),Ua lr];exact⟨j,subs,st2,rfl,rfl,rfl,hr⟩
  rename_i lr
  cases hv:V1 (d+1) (a1+j) st1 with
  |non=>rw[hv]at h;cases h
  |bad c p=>rw[hv]at h;cases h
  |ok r =>
   obtain⟨i,e0,dR⟩:=r;have xF:=(hV (d+1) (a1+j) st1 (by omega)).1 _ _ _ hv;rw[hv]at h;simp only[Ul]at h
   split at h;cases h
   rename_i h3
   cases hg:Vt s1 e0 with
   |bad c p=>rw[hg]at h;cases h
   |ok g =>
    have GZ:=Oy hg xF.2;rw[hg]at h;simp only at h;have aK:g<=e:=by
     split at h;exact J85
     split at h
     rename_i jy
     have aa:=byteAt_lt jy (by decide);cases cP:Vt s1 (g+1) with
     |bad c p=>rw[cP]at h;cases h
     |ok g' =>
      have xG:=Oy cP (by omega);rw[cP]at h;have:=(O3n hV d f1 g' _ dR xG.2).1 _ _ _ h;omega
     cases h
    obtain⟨k0,i2,en,q1,q2,q3,q4⟩:=hS (d+1) j b st1 st2 i e0 dR hD hj hr hv (by omega);subst q1 q2;obtain⟨kg,rfl⟩:∃kg,g=a1+kg:=⟨g-a1,by omega⟩
    obtain⟨g1,g2⟩:=T.gap (by omega) hg (by omega);rw[T.byte (by omega),Ud lr,q3];simp only;rw[Ud h3,g1];simp only;rw[T.byte (by omega)];have hm:subs.map (b+·)++[b+i2]=(subs++[i2]).map (b+·):=by simp
    rw[hm]at h
    split at h
    rename_i h4
    rw[Ua h4];simp only[Va.ok.injEq,U6]at h;obtain⟨rfl,rfl,rfl⟩:=h;exact⟨kg,_,en,rfl,rfl,rfl,q4⟩
    rename_i h4
    rw[Ud h4]
    split at h
    rename_i jy
    have aa:=byteAt_lt jy (by decide);rw[Ua jy];cases cP:Vt s1 (a1+kg+1) with
    |bad c p=>rw[cP]at h;cases h
    |ok g' =>
     have xG:=Oy cP (by omega);rw[cP]at h;have bX:=(O3n hV d f1 g' _ dR xG.2).1 _ _ _ h;obtain⟨G',rfl⟩:∃G',g'=a1+G':=⟨g'-a1,by omega⟩
     obtain⟨g3,g4⟩:=T.gap (j:=kg+1) (by omega) cP (by omega);rw[U12,g3];exact ih f2 G' (subs++[i2]) dR en aT e l (by omega) (by omega) q4 h he
    cases h
end
theorem On0(table:Nat):∀(ws:List KW)(into d:Nat)(st:Vc)(ax d':Nat)(st':Vc),V3m table ws into d st = .ok (ax,d',st')->d<=d':=by
 intro ws
 induction ws with
 |nil=>intro into d st ax d' st' h;simp[V3m]at h
 |cons x rest ih =>
  intro into d st ax d' st' h;obtain⟨w,a,b⟩:=x;unfold V3m at h
  split at h;cases h
  split at h;cases h
  split at h;have:=ih _ _ _ _ _ _ h;omega
  cases h
  split at h;exact J85
  split at h;cases h
  split at h;have:=ih _ _ _ _ _ _ h;omega
  cases h
theorem Ofp{E:Vz}(hE:V10 E){x s1 s2:Bs}{a1 a2:Nat}(T:Two x s1 s2 a1 a2){V1 V2:V24}(hV:VLe s1 V1){D:Nat}(hS:V9n x s1 s2 a1 a2 D V1 V2)(b d j:Nat)(hD:D<=d+1)(st1 st2 aT:Vc)(i e:Nat)(hj:j<x.length)(hr:RS b st1 st2)
    (h:V1z E V1 s1 d (a1+j) st1 = .ok (i,e,aT))(he:e<=a1+x.length):∃k i2 cU,e=a1+k/\i=b+i2/\V1z E V2 s2 d (a2+j) st2 = .ok (i2,a2+k,cU)/\RS b aT cU:=by
 have T1:=T.h1;have T2:=T.h2;have hb:=V8 s1 (a1+j+1) (by omega);unfold V1z at h⊢
 split at h;cases h
 rename_i hd
 rw[Ud hd]
 split at h
 rename_i aX
 rw[Ua (hr.room aX)];simp only at h⊢;have hl:=hr.len;have aU:RS b (st1++[V1f]) (st2++[V1f]):=hr.app ⟨rfl,rfl,rfl,rfl,rfl,rfl⟩
 split at h;cases h
 cases h
 rename_i e1 dR hp
 split at h
 rename_i h8
 simp only[Va.ok.injEq,U6]at h;obtain⟨rfl,rfl,rfl⟩:=h;rw[hl]at h8;have jw:∃k1 en,e1=a1+k1/\(if V9 s2 (V7 s2 (a2+j+1))=125 then Va.ok (V7 s2 (a2+j+1),st2++[V1f]) else V2g E V2 s2 st2.length d (s2.length+2) (V7 s2 (a2+j+1)) (st2++[V1f])) = .ok (a2+k1,en)/\RS b dR en:=by
  have aK:V7 s1 (a1+j+1)<=e1:=by
   split at hp;simp only[Va.ok.injEq,U6]at hp;omega
   have:=(O4l hE hV st1.length d (s1.length+2) _ (st1++[V1f]) hb.2).1 _ _ hp;omega
  obtain⟨k0,dw⟩:∃k0,V7 s1 (a1+(j+1))=a1+k0:=⟨V7 s1 (a1+(j+1))-a1,by rw[U12]at hb;omega⟩
  rw[U12,dw]at hp aK hb;obtain⟨g1,g2⟩:=T.blanks dw (by omega);rw[U12,g1,T.byte (by omega)]
  split at hp
  rename_i dI
  simp only[Va.ok.injEq,U6]at hp;obtain⟨hp,rfl⟩:=hp;rw[Ua dI];exact⟨k0,_,hp.symm,rfl,aU⟩
  rename_i dI
  rw[Ud dI];rw[hl]at hp;obtain⟨k1,en,q1,q2,q3,q4⟩:=Oka hE T hV hS b st2.length d hD (λ st ws into d' st' h=>On0 _ _ _ _ _ _ _ _ h) (s1.length+2) (s2.length+2) k0 _ _ dR e1 (by omega) (by omega) aU hp (by omega);exact⟨k1,en,q1,q3,q4⟩
 obtain⟨k1,en,rfl,q2,q3⟩:=jw;rw[q2];simp only;rw[Ua (q3.kind8 _ h8)];refine⟨k1+1,st2.length,_,by omega,hl,by simp only[Va.ok.injEq,U6,true_and];exact⟨by omega,rfl⟩,?_⟩;rw[hl];exact q3.mod _ _ _ λ x y hs=>⟨hs.kind,hs.text,hs.keys,hs.spots,hs.subs,hs.own⟩
 cases h
 cases h
theorem Oi0{x s1 s2:Bs}{a1 a2:Nat}(T:Two x s1 s2 a1 a2){V1 V2:V24}(hV:VLe s1 V1){D:Nat}(hS:V9n x s1 s2 a1 a2 D V1 V2)(b d j:Nat)(hD:D<=d+1)(st1 st2 aT:Vc)(i e:Nat)(hj:j<x.length)(hr:RS b st1 st2)
    (h:V2s V1 s1 d (a1+j) st1 = .ok (i,e,aT))(he:e<=a1+x.length):∃k i2 cU,e=a1+k/\i=b+i2/\V2s V2 s2 d (a2+j) st2 = .ok (i2,a2+k,cU)/\RS b aT cU:=by
 have T1:=T.h1;have T2:=T.h2;unfold V2s at h⊢
 split at h;cases h
 rename_i hd
 rw[Ud hd];cases hg:Vt s1 (a1+j+1) with
 |bad c p=>rw[hg]at h;cases h
 |ok g =>
  have GZ:=Oy hg (by omega);rw[hg]at h;simp only at h
  split at h;cases h
  cases h
  rename_i subs e1 dR hf
  have aK:=(O3n hV d _ _ _ _ GZ.2).1 _ _ _ hf
  split at h
  rename_i aX
  simp only[Va.ok.injEq,U6]at h;obtain⟨rfl,rfl,rfl⟩:=h;obtain⟨kg,rfl⟩:∃kg,g=a1+kg:=⟨g-a1,by omega⟩
  rw[U12]at hg;obtain⟨g1,g2⟩:=T.gap (by omega) hg (by omega);rw[U12,g1];simp only;obtain⟨k1,l2,en,q1,q2,q3,q4⟩:=Ohz T hV hS b d hD (s1.length+2) (s2.length+2) kg [] st1 st2 dR e1 subs (by omega) (by omega) hr hf (by omega);subst q1 q2;rw[q3];simp only;rw[Ua (q4.room aX)];refine⟨k1+1,en.length,en++[V58 l2 (a2+j) (a2+k1+1)],by omega,q4.len,by simp only[U12],q4.app (y:=V58 l2 (a2+j) (a2+k1+1)) ⟨rfl,rfl,rfl,rfl,rfl,rfl⟩⟩
  cases h
theorem Ofq{E:Vz}(hE:V10 E){x s1 s2:Bs}{a1 a2:Nat}(T:Two x s1 s2 a1 a2):∀f1 f2,V9n x s1 s2 a1 a2 (259-f2) (V19 E s1 f1) (V19 E s2 f2)\/f2=0:=by
 intro f1
 induction f1 with
 |zero=>intro f2;left;intro d j b st1 st2 i e aT _ _ _ h;simp[V19]at h
 |succ f1 ih =>
  intro f2;cases f2 with
  |zero=>exact .inr rfl
  |succ f2 =>
  left;intro d j b st1 st2 i e aT hD hj hr h he;have T1:=T.h1;have aK:=((O16 hE s1 (f1+1)) d (a1+j) st1 (by omega)).1 _ _ _ h;have pv:j<x.length:=by omega
  obtain⟨r,aU,pL⟩:=T.d1 (j:=j) hj;obtain⟨r',d9,mM⟩:=T.d2 (j:=j) hj;unfold V19 at h⊢;simp only at h⊢;rw[T.byte pv,mM];rw[pL]at h;have jQ:d<=256->V9n x s1 s2 a1 a2 (259-f2) (V19 E s1 f1) (V19 E s2 f2)/\259-f2<=d+1:=λ h2=>⟨(ih f2).resolve_right (by omega),by omega⟩
  split at h
  rename_i hc
  rw[Ua hc];cases hs:E.str (x.drop j++r) with
  |non=>rw[hs]at h;cases h
  |bad c p=>rw[hs]at h;cases h
  |ok v =>
   obtain⟨t,m⟩:=v;rw[hs]at h;simp only at h
   split at h
   rename_i aX
   simp only[Va.ok.injEq,U6]at h;obtain⟨rfl,rfl,rfl⟩:=h;rw[hE.strL (x.drop j) r r' t m aU d9 hs (by rw[U3];omega)];simp only;rw[Ua (hr.room aX)];exact⟨j+m,st2.length,_,by omega,hr.len,by rw[U12],hr.app (y:=V5k 3 t (a2+j) (a2+(j+m))) ⟨rfl,rfl,rfl,rfl,rfl,rfl⟩⟩
   cases h
  rename_i hc
  rw[Ud hc]
  split at h
  rename_i aE
  rw[Ua aE];have hd:d<=256:=by
   unfold V2s at h
   split at h;cases h
   omega
  obtain⟨i1,i2⟩:=jQ hd;exact Oi0 T (O16 hE s1 f1) i1 b d j i2 st1 st2 aT i e pv hr h he
  rename_i aE
  rw[Ud aE]
  split at h
  rename_i l0
  rw[Ua l0];have hd:d<=256:=by
   unfold V1z at h
   split at h;cases h
   omega
  obtain⟨i1,i2⟩:=jQ hd;exact Ofp hE T (O16 hE s1 f1) i1 b d j i2 st1 st2 aT i e pv hr h he
  rename_i l0
  rw[Ud l0];cases hs:E.scal (x.drop j++r) with
  |non=>rw[hs]at h;cases h
  |bad c p=>rw[hs]at h;cases h
  |ok v =>
   obtain⟨q,t,m⟩:=v;rw[hs]at h;simp only at h
   split at h
   rename_i aX
   simp only[Va.ok.injEq,U6]at h;obtain⟨rfl,rfl,rfl⟩:=h;rw[hE.scalL (x.drop j) r r' q t m aU d9 hs (by rw[U3];omega)];simp only;rw[Ua (hr.room aX)];exact⟨j+m,st2.length,_,by omega,hr.len,by rw[U12],hr.app (y:=V5k q t (a2+j) (a2+(j+m))) ⟨rfl,rfl,rfl,rfl,rfl,rfl⟩⟩
   cases h
theorem Oa5{E:Vz}(hE:V10 E){x s1 s2:Bs}{a1 a2:Nat}(T:Two x s1 s2 a1 a2){j k i e:Nat}{st:Vc}(hj:j<=x.length)(h:V1l E s1 (a1+j) k = .ok (i,e,st))(he:e<=a1+x.length) :
    ∃q st2,e=a1+q/\V1l E s2 (a2+j) k = .ok (i,a2+q,st2)/\RS 0 st st2:=by
 obtain⟨q,i2,st2,h1,h2,h3,h4⟩:=((Ofq hE T 258 258).resolve_right (by decide)) (min k 256+1) j 0 [] [] i e st (by omega) hj (RS.nil []) h he;rw[Uu]at h2;subst h2;exact⟨q,st2,h1,h3,h4⟩
theorem Ocn{l:Bs}{c p:Nat}(h:V1d l = .bad c p):c=3\/c=8:=by
 have h3:∀r sign ds,V1m r sign ds = .bad c p->c=3\/c=8:=by
  exact J172
 unfold V1d at h
 split at h;exact h3 _ _ _ h
 exact h3 _ _ _ h
theorem Oco{l:Bs}{c p:Nat}(h:V13 l = .bad c p):c=3\/c=7:=by
 unfold V13 at h
 split at h;cases h;exact .inl rfl
 split at h;cases h;exact .inr rfl
 simp only at h
 split at h;cases h
 split at h;cases h
 cases h;exact .inr rfl
theorem Ocp{l:Bs}{c p:Nat}(h:V1y l = .bad c p):c=3\/c=7:=by
 unfold V1y at h
 split at h;cases h
 simp only at h
 split at h;exact Oco h
 cases h;exact .inl rfl
theorem Ocq{l:Bs}{c p:Nat}(h:V1q l = .bad c p):c=3\/c=9:=by
 unfold V1q at h;simp only at h
 split at h;cases h;exact .inl rfl
 split at h;cases h
 cases h;exact .inr rfl
theorem Odo{l:Bs}{c p:Nat}(h:V2i l = .bad c p):c≠0:=by
 unfold V2i at h
 split at h;cases h
 split at h;cases h
 rename_i hi
 split at h
 split at h;cases h
 rename_i hf
 cases h;have:=Ocp hf;omega
 cases h;have:=Ocn hi;omega
theorem Odp{l t:Bs}{k:Nat}(h:V2i l = .ok (k,t)):k<7:=by
 unfold V2i at h
 split at h;cases h;decide
 split at h;cases h;decide
 split at h
 split at h;cases h;decide
 cases h
 cases h
theorem Ofv:V2i [] = .bad 3 0:=by rfl
theorem O30(l:Bs):Vd l ≠ .non/\(∀k t m,Vd l = .ok (k,t,m)->1<=m/\m<=l.length/\k<7)/\(∀c p,Vd l = .bad c p->c≠0):=by
 unfold Vd
 split
 rename_i h
 cases hd:V1q (l.take (Vf l).long) with
 |ok x=>exact⟨by simp,λ k t m h=>by (cases h;exact⟨by omega,V55 l,by decide⟩),λ c p h=>(by cases h)⟩
 |bad c p =>
  have:=Ocq hd;exact⟨by simp,λ k t m h=>(by cases h),λ c p h=>by (cases h;omega)⟩
 cases hp:V2i (V3f l) with
 |ok r =>
  obtain⟨k,x⟩:=r;refine⟨by simp,λ k t m h=>?_,λ c p h=>(by cases h)⟩;cases h;refine⟨?_,Vg _ _,Odp hp⟩;cases ht:V3f l with
  |nil=>rw[ht,Ofv]at hp;cases hp
  |cons c t=>simp
 |bad c p =>
  have:=Odo hp;exact⟨by simp,λ k t m h=>(by cases h),λ c p h=>by (cases h;exact this)⟩
def Vbj(T:Nat->UInt8×UInt8):Vz:=⟨Vj T,Vd⟩
theorem V9a(T):V10 (Vbj T) where
 strT:=λ l=>(O5b T l).1
 strK:=λ l t k h=>(O5b T l).2.1 t k h
 strB:=λ l c p h=>(O5b T l).2.2 c p h
 strL:=Okb T
 scalT:=λ l=>(O30 l).1
 scalK:=λ l k t m h=>(O30 l).2.1 k t m h
 scalB:=λ l c p h=>(O30 l).2.2 c p h
 scalL:=λ u r r' k t m hr eH h _=>by
  show Vd (u++r')=_;rw[O44 u eH,<-O44 u hr];exact h
structure V3y(s1 s2:Bs)(k:Nat):Prop where
 dr:∀n,s2.drop (k+n)=s1.drop n
 len:s2.length=k+s1.length
namespace V3y
variable {s1 s2:Bs}{k:Nat}
theorem byte(A:V3y s1 s2 k)(n:Nat):V9 s2 (k+n)=V9 s1 n:=by
 unfold V9;have h:=A.dr n;have h1:s2[k+n]?=(s2.drop (k+n))[0]?:=by rw[U1f];rfl
 have h2:s1[n]?=(s1.drop n)[0]?:=by rw[U1f];rfl
 rw[h1,h2,h]
theorem blanks(A:V3y s1 s2 k)(n:Nat):V7 s2 (k+n)=k+V7 s1 n:=by
 unfold V7;rw[A.dr];omega
theorem comment(A:V3y s1 s2 k)(n:Nat):Vr s2 (k+n)=k+Vr s1 n:=by
 unfold Vr;rw[A.dr];omega
theorem gap(A:V3y s1 s2 k)(n:Nat):Vt s2 (k+n)=match Vt s1 n with
    |.ok g => .ok (k+g)
    |.bad c p => .bad c (k+p):=by
 unfold Vt;rw[A.dr];cases Pl.gap (s1.drop n) with
 |ok g=>simp only;congr 1;omega
 |bad c p=>simp only;congr 1;omega
end V3y
def shO{α : Type}(f : α -> α)(k:Nat):Va α -> Va α
 |.non => .non
 |.ok a => .ok (f a)
 |.bad c p => .bad c (k+p)
theorem Ofw(E:Vz){s1 s2:Bs}{k:Nat}(A:V3y s1 s2 k)(n:Nat):V3w E s2 (k+n)=shO (λ r=>(r.1,k+r.2)) k (V3w E s1 n):=by
 unfold V3w V3r;rw[A.dr]
 split;simp only[shO];congr 2
 split
 cases E.str (s1.drop n) with
 |non=>rfl
 |bad c p=>simp only[shO];congr 1;omega
 |ok r=>obtain⟨t,q⟩:=r;simp only[shO];congr 2;omega
 simp only[shO];congr 2;omega
def V7h(k:Nat)(w:KW):KW:=(w.1,k+w.2.1,k+w.2.2)
theorem Ofx{E:Vz}(hE:V10 E){s1 s2:Bs}{k:Nat}(A:V3y s1 s2 k):∀(f1 f2 n:Nat)(acc:List KW),n<=s1.length->s1.length<n+f1->s1.length<n+f2 ->
    V4c E s2 f2 (k+n) (acc.map (V7h k))=shO (λ r=>(r.1.map (V7h k),k+r.2)) k (V4c E s1 f1 n acc):=by
 intro f1
 induction f1 with
 |zero=>intro f2 n acc h1 h2;omega
 |succ f1 ih =>
  intro f2 n acc hn h1 h2
  match f2,h2 with
  |0,h2=>omega
  |f2+1,h2 =>
  unfold V4c;rw[Ofw E A n];cases hw:V3w E s1 n with
  |non=>rfl
  |bad c p=>rfl
  |ok r =>
   obtain⟨t,e⟩:=r;have aK:=(word_le hE hn).1 _ _ hw;have hb:=V8 s1 e aK.2;simp only[shO];rw[A.blanks,A.byte]
   split
   rename_i hd
   have aa:=byteAt_lt hd (by decide);have aA:=V8 s1 (V7 s1 e+1) (by omega);rw[U12,A.blanks];have:=ih f2 (V7 s1 (V7 s1 e+1)) (acc++[(t,n,e)]) aA.2 (by omega) (by omega);rw[U20]at this;exact this
   simp only[U20];rfl
theorem O5c{E:Vz}(hE:V10 E){s1 s2:Bs}{k:Nat}(A:V3y s1 s2 k)(n:Nat)(hn:n<=s1.length) :
    V1k E s2 (k+n)=shO (λ r=>(r.1.map (V7h k),k+r.2)) k (V1k E s1 n) :=
 Ofx hE A (s1.length+2) (s2.length+2) n [] hn (by omega) (by have:=A.len;omega)
inductive RV (k:Nat):Va (Nat×Nat×Vc)->Va (Nat×Nat×Vc)->Prop
 |bad (c p:Nat):RV k (.bad c p) (.bad c (k+p))
 |ok (i e:Nat) (st1 st2:Vc):RS 0 st1 st2->RV k (.ok (i,e,st1)) (.ok (i,k+e,st2))
inductive RW (k:Nat):Va (Nat×Vc)->Va (Nat×Vc)->Prop
 |bad (c p:Nat):RW k (.bad c p) (.bad c (k+p))
 |ok (e:Nat) (st1 st2:Vc):RS 0 st1 st2->RW k (.ok (e,st1)) (.ok (k+e,st2))
def VA(s1:Bs)(k:Nat)(V1 V2:V24):Prop:=∀d n st1 st2,n<=s1.length->RS 0 st1 st2->V1 d n st1 ≠ .non->RV k (V1 d n st1) (V2 d (k+n) st2)
theorem Ofy(k:Nat)(ws:List KW):V53 (KR 0 k) ws (ws.map (V7h k)):=by
 induction ws with
 |nil=>exact .nil
 |cons w ws ih=>exact .cons ⟨rfl,w.2.1,w.2.2,by simp,rfl⟩ ih
theorem Oi3(k table:Nat):∀(ws:List KW)(into d:Nat)(st1 st2:Vc),RS 0 st1 st2->V3m table ws into d st1 ≠ .non ->
    (∀c p,V3m table ws into d st1 = .bad c p->V3m table (ws.map (V7h k)) into d st2 = .bad c (k+p)):=by
 intro ws
 induction ws with
 |nil=>intro into d st1 st2 _ h;simp[V3m]at h
 |cons v rest ih =>
  intro into d st1 st2 hr a8 c p h;obtain⟨w,u1,u2⟩:=v;rw[U2i];show V3m table ((w,k+u1,k+u2)::rest.map (V7h k)) into d st2=_;have dZ:=hr.sub into w;simp only[Uu]at dZ;unfold V3m at h a8⊢;rcases dZ with⟨h1,h2⟩|⟨h1,h2⟩|⟨i,h1,h2⟩
  rw[h1]at h;cases h
  rw[h1]at h a8;rw[h2];simp only at h a8⊢;cases rest with
  |nil=>cases h
  |cons y r2 =>
   rw[U2i];simp only at h a8⊢
   split at h
   rename_i hd
   rw[Ua hd];cases h;rfl
   rename_i hd
   rw[Ud hd]at a8⊢
   split at h
   rename_i ju
   rw[Ua ju]at a8;simp only[Uf]at ju;have be:=hr.kind8 into (by simpa using ju.1);rw[be,hr.room ju.2];simp only[Bool.and_self,U1j];have hl:=hr.len;simp only[Uu]at hl;have d9:RS 0 (Vo (st1++[V2b (table+1)]) into w (u1,u2) st1.length) (Vo (st2++[V2b (table+1)]) into w (k+u1,k+u2) st2.length):=by
    have h3:RS 0 (st1++[V2b (table+1)]) (st2++[V2b (table+1)]):=hr.app (x:=V2b (table+1)) (y:=V2b (table+1)) ⟨rfl,rfl,rfl,rfl,rfl,((Ud (show ¬(V2b (table+1)).owner=0 from Nat.succ_ne_zero table)).trans (Uu (table+1))).symm⟩;have:=h3.put into w (u1,u2) (k+u1,k+u2) st2.length;simp only[Uu]at this;rw[hl];exact this
   rw[hl]at h d9 a8;have:=ih st2.length (d+1) _ _ d9 a8 c p h;rw[U2i]at this;exact this
   cases h
  rw[h1]at h a8;rw[h2];simp only at h a8⊢;cases rest with
  |nil=>cases h;rfl
  |cons y r2 =>
   rw[U2i];simp only[Uu]at h a8⊢;have ho:=hr.owner i;simp only[Uu]at ho;have il:V37 st1 i=V37 st2 i:=by rw[ho];split <;> omega
   rw[il]at h a8
   split at h
   rename_i A3
   rw[Ua A3]at a8⊢;have:=ih i (d+1) st1 st2 hr a8 c p h;rw[U2i]at this;exact this
   rename_i A3
   rw[Ud A3];cases h;rfl
theorem Oi4(k:Nat)(ws:List KW):(ws.map (V7h k)).getLast?=ws.getLast?.map (V7h k):=by
 rw[List.getLast?_map]
section
variable {E:Vz}(hE:V10 E){s1 s2:Bs}{k:Nat}(A:V3y s1 s2 k){V1 V2:V24}(hL:VLe s1 V1)(hV:VA s1 k V1 V2)
include hE A hL hV
theorem Odq(table n d:Nat)(st1 st2:Vc)(hn:n<=s1.length)(hr:RS 0 st1 st2)(a8:V1s E V1 s1 table n d st1 ≠ .non):RW k (V1s E V1 s1 table n d st1) (V1s E V2 s2 table (k+n) d st2):=by
 unfold V1s at a8⊢;rw[O5c hE A n hn];cases hk:V1k E s1 n with
 |non=>rw[hk]at a8;exact absurd rfl a8
 |bad c p=>exact .bad c p
 |ok r =>
  obtain⟨ws,e⟩:=r;have aK:=(O_s hE hn).1 _ _ hk;have hb:=V8 s1 e aK.2.1;rw[hk]at a8;simp only[shO]at a8⊢;cases hw:V3m table ws table d st1 with
  |non=>rw[hw]at a8;exact absurd rfl a8
  |bad c p =>
   rw[Oi3 k table ws table d st1 st2 hr (by rw[hw];simp) c p hw];exact .bad c p
  |ok r2 =>
   obtain⟨into,d',dR⟩:=r2;obtain⟨i2,en,w1,w2,w3⟩:=Oeo 0 0 k ws _ table table d st1 st2 dR into d' (Ofy k ws) hr (by simpa using hw);simp only[Uu]at w1;subst w1;rw[w2];rw[hw]at a8;simp only at a8⊢;rw[A.blanks,A.byte]
   split
   rename_i eV
   rw[Ua eV]at a8;have aa:=byteAt_lt eV (by decide);have aA:=V8 s1 (V7 s1 e+1) (by omega);rw[U12,A.blanks];have hv:=hV (d'+1) (V7 s1 (V7 s1 e+1)) dR en aA.2 w3 (by intro e;rw[e]at a8;exact absurd rfl a8);revert a8;generalize V1 (d'+1) (V7 s1 (V7 s1 e+1)) dR=X at hv⊢;generalize V2 (d'+1) (k+V7 s1 (V7 s1 e+1)) en=Y at hv⊢;intro a8;cases hv with
   |bad c p=>exact .bad c p
   |ok i e2 Ej Pk LC =>
    simp only at a8⊢;rw[Oi4];cases aY:ws.getLast? with
    |none=>rw[aY]at a8;exact absurd rfl a8
    |some v =>
     obtain⟨w,a,b⟩:=v;rw[aY]at a8;simp only[U18,V7h]at a8⊢
     split at a8
     rename_i h8
     rw[Ua h8,LC.kind8 into (by simpa using h8),Ua rfl];refine .ok e2 _ _ ?_;have:=LC.put into w (a,b) (k+a,k+b) i;exact J15
     exact absurd rfl a8
   exact .bad 3 _
theorem Ofz(table d:Nat):∀(f1 f2 n:Nat)(st1 st2:Vc),n<=s1.length->s1.length<n+f2->RS 0 st1 st2->V2g E V1 s1 table d f1 n st1 ≠ .non->RW k (V2g E V1 s1 table d f1 n st1) (V2g E V2 s2 table d f2 (k+n) st2):=by
 intro f1
 induction f1 with
 |zero=>intro f2 n st1 st2 _ _ _ h;simp[V2g]at h
 |succ f1 ih =>
  intro f2 n st1 st2 hn hf hr a8
  match f2,hf with
  |0,hf=>omega
  |f2+1,hf =>
  unfold V2g at a8⊢;have hp:=Odq hE A hL hV table n d st1 st2 hn hr (by intro e;rw[e]at a8;exact absurd rfl a8);have aK:=(O58 hE hL table n d st1 hn).1;revert a8;generalize V1s E V1 s1 table n d st1=X at hp aK⊢;generalize V1s E V2 s2 table (k+n) d st2=Y at hp⊢;intro a8;cases hp with
  |bad c p=>exact .bad c p
  |ok e dR en kP =>
   obtain⟨g1,g2⟩:=aK _ _ rfl;have hb:=V8 s1 e g2;simp only at a8⊢;rw[A.blanks,A.byte]
   split;exact .ok _ _ _ kP
   rename_i dI
   rw[Ud dI]at a8
   split
   rename_i jy
   rw[Ua jy]at a8;have aa:=byteAt_lt jy (by decide);have aA:=V8 s1 (V7 s1 e+1) (by omega);rw[U12,A.blanks];exact ih f2 _ dR en aA.2 (by omega) kP a8
   exact .bad 3 _
theorem Ocr(d n:Nat)(st1 st2:Vc)(hn:n<s1.length)(hr:RS 0 st1 st2)(a8:V1z E V1 s1 d n st1 ≠ .non):RV k (V1z E V1 s1 d n st1) (V1z E V2 s2 d (k+n) st2):=by
 have hb:=V8 s1 (n+1) (by omega);have hl:=hr.len;rw[Uu]at hl;unfold V1z at a8⊢
 split;exact .bad 4 n
 rename_i hd
 rw[Ud hd]at a8
 split at a8
 rename_i aX
 rw[Ua aX,Ua (hr.room aX)];simp only at a8⊢;rw[U12,A.blanks,A.byte];have aU:RS 0 (st1++[V1f]) (st2++[V1f]):=hr.app ⟨rfl,rfl,rfl,rfl,rfl,rfl⟩;have jw:(if V9 s1 (V7 s1 (n+1))=125 then Va.ok (V7 s1 (n+1),st1++[V1f]) else V2g E V1 s1 st1.length d (s1.length+2) (V7 s1 (n+1)) (st1++[V1f])) ≠ .non ->
     RW k (if V9 s1 (V7 s1 (n+1))=125 then Va.ok (V7 s1 (n+1),st1++[V1f]) else V2g E V1 s1 st1.length d (s1.length+2) (V7 s1 (n+1)) (st1++[V1f]))
      (if V9 s1 (V7 s1 (n+1))=125 then Va.ok (k+V7 s1 (n+1),st2++[V1f]) else V2g E V2 s2 st2.length d (s2.length+2) (k+V7 s1 (n+1)) (st2++[V1f])):=by
  intro a8
  split;exact .ok _ _ _ aU
  rename_i dI
  rw[Ud dI]at a8;rw[hl]at a8⊢;exact Ofz hE A hL hV st2.length d (s1.length+2) (s2.length+2) _ _ _ hb.2 (by have:=A.len;omega) aU a8
 revert jw a8;generalize (if V9 s1 (V7 s1 (n+1))=125 then Va.ok (V7 s1 (n+1),st1++[V1f]) else V2g E V1 s1 st1.length d (s1.length+2) (V7 s1 (n+1)) (st1++[V1f]))=X;generalize (if V9 s1 (V7 s1 (n+1))=125 then Va.ok (k+V7 s1 (n+1),st2++[V1f]) else V2g E V2 s2 st2.length d (s2.length+2) (k+V7 s1 (n+1)) (st2++[V1f]))=Y;intro a8 jw;have Ek:=jw (by intro e;rw[e]at a8;exact absurd rfl a8);cases Ek with
 |bad c p=>exact .bad c p
 |ok e dR en kP =>
  simp only at a8⊢
  split at a8
  rename_i h8
  rw[Ua h8];rw[hl]at h8;rw[kP.kind8 st2.length (by simpa using h8),Ua rfl,hl];refine .ok _ _ _ _ ?_;have:=kP.mod st2.length (λ nd=>{ nd with sp:=((n:Int),((e+1:Nat):Int)) }) (λ nd=>{ nd with sp:=(((k+n:Nat):Int),((k+e+1:Nat):Int)) }) (λ x y hs=>⟨hs.kind,hs.text,hs.keys,hs.spots,hs.subs,hs.own⟩);rw[Uu]at this;exact this
  exact absurd rfl a8
 exact absurd rfl a8
omit hE
theorem Odr(d:Nat):∀(f1 f2 n:Nat)(subs:List Nat)(st1 st2:Vc),n<=s1.length->s1.length<n+f2->RS 0 st1 st2->V1h V1 s1 d f1 n subs st1 ≠ .non ->
    (∃c p,V1h V1 s1 d f1 n subs st1 = .bad c p/\V1h V2 s2 d f2 (k+n) subs st2 = .bad c (k+p))\/(∃l e dR en,V1h V1 s1 d f1 n subs st1 = .ok (l,e,dR)/\V1h V2 s2 d f2 (k+n) subs st2 = .ok (l,k+e,en)/\RS 0 dR en):=by
 intro f1
 induction f1 with
 |zero=>intro f2 n subs st1 st2 _ _ _ h;simp[V1h]at h
 |succ f1 ih =>
  intro f2 n subs st1 st2 hn hf hr a8
  match f2,hf with
  |0,hf=>omega
  |f2+1,hf =>
  unfold V1h at a8⊢;rw[A.byte];by_cases lr:V9 s1 n=93;rw[Ua lr,Ua lr];exact .inr ⟨subs,n,st1,st2,rfl,rfl,hr⟩
  rw[Ud lr]at a8;rw[Ud lr,Ud lr];have hv:=hV (d+1) n st1 st2 hn hr (by intro e;rw[e]at a8;exact absurd rfl a8);have aK:=(hL (d+1) n st1 hn).1;revert a8;generalize V1 (d+1) n st1=X at hv aK⊢;generalize V2 (d+1) (k+n) st2=Y at hv⊢;intro a8;cases hv with
  |bad c p=>exact .inl ⟨c,p,rfl,rfl⟩
  |ok i e dR en kP =>
   obtain⟨g1,g2⟩:=aK _ _ _ rfl;simp only at a8⊢;by_cases h3:30000000<subs.length;rw[Ua h3]at a8;exact absurd rfl a8
   rw[Ud h3]at a8;rw[Ud h3,Ud h3,A.gap];cases hg:Vt s1 e with
   |bad c p=>exact .inl ⟨c,p,rfl,rfl⟩
   |ok g =>
    obtain⟨g3,g4⟩:=Oy hg g2;rw[hg]at a8;simp only at a8⊢;rw[A.byte];by_cases h4:V9 s1 g=93;rw[Ua h4,Ua h4];exact .inr ⟨_,g,dR,en,rfl,rfl,kP⟩
    rw[Ud h4]at a8;rw[Ud h4,Ud h4];by_cases jy:V9 s1 g=44
    rw[Ua jy]at a8;rw[Ua jy,Ua jy];have aa:=byteAt_lt jy (by decide);rw[U12,A.gap];cases cP:Vt s1 (g+1) with
    |bad c p=>exact .inl ⟨c,p,rfl,rfl⟩
    |ok g' =>
     obtain⟨g5,g6⟩:=Oy cP (by omega);rw[cP]at a8;simp only at a8⊢;exact ih f2 g' (subs++[i]) dR en g6 (by omega) kP a8
    rw[Ud jy,Ud jy];exact .inl ⟨3,g,rfl,rfl⟩
theorem Ods(d n:Nat)(st1 st2:Vc)(hn:n<s1.length)(hr:RS 0 st1 st2)(a8:V2s V1 s1 d n st1 ≠ .non):RV k (V2s V1 s1 d n st1) (V2s V2 s2 d (k+n) st2):=by
 unfold V2s at a8⊢
 split;exact .bad 4 n
 rename_i hd
 rw[Ud hd]at a8;rw[U12,A.gap];cases hg:Vt s1 (n+1) with
 |bad c p=>exact .bad c p
 |ok g =>
  obtain⟨g1,g2⟩:=Oy hg (by omega);rw[hg]at a8;simp only at a8⊢;have hl:=A.len;rcases Odr A hL hV d (s1.length+2) (s2.length+2) g [] st1 st2 g2 (by omega) hr (by intro e;rw[e]at a8;exact absurd rfl a8) with⟨c,p,h1,h2⟩|⟨l,e,dR,en,h1,h2,h3⟩
  rw[h1,h2];exact .bad c p
  rw[h1,h2];rw[h1]at a8;simp only at a8⊢
  split at a8
  rename_i aX
  rw[Ua aX,Ua (h3.room aX)];have jK:=h3.len;rw[Uu]at jK;rw[jK];refine .ok _ _ _ _ (h3.app ⟨rfl,rfl,rfl,rfl,by simp[V58],rfl⟩)
  exact absurd rfl a8
end
theorem Ocs{E:Vz}(hE:V10 E){s1 s2:Bs}{k:Nat}(A:V3y s1 s2 k):∀f,VA s1 k (V19 E s1 f) (V19 E s2 f):=by
 intro f
 induction f with
 |zero=>intro d n st1 st2 _ _ h;simp[V19]at h
 |succ f ih =>
  intro d n st1 st2 hn hr a8;have hl:=hr.len;rw[Uu]at hl;unfold V19 at a8⊢;simp only at a8⊢;rw[A.byte,A.dr];by_cases h1:V9 s1 n=34\/V9 s1 n=39
  rw[Ua h1]at a8;rw[Ua h1,Ua h1];cases hs:E.str (s1.drop n) with
  |non=>rw[hs]at a8;exact absurd rfl a8
  |bad c p =>
   simp only;rw[show k+n+p=k+(n+p) by omega];exact .bad c _
  |ok v =>
   obtain⟨t,m⟩:=v;exact J151
  rw[Ud h1]at a8;rw[Ud h1,Ud h1];by_cases h2:V9 s1 n=91;rw[Ua h2]at a8;rw[Ua h2,Ua h2];exact Ods A (O16 hE s1 f) ih d n st1 st2 (byteAt_lt h2 (by decide)) hr a8
  rw[Ud h2]at a8;rw[Ud h2,Ud h2];by_cases h3:V9 s1 n=123;rw[Ua h3]at a8;rw[Ua h3,Ua h3];exact Ocr hE A (O16 hE s1 f) ih d n st1 st2 (byteAt_lt h3 (by decide)) hr a8
  rw[Ud h3]at a8;rw[Ud h3,Ud h3];cases hs:E.scal (s1.drop n) with
  |non=>rw[hs]at a8;exact absurd rfl a8
  |bad c p=>exact .bad c n
  |ok v =>
   obtain⟨q,t,m⟩:=v;exact J151
theorem O75{E:Vz}(hE:V10 E){s1 s2:Bs}{k:Nat}(A:V3y s1 s2 k)(hs:s1.length<=20000000)(n q:Nat)(hn:n<=s1.length):RV k (V1l E s1 n q) (V1l E s2 (k+n) q) :=
 Ocs hE A 258 _ n [] [] hn (RS.nil []) (O2e hE s1 hs n q hn).1
