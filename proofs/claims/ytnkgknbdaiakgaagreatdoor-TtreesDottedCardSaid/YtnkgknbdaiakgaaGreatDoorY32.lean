/- The proof's part 32. -/
import Derived.Test.YtnkgknbdaiakgaaGreatDoorY29
set_option maxHeartbeats 16000000
set_option linter.all false
namespace Go.Proofs.YtnkgknbdaiakgaaGreatDoor.Pl
def V3k:Nat->List Bs->List KW
 |_,[]=>[]
 |n,w::r=>(w,n,n+(V2k w).length)::V3k (n+(V2k w).length+1) r
def V3c:List Bs->Nat
 |[]=>0
 |w::r=>(V2k w).length+1+V3c r
theorem O1a(ws:List Bs):∀n,(V3k n ws).length=ws.length:=by
 induction ws with
 |nil=>intro n;rfl
 |cons w r ih=>intro n;simp[V3k,ih]
theorem O3l(ws:List Bs):∀n,(V3k n ws).map (·.1)=ws:=by
 induction ws with
 |nil=>intro n;rfl
 |cons w r ih=>intro n;simp[V3k,ih]
theorem O7q(w:Bs):∀(ws:List Bs)(n:Nat),V3k n (ws++[w])=V3k n ws++[(w,n+V3c ws,n+V3c ws+(V2k w).length)]:=by
 intro ws
 induction ws with
 |nil=>intro n;rfl
 |cons a r ih =>
  intro n;rw[U1l,V3k,ih,V3k,U1l];simp only[V3c];rw[show n+(V2k a).length+1+V3c r=n+((V2k a).length+1+V3c r) by omega]
theorem O45(ws:List Bs)(w:Bs)(n:Nat):(V3k n (ws++[w])).dropLast=V3k n ws:=by rw[O7q,List.dropLast_concat]
theorem O38(ws:List Bs)(w:Bs)(n:Nat):(V3k n (ws++[w])).getLast?=some (w,n+V3c ws,n+V3c ws+(V2k w).length):=by rw[O7q,List.getLast?_concat]
theorem V2b(w w2:Bs)(rest:List Bs):Vb (w::w2::rest)=V2k w++46::Vb (w2::rest):=by
 rw[Vb];rfl
theorem V68(w:Bs):∀(ws:List Bs),(Vb (ws++[w])).length=V3c ws+(V2k w).length:=by
 intro ws
 induction ws with
 |nil=>simp[Vb,V3c]
 |cons a r ih =>
  cases r with
  |nil =>
   rw[show [a]++[w]=a::w::[] from rfl,V2b];simp[Vb,V3c];omega
  |cons b r =>
   rw[show (a::b::r)++[w]=a::b::(r++[w]) from rfl,V2b,V3c];have:=ih;rw[show (b::r)++[w]=b::(r++[w]) from rfl]at this;simp only[U1c,U17];omega
theorem Ol3(ws:List Bs)(h:ws≠[]):V3c ws=(Vb ws).length+1:=by
 obtain⟨i,l,rfl⟩:∃i l,ws=i++[l]:=⟨ws.dropLast,ws.getLast h,(List.dropLast_concat_getLast h).symm⟩
 rw[V68];have:∀(a:List Bs),V3c (a++[l])=V3c a+(V2k l).length+1:=by
  intro a
  induction a with
  |nil=>simp[V3c]
  |cons b r ih=>rw[U1l,V3c,ih,V3c];omega
 rw[this]
theorem V7x(ws:List Bs)(w:Bs)(h:ws≠[]):Vb (ws++[w])=Vb ws++46::Vb [w]:=by
 induction ws with
 |nil=>exact absurd rfl h
 |cons a r ih =>
  cases r with
  |nil=>rw[show [a]++[w]=a::w::[] from rfl,V2b];simp[Vb]
  |cons b r =>
   rw[show (a::b::r)++[w]=a::b::(r++[w]) from rfl,V2b,V2b];have:=ih Yb;rw[show (b::r)++[w]=b::(r++[w]) from rfl]at this;rw[this];simp
theorem Op6(s:Bs):∀(ws:List Bs)(f n:Nat)(acc:List KW)(c:UInt8)(r:Bs),ws≠[]->s.drop n=Vb ws++c::r->c≠34->Vq c=false->V9 s (V7 s (n+(Vb ws).length))≠46->ws.length<=f ->V4c (V29 Vd) s f n acc=.ok (acc++V3k n ws,n+(Vb ws).length):=by
 intro ws
 induction ws with
 |nil=>intro f n acc c r h;exact absurd rfl h
 |cons w rest ih =>
  intro f n acc c r _ hd hc hb Ar hf;cases f with
  |zero=>simp at hf
  |succ f =>
   cases rest with
   |nil =>
    have hk:Vb [w]=V2k w:=by simp[Vb]
    rw[hk]at hd Ar⊢;unfold V4c;rw[Of4 s n w c r hd hc hb];simp only;rw[U1b Ar];rfl
   |cons w2 rest =>
    have hk:=V2b w w2 rest;obtain⟨c2,r2,e2,cw,_⟩:=O6d (w2::rest) Yb;rw[hk]at hd Ar;have hl:(Vb (w::w2::rest)).length=(V2k w).length+1+(Vb (w2::rest)).length:=by rw[hk];simp;omega
    have kB:s.drop n=V2k w++46::(Vb (w2::rest)++c::r):=by rw[hd];simp
    have dZ:s.drop (n+(V2k w).length)=46::(Vb (w2::rest)++c::r):=by rw[<-U27,kB];simp
    have io:s.drop (n+(V2k w).length+1)=Vb (w2::rest)++c::r:=by rw[<-U27,dZ];rfl
    have bz:=O1u dZ (by unfold Ow;decide);have ay:=O1u (show s.drop (n+(V2k w).length+1)=c2::(r2++c::r) by rw[io,e2];rfl) cw;have h4:V9 s (n+(V2k w).length)=46:=by rw[O15 dZ];rfl
    have i1:=ih f (n+(V2k w).length+1) (acc++[(w,n,n+(V2k w).length)]) c r Yb io hc hb (by
     rw[show n+(V2k w).length+1+(Vb (w2::rest)).length=n+(V2k w++46::Vb (w2::rest)).length by simp;omega];exact Ar) (by simp only[U17]at hf⊢;omega)
    unfold V4c;rw[Of4 s n w 46 _ kB Yd Yd];simp only;rw[bz,U18 h4,ay,i1];rw[hl,U3f];rw[show n+(V2k w).length+1+(Vb (w2::rest)).length=n+((V2k w).length+1+(Vb (w2::rest)).length) by omega];rfl
theorem Of6{s:Bs}{ws:List Bs}{n:Nat}{c:UInt8}{r:Bs}(h0:ws≠[])(hd:s.drop n=Vb ws++c::r)(hc:c≠34)(hb:Vq c=false)(Ar:V9 s (V7 s (n+(Vb ws).length))≠46):V23 (V29 Vd) s n=.ok (V3k n ws,n+(Vb ws).length):=by
 have h1:=U2b List.length hd;rw[U15,U1c,U17]at h1;have h2:=Ol2 ws;have h3:=Op6 s ws (s.length+2) n [] c r h0 hd hc hb Ar Ya;unfold V23;rw[h3];rfl
abbrev PN:=Nat×Bs×List Bs×List Nat
def pj(nd:Nd):PN:=(nd.kind,nd.text,nd.keys,nd.subs)
def pe:PN:=(8,[],[],[])
def pt(w:Bs)(i:Nat):PN:=(8,[],[w],[i])
def sh(b:Nat)(p:PN):PN:=(p.1,p.2.1,p.2.2.1,p.2.2.2.map (b+·))
def ch:Nat->List Bs->List PN
 |_,[]=>[]
 |i,w::r=>pt w (i+1)::ch (i+1) r
theorem O40(ws:List Bs):∀i,(ch i ws).length=ws.length:=by
 induction ws with
 |nil=>intro i;rfl
 |cons w r ih=>intro i;simp[ch,ih]
theorem Ocq(w:Bs):∀(ws:List Bs)(i:Nat),ch i (ws++[w])=ch i ws++[pt w (i+ws.length+1)]:=by
 intro ws
 induction ws with
 |nil=>intro i;rfl
 |cons a r ih =>
  intro i;rw[U1l,ch,ih,ch,U1l,U17,show i+1+r.length=i+(r.length+1) by omega]
theorem V7y{Q:Bs->Bs}{a b:Ve}(h:a.map pj=b.map pj):∀(f i:Nat),V2e Q a f i=V2e Q b f i:=by
 have hi:∀i:Nat,a[i]?.map pj=b[i]?.map pj:=λ i=>by rw[<-U1m,h,U1m]
 intro f
 induction f with
 |zero=>intro i;rfl
 |succ f ih =>
  intro i;have e2:V2e Q a f=V2e Q b f:=funext ih;unfold V2e;have:=hi i;cases ha:a[i]? with
  |none =>
   cases hb:b[i]? with
   |none=>rfl
   |some y=>rw[ha,hb]at this;cases this
  |some x =>
   cases hb:b[i]? with
   |none=>rw[ha,hb]at this;cases this
   |some y =>
    rw[ha,hb]at this;simp only[U29,U1f,pj,U19]at this;obtain⟨h1,h2,h3,h4⟩:=this;simp only[h1,h2,h3,h4,e2]
theorem Oil{l:Ve}{pre post:List PN}{p:PN}(h:l.map pj=pre++p::post):∃nd,l[pre.length]?=some nd/\pj nd=p:=by
 have h1:l[pre.length]?.map pj=some p:=by rw[<-U1m,h,U21 (U12 _),U3y];rfl
 cases hl:l[pre.length]? with
 |none=>rw[hl]at h1;cases h1
 |some nd=>rw[hl]at h1;exact⟨nd,rfl,by simpa using h1⟩
theorem Oim(f:Nd->Nd)(q:PN->PN)(hq:∀nd,pj (f nd)=q (pj nd)):∀(pre:List PN)(l:Ve)(p:PN)(post:List PN),l.map pj=pre++p::post->(l.modify pre.length f).map pj=pre++q p::post:=by
 intro pre
 induction pre with
 |nil =>
  intro l p post h;cases l with
  |nil=>cases h
  |cons a l =>
   simp only[U35,U23,U24]at h;simp[h.1,h.2,hq]
 |cons b pre ih =>
  intro l p post h;cases l with
  |nil=>cases h
  |cons a l =>
   simp only[U35,U1l,U24]at h;have:=ih l p post h.2;simp[h.1,this]
theorem Ocr{l:Ve}{t i:Nat}{w:Bs}{sp:Nat×Nat}{pre post:List PN}{k:Nat}{x:Bs}{ks:List Bs}{ss:List Nat}(h:l.map pj=pre++(k,x,ks,ss)::post)(ht:t=pre.length):(Vj l t w sp i).map pj=pre++(k,x,ks++[w],ss++[i])::post:=by
 subst ht;exact Oim (λ nd=>V12 nd w sp i) (λ p=>(p.1,p.2.1,p.2.2.1++[w],p.2.2.2++[i])) (λ nd=>rfl) pre l _ post h
theorem O9k{st:Ve}{t:Nat}{w:Bs}{pre post:List PN}(h:st.map pj=pre++pe::post)(ht:t=pre.length):V16 st t w=.no:=by
 subst ht;obtain⟨nd,h1,h2⟩:=Oil h;unfold V16;rw[h1];simp only;have h3:nd.keys=[]:=U2b (·.2.2.1) h2;rw[h3];rfl
theorem O9l{st:Ve}{t i:Nat}{w:Bs}{pre post:List PN}(h:st.map pj=pre++pt w i::post)(ht:t=pre.length)(hi:i<st.length):V16 st t w=.yes i:=by
 subst ht;obtain⟨nd,h1,h2⟩:=Oil h;unfold V16;rw[h1];simp only;have h3:nd.keys=[w]:=U2b (·.2.2.1) h2;have h4:nd.subs=[i]:=U2b (·.2.2.2) h2;rw[h3,h4,show [w].findIdx? (λ x=>x==w)=some 0 by simp];simp only[U2e];rw[U18 hi]
theorem O8o{g:Vc}{t d:Nat}{pre:List PN}(h:GI g)(ht:Tb g t)(hp:g.nds.map pj=pre++[pe])(mb:t=pre.length)(hl:g.nds.length+1<=20000000)(hd:d+1<=256)(w:Bs)(a b:Nat)(s:Nat×Nat)(hs:s.1=1\/s.1=2\/s.1=3)(over:Nat->Ov):∃g',V1p g t d w a b s over=.ok (t+1,d+1,g')/\GI g'/\Tb g' (t+1)/\g'.nds.map pj=(pre++[pt w (t+1)])++[pe]/\Sm g g'/\(∀i,i<t+1->Vf g' i=Vf g i)/\Vf g' (t+1)=s/\g'.nds.length=g.nds.length+1:=by
 have ad:g.nds.length=t+1:=by
  have:=U2b List.length hp;simp at this;omega
 have lm:∀ov:Nat->Ov,V1p g t d w a b s ov=.ok (t+1,d+1,V2s (V2j g 8 s) t w (a,b) g.nds.length):=λ ov=>by
  unfold V1p;rw[O9k (post:=[]) hp mb];simp only;rw[U1b Ya,U18 (by rw[h.g8 Ya ht,O1p Ya];rfl),ad]
 obtain⟨q1,q2,_,_,_,q6⟩:=(O5g h hl ht d w a b s hs (λ _ => .no) (λ i _=>⟨Yb,λ n d' e=>by cases e⟩)).2 _ _ _ (lm _);refine⟨_,lm over,q1,q2,?_,q6,λ i hi=>?_,?_,?_⟩
 have h1:(V2j g 8 s).nds.map pj=pre++(8,[],[],[])::[pe]:=by
  show (g.nds++[V1r 8]).map pj=_;rw[U2o,hp];simp[pe,pj,V1r]
 have h2:=Ocr (t:=t) (i:=g.nds.length) (w:=w) (sp:=(a,b)) h1 mb;rw[show (pre++[pt w (t+1)])++[pe]=pre++(8,[],[]++[w],[]++[g.nds.length])::[pe] by rw[ad];simp[pt]];exact h2;show (g.srt++[s]).getD i (0,0)=g.srt.getD i (0,0);rw[O5f,U18 (by rw[h.len];omega)];show (g.srt++[s]).getD (t+1) (0,0)=s;rw[O5f,U1b (by rw[h.len];omega),U18 (by rw[h.len];omega)]
 show (Vj (g.nds++[V1r 8]) t w (a,b) g.nds.length).length=_;simp[Vj]
theorem Oaj(s:Nat×Nat)(hs:s.1=1\/s.1=2\/s.1=3)(over:Vc->Nat->Nat->Ov):∀(ks:List KW)(t d:Nat)(g:Vc)(pre:List PN),GI g->Tb g t->g.nds.map pj=pre++[pe]->t=pre.length->d+ks.length<=256->g.nds.length+ks.length<=20000000 ->∃g',V2a s over ks t d g=.ok (t+ks.length,d+ks.length,g')/\GI g'/\Tb g' (t+ks.length)/\g'.nds.map pj=(pre++ch t (ks.map (·.1)))++[pe]/\Sm g g'/\(∀i,i<t+1->Vf g' i=Vf g i)/\(∀i,t<i->i<=t+ks.length->Vf g' i=s)/\g'.nds.length=g.nds.length+ks.length:=by
 intro ks
 induction ks with
 |nil =>
  intro t d g pre h ht hp mb _ _;exact⟨g,rfl,h,ht,by simp[ch,hp],Sm.refl g,λ _ _=>rfl,λ i h1 h2=>by (simp at h2;omega),rfl⟩
 |cons k r ih =>
  intro t d g pre h ht hp mb hd hl;obtain⟨w,a,b⟩:=k;rw[U17]at hd hl;obtain⟨g1,q1,q2,q3,q4,q5,q6,q7,q8⟩:=O8o (d:=d) h ht hp mb Ya Ya w a b s hs (over g d);obtain⟨g2,r1,r2,r3,r4,r5,r6,r7,r8⟩:=ih (t+1) (d+1) g1 (pre++[pt w (t+1)]) q2 q3 q4 Ye Ya Ya;have e:t+1+r.length=t+(r.length+1):=Ya
  refine⟨g2,?_,r2,by rw[U17,<-e];exact r3,?_,q5.trans r5,λ i hi=>?_,λ i h1 h2=>?_,by rw[U17];omega⟩;rw[V2a,q1];simp only;rw[r1,U17,e,show d+1+r.length=d+(r.length+1) by omega];rw[r4];simp[ch];rw[r6 i Ya,q6 i hi]
  rw[U17]at h2;by_cases hi:i=t+1;subst hi;rw[r6 _ Ya,q7]
  exact r7 i Ya Ya
theorem Of7{s:Nat×Nat}{over:Vc->Nat->Nat->Ov}{g:Vc}:∀(ks:List KW)(t d:Nat)(pre post:List PN),g.nds.map pj=(pre++ch t (ks.map (·.1)))++post->t=pre.length->post≠[]->(∀j d,t<j->j<=t+ks.length->over g d j=.go j (d+1)) ->V2a s over ks t d g=.ok (t+ks.length,d+ks.length,g):=by
 intro ks
 induction ks with
 |nil=>intro t d pre post _ _ _ _;rfl
 |cons k r ih =>
  intro t d pre post hp mb yz ho;obtain⟨w,a,b⟩:=k;have fW:g.nds.map pj=pre++pt w (t+1)::(ch (t+1) (r.map (·.1))++post):=by rw[hp];simp[ch]
  have aa:t+1<g.nds.length:=by
   have:=U2b List.length fW;have h2:=U30.2 yz;exact J50
  have hs:V1p g t d w a b s (over g d)=.ok (t+1,d+1,g):=by
   unfold V1p;rw[O9l fW mb aa];simp only;rw[ho (t+1) d Ya (by rw[U17];omega)]
  rw[V2a,hs];simp only;rw[ih (t+1) (d+1) (pre++[pt w (t+1)]) post (by rw[fW];simp) Ye yz (λ j d h1 h2=>ho j d Ya (by rw[U17];omega)),U17,show t+1+r.length=t+(r.length+1) by omega,show d+1+r.length=d+(r.length+1) by omega]
theorem Oge{g:Vc}{pre:List PN}(h:GI g)(hp:g.nds.map pj=pre++[pe])(mb:g.sec=pre.length)(init:List Bs)(last:Bs)(n:Nat)(hd:g.dep+init.length<=256)(hl:g.nds.length+init.length<=20000000):∃g1,V2z g (V3k n (init++[last]))=.ok (g.sec+init.length,g.dep+init.length,g1)/\GI g1/\Tb g1 (g.sec+init.length)/\g1.nds.map pj=(pre++ch g.sec init)++[pe]/\Sm g g1/\(∀i,i<g.sec+1->Vf g1 i=Vf g i)/\(∀i,g.sec<i->i<=g.sec+init.length->Vf g1 i=(3,g.many))/\g1.nds.length=g.nds.length+init.length:=by
 obtain⟨g1,q1,q2,q3,q4,q5,q6,q7,q8⟩:=Oaj (3,g.many) (.inr (.inr rfl)) V1v (V3k n init) g.sec g.dep g pre h h.sec hp mb (by rw[O1a];exact hd) (by rw[O1a];exact hl);rw[O1a]at q1 q3 q7 q8;rw[O3l]at q4;refine⟨g1,?_,q2,q3,q4,q5,q6,q7,q8⟩;unfold V2z;rw[O45,q1];simp only;rw[O38];simp only;rw[O9k (post:=[]) q4 (by simp[O40];omega)]
theorem Oeg{g:Vc}(h:GI g)(hp:g.nds.map pj=[pe])(init:List Bs)(last:Bs)(n:Nat)(hd:init.length<=200):∃g',V27 g (V3k n (init++[last]))=.ok g'/\Vci (V3k n (init++[last])) g g'/\g'.sec=init.length+1/\g'.dep=init.length+2/\g'.nds.map pj=ch 0 (init++[last])++[pe]/\(∀i,0<i->i<=init.length->Vf g' i=(2,0))/\Vf g' (init.length+1)=(1,0)/\g'.nds.length=init.length+2:=by
 have fg:g.nds.length=1:=by
  have:=U2b List.length hp;exact J4
 obtain⟨g1,q1,q2,q3,q4,q5,q6,q7,q8⟩:=Oaj (2,0) (.inr (.inl rfl)) V39 (V3k n init) 0 1 g [] h h.root hp rfl (by rw[O1a];omega) (by rw[O1a];omega);rw[O1a]at q1 q3 q7 q8;rw[O3l,U23]at q4;rw[U1q]at q1 q3 q7;obtain⟨g2,r1,r2,r3,r4,r5,r6,r7,r8⟩:=O8o (d:=1+init.length) q2 q3 q4 (O40 _ _).symm Ya Ya last (n+V3c init) (n+V3c init+(V2k last).length) (1,0) (.inl rfl) (λ i=>if (Vf g1 i).1=2 then .go i (1+init.length+1) else .no);have lm:V27 g (V3k n (init++[last]))=.ok { g2 with srt:=g2.srt.set (init.length+1) (1,0),sec:=init.length+1,dep:=1+init.length+1,many:=g2.many+1 }:=by
  unfold V27;rw[O45,q1];simp only;rw[O38];simp only;rw[r1]
 have se:g2.nds.length=init.length+2:=Ya;have nw:=r2.len;refine⟨_,lm,(O68 h _ (by rw[O7q];simp) (by rw[O1a];simp;omega)).2 _ lm,rfl,by show 1+init.length+1=_;omega,?_,λ i h1 h2=>?_,?_,se⟩;show g2.nds.map pj=_;rw[r4,Ocq,U1q];show (g2.srt.set (init.length+1) (1,0)).getD i (0,0)=_;rw[getD_set _ _ _ _ Ya,U1b Ya];exact (r6 i Ya).trans (q7 i h1 h2)
 show (g2.srt.set (init.length+1) (1,0)).getD (init.length+1) (0,0)=_;rw[getD_set _ _ _ _ Ya,U18 rfl]
theorem Oak{g:Vc}{n:Nat}{init:List Bs}{last:Bs}{post:List PN}(hp:g.nds.map pj=ch 0 (init++[last])++post)(yz:post≠[])(hs:∀i,0<i->i<=init.length->(Vf g i).1=2\/(Vf g i).1=3)(hl:(Vf g (init.length+1)).1≠2):V27 g (V3k n (init++[last]))=.bad 5 (n+V3c init):=by
 have ad:init.length+1<g.nds.length:=by
  have:=U2b List.length hp;have h2:=U30.2 yz;exact J50
 have hw:=Of7 (s:=(2,0)) (over:=V39) (g:=g) (V3k n init) 0 1 [] (pt last (init.length+1)::post) (by rw[hp,O3l,Ocq];simp) rfl Yb (λ j d h1 h2=>by
  rw[O1a]at h2;unfold V39;have:=hs j h1 Ya;rw[U1b Ya,U1b Ya])
 rw[O1a,U1q]at hw;unfold V27;rw[O45,hw];simp only;rw[O38];simp only;have:V1p g init.length (1+init.length) last (n+V3c init) (n+V3c init+(V2k last).length) (1,0) (λ i=>if (Vf g i).1=2 then .go i (1+init.length+1) else .no)=.bad 5 (n+V3c init):=by
  unfold V1p;rw[O9l (i:=init.length+1) (pre:=ch 0 init) (post:=post) (by rw[hp,Ocq,U1q];simp) (O40 _ _).symm ad];simp only;rw[U1b hl]
 rw[this]
theorem Ol4{g:Vc}{n x:Nat}{init:List Bs}{last:Bs}{post:List PN}(IM:g.sec=0)(hp:g.nds.map pj=ch 0 init++pt last x::post)(hx:x<g.nds.length)(hs:∀i,0<i->i<=init.length->Vf g i=(3,g.many)):V2z g (V3k n (init++[last]))=.bad 5 (n+V3c init):=by
 have hw:=Of7 (s:=(3,g.many)) (over:=V1v) (g:=g) (V3k n init) 0 g.dep [] (pt last x::post) (by rw[hp,O3l];simp) rfl Yb (λ j d h1 h2=>by
  rw[O1a]at h2;unfold V1v;rw[U18 (hs j h1 Ya)])
 rw[O1a,U1q]at hw;unfold V2z;rw[O45,IM,hw];simp only;rw[O38];simp only;rw[O9l hp (O40 _ _).symm hx]
theorem O39{ws:List Bs}(h:ws≠[]){s:Bs}{n:Nat}{r:Bs}(hd:s.drop n=Vb ws++r):V7 s n=n/\pre (s.drop n) [91,91]=false/\pre (s.drop n) [91]=false/\V1c (s.drop n)=false:=by
 obtain⟨c,q,e,hg,vH⟩:=O6d ws h;have ye:s.drop n=c::(q++r):=by rw[hd,e];rfl
 have e1:(c==91)=false:=by simpa using vH
 refine⟨O1u ye hg,?_,?_,?_⟩;rw[ye];simp[pre,e1];rw[ye];simp[pre,e1]
 have hk:∀k:UInt8,c≠k->(c.toNat==k.toNat)=false:=λ k h=>by
  rw[U3l];exact λ e=>h (U20.1 e)
 rw[ye];show (c.toNat==35 || c.toNat==13 || c.toNat==10)=false;rw[show (c.toNat==35)=false from hk 35 λ e=>hg (by unfold Ow;simp[e]),show (c.toNat==13)=false from hk 13 λ e=>hg (by unfold Ow;simp[e]),show (c.toNat==10)=false from hk 10 λ e=>hg (by unfold Ow;simp[e])];rfl
structure PrE(s:Bs)(n:Nat)(ws:List Bs)(rest:Bs):Prop where
 ne:ws≠[]
 d:s.drop n=Vb ws++32::61::32::rest
 v:∃c r,rest=c::r/\¬Ow c
theorem PrE.facts{s:Bs}{n:Nat}{ws:List Bs}{rest:Bs}(h:PrE s n ws rest):V23 (V29 Vd) s n=.ok (V3k n ws,n+(Vb ws).length)/\V7 s (n+(Vb ws).length)=n+(Vb ws).length+1/\s.drop (n+(Vb ws).length+1)=61::32::rest/\V7 s (n+(Vb ws).length+1+1)=n+(Vb ws).length+3/\s.drop (n+(Vb ws).length+3)=rest:=by
 obtain⟨c,r,rfl,hc⟩:=h.v;have d1:s.drop (n+(Vb ws).length)=32::61::32::c::r:=by rw[<-U27,h.d];simp
 have b1:=O8n d1 (by unfold Ow;decide);have d2:=O1k d1;have d3:=O1k d2;have b2:=O8n d3 hc;refine⟨Of6 h.ne h.d Yd Yd (by rw[b1,O15 d2];decide),b1,d2,b2,?_⟩;exact O1k d3
theorem Oin{s:Bs}{n:Nat}{ws:List Bs}{rest:Bs}(h:PrE s n ws rest){g:Vc}{c p:Nat}(hp:V2z g (V3k n ws)=.bad c p):V2d (V29 Vd) s n g=.bad c p:=by
 obtain⟨k1,k2,k3,k4,k5⟩:=h.facts;obtain⟨f1,f2,f3,f4⟩:=O39 h.ne h.d;unfold V2d;simp only;rw[f1,f2,f3,f4];simp only[U1v,U2c];rw[U42,f1,k1];simp only;rw[U1b Yd,U1b Yd,hp]
theorem Ol5{s:Bs}{n:Nat}{ws:List Bs}{rest:Bs}(h:PrE s n ws rest){g g1:Vc}{into d root e:Nat}{nds:Ve}(hp:V2z g (V3k n ws)=.ok (into,d,g1))(hv:V1j (V29 Vd) s (n+(Vb ws).length+3) d=.ok (root,e,nds)):V2d (V29 Vd) s n g=.ok (into,root,nds,g1):=by
 obtain⟨k1,k2,k3,k4,k5⟩:=h.facts;obtain⟨f1,f2,f3,f4⟩:=O39 h.ne h.d;unfold V2d;simp only;rw[f1,f2,f3,f4];simp only[U1v,U2c];rw[U42,f1,k1];simp only;rw[U1b Yd,U1b Yd,hp];simp only;rw[k2,U18 (show V9 s (n+(Vb ws).length+1)=61 by rw[O15 k3];rfl),k4,hv]
theorem Onn{s:Bs}{n:Nat}{ws:List Bs}{rest:Bs}(h:PrE s n ws rest){root e k:Nat}{nds:Ve}(hv:V1j (V29 Vd) s (n+(Vb ws).length+3) 0=.ok (root,e,nds))(hk:V1e s e=.ok k):∃it,V41 (V29 Vd) s n=.ok it/\it.kind=1/\it.b=k/\it.ws=V3k n ws:=by
 obtain⟨k1,k2,k3,k4,k5⟩:=h.facts;obtain⟨f1,f2,f3,f4⟩:=O39 h.ne h.d;refine⟨{ (⟨1,0,0,V3k n ws,n+(Vb ws).length+3,e,root,nds⟩:It) with a:=n,b:=k },?_,rfl,rfl,rfl⟩;have jS:V3o (V29 Vd) s n=.ok (e,⟨1,0,0,V3k n ws,n+(Vb ws).length+3,e,root,nds⟩):=by
  unfold V3o;rw[f2,f3,f4];simp only[U1v,U2c];unfold V5p;rw[k1];simp only;rw[k2,Of5 k3];simp only;rw[k4,hv]
 unfold V41;rw[f1,jS];simp only;rw[hk]
structure HdE(s:Bs)(n:Nat)(ws:List Bs)(rest:Bs):Prop where
 ne:ws≠[]
 d:s.drop n=91::(Vb ws++93::rest)
theorem HdE.facts{s:Bs}{n:Nat}{ws:List Bs}{rest:Bs}(h:HdE s n ws rest):V7 s n=n/\pre (s.drop n) [91,91]=false/\pre (s.drop n) [91]=true/\V1c (s.drop n)=false/\V7 s (n+1)=n+1/\V23 (V29 Vd) s (n+1)=.ok (V3k (n+1) ws,n+1+(Vb ws).length)/\V7 s (n+1+(Vb ws).length)=n+1+(Vb ws).length/\isF s (n+1+(Vb ws).length) [93]=.ok (n+(Vb ws).length+2):=by
 have d1:=O1k h.d;obtain⟨f1,f2,f3,f4⟩:=O39 h.ne d1;have d2:s.drop (n+1+(Vb ws).length)=93::rest:=by rw[<-U27,d1];simp
 have b2:=O1u d2 (by unfold Ow;decide);refine⟨O1u h.d (by unfold Ow;decide),?_,by rw[h.d];simp[pre],by rw[h.d];rfl,f1,Of6 h.ne d1 Yd Yd (by rw[b2,O15 d2];decide),b2,by rw[Of5 d2,show n+1+(Vb ws).length+1=n+(Vb ws).length+2 by omega]⟩;rw[h.d];rw[d1]at f3;cases hx:Vb ws++93::rest with
 |nil=>rfl
 |cons c r =>
  rw[hx]at f3;have e:(c==91)=false:=by simpa [pre]using f3
  simp[pre,e]
theorem O8p{s:Bs}{n:Nat}{ws:List Bs}{rest:Bs}(h:HdE s n ws rest){g:Vc}{c p:Nat}(hp:V27 g (V3k (n+1) ws)=.bad c p):V2d (V29 Vd) s n g=.bad c p:=by
 obtain⟨f1,f2,f3,f4,f5,f6,_⟩:=h.facts;unfold V2d;simp only;rw[f1,f2,f3,f4];simp only[U1v,U2c,U2i];rw[f5,f6];simp only;rw[U1b Yd,hp]
theorem Oio{s:Bs}{n:Nat}{ws:List Bs}{rest:Bs}(h:HdE s n ws rest){g g1:Vc}(hp:V27 g (V3k (n+1) ws)=.ok g1):V2d (V29 Vd) s n g=.ok (0,0,[],g1):=by
 obtain⟨f1,f2,f3,f4,f5,f6,_⟩:=h.facts;unfold V2d;simp only;rw[f1,f2,f3,f4];simp only[U1v,U2c,U2i];rw[f5,f6];simp only;rw[U1b Yd,hp]
theorem Ol6{s:Bs}{n k:Nat}{ws:List Bs}{rest:Bs}(h:HdE s n ws rest)(hk:V1e s (n+(Vb ws).length+2)=.ok k):∃it,V41 (V29 Vd) s n=.ok it/\it.kind=2/\it.b=k:=by
 obtain⟨f1,f2,f3,f4,f5,f6,f7,f8⟩:=h.facts;refine⟨{ (⟨2,0,0,V3k (n+1) ws,0,0,0,[]⟩:It) with a:=n,b:=k },?_,rfl,rfl⟩;have jS:V3o (V29 Vd) s n=.ok (n+(Vb ws).length+2,⟨2,0,0,V3k (n+1) ws,0,0,0,[]⟩):=by
  unfold V3o;rw[f2,f3];simp only[U1v,U2c,U2i];unfold V3p;rw[show n+([93]:Bs).length=n+1 from rfl,f5,f6];simp only;rw[f7,f8]
 unfold V41;rw[f1,jS];simp only;rw[hk]
theorem Omd{b:Nat}{st st' nds:Ve}(hb:b=st.length)(hr:RS b st' nds)(hk:V3g b st st'):st'.map pj=st.map pj++(nds.map pj).map (sh b):=by
 subst hb;apply U46;intro j;by_cases hj:j<st.length;rw[U1d (by simpa using hj),U1m,U1m,hk j hj]
 rw[U21 Ye,U1n,U1m,U1m,U1m];obtain⟨i,rfl⟩:∃i,j=st.length+i:=⟨j-st.length,Ya⟩
 rw[Nat.add_sub_cancel_left];rcases hr.get i with⟨h1,h2⟩|⟨x,y,h1,h2,h3⟩
 rw[h1,h2];rfl
 rw[h1,h2];simp only[U29,pj,sh,h3.kind,h3.text,h3.keys,h3.subs]
theorem sh0(P:List PN):P.map (sh 0)=P:=by
 conv=>rhs;rw[<-List.map_id P]
 refine U48 λ p _=>?_
 obtain⟨a,b,c,d⟩:=p;simp[sh]
def V18:List Bs->Bs->Bs
 |[],v=>v
 |w::r,v=>123::(Vb [w]++32::61::32::(V18 r v++[125]))
def O2h:Nat->List Bs->Nat->Nat
 |b,[],root=>b+root
 |b,_::_,_=>b
def O1g:Nat->List Bs->List PN->Nat->List PN
 |b,[],P,_=>P.map (sh b)
 |b,w::r,P,root=>pt w (O2h (b+1) r root)::O1g (b+1) r P root
theorem Ocs(c b root:Nat)(r:List Bs):O2h (c+b) r root=c+O2h b r root:=by
 cases r with
 |nil=>simp[O2h,U2a]
 |cons w r=>rfl
theorem Ol7(c:Nat)(P:List PN)(root:Nat):∀(r:List Bs)(b:Nat),(O1g b r P root).map (sh c)=O1g (c+b) r P root:=by
 intro r
 induction r with
 |nil =>
  intro b;simp only[O1g,U47];refine U48 λ p _=>?_
  obtain⟨a1,b1,c1,d1⟩:=p;simp[sh,U2a]
 |cons w r ih =>
  intro b;simp only[O1g,U35];rw[ih,show c+(b+1)=c+b+1 by omega];congr 1;have:=Ocs c (b+1) root r;rw[show c+(b+1)=c+b+1 by omega]at this;rw[this];rfl
theorem Oct(P:List PN)(root:Nat)(last:Bs):∀(init:List Bs)(b:Nat),O1g b (init++[last]) P root=ch b init++pt last (b+init.length+1+root)::P.map (sh (b+init.length+1)):=by
 intro init
 induction init with
 |nil=>intro b;rfl
 |cons w r ih =>
  intro b;rw[U1l,O1g,ih,ch,U1l,U17,show b+1+r.length+1=b+(r.length+1)+1 by omega];congr 1;cases r <;> rfl
theorem O8q{v:Bs}{root:Nat}{nds:Ve}(hv:Vv (V29 Vd) v 258 11 0 []=.ok (root,v.length,nds))(r:List Bs):∃c q,V18 r v=c::q/\¬Ow c:=by
 cases r with
 |nil =>
  obtain⟨c,q,e,h,_⟩:=O5h Vd v 257 11 root nds hv;exact⟨c,q,e,h⟩
 |cons w r=>exact⟨123,_,rfl,by unfold Ow;decide⟩
theorem Oip{s:Bs}(hs:s.length<=20000000){v:Bs}{root:Nat}{nds:Ve}(hv:Vv (V29 Vd) v 258 11 0 []=.ok (root,v.length,nds)):∀(r:List Bs)(f d a:Nat)(st:Ve)(q:Bs),Ol q->s.drop a=V18 r v++q->WF st->st.length<=a->259-f<=d->d+r.length<=11->0<f ->∃st',Vv (V29 Vd) s f d a st=.ok (O2h st.length r root,a+(V18 r v).length,st')/\V8m st (O2h st.length r root) (a+(V18 r v).length) st'/\st'.map pj=st.map pj++O1g st.length r (nds.map pj) root:=by
 intro r
 induction r with
 |nil =>
  intro f d a st q hq hd hw hl fO IN hf;have ad:=U2b List.length hd;rw[U15,U1c]at ad;have h0:0<v.length:=by
   obtain⟨c,q,e,_⟩:=O5h Vd v 257 11 root nds hv;rw[e];simp
  simp only[V18]at hd ad⊢;simp only[O2h,O1g];obtain⟨st',h1,h2,h3⟩:=O6c (V3r Vd) (s:=s) (a:=a) (st:=st) (O8k _ _ 258 11 d 0 [] _ (by simp at IN;omega) hv) hs ⟨q,hq,hd⟩ Ya f hf fO hw hl;exact⟨st',h1,h3,by rw[Omd rfl h2 h3.keep];simp⟩
 |cons w r ih =>
  intro f d a st q hq hd hw hl fO IN hf;rw[U17]at IN;have ad:=U2b List.length hd;rw[U15,U1c]at ad;have hT:V18 (w::r) v=123::(Vb [w]++32::61::32::(V18 r v++[125])):=rfl;have rC:(V18 (w::r) v).length=1+(Vb [w]).length+3+(V18 r v).length+1:=by rw[hT];simp;omega
  rw[hT]at hd;have kB:s.drop a=123::(Vb [w]++32::61::32::(V18 r v++125::q)):=by rw[hd];simp
  have dZ:=O1k kB;obtain⟨f,rfl⟩:∃f',f=f'+1:=⟨f-1,Ya⟩
  obtain⟨t1,t2⟩:=((V4z (V3r Vd) s hs (f+1)).resolve_right Ya) d a st fO hw hl Ya;have QR:WF (st++[Vt]):=hw.app Vt ⟨λ _=>⟨rfl,rfl⟩,List.Pairwise.nil,λ x hx=>by (cases hx),λ h=>absurd rfl h⟩;obtain⟨vc,vq,ev,QS⟩:=O8q hv r;have hP:PrE s (a+1) [w] (V18 r v++125::q):=⟨Yb,dZ,⟨vc,vq++125::q,by rw[ev];rfl,QS⟩⟩
  obtain⟨k1,k2,k3,k4,k5⟩:=hP.facts;obtain⟨f1,f2,f3,f4⟩:=O39 (ws:=[w]) Yb dZ;obtain⟨kc,kq,ek,UD,QT⟩:=O6d [w] Yb;have d6:V9 s (a+1)≠125:=by
   obtain⟨c,r',e,hc⟩:=O7p w;have e2:Vb [w]=c::r':=by simp[Vb,e]
   rw[e2]at dZ;rw[O15 (show s.drop (a+1)=c::(r'++32::61::32::(V18 r v++125::q)) from dZ)];intro h;have:c=125:=U20.1 h;subst this;rcases hc with hc|hc
   revert hc;decide
   cases hc
  have As:(st++[Vt]).length=st.length+1:=Yb;obtain⟨st2,i1,i2,i3⟩:=ih f (d+1) (a+1+(Vb [w]).length+3) (st++[Vt]) (125::q) (.inr ⟨125,q,rfl,Yb,λ h=>by cases h⟩) k5 QR (by rw[As];omega) Ya Ya (by
   have:259-(f+1)<=d:=fO;omega)
  have aM:st2[st.length]?=some Vt:=by rw[i2.keep st.length (by rw[As];omega)];simp
  have IE:=i2.lo;have IP:=i2.hi;have aQ:=i2.len;rw[As]at IE i1 IP i2;have QU:st2.map pj=st.map pj++pe::O1g (st.length+1) r (nds.map pj) root:=by rw[i3,As];simp[pj,Vt,pe]
  obtain⟨i0,MM⟩:=ExZ (O2h (st.length+1) r root)
  rw[MM]at i1 IE IP;have nr:V3j st.length (V3k (a+1) [w]) st.length d (st++[Vt])=.ok (st.length,d,st++[Vt]):=by
   show V3j st.length [(w,a+1,a+1+(V2k w).length)] st.length d (st++[Vt])=_;unfold V3j;rw[O9k (pre:=st.map pj) (post:=[]) (by simp[pj,Vt,pe]) Yb]
  have k8:kind8 st2 st.length=true:=O2w i2.wf Ya _ _ aM rfl;have Cp:V1g (V29 Vd) (Vv (V29 Vd) s f) s st.length (a+1) d (st++[Vt])=.ok (a+1+(Vb [w]).length+3+(V18 r v).length,Vj st2 st.length w (a+1,a+1+(V2k w).length) i0):=by
   unfold V1g;rw[k1];simp only;rw[nr];simp only;rw[k2,U18 (show V9 s (a+1+(Vb [w]).length+1)=61 by rw[O15 k3];rfl),k4,i1];simp only;rw[show (V3k (a+1) [w]).getLast?=some (w,a+1,a+1+(V2k w).length) from rfl];simp only;rw[U18 k8]
  have MN:s.drop (a+1+(Vb [w]).length+3+(V18 r v).length)=125::q:=by rw[<-U27,k5];simp
  have IQ:=O1u MN (by unfold Ow;decide);have h9:V9 s (a+1+(Vb [w]).length+3+(V18 r v).length)=125:=by rw[O15 MN];rfl
  have po:V21 (V29 Vd) (Vv (V29 Vd) s f) s st.length d (s.length+2) (a+1) (st++[Vt])=.ok (a+1+(Vb [w]).length+3+(V18 r v).length,Vj st2 st.length w (a+1,a+1+(V2k w).length) i0):=by
   show V21 _ _ _ _ _ (s.length+1+1) _ _=_;unfold V21;rw[Cp];simp only;rw[IQ,U18 h9]
  have QV:=i2.wf.put st.length i0 w (a+1,a+1+(V2k w).length) Vt aM (λ x hx=>by cases hx) IP;have MO:(Vj st2 st.length w (a+1,a+1+(V2k w).length) i0).length=st2.length:=by simp[Vj]
  have Al:kind8 (Vj st2 st.length w (a+1,a+1+(V2k w).length) i0) st.length=true:=O2w QV Ya st.length (V12 Vt w (a+1,a+1+(V2k w).length) i0) (by rw[O12,U18 rfl,aM];rfl) rfl;have co:Vv (V29 Vd) s (f+1) d a st=.ok (st.length,a+1+(Vb [w]).length+3+(V18 r v).length+1,(Vj st2 st.length w (a+1,a+1+(V2k w).length) i0).modify st.length λ nd=>{ nd with sp:=((a:Int),((a+1+(Vb [w]).length+3+(V18 r v).length+1:Nat):Int)) }):=by
   unfold Vv;simp only;rw[show V9 s a=123 by rw[O15 kB];rfl,U1b Yd,U1b Yd,U18 rfl];unfold V1n;rw[U1b Ya,U18 (O1p Ya)];simp only;rw[f1,U1b d6,po];simp only;rw[U18 Al]
  have bD:a+(V18 (w::r) v).length=a+1+(Vb [w]).length+3+(V18 r v).length+1:=by rw[rC];omega
  refine⟨_,by rw[bD];exact co,by rw[bD];exact t2 _ _ _ co,?_⟩;have h1:=Ocr (t:=st.length) (i:=i0) (w:=w) (sp:=(a+1,a+1+(V2k w).length)) QU Yb;have h2:=Oim (λ nd=>{ nd with sp:=((a:Int),((a+1+(Vb [w]).length+3+(V18 r v).length+1:Nat):Int)) }) id (λ nd=>rfl) (st.map pj) _ _ _ h1;rw[U1n]at h2;rw[h2];show _=st.map pj++pt w (O2h (st.length+1) r root)::O1g (st.length+1) r (nds.map pj) root;rw[MM];rfl
theorem O3a{s:Bs}{e:Nat}{t:Bs}(hd:s.drop e=t)(he:e<=s.length)(ht:t=[]\/∃r,t=10::r):V1e s e=.ok (e+if t=[] then 0 else 1):=by
 rcases ht with rfl|⟨r,rfl⟩
 have hl:e=s.length:=by
  have:=U2b List.length hd;rw[U15,U1t]at this;omega
 have hb:V7 s e=e:=by unfold V7;rw[hd];rfl
 have hc:Vs s e=e:=by unfold Vs;rw[hd];rfl
 unfold V1e;simp only;rw[hb,hc,U18 hl];rfl
 have hb:V7 s e=e:=by unfold V7;rw[hd];rfl
 have hc:Vs s (V7 s e)=e:=by rw[hb];unfold Vs;rw[hd];rfl
 rw[closed_of hc hd (.inl rfl)];rfl
structure Vaj(g:Vc)(pre:List PN)(init:List Bs)(last:Bs)(P:List PN)(root:Nat)(g':Vc):Prop where
 gi:GI g'
 tr:g'.nds.map pj=(pre++ch g.sec init)++pt last (root+(g.sec+init.length+1))::P.map (sh (g.sec+init.length+1))
 sec:g'.sec=g.sec
 dep:g'.dep=g.dep
 many:g'.many=g.many
 its:g'.its.length=g.its.length+1
 old:∀i,i<g.sec+1->Vf g' i=Vf g i
 srt:∀i,g.sec<i->i<=g.sec+init.length->Vf g' i=(3,g.many)
theorem O4g{s:Bs}(hs:s.length<=1000000){n:Nat}{g:Vc}{pre:List PN}{init:List Bs}{last:Bs}{rest:Bs}{root e k:Nat}{P:List PN}{D:Nat}(h:GI g)(hp:g.nds.map pj=pre++[pe])(mb:g.sec=pre.length)(hd:g.dep+init.length<=D)(hD:D<=10)(hl:g.nds.length<=1000)(hP:PrE s n (init++[last]) rest)(hv:∀d,d<=D->∃N,V1j (V29 Vd) s (n+(Vb (init++[last])).length+3) d=.ok (root,e,N)/\N.map pj=P)(hk:V1e s e=.ok k):∃g',V2o (V29 Vd) s n g=.ok (k,g')/\Vaj g pre init last P root g':=by
 have hn:n<s.length:=by
  have:=U2b List.length hP.d;rw[U15,U1c,U17]at this;omega
 obtain⟨N,hN,QX⟩:=hv (g.dep+init.length) hd;obtain⟨N0,QY,_⟩:=hv 0 Ya;obtain⟨g1,q1,q2,q3,q4,q5,q6,q7,q8⟩:=Oge h hp mb init last n Ya Ya;have hw:=Ol5 hP q1 hN;obtain⟨it,i1,i2,i3,i4⟩:=Onn hP QY hk;obtain⟨t1,t2⟩:=Ocg (V3r Vd) (s:=s) Ya hn h Ya;have ad:g1.nds.length=g.sec+init.length+1:=by
  have:=U2b List.length q4;exact J50
 have key:V2o (V29 Vd) s n g=if V4x N root&&V2v (V14 g1 N) (g.sec+init.length)&&room (V14 g1 N).nds then .ok (k,{ V2s (V14 g1 N) (g.sec+init.length) last (n+V3c init,n+V3c init+(V2k last).length) (root+g1.nds.length) with its:=(V14 g1 N).its++[it],ns:=(V14 g1 N).ns++[((root+g1.nds.length:Nat):Int)] }) else .non:=by
  unfold V2o;rw[hw];simp only;rw[i1];simp only;rw[U1b Ya,U18 i2,i4,O38,i3]
 have hc:(V4x N root&&V2v (V14 g1 N) (g.sec+init.length)&&room (V14 g1 N).nds)=true:=by
  cases hc:(V4x N root&&V2v (V14 g1 N) (g.sec+init.length)&&room (V14 g1 N).nds) with
  |true=>rfl
  |false=>rw[hc,U1b Yb]at key;exact absurd key t1
 rw[hc,U18 rfl]at key;refine⟨_,key,(t2 _ _ key).gi,?_,q5.sec,q5.dep,q5.many,(t2 _ _ key).its,λ i hi=>?_,λ i h1 h2=>?_⟩
 show (Vj (g1.nds++N.map (λ nd=>({ nd with subs:=nd.subs.map (· + g1.nds.length),owner:=0 }:Nd))) (g.sec+init.length) last _ (root+g1.nds.length)).map pj=_;have h1:(g1.nds++N.map (λ nd=>({ nd with subs:=nd.subs.map (· + g1.nds.length),owner:=0 }:Nd))).map pj=(pre++ch g.sec init)++(8,[],[],[])::P.map (sh (g.sec+init.length+1)):=by
  rw[U2o,q4,U3f,<-QX,U47,U47];congr 1;show pe::_=pe::_;congr 1;refine U48 λ nd _=>?_
  simp only[Function.comp,pj,sh,ad,U19,true_and];exact U48 λ x _=>Nat.add_comm _ _
 have h2:=Ocr (t:=g.sec+init.length) (i:=root+g1.nds.length) (w:=last) (sp:=(n+V3c init,n+V3c init+(V2k last).length)) h1 (by simp[O40];omega);rw[h2,ad];rfl;refine Eq.trans ?_ (q6 i hi);show (g1.srt++_).getD i (0,0)=g1.srt.getD i (0,0);rw[U1j,U1d (by rw[q2.len];omega),U1j]
 refine Eq.trans ?_ (q7 i h1 h2);show (g1.srt++_).getD i (0,0)=g1.srt.getD i (0,0);rw[U1j,U1d (by rw[q2.len];omega),U1j]
structure Ved(init:List Bs)(last:Bs)(g':Vc):Prop where
 gi:GI g'
 tr:g'.nds.map pj=ch 0 (init++[last])++[pe]
 sec:g'.sec=init.length+1
 dep:g'.dep=init.length+2
 many:g'.many=1
 its:g'.its.length=1
 srt:∀i,0<i->i<=init.length->Vf g' i=(2,0)
 last:Vf g' (init.length+1)=(1,0)
theorem O7d{s:Bs}(hs:s.length<=1000000){n k:Nat}{init:List Bs}{last:Bs}{rest:Bs}(hd:init.length<=100)(hP:HdE s n (init++[last]) rest)(hk:V1e s (n+(Vb (init++[last])).length+2)=.ok k):∃g',V2o (V29 Vd) s n V3n=.ok (k,g')/\Ved init last g':=by
 have hn:n<s.length:=by
  have:=U2b List.length hP.d;rw[U15,U17]at this;omega
 obtain⟨g1,q1,q2,q3,q4,q5,q6,q7,q8⟩:=Oeg gi0 Yh init last (n+1) Ya;obtain⟨it,i1,i2,i3⟩:=Ol6 hP hk;have key:V2o (V29 Vd) s n V3n=.ok (k,{ g1 with its:=g1.its++[it],ns:=g1.ns++[((g1.sec:Nat):Int)] }):=by
  unfold V2o;rw[Oio hP q1];simp only;rw[i1];simp only;rw[U1b Ya,U1b Ya,i3]
 refine⟨_,key,q2.gi.more _ _,q5,q3,q4,q2.many,?_,q6,q7⟩;show (g1.its++[it]).length=1;rw[q2.its];rfl
theorem Ogf{g:Vc}(h1:g.nds.length<=1000)(h2:g.many<=10)(h3:g.dep<=1000)(h4:g.its.length<=10):V78 g=true:=by
 unfold V78;simp only[U1g,U1x];omega
theorem Vak:V78 V3n=true:=Yd
theorem O8r{E:V19}{s:Bs}{n:Nat}{g:Vc}{c p:Nat}(h:V2d E s n g=.bad c p):V2o E s n g=.bad c p:=by unfold V2o;rw[h]
theorem O7e{E:V19}{s:Bs}{f n c p:Nat}{g:Vc}(hn:n<s.length)(lC:V78 g=true)(h:V2o E s n g=.bad c p):grownF E s (f+1) n g=.bad c p:=by rw[grownF,U18 hn,U18 lC,h]
theorem O24{E:V19}{s:Bs}{f n e:Nat}{g g':Vc}(hn:n<s.length)(lC:V78 g=true)(h:V2o E s n g=.ok (e,g')):grownF E s (f+1) n g=grownF E s f e g':=by rw[grownF,U18 hn,U18 lC,h]
theorem O4h{E:V19}{s:Bs}{f n:Nat}{g:Vc}(hn:n=s.length):grownF E s (f+1) n g=.ok g:=by rw[grownF,U1b Ya]
structure V5e(init:List Bs)(last v:Bs)(root:Nat)(nds:Ve):Prop where
 ne:init≠[]
 len:init.length<=5
 key:(Vb init).length<=3000
 lst:(Vb [last]).length<=3000
 vl:v.length<=3000
 v:V1j (V29 Vd) v 0 10=.ok (root,v.length,nds)
 nl:nds.length<=900
section
variable {init:List Bs}{last v:Bs}{root:Nat}{nds:Ve}(H:V5e init last v root nds)
include H
theorem V5e.head:∃c r,v=c::r/\¬Ow c:=by
 obtain⟨c,q,e,h,_⟩:=O5h Vd v 257 11 root nds H.v;exact⟨c,q,e,h⟩
theorem V5e.kl:(Vb (init++[last])).length=(Vb init).length+1+(Vb [last]).length:=by
 rw[V7x _ _ H.ne];simp;omega
theorem V5e.read{s:Bs}(hs:s.length<=1000000){a:Nat}{q:Bs}(hq:Ol q)(hd:s.drop a=v++q):∀d,d<=10->∃N,V1j (V29 Vd) s a d=.ok (root,a+v.length,N)/\N.map pj=nds.map pj:=by
 intro d IR;have ad:=U2b List.length hd;rw[U15,U1c]at ad;have h0:0<v.length:=by
  obtain⟨c,r,e,_⟩:=H.head;rw[e];simp
 obtain⟨st',h1,h2,h3⟩:=O6c (V3r Vd) (s:=s) (a:=a) (st:=[]) (Oag IR H.v) Ya ⟨q,hq,hd⟩ Ya 258 Ya Ya (λ i nd h=>by simp at h) Yb;refine⟨st',?_,?_⟩;unfold V1j;rw[h1,U1t,U1q]
 have h4:=Omd rfl h2 h3.keep;rw[h4,U1t,sh0,List.map_id'];rfl
abbrev V34(init:List Bs)(last v:Bs):Bs:=Vb (init++[last])++32::61::32::(v++[10])
theorem V5e.pair_len:(V34 init last v).length=(Vb (init++[last])).length+3+v.length+1:=Ye
theorem V5e.one{s:Bs}(hs:s.length<=1000000)(q:Bs)(MP:s=V34 init last v++q):∃g,V2o (V29 Vd) s 0 V3n=.ok ((V34 init last v).length,g)/\Vaj V3n [] init last (nds.map pj) root g:=by
 have hd:s.drop 0=Vb (init++[last])++32::61::32::(v++10::q):=by rw[MP];simp
 obtain⟨c,r,ev,hc⟩:=H.head;have hP:PrE s 0 (init++[last]) (v++10::q):=⟨Yb,hd,⟨c,r++10::q,by rw[ev];rfl,hc⟩⟩
 obtain⟨k1,k2,k3,k4,k5⟩:=hP.facts;have bD:s.drop (0+(Vb (init++[last])).length+3+v.length)=10::q:=by rw[<-U27,k5];simp
 have bN:=O3a bD (by have:=U2b List.length MP;rw[U1c,H.pair_len]at this;omega) (.inr ⟨q,rfl⟩);rw[U1b Yb]at bN;have hl:=H.len;obtain⟨g,h1,h2⟩:=O4g hs gi0 (pre:=[]) Yh rfl (by show 1+init.length<=10;omega) (U12 _) Yo hP (H.read hs (.inr ⟨10,q,rfl,Yb,λ h=>by cases h⟩) k5) bN;refine⟨g,?_,h2⟩;rw[h1,H.pair_len];congr 2;omega
theorem V5e.one_len{g:Vc}(h:Vaj V3n [] init last (nds.map pj) root g):g.nds.length=init.length+1+nds.length:=by
 have:=U2b List.length h.tr;exact J50
theorem V5e.docA:∃G,V1f (V29 Vd) (V34 init last v)=.ok G/\G.nds.map pj=O1g 0 (init++[last]) (nds.map pj) root:=by
 have hl:=H.pair_len;have lh:=H.kl;have h1:=H.key;have h2:=H.lst;have h3:=H.vl;obtain⟨g,q1,q2⟩:=H.one (s:=V34 init last v) Ya [] Yb;refine⟨g,?_,?_⟩;unfold V1f;rw[O24 Ya Vak q1,show (V34 init last v).length=((Vb (init++[last])).length+3+v.length)+1 from hl];exact O4h (by rw[hl])
 rw[q2.tr,Oct];show _=ch 0 init++_;rw[show V3n.sec=0 from rfl,U23,Nat.add_comm root]
theorem V5e.docB:∃G,V1f (V29 Vd) (91::(Vb init++93::10::(Vb [last]++32::61::32::v)))=.ok G/\G.nds.map pj=O1g 0 (init++[last]) (nds.map pj) root:=by
 have h1:=H.key;have h2:=H.lst;have h3:=H.vl;have h4:=H.len;obtain⟨i0,u,rfl⟩:∃i l,init=i++[l]:=⟨init.dropLast,init.getLast H.ne,(List.dropLast_concat_getLast H.ne).symm⟩
 obtain⟨s,hs⟩:=ExZ (91::(Vb (i0++[u])++93::10::(Vb [last]++32::61::32::v)))
 have se:s.length=(Vb (i0++[u])).length+3+((Vb [last]).length+3+v.length):=by rw[<-hs];simp;omega
 rw[hs];have kB:s.drop 0=91::(Vb (i0++[u])++93::10::(Vb [last]++32::61::32::v)):=by rw[<-hs];rfl
 have hH:HdE s 0 (i0++[u]) (10::(Vb [last]++32::61::32::v)):=⟨Yb,kB⟩
 have dZ:s.drop (0+(Vb (i0++[u])).length+2)=10::(Vb [last]++32::61::32::v):=by
  exact J51
 have bN:=O3a dZ Ya (.inr ⟨_,rfl⟩);rw[U1b Yb]at bN;rw[U1c]at h4;simp only[U17,U1t]at h4;obtain⟨g1,q1,q2⟩:=O7d Ya Ya hH bN;have io:=O1k dZ;have fg:g1.nds.length=i0.length+2:=by
  have:=U2b List.length q2.tr;exact J50
 obtain⟨c,r,ev,hc⟩:=H.head;have hP:PrE s (0+(Vb (i0++[u])).length+2+1) ([]++[last]) v:=⟨Yb,io,⟨c,r,ev,hc⟩⟩
 obtain⟨k1,k2,k3,k4,k5⟩:=hP.facts;have M9:s.drop (0+(Vb (i0++[u])).length+2+1+(Vb ([]++[last])).length+3)=v++[]:=by rw[k5];simp
 have bD:s.drop (0+(Vb (i0++[u])).length+2+1+(Vb ([]++[last])).length+3+v.length)=[]:=by rw[<-U27,k5];simp
 have u9:=O3a bD (by rw[se,U23];omega) (.inl rfl);rw[U18 rfl,U42]at u9;obtain⟨g2,r1,r2⟩:=O4g Ya q2.gi (pre:=ch 0 (i0++[u])) q2.tr (by rw[q2.sec,O40];simp) (D:=10) (by rw[q2.dep];simp;omega) (U12 _) Ya hP (H.read Ya (.inl rfl) M9) u9;refine⟨g2,?_,?_⟩;unfold V1f;rw[O24 Ya Vak q1,show s.length=(s.length-1)+1 by omega,O24 Ya (Ogf Ya (by rw[q2.many];omega) (by rw[q2.dep];omega) (by rw[q2.its];omega)) r1,show s.length-1=(s.length-2)+1 by omega];exact O4h (by rw[se,U23];omega)
 rw[r2.tr,Oct,q2.sec];simp only[ch,U3k,U1c,U17,U1t,U1q,U42];rw[Nat.add_comm root]
theorem V5e.docC(w:Bs)(r:List Bs)(hw:init++[last]=w::r):∃G,V1f (V29 Vd) (Vb [w]++32::61::32::V18 r v)=.ok G/\G.nds.map pj=O1g 0 (init++[last]) (nds.map pj) root:=by
 have h4:=H.len;have hr:r.length=init.length:=by
  have:=U2b List.length hw;simp at this;omega
 obtain⟨s,hs⟩:=ExZ (Vb [w]++32::61::32::V18 r v)
 rw[hs];have lh:∀r:List Bs,(V18 r v).length<=6*(Vb r).length+6+v.length:=by
  intro r
  induction r with
  |nil=>simp[V18]
  |cons a r ih =>
   cases r with
   |nil=>simp[V18,Vb];omega
   |cons b r =>
    rw[V2b];simp only[V18,Vb,U4x,U2i,U3k,U17,U1c,U1t]at ih⊢;omega
 have pK:(Vb [w]).length+(Vb r).length<=(Vb (init++[last])).length:=by
  rw[hw];cases r with
  |nil=>simp[Vb]
  |cons b r=>rw[V2b];simp[Vb]
 have h1:=H.key;have h2:=H.lst;have h3:=H.vl;have h5:=H.kl;have h6:=lh r;have se:s.length=(Vb [w]).length+3+(V18 r v).length:=by rw[<-hs];simp;omega
 obtain⟨c,q,ev,hc⟩:=O8q H.v r;have hP:PrE s 0 ([]++[w]) (V18 r v):=⟨Yb,by rw[<-hs];rfl,⟨c,q,ev,hc⟩⟩
 obtain⟨k1,k2,k3,k4,k5⟩:=hP.facts;have bD:s.drop (0+(Vb ([]++[w])).length+3+(V18 r v).length)=[]:=by rw[<-U27,k5];simp
 have bN:=O3a bD (by rw[se,U23];omega) (.inl rfl);rw[U18 rfl,U42]at bN;have Cq:∀d,d<=1->∃N,V1j (V29 Vd) s (0+(Vb ([]++[w])).length+3) d=.ok (O2h 0 r root,0+(Vb ([]++[w])).length+3+(V18 r v).length,N)/\N.map pj=O1g 0 r (nds.map pj) root:=by
  intro d hd;obtain⟨st',a1,_,a3⟩:=Oip (s:=s) Ya H.v r 258 (min d 256+1) (0+(Vb ([]++[w])).length+3) [] [] (.inl rfl) (by rw[k5];simp) (λ i nd h=>by simp at h) Yb Ya Ya Ya;exact⟨st',by unfold V1j;exact a1,by simpa using a3⟩
 obtain⟨g,r1,r2⟩:=O4g Ya gi0 (pre:=[]) Yh rfl (D:=1) (by show 1+0<=1;omega) Ya Yo hP Cq bN;refine⟨g,?_,?_⟩;unfold V1f;rw[O24 Ya Vak r1,show s.length=(s.length-1)+1 by omega];exact O4h (by rw[se,U23];omega)
 rw[r2.tr,hw];show pt w (O2h 0 r root+(0+0+1))::(O1g 0 r (nds.map pj) root).map (sh (0+0+1))=pt w (O2h (0+1) r root)::O1g (0+1) r (nds.map pj) root;rw[Ol7];congr 1;have:=Ocs 1 0 root r;rw[show 0+1=1+0 from rfl,this,Nat.add_comm]
theorem V5e.docD:V1f (V29 Vd) (V34 init last v++V34 init last v)=.bad 5 ((V34 init last v).length+(Vb init).length+1):=by
 have h1:=H.key;have h2:=H.lst;have h3:=H.vl;have h4:=H.len;have h5:=H.pair_len;have h6:=H.kl;have h7:=H.nl;obtain⟨s,hs⟩:=ExZ (V34 init last v++V34 init last v)
 have se:s.length=(V34 init last v).length+(V34 init last v).length:=by rw[<-hs,U1c]
 obtain⟨g,q1,q2⟩:=H.one (s:=s) Ya _ hs.symm;have hg:=H.one_len q2;obtain⟨c,r,ev,hc⟩:=H.head;have hP:PrE s (V34 init last v).length (init++[last]) (v++[10]):=⟨Yb,by rw[<-hs,List.drop_left],⟨c,r++[10],by rw[ev];rfl,hc⟩⟩
 have hr:root<nds.length:=by
  have:=((V4z (V3r Vd) v Ya 258).resolve_right Ya) 11 0 [] Ya (λ i nd h=>by simp at h) Yb Ya;have:=(this.2 _ _ _ H.v).hi;exact this
 refine Z185 ?_;have Cr:=q2.tr;rw[show V3n.sec=0 from rfl,U23,U1q]at Cr;have:=Ol4 (n:=(V34 init last v).length) (init:=init) (last:=last) q2.sec Cr (by rw[hg];omega) (λ i a b=>(q2.srt i a (by rw[show V3n.sec=0 from rfl,U1q];exact b)).trans (by rw[q2.many]));rw[Ol3 _ H.ne,<-U2a]at this;exact Oin hP this
theorem V5e.docE(i0:List Bs)(u:Bs)(hi:init=i0++[u]):V1f (V29 Vd) (V34 init last v++91::(Vb init++[93]))=.bad 5 ((V34 init last v).length+1+V3c i0):=by
 have h1:=H.key;have h2:=H.lst;have h3:=H.vl;have h4:=H.len;have h5:=H.pair_len;have h6:=H.kl;have h7:=H.nl;obtain⟨s,hs⟩:=ExZ (V34 init last v++91::(Vb init++[93]))
 have se:s.length=(V34 init last v).length+((Vb init).length+2):=by rw[<-hs,U1c];simp
 obtain⟨g,q1,q2⟩:=H.one (s:=s) Ya _ hs.symm;have hg:=H.one_len q2;have hP:HdE s (V34 init last v).length (i0++[u]) []:=⟨Yb,by rw[<-hs,List.drop_left,hi]⟩
 have dO:init.length=i0.length+1:=by rw[hi];simp
 refine Z185 ?_;have k9:∀i,0<i->i<=init.length->Vf g i=(3,V3n.many):=λ i a b=>q2.srt i a (by rw[show V3n.sec=0 from rfl,U1q];exact b)
 have Cr:=q2.tr;rw[show V3n.sec=0 from rfl,U23,hi]at Cr;exact O8p hP (Oak Cr Yb (λ i a b => .inr (by rw[k9 i a Ya])) (by rw[k9 (i0.length+1) Ya Ya];decide))
theorem V5e.docF(i0:List Bs)(u:Bs)(hi:init=i0++[u]):V1f (V29 Vd) (91::(Vb init++93::10::91::(Vb init++[93])))=.bad 5 (3+(Vb init).length+1+V3c i0):=by
 have h1:=H.key;have h4:=H.len;have dO:init.length=i0.length+1:=by rw[hi];simp
 obtain⟨s,hs⟩:=ExZ (91::(Vb init++93::10::91::(Vb init++[93])))
 have se:s.length=(Vb init).length+3+((Vb init).length+2):=by rw[<-hs];simp;omega
 have kB:s.drop 0=91::(Vb (i0++[u])++93::10::91::(Vb init++[93])):=by rw[<-hs,hi];rfl
 have hH:HdE s 0 (i0++[u]) (10::91::(Vb init++[93])):=⟨Yb,kB⟩
 have dZ:s.drop (0+(Vb (i0++[u])).length+2)=10::91::(Vb init++[93]):=by
  exact J51
 rw[<-hi]at dZ;have bN:=O3a dZ Ya (.inr ⟨_,rfl⟩);rw[U1b Yb]at bN;obtain⟨g1,q1,q2⟩:=O7d Ya Ya hH (by rw[<-hi];exact bN);have fg:g1.nds.length=i0.length+2:=by
  have:=U2b List.length q2.tr;exact J50
 have io:=O1k dZ;have hP:HdE s (0+(Vb init).length+2+1) (i0++[u]) []:=⟨Yb,by rw[io,hi]⟩
 rw[hs];unfold V1f;rw[O24 Ya Vak q1,show s.length=(s.length-1)+1 by omega];refine O7e Ya (Ogf Ya (by rw[q2.many];omega) (by rw[q2.dep];omega) (by rw[q2.its];omega)) (O8r ?_);have:=Oak (n:=0+(Vb init).length+2+1+1) q2.tr Yb (λ i a b => .inl (by rw[q2.srt i a b])) (by rw[q2.last];decide);rw[show 0+(Vb init).length+2+1+1=3+(Vb init).length+1 by omega]at this;exact O8p hP (by rw[show 0+(Vb init).length+2+1+1=3+(Vb init).length+1 by omega];exact this)
end
