/- The proof's part 29. -/
import Derived.Test.YtnkgknbdaiakgaaGreatDoorP12
import Derived.Test.YtnkgknbdaiakgaaGreatDoorP28
set_option maxHeartbeats 16000000
set_option linter.all false
namespace Go.Proofs.YtnkgknbdaiakgaaGreatDoor.Pl
def Tb(g:Vb)(i:Nat):Prop:=(Vl g i).1=1\/(Vl g i).1=2\/(Vl g i).1=3
structure GI(g:Vb):Prop where
 len:g.srt.length=g.nds.length
 wf:WF g.nds
 tab:∀i,Tb g i->∃nd,g.nds[i]?=some nd/\nd.kind=8
 lst:∀i,(Vl g i).1=4->∃nd l,g.nds[i]?=some nd/\nd.kind=7/\nd.subs.getLast?=some l/\Tb g l
 sort:∀i,(Vl g i).1<=4
 root:Tb g 0
 sec:Tb g g.sec
theorem Tb.lt{g:Vb}{i:Nat}(h:Tb g i):i<g.srt.length:=by
 by_cases hi:i<g.srt.length;exact hi
 unfold Tb Vl at h;rw[Ui,U1m (by omega)]at h;simp at h
theorem GI.lt{g:Vb}(h:GI g){i:Nat}(hi:Tb g i):i<g.nds.length:=by rw[<-h.len];exact hi.lt
theorem GI.g8{g:Vb}(h:GI g)(hs:g.nds.length<=20000000){i:Nat}(hi:Tb g i):V32 g i=true:=by
 obtain⟨nd,h1,h2⟩:=h.tab i hi;unfold V32;rw[O59 h.wf hs i nd h1 h2];unfold Tb at hi;simp only[Bool.true_and,bne_iff_ne,ne_eq];omega
theorem O66{st:Vc}(h:WF st){t:Nat}{nd:Nd}(ht:st[t]?=some nd)(hk:nd.kind=8)(w:Bs):V12 st t w = .no\/∃i,V12 st t w = .yes i/\i<st.length:=by
 have hw:=h t nd ht;unfold V12;rw[ht];simp only;cases hf:nd.keys.findIdx? (λ x=>x==w) with
 |none=>exact .inl rfl
 |some j =>
  right;have hj:j<nd.keys.length:=by
   rw[List.findIdx?_eq_some_iff_getElem]at hf;exact hf.1
  have pv:j<nd.subs.length:=by have:=(hw.len hk).1;omega
  simp only;rw[Uh pv];have:=hw.lt _ (U2v pv);simp only;rw[Ua this];exact⟨_,rfl,this⟩
theorem Ocu(l:List (Nat×Nat))(s:Nat×Nat)(i:Nat):(l++[s]).getD i (0,0)=if i<l.length then l.getD i (0,0) else if i=l.length then s else (0,0):=by
 rw[Ui,Ui]
 split;rename_i h;rw[U9 h]
 split;rename_i h;subst h;simp
 rw[U14 (by omega),U1m (by simp;omega)];rfl
theorem getD_set(l:List (Nat×Nat))(t:Nat)(s:Nat×Nat)(i:Nat)(ht:t<l.length):(l.set t s).getD i (0,0)=if i=t then s else l.getD i (0,0):=by
 rw[Ui,Ui,U1o];by_cases h:i=t;subst h;rw[Ua rfl,Ua rfl,Ua ht];rfl
 rw[Ud (λ e=>h e.symm),Ud h]
structure GW(g:Vb)(x:Nat):Prop where
 len:g.srt.length=g.nds.length
 wf:WF g.nds
 tab:∀i,Tb g i->∃nd,g.nds[i]?=some nd/\nd.kind=8
 lst:∀i,(Vl g i).1=4->i≠x->∃nd l,g.nds[i]?=some nd/\nd.kind=7/\nd.subs.getLast?=some l/\Tb g l
 sort:∀i,(Vl g i).1<=4
 root:Tb g 0
theorem GI.gw{g:Vb}(h:GI g)(x:Nat):GW g x:=⟨h.len,h.wf,h.tab,λ i hi _=>h.lst i hi,h.sort,h.root⟩
theorem O9f(n k:Nat):Wn (n+1) n (V1t k):=⟨λ _=>⟨rfl,rfl⟩,List.Pairwise.nil,λ x hx=>by (cases hx),λ h=>absurd rfl h⟩
theorem GI.grow{g:Vb}(h:GI g){t:Nat}(ht:Tb g t)(k:Nat)(s:Nat×Nat)(w:Bs)(sp:Nat×Nat)(hs:s.1<=4)(hk:s.1=1\/s.1=2\/s.1=3->k=8) :
    GW (V2r (V2l g k s) t w sp g.nds.length) g.nds.length/\(∀i,Tb g i->Tb (V2r (V2l g k s) t w sp g.nds.length) i)/\Vl (V2r (V2l g k s) t w sp g.nds.length) g.nds.length=s /\
    (∃nd,(V2r (V2l g k s) t w sp g.nds.length).nds[g.nds.length]?=some nd/\nd.kind=k/\nd.subs=[])/\(V2r (V2l g k s) t w sp g.nds.length).nds.length=g.nds.length+1:=by
 obtain⟨nt,nl,xI⟩:=h.tab t ht;have aa:=h.lt ht;have cD:∀i,Vl (V2r (V2l g k s) t w sp g.nds.length) i=if i<g.nds.length then Vl g i else if i=g.nds.length then s else (0,0):=by
  intro i;show (g.srt++[s]).getD i (0,0)=_;rw[Ocu,h.len];rfl
 have bP:∀i,(V2r (V2l g k s) t w sp g.nds.length).nds[i]?=if t=i then g.nds[i]?.map (λ nd=>Vy nd w sp g.nds.length) else (g.nds++[V1t k])[i]?:=by
  intro i;show (Vo (g.nds++[V1t k]) t w sp g.nds.length)[i]?=_;rw[O13]
  split;rename_i e;subst e;rw[U9 aa]
  rfl
 have iJ:∀i,Tb g i->Tb (V2r (V2l g k s) t w sp g.nds.length) i:=by
  intro i hi;have:=h.lt hi;unfold Tb at hi⊢;rw[cD,Ua this];exact hi
 have cG:∀i nd,g.nds[i]?=some nd->∃nd',(V2r (V2l g k s) t w sp g.nds.length).nds[i]?=some nd'/\nd'.kind=nd.kind/\(i≠t->nd'=nd):=by
  intro i nd hi;rw[bP]
  split;rename_i e;subst e;rw[hi];exact⟨_,rfl,rfl,λ h=>absurd rfl h⟩
  rw[U9 (U7.1 hi).1];exact⟨_,hi,rfl,λ _=>rfl⟩
 have H8:WF (V2r (V2l g k s) t w sp g.nds.length).nds:=by
  show WF (Vo (g.nds++[V1t k]) t w sp g.nds.length);have h1:=h.wf.app (V1t k) (O9f _ k);refine h1.put t _ w sp nt (by rw[U9 aa];exact nl) ?_ (by simp);exact λ x hx=>(h.wf t nt nl).lt x hx
 have bU:(V2r (V2l g k s) t w sp g.nds.length).nds[g.nds.length]?=some (V1t k):=by
  rw[bP,Ud (by omega)];simp
 refine⟨⟨?_,H8,λ i hi=>?_,λ i hi a8=>?_,λ i=>?_,iJ 0 h.root⟩,iJ,by rw[cD,Ud (by omega),Ua rfl],⟨_,bU,rfl,rfl⟩,?_⟩;show (g.srt++[s]).length=(Vo (g.nds++[V1t k]) t w sp g.nds.length).length;unfold Vo;simp[h.len]
 unfold Tb at hi;rw[cD]at hi
 split at hi;obtain⟨nd,h1,h2⟩:=h.tab i hi;obtain⟨nd',h3,h4,_⟩:=cG i nd h1;exact⟨nd',h3,by omega⟩
 split at hi;rename_i e;subst e;exact⟨_,bU,hk hi⟩
 simp at hi
 rw[cD]at hi
 split at hi
 obtain⟨nd,l,h1,h2,h3,h4⟩:=h.lst i hi;obtain⟨nd',h5,h6,h7⟩:=cG i nd h1;have hit:i≠t:=λ e=>by (subst e;rw[nl]at h1;cases h1;omega)
 rw[h7 hit]at h5;exact⟨nd,l,h5,h2,h3,iJ l h4⟩
 simp only[Ud a8]at hi;simp at hi
 rw[cD]
 split;exact h.sort i
 split;exact hs
 simp
 show (Vo (g.nds++[V1t k]) t w sp g.nds.length).length=_;unfold Vo;simp
structure Sm(g g':Vb):Prop where
 sec:g'.sec=g.sec
 dep:g'.dep=g.dep
 many:g'.many=g.many
 its:g'.its=g.its
 ns:g'.ns=g.ns
 mono:∀i,Tb g i->Tb g' i
theorem Sm.refl(g:Vb):Sm g g:=⟨rfl,rfl,rfl,rfl,rfl,λ _ h=>h⟩
theorem Sm.trans{a b c:Vb}(h:Sm a b)(k:Sm b c):Sm a c:=⟨k.sec.trans h.sec,k.dep.trans h.dep,k.many.trans h.many,k.its.trans h.its,k.ns.trans h.ns,λ i hi=>k.mono i (h.mono i hi)⟩
theorem O7n{g:Vb}(h:GI g)(hs:g.nds.length+1<=20000000){t:Nat}(ht:Tb g t)(d:Nat)(w:Bs)(a b:Nat)(s:Nat×Nat)(pP:s.1=1\/s.1=2\/s.1=3)(over:Nat->Ov)
    (ho:∀i,i<g.nds.length->over i ≠ .non/\∀n d',over i = .go n d'->Tb g n/\d'<=d+2) :
    V1n g t d w a b s over ≠ .non/\∀n d' g',V1n g t d w a b s over = .ok (n,d',g')->GI g'/\Tb g' n/\g'.nds.length<=g.nds.length+1/\g.nds.length<=g'.nds.length/\d'<=d+2/\Sm g g':=by
 obtain⟨nt,nl,xI⟩:=h.tab t ht;unfold V1n;rcases O66 h.wf nl xI w with e|⟨i,e,hi⟩
 rw[e];simp only
 split;exact J152
 rw[Ua (by rw[h.g8 (by omega) ht,O21 (by omega)];rfl)];obtain⟨g1,g2,g3,g4,g5⟩:=h.grow ht 8 s w (a,b) (by omega) (λ _=>rfl);refine⟨by simp,λ n d' g' he=>?_⟩;simp only[Va.ok.injEq,U6]at he;obtain⟨rfl,rfl,rfl⟩:=he;have hT:Tb (V2r (V2l g 8 s) t w (a,b) g.nds.length) g.nds.length:=by unfold Tb;rw[g3];exact pP
 refine⟨⟨g1.len,g1.wf,g1.tab,λ i hi=>g1.lst i hi λ e=>?_,g1.sort,g1.root,g2 _ h.sec⟩,hT,by omega,by omega,by omega,⟨rfl,rfl,rfl,rfl,rfl,g2⟩⟩;subst e;rw[g3]at hi;omega
 rw[e];simp only;obtain⟨h1,h2⟩:=ho i hi;cases bR:over i with
 |non=>exact absurd bR h1
 |no=>exact⟨by simp,λ n d' g' h=>by simp at h⟩
 |go n d' =>
  obtain⟨h3,h4⟩:=h2 n d' bR;refine⟨by simp,λ n' LH g' he=>?_⟩;simp only[Va.ok.injEq,U6]at he;obtain⟨rfl,rfl,rfl⟩:=he;exact⟨h,h3,by omega,by omega,h4,Sm.refl g⟩
theorem O9g{g:Vb}(h:GI g)(d i:Nat):V2u g d i ≠ .non/\∀n d',V2u g d i = .go n d'->Tb g n/\d'<=d+2:=by
 unfold V2u
 split;exact⟨by simp,λ n d' h=>by simp at h⟩
 rename_i h0
 split
 rename_i h4
 obtain⟨nd,l,h1,h2,h3,h5⟩:=h.lst i h4;rw[h1];simp only[h3];exact⟨by simp,λ n d' he=>by (simp only[Ov.go.injEq]at he;obtain⟨rfl,rfl⟩:=he;exact⟨h5,by omega⟩)⟩
 rename_i h4
 have:=h.sort i;exact⟨by simp,λ n d' he=>by (simp only[Ov.go.injEq]at he;obtain⟨rfl,rfl⟩:=he;exact⟨by unfold Tb;omega,by omega⟩)⟩
theorem Oa8{g:Vb}(d i:Nat):V1j g d i ≠ .non/\∀n d',V1j g d i = .go n d'->Tb g n/\d'<=d+2:=by
 unfold V1j
 split
 rename_i e
 exact⟨by simp,λ n d' he=>by (simp only[Ov.go.injEq]at he;obtain⟨rfl,rfl⟩:=he;exact⟨by unfold Tb;rw[e];simp,by omega⟩)⟩
 exact⟨by simp,λ n d' h=>by simp at h⟩
theorem O6p(s:Nat×Nat)(pP:s.1=1\/s.1=2\/s.1=3)(over:Vb->Nat->Nat->Ov)(ho:∀g d i,GI g->i<g.nds.length->over g d i ≠ .non/\∀n d',over g d i = .go n d'->Tb g n/\d'<=d+2) :
    ∀(ws:List KW)(t d:Nat)(g:Vb),GI g->Tb g t->g.nds.length+ws.length<=20000000 ->
     V20 s over ws t d g ≠ .non/\∀t' d' g',V20 s over ws t d g = .ok (t',d',g')->GI g'/\Tb g' t'/\g'.nds.length<=g.nds.length+ws.length/\g.nds.length<=g'.nds.length/\d'<=d+2*ws.length/\Sm g g':=by
 intro ws
 induction ws with
 |nil =>
  intro t d g h ht hl;refine⟨by simp[V20],λ t' d' g' he=>?_⟩;simp only[V20,Va.ok.injEq,U6]at he;obtain⟨rfl,rfl,rfl⟩:=he;exact⟨h,ht,by simp,by simp,by simp,Sm.refl g⟩
 |cons x rest ih =>
  intro t d g h ht hl;obtain⟨w,a,b⟩:=x;simp only[Ub]at hl⊢;obtain⟨s1,s2⟩:=O7n h (by omega) ht d w a b s pP (over g d) (λ i hi=>ho g d i h hi);unfold V20;cases a9:V1n g t d w a b s (over g d) with
  |non=>exact absurd a9 s1
  |bad c p=>exact⟨by simp,λ t' d' g' he=>by simp at he⟩
  |ok r =>
   obtain⟨n,d2,g2⟩:=r;obtain⟨q1,q2,q3,q4,q5,q6⟩:=s2 _ _ _ a9;obtain⟨i1,i2⟩:=ih n d2 g2 q1 q2 (by omega);refine⟨i1,λ t' d' g' he=>?_⟩;obtain⟨j1,j2,j3,j4,j5,j6⟩:=i2 t' d' g' he;exact⟨j1,j2,by omega,by omega,by omega,q6.trans j6⟩
theorem O3b{α : Type}{l:List α}(h:l≠[]):∃x,l.getLast?=some x:=by
 cases e:l.getLast? with
 |none=>exact absurd (U31.1 e) h
 |some x=>exact⟨x,rfl⟩
structure Vd6(k:List KW)(g g':Vb):Prop where
 gi:GI g'
 le:g'.nds.length<=g.nds.length+k.length+1
 ge:g.nds.length<=g'.nds.length
 dep:g'.dep<=2*k.length+3
 many:g'.many=g.many+1
 its:g'.its=g.its
 ns:g'.ns=g.ns
theorem Oa9{g:Vb}(h:GI g)(k:List KW)(hk:k≠[])(hl:g.nds.length+k.length+1<=20000000):V2a g k ≠ .non/\∀g',V2a g k = .ok g'->Vd6 k g g':=by
 refine Z242 ?_;intro hd;obtain⟨w1,w2⟩:=O6p (2,0) (.inr (.inl rfl)) V2u (λ g d i h _=>O9g h d i) k.dropLast 0 1 g h h.root (by omega);unfold V2a;cases hw:V20 (2,0) V2u k.dropLast 0 1 g with
 |non=>exact absurd hw w1
 |bad c p=>exact⟨by simp,λ g' he=>by simp at he⟩
 |ok r =>
  obtain⟨t,d,g1⟩:=r;obtain⟨q1,q2,q3,q4,q5,q6⟩:=w2 _ _ _ hw;obtain⟨⟨w,a,b⟩,cA⟩:=O3b hk;simp only[cA];obtain⟨s1,s2⟩:=O7n q1 (by omega) q2 d w a b (1,0) (.inl rfl) (λ i=>if (Vl g1 i).1=2 then .go i (d+1) else .no) (λ i hi=>by
   split;rename_i e;exact⟨by simp,λ n d' he=>by (simp only[Ov.go.injEq]at he;obtain⟨rfl,rfl⟩:=he;exact⟨.inr (.inl e),by omega⟩)⟩
   exact⟨by simp,λ n d' he=>by simp at he⟩)
  cases a9:V1n g1 t d w a b (1,0) (λ i=>if (Vl g1 i).1=2 then .go i (d+1) else .no) with
  |non=>exact absurd a9 s1
  |bad c p=>exact⟨by simp,λ g' he=>by simp at he⟩
  |ok r =>
   obtain⟨n,d2,g2⟩:=r;obtain⟨r1,r2,r3,r4,r5,r6⟩:=s2 _ _ _ a9;refine⟨by simp,λ g' he=>?_⟩;simp only[Va.ok.injEq]at he;subst he;have cD:∀i,Vl { g2 with srt:=g2.srt.set n (1,0),sec:=n,dep:=d2,many:=g2.many+1 } i=if i=n then (1,0) else Vl g2 i:=by
    intro i;show (g2.srt.set n (1,0)).getD i (0,0)=_;rw[getD_set _ _ _ _ r2.lt];rfl
   have hT:∀i,Tb { g2 with srt:=g2.srt.set n (1,0),sec:=n,dep:=d2,many:=g2.many+1 } i ↔ Tb g2 i:=by
    intro i;unfold Tb;rw[cD]
    split;rename_i e;subst e;unfold Tb at r2;simp only[true_or,true_iff];exact r2
    rfl
   refine⟨⟨by simp[r1.len],r1.wf,λ i hi=>r1.tab i ((hT i).1 hi),λ i hi=>?_,λ i=>?_,(hT 0).2 r1.root,(hT n).2 r2⟩,by simp only;omega,by simp only;omega,by simp only;omega,?_,r6.its.trans q6.its,r6.ns.trans q6.ns⟩
   rw[cD]at hi
   split at hi;simp at hi
   obtain⟨nd,l,h1,h2,h3,h4⟩:=r1.lst i hi;exact⟨nd,l,h1,h2,h3,(hT l).2 h4⟩
   rw[cD]
   split;simp
   exact r1.sort i
   show g2.many+1=g.many+1;rw[r6.many,q6.many]
theorem WF.mod7{st:Vc}(h:WF st)(t i:Nat)(nd:Nd)(ht:st[t]?=some nd)(hk:nd.kind≠8)(hi:∀x∈nd.subs,x<i)(hl:i<st.length):WF (st.modify t λ nd=>{ nd with subs:=nd.subs++[i] }):=by
 intro j x hx;rw[Oz]at hx;rw[List.length_modify]
 split at hx
 rename_i e
 subst e;rw[ht]at hx;simp only[U18,Uc]at hx;subst hx;have h0:=h t nd ht;refine⟨λ cS=>absurd cS hk,?_,?_,h0.own⟩;exact J161
 exact J186
 exact h j x hx
theorem Ocv{g:Vb}{x:Nat}(h:GW g x){nd:Nd}(hx:g.nds[x]?=some nd)(hk:nd.kind=7)(S':(Vl g x).1=4)(d:Nat):GI (V3g g x d)/\(V3g g x d).nds.length=g.nds.length+1/\(V3g g x d).dep=d+2/\(V3g g x d).many=g.many+1/\(V3g g x d).its=g.its/\(V3g g x d).ns=g.ns:=by
 have BC:=(U7.1 hx).1;have cD:∀i,Vl (V3g g x d) i=if i<g.nds.length then Vl g i else if i=g.nds.length then (1,0) else (0,0):=by
  intro i;show (g.srt++[(1,0)]).getD i (0,0)=_;rw[Ocu,h.len];rfl
 have bP:∀i,(V3g g x d).nds[i]?=if x=i then (g.nds++[V1t 8])[i]?.map (λ nd=>{ nd with subs:=nd.subs++[g.nds.length] }) else (g.nds++[V1t 8])[i]?:=by
  intro i;show ((g.nds++[V1t 8]).modify x _)[i]?=_;rw[Oz]
 have ut:∀i,Tb g i->i<g.nds.length:=λ i hi=>by rw[<-h.len];exact hi.lt
 have iJ:∀i,Tb g i->Tb (V3g g x d) i:=by
  intro i hi;have:=ut i hi;unfold Tb at hi⊢;rw[cD,Ua this];exact hi
 have bU:(V3g g x d).nds[g.nds.length]?=some (V1t 8):=by
  rw[bP,Ud (by omega)];simp
 have lR:Tb (V3g g x d) g.nds.length:=by unfold Tb;rw[cD,Ud (by omega),Ua rfl];exact .inl rfl
 have cG:∀i nd',i≠x->g.nds[i]?=some nd'->(V3g g x d).nds[i]?=some nd':=by
  intro i nd' hi hg;rw[bP,Ud (λ e=>hi e.symm),U9 (U7.1 hg).1];exact hg
 have ao:(V3g g x d).nds.length=g.nds.length+1:=by
  show ((g.nds++[V1t 8]).modify x _).length=_;simp
 refine⟨⟨?_,?_,λ i hi=>?_,λ i hi=>?_,λ i=>?_,iJ 0 h.root,lR⟩,ao,rfl,rfl,rfl,rfl⟩;rw[ao];show (g.srt++[(1,0)]).length=_;simp[h.len];show WF ((g.nds++[V1t 8]).modify x _);exact (h.wf.app (V1t 8) (O9f _ 8)).mod7 x _ nd (by rw[U9 BC];exact hx) (by omega) (λ y hy=>(h.wf x nd hx).lt y hy) (by simp)
 unfold Tb at hi;rw[cD]at hi
 split at hi
 obtain⟨nd',h1,h2⟩:=h.tab i hi;have BD:i≠x:=λ e=>by (subst e;rw[hx]at h1;cases h1;omega)
 exact⟨nd',cG i nd' BD h1,h2⟩
 split at hi;rename_i e;subst e;exact⟨_,bU,rfl⟩
 simp at hi
 rw[cD]at hi
 split at hi
 by_cases BD:i=x;subst BD;refine⟨{ nd with subs:=nd.subs++[g.nds.length] },g.nds.length,?_,hk,by simp,lR⟩;rw[bP,Ua rfl,U9 BC,hx];rfl
 obtain⟨nd',l,h1,h2,h3,h4⟩:=h.lst i hi BD;exact⟨nd',l,cG i nd' BD h1,h2,h3,iJ l h4⟩
 split at hi;simp at hi
 simp at hi
 rw[cD]
 split;exact h.sort i
 split;simp
 simp
theorem On2{g:Vb}{x:Nat}(h:GW g x)(hs:g.nds.length<=20000000){i:Nat}{nd:Nd}(hi:g.nds[i]?=some nd):subsOk g i=true:=by
 have h0:=h.wf i nd hi;have h1:=O4m _ _ h0.up h0.lt;unfold subsOk;rw[hi];simp only[Ux];omega
theorem Ocw{g:Vb}(h:GI g)(k:List KW)(hk:k≠[])(hl:g.nds.length+k.length+2<=20000000):V2y g k ≠ .non/\∀g',V2y g k = .ok g'->Vd6 k g g':=by
 refine Z242 ?_;intro hd;obtain⟨w1,w2⟩:=O6p (2,0) (.inr (.inl rfl)) V2u (λ g d i h _=>O9g h d i) k.dropLast 0 1 g h h.root (by omega);unfold V2y;cases hw:V20 (2,0) V2u k.dropLast 0 1 g with
 |non=>exact absurd hw w1
 |bad c p=>exact⟨by simp,λ g' he=>by simp at he⟩
 |ok r =>
  obtain⟨t,d,g1⟩:=r;obtain⟨q1,q2,q3,q4,q5,q6⟩:=w2 _ _ _ hw;obtain⟨⟨w,a,b⟩,cA⟩:=O3b hk;simp only[cA];obtain⟨nt,nl,xI⟩:=q1.tab t q2;rcases O66 q1.wf nl xI w with e|⟨i,e,hi⟩
  rw[e];simp only
  split;exact⟨by simp,λ g' he=>by simp at he⟩
  rw[Ua (by rw[q1.g8 (by omega) q2,O21 (by omega)];rfl)];obtain⟨u1,u2,u3,⟨nd,u4,u5,_⟩,u6⟩:=q1.grow q2 7 (4,0) w (a,b) (by simp) (λ h=>by simp at h);obtain⟨v1,v2,v3,v4,v5,v6⟩:=Ocv u1 u4 u5 (by rw[u3]) d;refine⟨by simp,λ g' he=>?_⟩;simp only[Va.ok.injEq]at he;subst he;exact⟨v1,by rw[v2,u6];omega,by rw[v2,u6];omega,by rw[v3];omega,by (rw[v4];show g1.many+1=_;rw[q6.many]),by (rw[v5];exact q6.its),by (rw[v6];exact q6.ns)⟩
  rw[e];simp only
  split
  rename_i h4
  obtain⟨nd,l,h1,h2,h3,h5⟩:=q1.lst i h4
  split;exact⟨by simp,λ g' he=>by simp at he⟩
  rw[Ua (by rw[On2 (q1.gw 0) (by omega) h1,O21 (by omega)];rfl)];obtain⟨v1,v2,v3,v4,v5,v6⟩:=Ocv (q1.gw i) h1 h2 h4 d;refine⟨by simp,λ g' he=>?_⟩;simp only[Va.ok.injEq]at he;subst he;exact⟨v1,by rw[v2];omega,by rw[v2];omega,by rw[v3];omega,by rw[v4,q6.many],by rw[v5];exact q6.its,by rw[v6];exact q6.ns⟩
  exact⟨by simp,λ g' he=>by simp at he⟩
theorem Ocx{g:Vb}(h:GI g)(k:List KW)(hk:k≠[])(hl:g.nds.length+k.length<=20000000):V2z g k ≠ .non/\∀t d g',V2z g k = .ok (t,d,g')->GI g'/\Tb g' t/\g'.nds.length+1<=g.nds.length+k.length/\g.nds.length<=g'.nds.length/\d<=g.dep+2*k.length/\Sm g g'/\∃w a b,k.getLast?=some (w,a,b)/\V12 g'.nds t w = .no:=by
 refine Z242 ?_;intro hd;obtain⟨w1,w2⟩:=O6p (3,g.many) (.inr (.inr rfl)) V1j (λ g d i _ _=>Oa8 d i) k.dropLast g.sec g.dep g h h.sec (by omega);unfold V2z;cases hw:V20 (3,g.many) V1j k.dropLast g.sec g.dep g with
 |non=>exact absurd hw w1
 |bad c p=>exact⟨by simp,λ t d g' he=>by simp at he⟩
 |ok r =>
  obtain⟨t,d,g1⟩:=r;obtain⟨q1,q2,q3,q4,q5,q6⟩:=w2 _ _ _ hw;obtain⟨⟨w,a,b⟩,cA⟩:=O3b hk;simp only[cA];obtain⟨nt,nl,xI⟩:=q1.tab t q2;rcases O66 q1.wf nl xI w with e|⟨i,e,hi⟩
  rw[e];refine⟨by simp,λ t' d' g' he=>?_⟩;simp only[Va.ok.injEq,U6]at he;obtain⟨rfl,rfl,rfl⟩:=he;exact⟨q1,q2,by omega,q4,by omega,q6,w,a,b,rfl,e⟩
  rw[e];exact J152
theorem GI.graft{g:Vb}(h:GI g){nds:Vc}(hw:WF nds){root:Nat}(hr:root<nds.length){into:Nat}(hi:Tb g into)(w:Bs)(sp:Nat×Nat)(its:List It)(ns:List Int) :
    GI { V2r (V1c g nds) into w sp (root+g.nds.length) with its:=its,ns:=ns }/\(V2r (V1c g nds) into w sp (root+g.nds.length)).nds.length=g.nds.length+nds.length:=by
 obtain⟨nt,nl,xI⟩:=h.tab into hi;have aa:=h.lt hi;have cD:∀i,Vl { V2r (V1c g nds) into w sp (root+g.nds.length) with its:=its,ns:=ns } i=if i<g.nds.length then Vl g i else (0,0):=by
  intro i;show (g.srt++nds.map λ _=>(0,0)).getD i (0,0)=if i<g.nds.length then g.srt.getD i (0,0) else (0,0)
  rw[Ui,Ui]
  split
  ·rw[U9 (by rw[h.len];assumption)]
  rw[U14 (by rw[h.len];omega),Uq];cases nds[i-g.srt.length]? <;> rfl
 have ao:(V2r (V1c g nds) into w sp (root+g.nds.length)).nds.length=g.nds.length+nds.length:=by
  show (Vo (g.nds++nds.map _) into w sp (root+g.nds.length)).length=_;unfold Vo;simp
 have hT:∀i,Tb { V2r (V1c g nds) into w sp (root+g.nds.length) with its:=its,ns:=ns } i ↔ Tb g i:=by
  intro i;unfold Tb;rw[cD]
  split;rfl
  rename_i hn
  constructor;intro h;simp at h
  intro h';exact absurd (h.lt h') hn
 have jp:WF (g.nds++nds.map λ nd=>{ nd with subs:=nd.subs.map (· + g.nds.length),owner:=0 }):=by
  intro i x hx;rw[Ug,Ul];by_cases hi:i<g.nds.length;rw[U9 hi]at hx;exact (h.wf i x hx).mono (by omega)
  rw[U14 (by omega),Uq]at hx;cases hy:nds[i-g.nds.length]? with
  |none=>rw[hy]at hx;cases hx
  |some y =>
   rw[hy]at hx;simp only[U18,Uc]at hx;subst hx;have h0:=hw _ y hy;refine⟨λ hk=>?_,?_,?_,λ h=>absurd rfl h⟩;have:=h0.len hk;simp only[Ul];exact this;show (y.subs.map (· + g.nds.length)).Pairwise (· < ·);rw[List.pairwise_map];exact h0.up.imp λ h=>by omega
   intro z hz;obtain⟨u,hu,rfl⟩:=U30.1 hz;have:=h0.lt u hu;omega
 have bP:∀i nd,g.nds[i]?=some nd->∃nd',(Vo (g.nds++nds.map λ nd=>{ nd with subs:=nd.subs.map (· + g.nds.length),owner:=0 }) into w sp (root+g.nds.length))[i]?=some nd'/\nd'.kind=nd.kind/\(i≠into->nd'=nd):=by
  intro i nd gR;rw[O13,U9 (U7.1 gR).1,gR]
  split;rename_i e;exact⟨_,rfl,rfl,λ h=>absurd e.symm h⟩
  exact⟨_,rfl,rfl,λ _=>rfl⟩
 refine⟨⟨?_,?_,λ i gR=>?_,λ i gR=>?_,λ i=>?_,(hT 0).2 h.root,(hT _).2 h.sec⟩,ao⟩;rw[ao];show (g.srt++nds.map λ _=>(0,0)).length=_;simp[h.len];show WF (Vo _ into w sp (root+g.nds.length));refine jp.put into _ w sp nt (by rw[U9 aa];exact nl) (λ x hx=>?_) (by simp;omega);have:=(h.wf into nt nl).lt x hx;omega;obtain⟨nd,h1,h2⟩:=h.tab i ((hT i).1 gR);obtain⟨nd',h3,h4,_⟩:=bP i nd h1;exact⟨nd',h3,by omega⟩
 rw[cD]at gR
 split at gR
 obtain⟨nd,l,h1,h2,h3,h4⟩:=h.lst i gR;obtain⟨nd',h5,h6,h7⟩:=bP i nd h1;have hit:i≠into:=λ e=>by (subst e;rw[nl]at h1;cases h1;omega)
 rw[h7 hit]at h5;exact⟨nd,l,h5,h2,h3,(hT l).2 h4⟩
 simp at gR
 rw[cD]
 split;exact h.sort i
 simp
theorem Oke{E:Vz}{s:Bs}{n e:Nat}{it:It}(h:V2d E s n = .ok (e,it)) :
    (pre (s.drop n) [91,91]=true/\it.kind=3)\/(pre (s.drop n) [91,91]=false/\pre (s.drop n) [91]=true/\it.kind=2)\/(pre (s.drop n) [91]=false/\V14 (s.drop n)=true/\it.kind=0) \/
    (pre (s.drop n) [91,91]=false/\pre (s.drop n) [91]=false/\V14 (s.drop n)=false/\it.kind=1/\∃ws e1,V1k E s n = .ok (ws,e1)/\V9 s (V7 s e1)=61/\it.ws=ws/\isF s (V7 s e1) [61] = .ok (V7 s e1+1)):=by
 unfold V2d at h
 split at h
 rename_i h2
 refine .inl ⟨h2,?_⟩;exact J90
 rename_i h2
 split at h
 rename_i h1
 refine .inr (.inl ⟨by simpa using h2,h1,?_⟩);exact J90
 rename_i h1
 split at h
 rename_i hb
 cases h;exact .inr (.inr (.inl ⟨by simpa using h1,hb,rfl⟩))
 rename_i hb
 refine .inr (.inr (.inr ⟨by simpa using h2,by simpa using h1,by simpa using hb,?_⟩));unfold V4b at h;cases hk:V1k E s n with
 |non=>rw[hk]at h;cases h
 |bad c p=>rw[hk]at h;cases h
 |ok r =>
  obtain⟨ws,e1⟩:=r;rw[hk]at h;simp only at h;cases hi:isF s (V7 s e1) [61] with
  |bad c p=>rw[hi]at h;cases h
  |ok m =>
   rw[hi]at h;simp only at h;refine Z253 ?_;intro hm
   split at h;cases h
   cases h
   cases h;exact⟨rfl,ws,e1,rfl,by unfold V9;rw[hm.1];rfl,rfl,by rw[hi,hm.2]⟩
theorem Ocy{l:Bs}(h:pre l [91,91]=true):pre l [91]=true/\V14 l=false:=by
 match l with
 |[]=>simp[pre]at h
 |c::r =>
  simp only[pre,Uf,U1v]at h⊢;have:=h.1;subst this;exact⟨by simp,rfl⟩
theorem Og3{l:Bs}(h:pre l [91]=true):V14 l=false:=by
 match l with
 |[]=>simp[pre]at h
 |c::r =>
  simp only[pre,Uf,U1v]at h;have:=h.1;subst this;rfl
theorem O3r(s:Bs)(n:Nat):V7 s (V7 s n)=V7 s n:=by
 have key:∀l:Bs,blanks (l.drop (blanks l))=0:=by
  intro l
  induction l with
  |nil=>rfl
  |cons c r ih =>
   unfold blanks at ih⊢;rw[Uo]
   split;simpa using ih
   rename_i h
   rw[Ur,U1l,Uo,Ud h];rfl
 unfold V7;rw[<-U16,key];rfl
structure Vgx(E:Vz)(s:Bs)(n:Nat)(g:Vb)(into root:Nat)(nds:Vc)(g1:Vb):Prop where
 gi:GI g1
 le:g1.nds.length<=g.nds.length+s.length+1
 ge:g.nds.length<=g1.nds.length
 its:g1.its=g.its
 ns:g1.ns=g.ns
 many:g1.many<=g.many+1
 dep:g1.dep<=g.dep\/g1.dep<=2*s.length+3
 pair:pre (s.drop (V7 s n)) [91]=false->V14 (s.drop (V7 s n))=false->Tb g1 into/\∀ws e,V1k E s (V7 s n) = .ok (ws,e)->V9 s (V7 s e)=61->WF nds/\root<nds.length/\nds.length<=s.length
theorem Oaa{E:Vz}(hE:V10 E){s:Bs}(hs:s.length<=2000000){n:Nat}(hn:n<=s.length){g:Vb}(h:GI g)(hl:g.nds.length+s.length+2<=20000000) :
    V27 E s n g ≠ .non/\∀into root nds g1,V27 E s n g = .ok (into,root,nds,g1)->Vgx E s n g into root nds g1:=by
 have hb:=V8 s n hn;unfold V27;simp only
 split
 rename_i aN
 refine⟨by simp,λ into root nds g1 he=>?_⟩;simp only[Va.ok.injEq,U6]at he;obtain⟨rfl,rfl,rfl,rfl⟩:=he;exact⟨h,by omega,U2 _,rfl,rfl,by omega,.inl (U2 _),λ _ h=>by rw[aN]at h;cases h⟩
 rename_i aN
 generalize hm:(if pre (s.drop (V7 s n)) [91,91] then 2 else if pre (s.drop (V7 s n)) [91] then 1 else 0)=m;have iG:V7 s n+m<=s.length/\(m=0->pre (s.drop (V7 s n)) [91]=false)/\(m≠0->pre (s.drop (V7 s n)) [91]=true):=by
  rw[<-hm]
  split
  rename_i h2
  have:=V18 _ _ h2;rw[U3]at this;simp only[Ub,Ur]at this;exact⟨by omega,by simp,λ _=>(Ocy h2).1⟩
  split
  rename_i h1
  have:=V18 _ _ h1;rw[U3]at this;simp only[Ub,Ur]at this;exact⟨by omega,by simp,λ _=>h1⟩
  rename_i h1
  exact⟨by omega,λ _=>by simpa using h1,by simp⟩
 have aA:=V8 s (V7 s n+m) iG.1;obtain⟨k1,k2,k3⟩:=O_s hE (s:=s) aA.2;cases hk:V1k E s (V7 s (V7 s n+m)) with
 |non=>exact absurd hk k3
 |bad c p=>exact⟨by simp,λ into root nds g1 he=>by simp at he⟩
 |ok r =>
  obtain⟨ws,e⟩:=r;obtain⟨e1,e2,e3,e4,e5⟩:=k1 _ _ hk;have eP:=O3o hE (s.length+2) _ [] ws e aA.2 hk;simp only[Ur,Uu]at eP;simp only
  split
  rename_i jn
  obtain⟨t1,t2⟩:=Ocw h ws e3 (by omega);cases ht:V2y g ws with
  |non=>exact absurd ht t1
  |bad c p=>exact⟨by simp,λ into root nds g1 he=>by simp at he⟩
  |ok g1 =>
   exact J142
  split
  rename_i ry
  obtain⟨t1,t2⟩:=Oa9 h ws e3 (by omega);cases ht:V2a g ws with
  |non=>exact absurd ht t1
  |bad c p=>exact⟨by simp,λ into root nds g1 he=>by simp at he⟩
  |ok g1 =>
   exact J142
  rename_i jn ry
  obtain⟨t1,t2⟩:=Ocx h ws e3 (by omega);cases ht:V2z g ws with
  |non=>exact absurd ht t1
  |bad c p=>exact⟨by simp,λ into root nds g1 he=>by simp at he⟩
  |ok r =>
   obtain⟨t,d,g1⟩:=r;obtain⟨q1,q2,q3,q4,q5,q6,_⟩:=t2 _ _ _ ht;have aO:=V8 s e e2;have H9:m=0:=by
    have:m=0\/m=1\/m=2:=by
     rw[<-hm];split;simp
     split <;> simp
    omega
   subst H9;simp only
   split
   rename_i eV
   have aa:=byteAt_lt eV (by decide);have dk:=V8 s (V7 s e+1) (by omega);obtain⟨r1,r2,r3⟩:=O2e hE s (by omega) (V7 s (V7 s e+1)) d dk.2;cases hr:V1l E s (V7 s (V7 s e+1)) d with
   |non=>exact absurd hr r1
   |bad c p=>exact⟨by simp,λ into root nds g1 he=>by simp at he⟩
   |ok v =>
    obtain⟨root,ve,nds⟩:=v;obtain⟨v1,v2,v3⟩:=r3 _ _ _ hr;refine⟨by simp,λ into cB xJ bT he=>?_⟩;simp only[Va.ok.injEq,U6]at he;obtain⟨rfl,rfl,rfl,rfl⟩:=he;exact⟨q1,by omega,q4,q6.its,q6.ns,by rw[q6.many];omega,.inl (by rw[q6.dep];exact U2 _),λ _ _=>⟨q2,λ _ _ _ _=>⟨v3.wf,v3.hi,by have:=v3.len;omega⟩⟩⟩
   rename_i eV
   refine⟨by simp,λ into cB xJ bT he=>?_⟩;simp only[Va.ok.injEq,U6]at he;obtain⟨rfl,rfl,rfl,rfl⟩:=he;refine⟨q1,by omega,q4,q6.its,q6.ns,by rw[q6.many];omega,.inl (by rw[q6.dep];exact U2 _),λ _ _=>⟨q2,λ Ha e' cS h'=>?_⟩⟩;rw[U2z,O3r]at hk;rw[hk]at cS;simp only[Va.ok.injEq,U6]at cS;obtain⟨rfl,rfl⟩:=cS;exact absurd h' eV
theorem Ocz{E:Vz}{s:Bs}{n:Nat}{it:It}(h:V2h E s n = .ok it)(hk:it.kind=1) :
    pre (s.drop (V7 s n)) [91]=false/\V14 (s.drop (V7 s n))=false/\∃ws e,V1k E s (V7 s n) = .ok (ws,e)/\V9 s (V7 s e)=61/\it.ws=ws:=by
 unfold V2h at h;cases hb:V2d E s (V7 s n) with
 |non=>rw[hb]at h;cases h
 |bad c p=>rw[hb]at h;cases h
 |ok r =>
  obtain⟨e,bJ⟩:=r;rw[hb]at h;simp only at h;cases hc:V1b s e with
  |bad c p=>rw[hc]at h;cases h
  |ok m =>
   rw[hc]at h;simp only[Va.ok.injEq]at h;subst h;simp only at hk;rcases Oke hb with⟨_,q⟩|⟨_,_,q⟩|⟨_,_,q⟩|⟨_,h1,h2,_,ws,e1,q1,q2,q3,_⟩
   omega;omega;omega
   exact⟨h1,h2,ws,e1,q1,q2,q3⟩
structure ItG(s:Bs)(n:Nat)(g:Vb)(e:Nat)(g':Vb):Prop where
 gi:GI g'
 lt:n<e
 le:e<=s.length
 len:g'.nds.length<=g.nds.length+2*s.length+1
 ge:g.nds.length<=g'.nds.length
 its:g'.its.length=g.its.length+1
 ns:g'.ns.length=g.ns.length+1
 many:g'.many<=g.many+1
 dep:g'.dep<=g.dep\/g'.dep<=2*s.length+3
theorem GI.more{g:Vb}(h:GI g)(its:List It)(ns:List Int):GI { g with its:=its,ns:=ns }:=⟨h.len,h.wf,h.tab,h.lst,h.sort,h.root,h.sec⟩
theorem Oi9{nds:Vc}(h:WF nds)(hl:nds.length<=20000000){root:Nat}(hr:root<nds.length):V4o nds root=true:=by
 unfold V4o;simp only[Uf,Ux,U1g];refine⟨by omega,λ nd bP=>?_⟩;obtain⟨i,hi⟩:=U3l bP;have h0:=h i nd hi;have h1:=O4m _ _ h0.up h0.lt;exact⟨by omega,λ u hu=>by have:=h0.lt u hu;omega⟩
theorem Okf{E:Vz}(hE:V10 E){s:Bs}(hs:s.length<=2000000){n:Nat}(hn:n<s.length){g:Vb}(h:GI g)(hl:g.nds.length+2*s.length+2<=20000000) :
    V23 E s n g ≠ .non/\∀e g',V23 E s n g = .ok (e,g')->ItG s n g e g':=by
 obtain⟨w1,w2⟩:=Oaa hE hs (n:=n) (by omega) h (by omega);unfold V23;cases hw:V27 E s n g with
 |non=>exact absurd hw w1
 |bad c p=>exact⟨by simp,λ e g' he=>by simp at he⟩
 |ok r =>
  obtain⟨into,root,nds,g1⟩:=r;have q:=w2 _ _ _ _ hw;obtain⟨i1,i2,i3⟩:=O1m hE s (by omega) n hn;simp only;cases hi:V2h E s n with
  |non=>exact absurd hi i1
  |bad c p=>exact⟨by simp,λ e g' he=>by simp at he⟩
  |ok it =>
   have k:=i3 it hi;have ql:=q.le;have qg:=q.ge;simp only
   split;exact J153
   split
   rename_i bx
   obtain⟨p1,p2,ws,e,p3,p4,p5⟩:=Ocz hi bx;obtain⟨q2,q3⟩:=q.pair p1 p2;obtain⟨q4,q5,q6⟩:=q3 ws e p3 p4;obtain⟨⟨w,a,b⟩,cA⟩:=O3b (k.ws (by omega));rw[cA];simp only;obtain⟨g4,g5⟩:=q.gi.graft q4 q5 q2 w (a,b) ((V1c g1 nds).its++[it]) ((V1c g1 nds).ns++[((root+g1.nds.length:Nat):Int)]);have eA:(V1c g1 nds).nds.length=g1.nds.length+nds.length:=by show (g1.nds++nds.map _).length=_;simp
   have kC:V32 (V1c g1 nds) into=true:=by
    obtain⟨nd,t1,t2⟩:=q.gi.tab into q2;have t3:=q.gi.lt q2;have t4:=q.gi.wf into nd t1;have t5:=O4m _ _ t4.up t4.lt;have t6:=t4.len t2;have cD:Vl (V1c g1 nds) into=Vl g1 into:=by
     show (g1.srt++nds.map λ _=>(0,0)).getD into (0,0)=g1.srt.getD into (0,0);rw[Ui,Ui,U9 (by rw[q.gi.len];exact t3)]
    have bP:(V1c g1 nds).nds[into]?=some nd:=by
     show (g1.nds++nds.map _)[into]?=_;rw[U9 t3];exact t1
    unfold V32 kind8;rw[cD,bP,eA];unfold Tb at q2;simp only[Uf,Ux,U1v,bne_iff_ne,ne_eq];omega
   rw[Ua (by rw[Oi9 q4 (by omega) q5,kC,O21 (by rw[eA];omega)];rfl)];refine⟨by simp,λ e' g' he=>?_⟩;simp only[Va.ok.injEq,U6]at he;obtain⟨rfl,rfl⟩:=he;exact⟨g4,k.lt,k.le,by rw[g5];omega,by rw[g5];omega,by simp[V1c,q.its],by simp[V1c,q.ns],q.many,q.dep⟩
   exact J153
theorem On3(table:Nat):∀(ws:List KW)(into d d0:Nat)(st:Vc)(ax d':Nat)(st':Vc),d0<=d->V3m table ws into d st = .ok (ax,d',st')->∃d1,d1<=d'/\V3m table ws into d0 st = .ok (ax,d1,st'):=by
 intro ws
 induction ws with
 |nil=>intro into d d0 st ax d' st' _ h;simp[V3m]at h
 |cons x rest ih =>
  intro into d d0 st ax d' st' hd h;obtain⟨w,a,b⟩:=x;unfold V3m at h⊢;cases hs:V12 st into w with
  |non=>rw[hs]at h;cases h
  |yes i =>
   rw[hs]at h;simp only at h⊢;cases rest with
   |nil=>cases h
   |cons y rest =>
    simp only at h⊢
    split at h
    rename_i ho
    rw[Ua ho];exact ih i (d+1) (d0+1) st ax d' st' (by omega) h
    cases h
  |no =>
   rw[hs]at h;simp only at h⊢;cases rest with
   |nil =>
    simp only[Va.ok.injEq,U6]at h;obtain⟨rfl,rfl,rfl⟩:=h;exact⟨d0,hd,rfl⟩
   |cons y rest =>
    simp only at h⊢
    split at h;cases h
    rename_i LI
    rw[Ud (by omega)]
    split at h
    rename_i hk
    rw[Ua hk];exact ih _ (d+1) (d0+1) _ ax d' st' (by omega) h
    cases h
def V8z(V:V24):Prop:=∀d d0 n st r,d0<=d->V d n st = .ok r->V d0 n st = .ok r
theorem Oia{E:Vz}{V:V24}(hV:V8z V)(s:Bs)(table n d d0:Nat)(st:Vc)(r:Nat×Vc)(hd:d0<=d)(h:V1s E V s table n d st = .ok r):V1s E V s table n d0 st = .ok r:=by
 unfold V1s at h⊢;cases hk:V1k E s n with
 |non=>rw[hk]at h;cases h
 |bad c p=>rw[hk]at h;cases h
 |ok q =>
  obtain⟨ws,e⟩:=q;rw[hk]at h;simp only at h⊢;cases hw:V3m table ws table d st with
  |non=>rw[hw]at h;cases h
  |bad c p=>rw[hw]at h;cases h
  |ok q =>
   obtain⟨into,d',st'⟩:=q;obtain⟨d1,h1,h2⟩:=On3 table ws table d d0 st into d' st' hd hw;rw[hw]at h;rw[h2];simp only at h⊢
   split at h
   rename_i eV
   rw[Ua eV];cases hv:V (d'+1) (V7 s (V7 s e+1)) st' with
   |non=>rw[hv]at h;cases h
   |bad c p=>rw[hv]at h;cases h
   |ok q =>
    rw[hv]at h;rw[hV (d'+1) (d1+1) _ _ _ (by omega) hv];exact h
   cases h
theorem Okg{E:Vz}{V:V24}(hV:V8z V)(s:Bs)(table d d0:Nat)(hd:d0<=d):∀(f n:Nat)(st:Vc)(r:Nat×Vc),V2g E V s table d f n st = .ok r->V2g E V s table d0 f n st = .ok r:=by
 intro f
 induction f with
 |zero=>intro n st r h;simp[V2g]at h
 |succ f ih =>
  intro n st r h;unfold V2g at h⊢;cases hp:V1s E V s table n d st with
  |non=>rw[hp]at h;cases h
  |bad c p=>rw[hp]at h;cases h
  |ok q =>
   obtain⟨e,st1⟩:=q;rw[hp]at h;rw[Oia hV s table n d d0 st _ hd hp];simp only at h⊢
   split at h;rename_i h1;rw[Ua h1];exact h
   rename_i h1
   rw[Ud h1]
   split at h;rename_i h2;rw[Ua h2];exact ih _ _ _ h
   cases h
theorem Og4{E:Vz}{V:V24}(hV:V8z V)(s:Bs)(d d0 n:Nat)(st:Vc)(r:Nat×Nat×Vc)(hd:d0<=d)(h:V1z E V s d n st = .ok r):V1z E V s d0 n st = .ok r:=by
 unfold V1z at h⊢
 split at h;cases h
 rw[Ud (by omega)]
 split at h
 rename_i hr
 rw[Ua hr];simp only at h⊢
 split at h;cases h
 cases h
 rename_i e1 st1 hx
 have:(if V9 s (V7 s (n+1))=125 then .ok (V7 s (n+1),st++[V1f]) else V2g E V s st.length d0 (s.length+2) (V7 s (n+1)) (st++[V1f]):Va (Nat×Vc)) = .ok (e1,st1):=by
  split at hx;rename_i h1;rw[Ua h1];exact hx
  rename_i h1;rw[Ud h1];exact Okg hV s _ d d0 hd _ _ _ _ hx
 rw[this];exact h
 cases h
theorem Oib{V:V24}(hV:V8z V)(s:Bs)(d d0:Nat)(hd:d0<=d):∀(f n:Nat)(subs:List Nat)(st:Vc)(r:List Nat×Nat×Vc),V1h V s d f n subs st = .ok r->V1h V s d0 f n subs st = .ok r:=by
 intro f
 induction f with
 |zero=>intro n subs st r h;simp[V1h]at h
 |succ f ih =>
  intro n subs st r h;unfold V1h at h⊢
  split at h;rename_i h1;rw[Ua h1];exact h
  rename_i h1
  rw[Ud h1];cases hv:V (d+1) n st with
  |non=>rw[hv]at h;cases h
  |bad c p=>rw[hv]at h;cases h
  |ok q =>
   obtain⟨i,e,st1⟩:=q;rw[hv]at h;rw[hV (d+1) (d0+1) _ _ _ (by omega) hv];simp only at h⊢
   split at h;cases h
   rename_i h2
   rw[Ud h2];cases hg:Vt s e with
   |bad c p=>rw[hg]at h;cases h
   |ok g =>
    rw[hg]at h;simp only at h⊢
    split at h;rename_i h3;rw[Ua h3];exact h
    rename_i h3
    rw[Ud h3]
    split at h
    rename_i h4
    rw[Ua h4];cases cP:Vt s (g+1) with
    |bad c p=>rw[cP]at h;cases h
    |ok g2=>rw[cP]at h;exact ih _ _ _ _ h
    cases h
theorem Oic{V:V24}(hV:V8z V)(s:Bs)(d d0 n:Nat)(st:Vc)(r:Nat×Nat×Vc)(hd:d0<=d)(h:V2s V s d n st = .ok r):V2s V s d0 n st = .ok r:=by
 unfold V2s at h⊢
 split at h;cases h
 rw[Ud (by omega)];cases hg:Vt s (n+1) with
 |bad c p=>rw[hg]at h;cases h
 |ok g =>
  rw[hg]at h;simp only at h⊢;cases hl:V1h V s d (s.length+2) g [] st with
  |non=>rw[hl]at h;cases h
  |bad c p=>rw[hl]at h;cases h
  |ok q =>
   rw[hl]at h;rw[Oib hV s d d0 hd _ _ _ _ _ hl];exact h
theorem Og5(E:Vz)(s:Bs):∀f,V8z (V19 E s f):=by
 intro f
 induction f with
 |zero=>intro d d0 n st r _ h;simp[V19]at h
 |succ f ih =>
  intro d d0 n st r hd h;unfold V19 at h⊢;simp only at h⊢
  split at h;rename_i h1;rw[Ua h1];exact h
  rename_i h1
  rw[Ud h1]
  split at h;rename_i h2;rw[Ua h2];exact Oic ih s d d0 n st r hd h
  rename_i h2
  rw[Ud h2]
  split at h;rename_i h3;rw[Ua h3];exact Og4 ih s d d0 n st r hd h
  rename_i h3;rw[Ud h3];exact h
theorem Oab{E:Vz}{s:Bs}{n k k0:Nat}{r:Nat×Nat×Vc}(hk:k0<=k)(h:V1l E s n k = .ok r):V1l E s n k0 = .ok r :=
 Og5 E s 258 _ _ n [] r (by omega) h
structure GS(g1 g2:Vb):Prop where
 nds:RS 0 g1.nds g2.nds
 srt:g2.srt=g1.srt
 sec:g2.sec=g1.sec
 dep:g2.dep=g1.dep
 many:g2.many=g1.many
theorem GS.len{g1 g2:Vb}(h:GS g1 g2):g2.nds.length=g1.nds.length:=by have:=h.nds.len;omega
theorem GS.sort{g1 g2:Vb}(h:GS g1 g2)(i:Nat):Vl g2 i=Vl g1 i:=by unfold Vl;rw[h.srt]
theorem GS.sub{g1 g2:Vb}(h:GS g1 g2)(t:Nat)(w:Bs):V12 g2.nds t w=V12 g1.nds t w:=by
 rcases h.nds.sub t w with⟨h1,h2⟩|⟨h1,h2⟩|⟨i,h1,h2⟩
 exact J91;exact J91
 rw[Uu,Uu]at h1;rw[h1,h2]
theorem GS.g8{g1 g2:Vb}(h:GS g1 g2){t:Nat}(hk:V32 g1 t=true):V32 g2 t=true:=by
 unfold V32 at hk⊢;simp only[Uf]at hk⊢;exact⟨h.nds.kind8 t (by rw[Uu];exact hk.1),by rw[h.sort];exact hk.2⟩
theorem GS.rm{g1 g2:Vb}(h:GS g1 g2)(hk:room g1.nds=true):room g2.nds=true:=h.nds.room hk
theorem Oep(k:Nat):SN 0 (V1t k) (V1t k):=⟨rfl,rfl,rfl,rfl,rfl,rfl⟩
theorem GS.grow{g1 g2:Vb}(h:GS g1 g2)(k:Nat)(s:Nat×Nat)(t:Nat)(w:Bs)(sp Hc:Nat×Nat):GS (V2r (V2l g1 k s) t w sp g1.nds.length) (V2r (V2l g2 k s) t w Hc g2.nds.length):=by
 refine⟨?_,?_,h.sec,h.dep,h.many⟩;show RS 0 (Vo (g1.nds++[V1t k]) t w sp g1.nds.length) (Vo (g2.nds++[V1t k]) t w Hc g2.nds.length);have:=(h.nds.app (Oep k)).put t w sp Hc g2.nds.length;rw[Uu,Uu]at this;rw[h.len]at this⊢;exact this
 show g2.srt++[s]=g1.srt++[s]
 rw[h.srt]
theorem Od0{g1 g2:Vb}(h:GS g1 g2){t d:Nat}{w:Bs}{a b a2 b2:Nat}{s:Nat×Nat}{pQ over2:Nat->Ov}(ho:∀i,over2 i=pQ i){n d':Nat}{bT:Vb}(he:V1n g1 t d w a b s pQ = .ok (n,d',bT)) :
    ∃cp,V1n g2 t d w a2 b2 s over2 = .ok (n,d',cp)/\GS bT cp:=by
 unfold V1n at he⊢;rw[h.sub];cases hs:V12 g1.nds t w with
 |non=>rw[hs]at he;cases he
 |yes i =>
  rw[hs]at he;simp only at he⊢;rw[ho];cases hv:pQ i with
  |non=>rw[hv]at he;cases he
  |no=>rw[hv]at he;cases he
  |go n' d2 =>
   rw[hv]at he;simp only[Va.ok.injEq,U6]at he;obtain⟨rfl,rfl,rfl⟩:=he;exact⟨g2,rfl,h⟩
 |no =>
  rw[hs]at he;simp only at he⊢
  split at he;cases he
  rename_i hd
  rw[Ud hd]
  split at he
  rename_i hk
  simp only[Uf]at hk;rw[Ua (by rw[h.g8 hk.1,h.rm hk.2];rfl)];simp only[Va.ok.injEq,U6]at he;obtain⟨rfl,rfl,rfl⟩:=he;exact⟨_,by rw[h.len],h.grow 8 s t w _ _⟩
  cases he
theorem Oeq{g1 g2:Vb}(h:GS g1 g2)(d i:Nat):V2u g2 d i=V2u g1 d i:=by
 unfold V2u;rw[h.sort];rcases h.nds.get i with⟨h1,h2⟩|⟨x,y,h1,h2,h3⟩
 exact J91
 rw[Uu]at h1;rw[h1,h2];have:y.subs=x.subs:=by rw[h3.subs];simp
 simp only[this]
theorem Oid{g1 g2:Vb}(h:GS g1 g2)(d i:Nat):V1j g2 d i=V1j g1 d i:=by
 unfold V1j;rw[h.sort,h.many]
theorem O7o(s:Nat×Nat)(over:Vb->Nat->Nat->Ov)(ho:∀g1 g2,GS g1 g2->∀d i,over g2 d i=over g1 d i) :
    ∀(th e9:List KW)(t d:Nat)(g1 g2:Vb)(t' d':Nat)(bT:Vb),e9.map (·.1)=th.map (·.1)->GS g1 g2->V20 s over th t d g1 = .ok (t',d',bT)->∃cp,V20 s over e9 t d g2 = .ok (t',d',cp)/\GS bT cp:=by
 intro th
 induction th with
 |nil =>
  intro e9 t d g1 g2 t' d' bT hw h he;cases e9 with
  |nil =>
   simp only[V20,Va.ok.injEq,U6]at he;obtain⟨rfl,rfl,rfl⟩:=he;exact⟨g2,rfl,h⟩
  |cons y l=>simp at hw
 |cons x rest ih =>
  intro e9 t d g1 g2 t' d' bT hw h he;cases e9 with
  |nil=>simp at hw
  |cons y u' =>
   obtain⟨w,a,b⟩:=x;obtain⟨w2,a2,b2⟩:=y;simp only[U2i,U1a]at hw;obtain⟨rfl,hw⟩:=hw;unfold V20 at he⊢;cases a9:V1n g1 t d w2 a b s (over g1 d) with
   |non=>rw[a9]at he;cases he
   |bad c p=>rw[a9]at he;cases he
   |ok r =>
    obtain⟨n,d2,g3⟩:=r;rw[a9]at he;obtain⟨g4,h1,h2⟩:=Od0 h (a2:=a2) (b2:=b2) (over2:=over g2 d) (λ i=>ho g1 g2 h d i) a9;rw[h1];exact ih u' n d2 g3 g4 t' d' bT hw h2 he
theorem O3c{l m:List KW}(h:m.map (·.1)=l.map (·.1)):(l.getLast?=none/\m.getLast?=none)\/∃w a b a2 b2,l.getLast?=some (w,a,b)/\m.getLast?=some (w,a2,b2):=by
 have h1:=U1q List.getLast? h;rw[List.getLast?_map,List.getLast?_map]at h1;cases hl:l.getLast? with
 |none =>
  rw[hl]at h1;cases hm:m.getLast? with
  |none=>exact .inl ⟨rfl,rfl⟩
  |some y=>rw[hm]at h1;simp at h1
 |some x =>
  rw[hl]at h1;cases hm:m.getLast? with
  |none=>rw[hm]at h1;simp at h1
  |some y =>
   rw[hm]at h1;simp only[U18,Uc]at h1;obtain⟨w,a,b⟩:=x;obtain⟨w2,a2,b2⟩:=y;simp only at h1;subst h1;exact .inr ⟨w2,a,b,a2,b2,rfl,rfl⟩
theorem O5g{l m:List KW}(h:m.map (·.1)=l.map (·.1)):m.dropLast.map (·.1)=l.dropLast.map (·.1):=by
 rw[List.map_dropLast,List.map_dropLast,h]
theorem Og6{g1 g2:Vb}(h:GS g1 g2){k1 k2:List KW}(hw:k2.map (·.1)=k1.map (·.1)){bT:Vb}(he:V2a g1 k1 = .ok bT):∃cp,V2a g2 k2 = .ok cp/\GS bT cp:=by
 unfold V2a at he⊢;cases hy:V20 (2,0) V2u k1.dropLast 0 1 g1 with
 |non=>rw[hy]at he;cases he
 |bad c p=>rw[hy]at he;cases he
 |ok r =>
  obtain⟨t,d,g3⟩:=r;rw[hy]at he;obtain⟨g4,h1,h2⟩:=O7o (2,0) V2u (λ _ _ h d i=>Oeq h d i) _ k2.dropLast 0 1 g1 g2 t d g3 (O5g hw) h hy;rw[h1];simp only at he⊢;rcases O3c hw with⟨l1,l2⟩|⟨w,a,b,a2,b2,l1,l2⟩
  rw[l1]at he;cases he
  rw[l1]at he;rw[l2];simp only at he⊢;cases a9:V1n g3 t d w a b (1,0) (λ i=>if (Vl g3 i).1=2 then .go i (d+1) else .no) with
  |non=>rw[a9]at he;cases he
  |bad c p=>rw[a9]at he;cases he
  |ok r =>
   obtain⟨n,d2,g5⟩:=r;rw[a9]at he;obtain⟨g6,h3,h4⟩:=Od0 h2 (a2:=a2) (b2:=b2) (over2:=λ i=>if (Vl g4 i).1=2 then .go i (d+1) else .no) (λ i=>by rw[h2.sort]) a9;rw[h3];simp only[Va.ok.injEq]at he⊢;subst he;exact⟨_,rfl,h4.nds,by simp only[h4.srt],rfl,rfl,by simp only[h4.many]⟩
theorem GS.elem{g1 g2:Vb}(h:GS g1 g2)(i d:Nat):GS (V3g g1 i d) (V3g g2 i d):=by
 refine⟨?_,?_,h.len,rfl,by show g2.many+1=g1.many+1;rw[h.many]⟩
 show RS 0 ((g1.nds++[V1t 8]).modify i _) ((g2.nds++[V1t 8]).modify i _);have:=(h.nds.app (Oep 8)).mod i (λ nd=>{ nd with subs:=nd.subs++[g1.nds.length] }) (λ nd=>{ nd with subs:=nd.subs++[g2.nds.length] }) (λ x y q=>⟨q.kind,q.text,q.keys,q.spots,by
  show x.subs++[g1.nds.length]=(y.subs++[g2.nds.length]).map (0+·);rw[q.subs,U20,h.len];simp,q.own⟩)
 rw[Uu]at this;exact this
 show g2.srt++[(1,0)]=g1.srt++[(1,0)]
 rw[h.srt]
theorem GS.subsOk{g1 g2:Vb}(h:GS g1 g2){i:Nat}(hk:subsOk g1 i=true):subsOk g2 i=true:=by
 unfold Pl.subsOk at hk⊢;rcases h.nds.get i with⟨h1,h2⟩|⟨x,y,h1,h2,h3⟩
 rw[Uu]at h1;rw[h1]at hk;cases hk
 rw[Uu]at h1;rw[h1]at hk;rw[h2];have:y.subs=x.subs:=by rw[h3.subs];simp
 simp only[this];exact hk
theorem Oie{g1 g2:Vb}(h:GS g1 g2){k1 k2:List KW}(hw:k2.map (·.1)=k1.map (·.1)){bT:Vb}(he:V2y g1 k1 = .ok bT):∃cp,V2y g2 k2 = .ok cp/\GS bT cp:=by
 unfold V2y at he⊢;cases hy:V20 (2,0) V2u k1.dropLast 0 1 g1 with
 |non=>rw[hy]at he;cases he
 |bad c p=>rw[hy]at he;cases he
 |ok r =>
  obtain⟨t,d,g3⟩:=r;rw[hy]at he;obtain⟨g4,h1,h2⟩:=O7o (2,0) V2u (λ _ _ h d i=>Oeq h d i) _ k2.dropLast 0 1 g1 g2 t d g3 (O5g hw) h hy;rw[h1];simp only at he⊢;rcases O3c hw with⟨l1,l2⟩|⟨w,a,b,a2,b2,l1,l2⟩
  rw[l1]at he;cases he
  rw[l1]at he;rw[l2];simp only at he⊢;rw[h2.sub];cases hs:V12 g3.nds t w with
  |non=>rw[hs]at he;cases he
  |yes i =>
   rw[hs]at he;simp only at he⊢;rw[h2.sort]
   split at he
   rename_i h4
   rw[Ua h4]
   split at he;cases he
   rename_i hd
   rw[Ud hd]
   split at he
   rename_i hk
   simp only[Uf]at hk;rw[Ua (by rw[h2.subsOk hk.1,h2.rm hk.2];rfl)];simp only[Va.ok.injEq]at he;subst he;exact⟨_,rfl,h2.elem i d⟩
   cases he
   cases he
  |no =>
   rw[hs]at he;simp only at he⊢
   split at he;cases he
   rename_i hd
   rw[Ud hd]
   split at he
   rename_i hk
   simp only[Uf]at hk;rw[Ua (by rw[h2.g8 hk.1,h2.rm hk.2];rfl)];simp only[Va.ok.injEq]at he;subst he;refine⟨_,rfl,?_⟩;rw[h2.len];have:=(h2.grow 7 (4,0) t w (a,b) (a2,b2)).elem g3.nds.length d;rw[h2.len]at this;exact this
   cases he
theorem Oif{g1 g2:Vb}(h:GS g1 g2){k1 k2:List KW}(hw:k2.map (·.1)=k1.map (·.1)){t d:Nat}{bT:Vb}(he:V2z g1 k1 = .ok (t,d,bT)):∃cp,V2z g2 k2 = .ok (t,d,cp)/\GS bT cp:=by
 unfold V2z at he⊢;rw[h.sec,h.dep,h.many];cases hy:V20 (3,g1.many) V1j k1.dropLast g1.sec g1.dep g1 with
 |non=>rw[hy]at he;cases he
 |bad c p=>rw[hy]at he;cases he
 |ok r =>
  obtain⟨t',d',g3⟩:=r;rw[hy]at he;obtain⟨g4,h1,h2⟩:=O7o (3,g1.many) V1j (λ _ _ h d i=>Oid h d i) _ k2.dropLast _ _ g1 g2 t' d' g3 (O5g hw) h hy;rw[h1];simp only at he⊢;rcases O3c hw with⟨l1,l2⟩|⟨w,a,b,a2,b2,l1,l2⟩
  rw[l1]at he;cases he
  rw[l1]at he;rw[l2];simp only at he⊢;rw[h2.sub];cases hs:V12 g3.nds t' w with
  |non=>rw[hs]at he;cases he
  |yes i=>rw[hs]at he;cases he
  |no =>
   rw[hs]at he;simp only[Va.ok.injEq,U6]at he;obtain⟨rfl,rfl,rfl⟩:=he;exact⟨g4,rfl,h2⟩
theorem Ooe{a b c d:Vc}(h:RS 0 a b)(k:RS 0 c d):RS 0 (a++c) (b++d):=by
 have hl:=h.len;have kl:=k.len;refine⟨by simp;omega,λ j y hy=>?_⟩;rw[Uu];by_cases hj:j<b.length;rw[U9 hj]at hy;rw[U9 (by omega)];obtain⟨x,h1,h2⟩:=h.at' j y hy;rw[Uu]at h1;exact⟨x,h1,h2⟩
 rw[U14 (by omega)]at hy;rw[U14 (by omega)];obtain⟨x,h1,h2⟩:=k.at' _ y hy;rw[Uu]at h1;exact⟨x,by rw[show j-a.length=j-b.length by omega];exact h1,h2⟩
theorem Oof{c d:Vc}(k:RS 0 c d)(L:Nat):RS 0 (c.map λ nd=>{ nd with subs:=nd.subs.map (· + L),owner:=0 }) (d.map λ nd=>{ nd with subs:=nd.subs.map (· + L),owner:=0 }):=by
 have kl:=k.len;refine⟨by simp;omega,λ j y hy=>?_⟩;rw[Uu];rw[Uq]at hy⊢;cases hd:d[j]? with
 |none=>rw[hd]at hy;cases hy
 |some y0 =>
  rw[hd]at hy;simp only[U18,Uc]at hy;subst hy;obtain⟨x,h1,h2⟩:=k.at' j y0 hd;rw[Uu]at h1;rw[h1];refine⟨_,rfl,h2.kind,h2.text,h2.keys,h2.spots,?_,rfl⟩;simp only[h2.subs,List.map_map];congr 1
  funext z;simp
theorem GS.graft{g1 g2:Vb}(h:GS g1 g2){n1 n2:Vc}(k:RS 0 n1 n2):GS (V1c g1 n1) (V1c g2 n2):=by
 refine⟨?_,?_,h.sec,h.dep,h.many⟩;show RS 0 (g1.nds++n1.map _) (g2.nds++n2.map _);rw[h.len];exact Ooe h.nds (Oof k _)
 show g2.srt++n2.map _=g1.srt++n1.map _;rw[h.srt];congr 1;have:=k.len;rw[List.map_const',List.map_const',this,Uu]
theorem Oig{n1 n2:Vc}(k:RS 0 n1 n2){root:Nat}(h:V4o n1 root=true):V4o n2 root=true:=by
 unfold V4o at h⊢;simp only[Uf,Ux,U1g]at h⊢;refine⟨h.1,λ nd bP=>?_⟩;obtain⟨j,hj⟩:=U3l bP;obtain⟨x,h1,h2⟩:=k.at' j nd hj;rw[Uu]at h1;have:=h.2 x (U1r h1);have e:nd.subs=x.subs:=by rw[h2.subs];simp
 rw[e];exact this
