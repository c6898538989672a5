/- The proof's part 29. -/
import Derived.Test.YtnkgknbdaiakgaaGreatDoorY16
import Derived.Test.YtnkgknbdaiakgaaGreatDoorY28
set_option maxHeartbeats 16000000
set_option linter.all false
namespace Go.Proofs.YtnkgknbdaiakgaaGreatDoor.Pl
def Tb(g:Vc)(i:Nat):Prop:=(Vf g i).1=1\/(Vf g i).1=2\/(Vf g i).1=3
structure GI(g:Vc):Prop where
 len:g.srt.length=g.nds.length
 wf:WF g.nds
 tab:∀i,Tb g i->∃nd,g.nds[i]?=some nd/\nd.kind=8
 lst:∀i,(Vf g i).1=4->∃nd l,g.nds[i]?=some nd/\nd.kind=7/\nd.subs.getLast?=some l/\Tb g l
 sort:∀i,(Vf g i).1<=4
 root:Tb g 0
 sec:Tb g g.sec
theorem Tb.lt{g:Vc}{i:Nat}(h:Tb g i):i<g.srt.length:=by
 by_cases hi:i<g.srt.length;exact hi
 unfold Tb Vf at h;rw[U1j,U2t Ya]at h;simp at h
theorem GI.lt{g:Vc}(h:GI g){i:Nat}(hi:Tb g i):i<g.nds.length:=by rw[<-h.len];exact hi.lt
theorem GI.g8{g:Vc}(h:GI g)(hs:g.nds.length<=20000000){i:Nat}(hi:Tb g i):V2v g i=true:=by
 obtain⟨nd,h1,h2⟩:=h.tab i hi;unfold V2v;rw[O2w h.wf hs i nd h1 h2];unfold Tb at hi;simp only[Bool.true_and,bne_iff_ne,ne_eq];omega
theorem O67{st:Ve}(h:WF st){t:Nat}{nd:Nd}(ht:st[t]?=some nd)(hk:nd.kind=8)(w:Bs):V16 st t w=.no\/∃i,V16 st t w=.yes i/\i<st.length:=by
 have hw:=h t nd ht;unfold V16;rw[ht];simp only;cases hf:nd.keys.findIdx? (λ x=>x==w) with
 |none=>exact .inl rfl
 |some j =>
  right;have hj:j<nd.keys.length:=by
   rw[List.findIdx?_eq_some_iff_getElem]at hf;exact hf.1
  have pT:j<nd.subs.length:=by have:=(hw.len hk).1;omega
  simp only;rw[U1h pT];have:=hw.lt _ (U4a pT);simp only;rw[U18 this];exact⟨_,rfl,this⟩
theorem O5f(l:List (Nat×Nat))(s:Nat×Nat)(i:Nat):(l++[s]).getD i (0,0)=if i<l.length then l.getD i (0,0) else if i=l.length then s else (0,0):=by
 rw[U1j,U1j]
 split;rename_i h;rw[U1d h]
 split;rename_i h;subst h;simp
 rw[U21 Ya,U2t Ye];rfl
theorem getD_set(l:List (Nat×Nat))(t:Nat)(s:Nat×Nat)(i:Nat)(ht:t<l.length):(l.set t s).getD i (0,0)=if i=t then s else l.getD i (0,0):=by
 rw[U1j,U1j,U2n];by_cases h:i=t;subst h;rw[U18 rfl,U18 rfl,U18 ht];rfl
 rw[U1b (λ e=>h e.symm),U1b h]
structure GW(g:Vc)(x:Nat):Prop where
 len:g.srt.length=g.nds.length
 wf:WF g.nds
 tab:∀i,Tb g i->∃nd,g.nds[i]?=some nd/\nd.kind=8
 lst:∀i,(Vf g i).1=4->i≠x->∃nd l,g.nds[i]?=some nd/\nd.kind=7/\nd.subs.getLast?=some l/\Tb g l
 sort:∀i,(Vf g i).1<=4
 root:Tb g 0
theorem GI.gw{g:Vc}(h:GI g)(x:Nat):GW g x:=⟨h.len,h.wf,h.tab,λ i hi _=>h.lst i hi,h.sort,h.root⟩
theorem O9g(n k:Nat):Wn (n+1) n (V1r k):=⟨λ _=>⟨rfl,rfl⟩,List.Pairwise.nil,λ x hx=>by (cases hx),λ h=>absurd rfl h⟩
theorem GI.grow{g:Vc}(h:GI g){t:Nat}(ht:Tb g t)(k:Nat)(s:Nat×Nat)(w:Bs)(sp:Nat×Nat)(hs:s.1<=4)(hk:s.1=1\/s.1=2\/s.1=3->k=8):GW (V2s (V2j g k s) t w sp g.nds.length) g.nds.length/\(∀i,Tb g i->Tb (V2s (V2j g k s) t w sp g.nds.length) i)/\Vf (V2s (V2j g k s) t w sp g.nds.length) g.nds.length=s /\(∃nd,(V2s (V2j g k s) t w sp g.nds.length).nds[g.nds.length]?=some nd/\nd.kind=k/\nd.subs=[])/\(V2s (V2j g k s) t w sp g.nds.length).nds.length=g.nds.length+1:=by
 obtain⟨nt,nA,yu⟩:=h.tab t ht;have aa:=h.lt ht;have cz:∀i,Vf (V2s (V2j g k s) t w sp g.nds.length) i=if i<g.nds.length then Vf g i else if i=g.nds.length then s else (0,0):=by
  intro i;show (g.srt++[s]).getD i (0,0)=_;rw[O5f,h.len];rfl
 have bT:∀i,(V2s (V2j g k s) t w sp g.nds.length).nds[i]?=if t=i then g.nds[i]?.map (λ nd=>V12 nd w sp g.nds.length) else (g.nds++[V1r k])[i]?:=by
  intro i;show (Vj (g.nds++[V1r k]) t w sp g.nds.length)[i]?=_;rw[O12]
  split;rename_i e;subst e;rw[U1d aa]
  rfl
 have iT:∀i,Tb g i->Tb (V2s (V2j g k s) t w sp g.nds.length) i:=by
  intro i hi;have:=h.lt hi;unfold Tb at hi⊢;rw[cz,U18 this];exact hi
 have cC:∀i nd,g.nds[i]?=some nd->∃nd',(V2s (V2j g k s) t w sp g.nds.length).nds[i]?=some nd'/\nd'.kind=nd.kind/\(i≠t->nd'=nd):=by
  intro i nd hi;rw[bT]
  split;rename_i e;subst e;rw[hi];exact⟨_,rfl,rfl,λ h=>absurd rfl h⟩
  rw[U1d (U16.1 hi).1];exact⟨_,hi,rfl,λ _=>rfl⟩
 have QF:WF (V2s (V2j g k s) t w sp g.nds.length).nds:=by
  show WF (Vj (g.nds++[V1r k]) t w sp g.nds.length);have h1:=h.wf.app (V1r k) (O9g _ k);refine h1.put t _ w sp nt (by rw[U1d aa];exact nA) ?_ Yb;exact λ x hx=>(h.wf t nt nA).lt x hx
 have bU:(V2s (V2j g k s) t w sp g.nds.length).nds[g.nds.length]?=some (V1r k):=by
  rw[bT,U1b Ya];simp
 refine⟨⟨?_,QF,λ i hi=>?_,λ i hi a8=>?_,λ i=>?_,iT 0 h.root⟩,iT,by rw[cz,U1b Ya,U18 rfl],⟨_,bU,rfl,rfl⟩,?_⟩;show (g.srt++[s]).length=(Vj (g.nds++[V1r k]) t w sp g.nds.length).length;unfold Vj;simp[h.len]
 unfold Tb at hi;rw[cz]at hi
 split at hi;obtain⟨nd,h1,h2⟩:=h.tab i hi;obtain⟨nd',h3,h4,_⟩:=cC i nd h1;exact⟨nd',h3,Ya⟩
 split at hi;rename_i e;subst e;exact⟨_,bU,hk hi⟩
 simp at hi
 rw[cz]at hi
 split at hi
 obtain⟨nd,l,h1,h2,h3,h4⟩:=h.lst i hi;obtain⟨nd',h5,h6,h7⟩:=cC i nd h1;have hit:i≠t:=λ e=>by (subst e;rw[nA]at h1;cases h1;omega)
 rw[h7 hit]at h5;exact⟨nd,l,h5,h2,h3,iT l h4⟩
 simp only[U1b a8]at hi;simp at hi
 rw[cz]
 split;exact h.sort i
 split;exact hs
 simp
 show (Vj (g.nds++[V1r k]) t w sp g.nds.length).length=_;unfold Vj;simp
structure Sm(g g':Vc):Prop where
 sec:g'.sec=g.sec
 dep:g'.dep=g.dep
 many:g'.many=g.many
 its:g'.its=g.its
 ns:g'.ns=g.ns
 mono:∀i,Tb g i->Tb g' i
theorem Sm.refl(g:Vc):Sm g g:=⟨rfl,rfl,rfl,rfl,rfl,λ _ h=>h⟩
theorem Sm.trans{a b c:Vc}(h:Sm a b)(k:Sm b c):Sm a c:=⟨k.sec.trans h.sec,k.dep.trans h.dep,k.many.trans h.many,k.its.trans h.its,k.ns.trans h.ns,λ i hi=>k.mono i (h.mono i hi)⟩
theorem O5g{g:Vc}(h:GI g)(hs:g.nds.length+1<=20000000){t:Nat}(ht:Tb g t)(d:Nat)(w:Bs)(a b:Nat)(s:Nat×Nat)(k9:s.1=1\/s.1=2\/s.1=3)(over:Nat->Ov)(ho:∀i,i<g.nds.length->over i≠.non/\∀n d',over i=.go n d'->Tb g n/\d'<=d+2):V1p g t d w a b s over≠.non/\∀n d' g',V1p g t d w a b s over=.ok (n,d',g')->GI g'/\Tb g' n/\g'.nds.length<=g.nds.length+1/\g.nds.length<=g'.nds.length/\d'<=d+2/\Sm g g':=by
 obtain⟨nt,nA,yu⟩:=h.tab t ht;unfold V1p;rcases O67 h.wf nA yu w with e|⟨i,e,hi⟩
 rw[e];simp only
 split;exact J149
 rw[U18 (by rw[h.g8 Ya ht,O1p Ya];rfl)];obtain⟨g1,g2,g3,g4,g5⟩:=h.grow ht 8 s w (a,b) Ya (λ _=>rfl);refine⟨Yb,λ n d' g' he=>?_⟩;simp only[Va.ok.injEq,U19]at he;obtain⟨rfl,rfl,rfl⟩:=he;have hT:Tb (V2s (V2j g 8 s) t w (a,b) g.nds.length) g.nds.length:=by unfold Tb;rw[g3];exact k9
 refine⟨⟨g1.len,g1.wf,g1.tab,λ i hi=>g1.lst i hi λ e=>?_,g1.sort,g1.root,g2 _ h.sec⟩,hT,Ya,Ya,Ya,⟨rfl,rfl,rfl,rfl,rfl,g2⟩⟩;subst e;rw[g3]at hi;omega
 rw[e];simp only;obtain⟨h1,h2⟩:=ho i hi;cases bR:over i with
 |non=>exact absurd bR h1
 |no=>exact⟨Yb,λ n d' g' h=>by simp at h⟩
 |go n d' =>
  obtain⟨h3,h4⟩:=h2 n d' bR;refine⟨Yb,λ n' MB g' he=>?_⟩;simp only[Va.ok.injEq,U19]at he;obtain⟨rfl,rfl,rfl⟩:=he;exact⟨h,h3,Ya,Ya,h4,Sm.refl g⟩
theorem O9h{g:Vc}(h:GI g)(d i:Nat):V39 g d i≠.non/\∀n d',V39 g d i=.go n d'->Tb g n/\d'<=d+2:=by
 unfold V39
 split;exact⟨Yb,λ n d' h=>by simp at h⟩
 rename_i h0
 split
 rename_i h4
 obtain⟨nd,l,h1,h2,h3,h5⟩:=h.lst i h4;rw[h1];simp only[h3];exact⟨Yb,λ n d' he=>by (simp only[Ov.go.injEq]at he;obtain⟨rfl,rfl⟩:=he;exact⟨h5,Ya⟩)⟩
 rename_i h4
 have:=h.sort i;exact⟨Yb,λ n d' he=>by (simp only[Ov.go.injEq]at he;obtain⟨rfl,rfl⟩:=he;exact⟨by unfold Tb;omega,Ya⟩)⟩
theorem Oae{g:Vc}(d i:Nat):V1v g d i≠.non/\∀n d',V1v g d i=.go n d'->Tb g n/\d'<=d+2:=by
 unfold V1v
 split
 rename_i e
 exact⟨Yb,λ n d' he=>by (simp only[Ov.go.injEq]at he;obtain⟨rfl,rfl⟩:=he;exact⟨by unfold Tb;rw[e];simp,Ya⟩)⟩
 exact⟨Yb,λ n d' h=>by simp at h⟩
theorem O6t(s:Nat×Nat)(k9:s.1=1\/s.1=2\/s.1=3)(over:Vc->Nat->Nat->Ov)(ho:∀g d i,GI g->i<g.nds.length->over g d i≠.non/\∀n d',over g d i=.go n d'->Tb g n/\d'<=d+2):∀(ws:List KW)(t d:Nat)(g:Vc),GI g->Tb g t->g.nds.length+ws.length<=20000000 ->V2a s over ws t d g≠.non/\∀t' d' g',V2a s over ws t d g=.ok (t',d',g')->GI g'/\Tb g' t'/\g'.nds.length<=g.nds.length+ws.length/\g.nds.length<=g'.nds.length/\d'<=d+2*ws.length/\Sm g g':=by
 intro ws
 induction ws with
 |nil =>
  intro t d g h ht hl;refine⟨by simp[V2a],λ t' d' g' he=>?_⟩;simp only[V2a,Va.ok.injEq,U19]at he;obtain⟨rfl,rfl,rfl⟩:=he;exact⟨h,ht,Yb,Yb,Yb,Sm.refl g⟩
 |cons x rest ih =>
  intro t d g h ht hl;obtain⟨w,a,b⟩:=x;simp only[U17]at hl⊢;obtain⟨s1,s2⟩:=O5g h Ya ht d w a b s k9 (over g d) (λ i hi=>ho g d i h hi);unfold V2a;cases a9:V1p g t d w a b s (over g d) with
  |non=>exact absurd a9 s1
  |bad c p=>exact⟨Yb,λ t' d' g' he=>by simp at he⟩
  |ok r =>
   obtain⟨n,d2,g2⟩:=r;obtain⟨q1,q2,q3,q4,q5,q6⟩:=s2 _ _ _ a9;obtain⟨i1,i2⟩:=ih n d2 g2 q1 q2 Ya;refine⟨i1,λ t' d' g' he=>?_⟩;obtain⟨j1,j2,j3,j4,j5,j6⟩:=i2 t' d' g' he;exact⟨j1,j2,Ya,Ya,Ya,q6.trans j6⟩
theorem O3j{α : Type}{l:List α}(h:l≠[]):∃x,l.getLast?=some x:=by
 cases e:l.getLast? with
 |none=>exact absurd (U43.1 e) h
 |some x=>exact⟨x,rfl⟩
structure Vci(k:List KW)(g g':Vc):Prop where
 gi:GI g'
 le:g'.nds.length<=g.nds.length+k.length+1
 ge:g.nds.length<=g'.nds.length
 dep:g'.dep<=2*k.length+3
 many:g'.many=g.many+1
 its:g'.its=g.its
 ns:g'.ns=g.ns
theorem O68{g:Vc}(h:GI g)(k:List KW)(hk:k≠[])(hl:g.nds.length+k.length+1<=20000000):V27 g k≠.non/\∀g',V27 g k=.ok g'->Vci k g g':=by
 refine Z245 ?_;intro hd;obtain⟨w1,w2⟩:=O6t (2,0) (.inr (.inl rfl)) V39 (λ g d i h _=>O9h h d i) k.dropLast 0 1 g h h.root Ya;unfold V27;cases hw:V2a (2,0) V39 k.dropLast 0 1 g with
 |non=>exact absurd hw w1
 |bad c p=>exact⟨Yb,λ g' he=>by simp at he⟩
 |ok r =>
  obtain⟨t,d,g1⟩:=r;obtain⟨q1,q2,q3,q4,q5,q6⟩:=w2 _ _ _ hw;obtain⟨⟨w,a,b⟩,dC⟩:=O3j hk;simp only[dC];obtain⟨s1,s2⟩:=O5g q1 Ya q2 d w a b (1,0) (.inl rfl) (λ i=>if (Vf g1 i).1=2 then .go i (d+1) else .no) (λ i hi=>by
   split;rename_i e;exact⟨Yb,λ n d' he=>by (simp only[Ov.go.injEq]at he;obtain⟨rfl,rfl⟩:=he;exact⟨.inr (.inl e),Ya⟩)⟩
   exact⟨Yb,λ n d' he=>by simp at he⟩)
  cases a9:V1p g1 t d w a b (1,0) (λ i=>if (Vf g1 i).1=2 then .go i (d+1) else .no) with
  |non=>exact absurd a9 s1
  |bad c p=>exact⟨Yb,λ g' he=>by simp at he⟩
  |ok r =>
   obtain⟨n,d2,g2⟩:=r;obtain⟨r1,r2,r3,r4,r5,r6⟩:=s2 _ _ _ a9;refine⟨Yb,λ g' he=>?_⟩;simp only[Va.ok.injEq]at he;subst he;have cz:∀i,Vf { g2 with srt:=g2.srt.set n (1,0),sec:=n,dep:=d2,many:=g2.many+1 } i=if i=n then (1,0) else Vf g2 i:=by
    intro i;show (g2.srt.set n (1,0)).getD i (0,0)=_;rw[getD_set _ _ _ _ r2.lt];rfl
   have hT:∀i,Tb { g2 with srt:=g2.srt.set n (1,0),sec:=n,dep:=d2,many:=g2.many+1 } i ↔ Tb g2 i:=by
    intro i;unfold Tb;rw[cz]
    split;rename_i e;subst e;unfold Tb at r2;simp only[true_or,true_iff];exact r2
    rfl
   refine⟨⟨by simp[r1.len],r1.wf,λ i hi=>r1.tab i ((hT i).1 hi),λ i hi=>?_,λ i=>?_,(hT 0).2 r1.root,(hT n).2 r2⟩,Yk,Yk,Yk,?_,r6.its.trans q6.its,r6.ns.trans q6.ns⟩
   rw[cz]at hi
   split at hi;simp at hi
   obtain⟨nd,l,h1,h2,h3,h4⟩:=r1.lst i hi;exact⟨nd,l,h1,h2,h3,(hT l).2 h4⟩
   rw[cz]
   split;simp
   exact r1.sort i
   show g2.many+1=g.many+1;rw[r6.many,q6.many]
theorem WF.mod7{st:Ve}(h:WF st)(t i:Nat)(nd:Nd)(ht:st[t]?=some nd)(hk:nd.kind≠8)(hi:∀x∈nd.subs,x<i)(hl:i<st.length):WF (st.modify t λ nd=>{ nd with subs:=nd.subs++[i] }):=by
 intro j x hx;rw[O10]at hx;rw[List.length_modify]
 split at hx
 rename_i e
 subst e;rw[ht]at hx;simp only[U29,U1f]at hx;subst hx;have h0:=h t nd ht;refine⟨λ gh=>absurd gh hk,?_,?_,h0.own⟩;exact J159
 exact J186
 exact h j x hx
theorem Occ{g:Vc}{x:Nat}(h:GW g x){nd:Nd}(hx:g.nds[x]?=some nd)(hk:nd.kind=7)(UA:(Vf g x).1=4)(d:Nat):GI (V42 g x d)/\(V42 g x d).nds.length=g.nds.length+1/\(V42 g x d).dep=d+2/\(V42 g x d).many=g.many+1/\(V42 g x d).its=g.its/\(V42 g x d).ns=g.ns:=by
 have Aq:=(U16.1 hx).1;have cz:∀i,Vf (V42 g x d) i=if i<g.nds.length then Vf g i else if i=g.nds.length then (1,0) else (0,0):=by
  intro i;show (g.srt++[(1,0)]).getD i (0,0)=_;rw[O5f,h.len];rfl
 have bT:∀i,(V42 g x d).nds[i]?=if x=i then (g.nds++[V1r 8])[i]?.map (λ nd=>{ nd with subs:=nd.subs++[g.nds.length] }) else (g.nds++[V1r 8])[i]?:=by
  intro i;show ((g.nds++[V1r 8]).modify x _)[i]?=_;rw[O10]
 have rC:∀i,Tb g i->i<g.nds.length:=λ i hi=>by rw[<-h.len];exact hi.lt
 have iT:∀i,Tb g i->Tb (V42 g x d) i:=by
  intro i hi;have:=rC i hi;unfold Tb at hi⊢;rw[cz,U18 this];exact hi
 have bU:(V42 g x d).nds[g.nds.length]?=some (V1r 8):=by
  rw[bT,U1b Ya];simp
 have lX:Tb (V42 g x d) g.nds.length:=by unfold Tb;rw[cz,U1b Ya,U18 rfl];exact .inl rfl
 have cC:∀i nd',i≠x->g.nds[i]?=some nd'->(V42 g x d).nds[i]?=some nd':=by
  intro i nd' hi hg;rw[bT,U1b (λ e=>hi e.symm),U1d (U16.1 hg).1];exact hg
 have ad:(V42 g x d).nds.length=g.nds.length+1:=by
  show ((g.nds++[V1r 8]).modify x _).length=_;simp
 refine⟨⟨?_,?_,λ i hi=>?_,λ i hi=>?_,λ i=>?_,iT 0 h.root,lX⟩,ad,rfl,rfl,rfl,rfl⟩;rw[ad];show (g.srt++[(1,0)]).length=_;simp[h.len];show WF ((g.nds++[V1r 8]).modify x _);exact (h.wf.app (V1r 8) (O9g _ 8)).mod7 x _ nd (by rw[U1d Aq];exact hx) Ya (λ y hy=>(h.wf x nd hx).lt y hy) Yb
 unfold Tb at hi;rw[cz]at hi
 split at hi
 obtain⟨nd',h1,h2⟩:=h.tab i hi;have Cl:i≠x:=λ e=>by (subst e;rw[hx]at h1;cases h1;omega)
 exact⟨nd',cC i nd' Cl h1,h2⟩
 split at hi;rename_i e;subst e;exact⟨_,bU,rfl⟩
 simp at hi
 rw[cz]at hi
 split at hi
 by_cases Cl:i=x;subst Cl;refine⟨{ nd with subs:=nd.subs++[g.nds.length] },g.nds.length,?_,hk,Yb,lX⟩;rw[bT,U18 rfl,U1d Aq,hx];rfl
 obtain⟨nd',l,h1,h2,h3,h4⟩:=h.lst i hi Cl;exact⟨nd',l,cC i nd' Cl h1,h2,h3,iT l h4⟩
 split at hi;simp at hi
 simp at hi
 rw[cz]
 split;exact h.sort i
 split;simp
 simp
theorem On1{g:Vc}{x:Nat}(h:GW g x)(hs:g.nds.length<=20000000){i:Nat}{nd:Nd}(hi:g.nds[i]?=some nd):subsOk g i=true:=by
 have h0:=h.wf i nd hi;have h1:=O4r _ _ h0.up h0.lt;unfold subsOk;rw[hi];simp only[U1x];omega
theorem Ocd{g:Vc}(h:GI g)(k:List KW)(hk:k≠[])(hl:g.nds.length+k.length+2<=20000000):V3l g k≠.non/\∀g',V3l g k=.ok g'->Vci k g g':=by
 refine Z245 ?_;intro hd;obtain⟨w1,w2⟩:=O6t (2,0) (.inr (.inl rfl)) V39 (λ g d i h _=>O9h h d i) k.dropLast 0 1 g h h.root Ya;unfold V3l;cases hw:V2a (2,0) V39 k.dropLast 0 1 g with
 |non=>exact absurd hw w1
 |bad c p=>exact⟨Yb,λ g' he=>by simp at he⟩
 |ok r =>
  obtain⟨t,d,g1⟩:=r;obtain⟨q1,q2,q3,q4,q5,q6⟩:=w2 _ _ _ hw;obtain⟨⟨w,a,b⟩,dC⟩:=O3j hk;simp only[dC];obtain⟨nt,nA,yu⟩:=q1.tab t q2;rcases O67 q1.wf nA yu w with e|⟨i,e,hi⟩
  rw[e];simp only
  split;exact⟨Yb,λ g' he=>by simp at he⟩
  rw[U18 (by rw[q1.g8 Ya q2,O1p Ya];rfl)];obtain⟨u1,u2,u3,⟨nd,u4,u5,_⟩,u6⟩:=q1.grow q2 7 (4,0) w (a,b) Yb (λ h=>by simp at h);obtain⟨v1,v2,v3,v4,v5,v6⟩:=Occ u1 u4 u5 (by rw[u3]) d;refine⟨Yb,λ g' he=>?_⟩;simp only[Va.ok.injEq]at he;subst he;exact⟨v1,by rw[v2,u6];omega,by rw[v2,u6];omega,by rw[v3];omega,by (rw[v4];show g1.many+1=_;rw[q6.many]),by (rw[v5];exact q6.its),by (rw[v6];exact q6.ns)⟩
  rw[e];simp only
  split
  rename_i h4
  obtain⟨nd,l,h1,h2,h3,h5⟩:=q1.lst i h4
  split;exact⟨Yb,λ g' he=>by simp at he⟩
  rw[U18 (by rw[On1 (q1.gw 0) Ya h1,O1p Ya];rfl)];obtain⟨v1,v2,v3,v4,v5,v6⟩:=Occ (q1.gw i) h1 h2 h4 d;refine⟨Yb,λ g' he=>?_⟩;simp only[Va.ok.injEq]at he;subst he;exact⟨v1,by rw[v2];omega,by rw[v2];omega,by rw[v3];omega,by rw[v4,q6.many],by rw[v5];exact q6.its,by rw[v6];exact q6.ns⟩
  exact⟨Yb,λ g' he=>by simp at he⟩
theorem Oce{g:Vc}(h:GI g)(k:List KW)(hk:k≠[])(hl:g.nds.length+k.length<=20000000):V2z g k≠.non/\∀t d g',V2z g k=.ok (t,d,g')->GI g'/\Tb g' t/\g'.nds.length+1<=g.nds.length+k.length/\g.nds.length<=g'.nds.length/\d<=g.dep+2*k.length/\Sm g g'/\∃w a b,k.getLast?=some (w,a,b)/\V16 g'.nds t w=.no:=by
 refine Z245 ?_;intro hd;obtain⟨w1,w2⟩:=O6t (3,g.many) (.inr (.inr rfl)) V1v (λ g d i _ _=>Oae d i) k.dropLast g.sec g.dep g h h.sec Ya;unfold V2z;cases hw:V2a (3,g.many) V1v k.dropLast g.sec g.dep g with
 |non=>exact absurd hw w1
 |bad c p=>exact⟨Yb,λ t d g' he=>by simp at he⟩
 |ok r =>
  obtain⟨t,d,g1⟩:=r;obtain⟨q1,q2,q3,q4,q5,q6⟩:=w2 _ _ _ hw;obtain⟨⟨w,a,b⟩,dC⟩:=O3j hk;simp only[dC];obtain⟨nt,nA,yu⟩:=q1.tab t q2;rcases O67 q1.wf nA yu w with e|⟨i,e,hi⟩
  rw[e];refine⟨Yb,λ t' d' g' he=>?_⟩;simp only[Va.ok.injEq,U19]at he;obtain⟨rfl,rfl,rfl⟩:=he;exact⟨q1,q2,Ya,q4,Ya,q6,w,a,b,rfl,e⟩
  rw[e];exact J149
theorem GI.graft{g:Vc}(h:GI g){nds:Ve}(hw:WF nds){root:Nat}(hr:root<nds.length){into:Nat}(hi:Tb g into)(w:Bs)(sp:Nat×Nat)(its:List It)(ns:List Int):GI { V2s (V14 g nds) into w sp (root+g.nds.length) with its:=its,ns:=ns }/\(V2s (V14 g nds) into w sp (root+g.nds.length)).nds.length=g.nds.length+nds.length:=by
 obtain⟨nt,nA,yu⟩:=h.tab into hi;have aa:=h.lt hi;have cz:∀i,Vf { V2s (V14 g nds) into w sp (root+g.nds.length) with its:=its,ns:=ns } i=if i<g.nds.length then Vf g i else (0,0):=by
  intro i;show (g.srt++nds.map λ _=>(0,0)).getD i (0,0)=if i<g.nds.length then g.srt.getD i (0,0) else (0,0)
  rw[U1j,U1j]
  split
  ·rw[U1d (by rw[h.len];assumption)]
  rw[U21 (by rw[h.len];omega),U1m];cases nds[i-g.srt.length]? <;> rfl
 have ad:(V2s (V14 g nds) into w sp (root+g.nds.length)).nds.length=g.nds.length+nds.length:=by
  show (Vj (g.nds++nds.map _) into w sp (root+g.nds.length)).length=_;unfold Vj;simp
 have hT:∀i,Tb { V2s (V14 g nds) into w sp (root+g.nds.length) with its:=its,ns:=ns } i ↔ Tb g i:=by
  intro i;unfold Tb;rw[cz]
  split;rfl
  rename_i hn
  constructor;intro h;simp at h
  intro h';exact absurd (h.lt h') hn
 have jx:WF (g.nds++nds.map λ nd=>{ nd with subs:=nd.subs.map (· + g.nds.length),owner:=0 }):=by
  intro i x hx;rw[U1c,U1n];by_cases hi:i<g.nds.length;rw[U1d hi]at hx;exact (h.wf i x hx).mono Ya
  rw[U21 Ya,U1m]at hx;cases hy:nds[i-g.nds.length]? with
  |none=>rw[hy]at hx;cases hx
  |some y =>
   rw[hy]at hx;simp only[U29,U1f]at hx;subst hx;have h0:=hw _ y hy;refine⟨λ hk=>?_,?_,?_,λ h=>absurd rfl h⟩;have:=h0.len hk;simp only[U1n];exact this;show (y.subs.map (· + g.nds.length)).Pairwise (· < ·);rw[List.pairwise_map];exact h0.up.imp λ h=>by omega
   intro z hz;obtain⟨u,hu,rfl⟩:=U3n.1 hz;have:=h0.lt u hu;omega
 have bT:∀i nd,g.nds[i]?=some nd->∃nd',(Vj (g.nds++nds.map λ nd=>{ nd with subs:=nd.subs.map (· + g.nds.length),owner:=0 }) into w sp (root+g.nds.length))[i]?=some nd'/\nd'.kind=nd.kind/\(i≠into->nd'=nd):=by
  intro i nd gX;rw[O12,U1d (U16.1 gX).1,gX]
  split;rename_i e;exact⟨_,rfl,rfl,λ h=>absurd e.symm h⟩
  exact⟨_,rfl,rfl,λ _=>rfl⟩
 refine⟨⟨?_,?_,λ i gX=>?_,λ i gX=>?_,λ i=>?_,(hT 0).2 h.root,(hT _).2 h.sec⟩,ad⟩;rw[ad];show (g.srt++nds.map λ _=>(0,0)).length=_;simp[h.len];show WF (Vj _ into w sp (root+g.nds.length));refine jx.put into _ w sp nt (by rw[U1d aa];exact nA) (λ x hx=>?_) Ye;have:=(h.wf into nt nA).lt x hx;omega;obtain⟨nd,h1,h2⟩:=h.tab i ((hT i).1 gX);obtain⟨nd',h3,h4,_⟩:=bT i nd h1;exact⟨nd',h3,Ya⟩
 rw[cz]at gX
 split at gX
 obtain⟨nd,l,h1,h2,h3,h4⟩:=h.lst i gX;obtain⟨nd',h5,h6,h7⟩:=bT i nd h1;have hit:i≠into:=λ e=>by (subst e;rw[nA]at h1;cases h1;omega)
 rw[h7 hit]at h5;exact⟨nd,l,h5,h2,h3,(hT l).2 h4⟩
 simp at gX
 rw[cz]
 split;exact h.sort i
 simp
theorem Ok2{E:V19}{s:Bs}{n e:Nat}{it:It}(h:V3o E s n=.ok (e,it)):(pre (s.drop n) [91,91]=true/\it.kind=3)\/(pre (s.drop n) [91,91]=false/\pre (s.drop n) [91]=true/\it.kind=2)\/(pre (s.drop n) [91]=false/\V1c (s.drop n)=true/\it.kind=0) \/(pre (s.drop n) [91,91]=false/\pre (s.drop n) [91]=false/\V1c (s.drop n)=false/\it.kind=1/\∃ws e1,V23 E s n=.ok (ws,e1)/\V9 s (V7 s e1)=61/\it.ws=ws/\isF s (V7 s e1) [61]=.ok (V7 s e1+1)):=by
 unfold V3o at h
 split at h
 rename_i h2
 refine .inl ⟨h2,?_⟩;exact J47
 rename_i h2
 split at h
 rename_i h1
 refine .inr (.inl ⟨by simpa using h2,h1,?_⟩);exact J47
 rename_i h1
 split at h
 rename_i hb
 cases h;exact .inr (.inr (.inl ⟨by simpa using h1,hb,rfl⟩))
 rename_i hb
 refine .inr (.inr (.inr ⟨by simpa using h2,by simpa using h1,by simpa using hb,?_⟩));unfold V5p at h;cases hk:V23 E s n with
 |non=>rw[hk]at h;cases h
 |bad c p=>rw[hk]at h;cases h
 |ok r =>
  obtain⟨ws,e1⟩:=r;rw[hk]at h;simp only at h;cases hi:isF s (V7 s e1) [61] with
  |bad c p=>rw[hi]at h;cases h
  |ok m =>
   rw[hi]at h;simp only at h;refine Z258 ?_;intro hm
   split at h;cases h
   cases h
   cases h;exact⟨rfl,ws,e1,rfl,by unfold V9;rw[hm.1];rfl,rfl,by rw[hi,hm.2]⟩
theorem Ok3{l:Bs}(h:pre l [91,91]=true):pre l [91]=true/\V1c l=false:=by
 match l with
 |[]=>simp[pre]at h
 |c::r =>
  simp only[pre,U1g,U2w]at h⊢;have:=h.1;subst this;exact⟨Yb,rfl⟩
theorem O69(s:Bs)(n:Nat):V7 s (V7 s n)=V7 s n:=by
 have key:∀l:Bs,blanks (l.drop (blanks l))=0:=by
  intro l
  induction l with
  |nil=>rfl
  |cons c r ih =>
   unfold blanks at ih⊢;rw[U1o]
   split;simpa using ih
   rename_i h
   rw[U1t,U2j,U1o,U1b h];rfl
 unfold V7;rw[<-U27,key];rfl
structure Vi2(E:V19)(s:Bs)(n:Nat)(g:Vc)(into root:Nat)(nds:Ve)(g1:Vc):Prop where
 gi:GI g1
 le:g1.nds.length<=g.nds.length+s.length+1
 ge:g.nds.length<=g1.nds.length
 its:g1.its=g.its
 ns:g1.ns=g.ns
 many:g1.many<=g.many+1
 dep:g1.dep<=g.dep\/g1.dep<=2*s.length+3
 pair:pre (s.drop (V7 s n)) [91]=false->V1c (s.drop (V7 s n))=false->Tb g1 into/\∀ws e,V23 E s (V7 s n)=.ok (ws,e)->V9 s (V7 s e)=61->WF nds/\root<nds.length/\nds.length<=s.length
theorem Oaf{E:V19}(hE:V1k E){s:Bs}(hs:s.length<=2000000){n:Nat}(hn:n<=s.length){g:Vc}(h:GI g)(hl:g.nds.length+s.length+2<=20000000):V2d E s n g≠.non/\∀into root nds g1,V2d E s n g=.ok (into,root,nds,g1)->Vi2 E s n g into root nds g1:=by
 have hb:=V8 s n hn;unfold V2d;simp only
 split
 rename_i aO
 refine⟨Yb,λ into root nds g1 he=>?_⟩;simp only[Va.ok.injEq,U19]at he;obtain⟨rfl,rfl,rfl,rfl⟩:=he;exact⟨h,Ya,U12 _,rfl,rfl,Ya,.inl (U12 _),λ _ h=>by rw[aO]at h;cases h⟩
 rename_i aO
 generalize hm:(if pre (s.drop (V7 s n)) [91,91] then 2 else if pre (s.drop (V7 s n)) [91] then 1 else 0)=m;have iL:V7 s n+m<=s.length/\(m=0->pre (s.drop (V7 s n)) [91]=false)/\(m≠0->pre (s.drop (V7 s n)) [91]=true):=by
  rw[<-hm]
  split
  rename_i h2
  have:=V1w _ _ h2;rw[U15]at this;simp only[U17,U1t]at this;exact⟨Ya,Yb,λ _=>(Ok3 h2).1⟩
  split
  rename_i h1
  have:=V1w _ _ h1;rw[U15]at this;simp only[U17,U1t]at this;exact⟨Ya,Yb,λ _=>h1⟩
  rename_i h1
  exact⟨Ya,λ _=>by simpa using h1,Yb⟩
 have ay:=V8 s (V7 s n+m) iL.1;obtain⟨k1,k2,k3⟩:=O1e hE (s:=s) ay.2;cases hk:V23 E s (V7 s (V7 s n+m)) with
 |non=>exact absurd hk k3
 |bad c p=>exact⟨Yb,λ into root nds g1 he=>by simp at he⟩
 |ok r =>
  obtain⟨ws,e⟩:=r;obtain⟨e1,e2,e3,e4,e5⟩:=k1 _ _ hk;have ed:=O3x hE (s.length+2) _ [] ws e ay.2 hk;simp only[U1t,U1q]at ed;simp only
  split
  rename_i jw
  obtain⟨t1,t2⟩:=Ocd h ws e3 Ya;cases ht:V3l g ws with
  |non=>exact absurd ht t1
  |bad c p=>exact⟨Yb,λ into root nds g1 he=>by simp at he⟩
  |ok g1 =>
   exact J140
  split
  rename_i rR
  obtain⟨t1,t2⟩:=O68 h ws e3 Ya;cases ht:V27 g ws with
  |non=>exact absurd ht t1
  |bad c p=>exact⟨Yb,λ into root nds g1 he=>by simp at he⟩
  |ok g1 =>
   exact J140
  rename_i jw rR
  obtain⟨t1,t2⟩:=Oce h ws e3 Ya;cases ht:V2z g ws with
  |non=>exact absurd ht t1
  |bad c p=>exact⟨Yb,λ into root nds g1 he=>by simp at he⟩
  |ok r =>
   obtain⟨t,d,g1⟩:=r;obtain⟨q1,q2,q3,q4,q5,q6,_⟩:=t2 _ _ _ ht;have aR:=V8 s e e2;have IB:m=0:=by
    have:m=0\/m=1\/m=2:=by
     rw[<-hm];split;simp
     split <;> simp
    omega
   subst IB;simp only
   split
   rename_i eN
   refine Z238 ?_;intro aa dH;obtain⟨r1,r2,r3⟩:=V4k hE s Ya (V7 s (V7 s e+1)) d dH.2;cases hr:V1j E s (V7 s (V7 s e+1)) d with
   |non=>exact absurd hr r1
   |bad c p=>exact⟨Yb,λ into root nds g1 he=>by simp at he⟩
   |ok v =>
    obtain⟨root,ve,nds⟩:=v;obtain⟨v1,v2,v3⟩:=r3 _ _ _ hr;refine⟨Yb,λ into cO Cm im he=>?_⟩;simp only[Va.ok.injEq,U19]at he;obtain⟨rfl,rfl,rfl,rfl⟩:=he;exact⟨q1,Ya,q4,q6.its,q6.ns,by rw[q6.many];omega,.inl (by rw[q6.dep];exact U12 _),λ _ _=>⟨q2,λ _ _ _ _=>⟨v3.wf,v3.hi,by have:=v3.len;omega⟩⟩⟩
   rename_i eN
   refine⟨Yb,λ into cO Cm im he=>?_⟩;simp only[Va.ok.injEq,U19]at he;obtain⟨rfl,rfl,rfl,rfl⟩:=he;refine⟨q1,Ya,q4,q6.its,q6.ns,by rw[q6.many];omega,.inl (by rw[q6.dep];exact U12 _),λ _ _=>⟨q2,λ IC e' gh h'=>?_⟩⟩;rw[U42,O69]at hk;rw[hk]at gh;simp only[Va.ok.injEq,U19]at gh;obtain⟨rfl,rfl⟩:=gh;exact absurd h' eN
theorem Ocf{E:V19}{s:Bs}{n:Nat}{it:It}(h:V41 E s n=.ok it)(hk:it.kind=1):pre (s.drop (V7 s n)) [91]=false/\V1c (s.drop (V7 s n))=false/\∃ws e,V23 E s (V7 s n)=.ok (ws,e)/\V9 s (V7 s e)=61/\it.ws=ws:=by
 unfold V41 at h;cases hb:V3o E s (V7 s n) with
 |non=>rw[hb]at h;cases h
 |bad c p=>rw[hb]at h;cases h
 |ok r =>
  obtain⟨e,yv⟩:=r;rw[hb]at h;simp only at h;cases hc:V1e s e with
  |bad c p=>rw[hc]at h;cases h
  |ok m =>
   rw[hc]at h;simp only[Va.ok.injEq]at h;subst h;simp only at hk;rcases Ok2 hb with⟨_,q⟩|⟨_,_,q⟩|⟨_,_,q⟩|⟨_,h1,h2,_,ws,e1,q1,q2,q3,_⟩
   omega;omega;omega
   exact⟨h1,h2,ws,e1,q1,q2,q3⟩
structure ItG(s:Bs)(n:Nat)(g:Vc)(e:Nat)(g':Vc):Prop where
 gi:GI g'
 lt:n<e
 le:e<=s.length
 len:g'.nds.length<=g.nds.length+2*s.length+1
 ge:g.nds.length<=g'.nds.length
 its:g'.its.length=g.its.length+1
 ns:g'.ns.length=g.ns.length+1
 many:g'.many<=g.many+1
 dep:g'.dep<=g.dep\/g'.dep<=2*s.length+3
theorem GI.more{g:Vc}(h:GI g)(its:List It)(ns:List Int):GI { g with its:=its,ns:=ns }:=⟨h.len,h.wf,h.tab,h.lst,h.sort,h.root,h.sec⟩
theorem Ohx{nds:Ve}(h:WF nds)(hl:nds.length<=20000000){root:Nat}(hr:root<nds.length):V4x nds root=true:=by
 unfold V4x;simp only[U1g,U1x,U2h];refine⟨Ya,λ nd bT=>?_⟩;obtain⟨i,hi⟩:=U4s bT;have h0:=h i nd hi;have h1:=O4r _ _ h0.up h0.lt;exact⟨Ya,λ u hu=>by have:=h0.lt u hu;omega⟩
theorem Ocg{E:V19}(hE:V1k E){s:Bs}(hs:s.length<=2000000){n:Nat}(hn:n<s.length){g:Vc}(h:GI g)(hl:g.nds.length+2*s.length+2<=20000000):V2o E s n g≠.non/\∀e g',V2o E s n g=.ok (e,g')->ItG s n g e g':=by
 obtain⟨w1,w2⟩:=Oaf hE hs (n:=n) Ya h Ya;unfold V2o;cases hw:V2d E s n g with
 |non=>exact absurd hw w1
 |bad c p=>exact⟨Yb,λ e g' he=>by simp at he⟩
 |ok r =>
  obtain⟨into,root,nds,g1⟩:=r;have q:=w2 _ _ _ _ hw;obtain⟨i1,i2,i3⟩:=Ocb hE s Ya n hn;simp only;cases hi:V41 E s n with
  |non=>exact absurd hi i1
  |bad c p=>exact⟨Yb,λ e g' he=>by simp at he⟩
  |ok it =>
   have k:=i3 it hi;have ql:=q.le;have qg:=q.ge;simp only
   split;exact J151
   split
   rename_i bx
   obtain⟨p1,p2,ws,e,p3,p4,p5⟩:=Ocf hi bx;obtain⟨q2,q3⟩:=q.pair p1 p2;obtain⟨q4,q5,q6⟩:=q3 ws e p3 p4;obtain⟨⟨w,a,b⟩,dC⟩:=O3j (k.ws Ya);rw[dC];simp only;obtain⟨g4,g5⟩:=q.gi.graft q4 q5 q2 w (a,b) ((V14 g1 nds).its++[it]) ((V14 g1 nds).ns++[((root+g1.nds.length:Nat):Int)]);have et:(V14 g1 nds).nds.length=g1.nds.length+nds.length:=by show (g1.nds++nds.map _).length=_;simp
   have kL:V2v (V14 g1 nds) into=true:=by
    obtain⟨nd,t1,t2⟩:=q.gi.tab into q2;have t3:=q.gi.lt q2;have t4:=q.gi.wf into nd t1;have t5:=O4r _ _ t4.up t4.lt;have t6:=t4.len t2;have cz:Vf (V14 g1 nds) into=Vf g1 into:=by
     show (g1.srt++nds.map λ _=>(0,0)).getD into (0,0)=g1.srt.getD into (0,0);rw[U1j,U1j,U1d (by rw[q.gi.len];exact t3)]
    have bT:(V14 g1 nds).nds[into]?=some nd:=by
     show (g1.nds++nds.map _)[into]?=_;rw[U1d t3];exact t1
    unfold V2v kind8;rw[cz,bT,et];unfold Tb at q2;simp only[U1g,U1x,U2w,bne_iff_ne,ne_eq];omega
   rw[U18 (by rw[Ohx q4 Ya q5,kL,O1p (by rw[et];omega)];rfl)];refine⟨Yb,λ e' g' he=>?_⟩;simp only[Va.ok.injEq,U19]at he;obtain⟨rfl,rfl⟩:=he;exact⟨g4,k.lt,k.le,by rw[g5];omega,by rw[g5];omega,by simp[V14,q.its],by simp[V14,q.ns],q.many,q.dep⟩
   exact J151
theorem On2(table:Nat):∀(ws:List KW)(into d d0:Nat)(st:Ve)(aw d':Nat)(st':Ve),d0<=d->V3j table ws into d st=.ok (aw,d',st')->∃d1,d1<=d'/\V3j table ws into d0 st=.ok (aw,d1,st'):=by
 intro ws
 induction ws with
 |nil=>intro into d d0 st aw d' st' _ h;simp[V3j]at h
 |cons x rest ih =>
  intro into d d0 st aw d' st' hd h;obtain⟨w,a,b⟩:=x;unfold V3j at h⊢;cases hs:V16 st into w with
  |non=>rw[hs]at h;cases h
  |yes i =>
   rw[hs]at h;simp only at h⊢;cases rest with
   |nil=>cases h
   |cons y rest =>
    simp only at h⊢
    split at h
    rename_i ho
    rw[U18 ho];exact ih i (d+1) (d0+1) st aw d' st' Ya h
    cases h
  |no =>
   rw[hs]at h;simp only at h⊢;cases rest with
   |nil =>
    simp only[Va.ok.injEq,U19]at h;obtain⟨rfl,rfl,rfl⟩:=h;exact⟨d0,hd,rfl⟩
   |cons y rest =>
    simp only at h⊢
    split at h;cases h
    rename_i MC
    rw[U1b Ya]
    split at h
    rename_i hk
    rw[U18 hk];exact ih _ (d+1) (d0+1) _ aw d' st' Ya h
    cases h
def V9o(V:V2c):Prop:=∀d d0 n st r,d0<=d->V d n st=.ok r->V d0 n st=.ok r
theorem Ohy{E:V19}{V:V2c}(hV:V9o V)(s:Bs)(table n d d0:Nat)(st:Ve)(r:Nat×Ve)(hd:d0<=d)(h:V1g E V s table n d st=.ok r):V1g E V s table n d0 st=.ok r:=by
 unfold V1g at h⊢;cases hk:V23 E s n with
 |non=>rw[hk]at h;cases h
 |bad c p=>rw[hk]at h;cases h
 |ok q =>
  obtain⟨ws,e⟩:=q;rw[hk]at h;simp only at h⊢;cases hw:V3j table ws table d st with
  |non=>rw[hw]at h;cases h
  |bad c p=>rw[hw]at h;cases h
  |ok q =>
   obtain⟨into,d',st'⟩:=q;obtain⟨d1,h1,h2⟩:=On2 table ws table d d0 st into d' st' hd hw;rw[hw]at h;rw[h2];simp only at h⊢
   split at h
   rename_i eN
   rw[U18 eN];cases hv:V (d'+1) (V7 s (V7 s e+1)) st' with
   |non=>rw[hv]at h;cases h
   |bad c p=>rw[hv]at h;cases h
   |ok q =>
    rw[hv]at h;rw[hV (d'+1) (d1+1) _ _ _ Ya hv];exact h
   cases h
theorem Ok4{E:V19}{V:V2c}(hV:V9o V)(s:Bs)(table d d0:Nat)(hd:d0<=d):∀(f n:Nat)(st:Ve)(r:Nat×Ve),V21 E V s table d f n st=.ok r->V21 E V s table d0 f n st=.ok r:=by
 intro f
 induction f with
 |zero=>intro n st r h;simp[V21]at h
 |succ f ih =>
  intro n st r h;unfold V21 at h⊢;cases hp:V1g E V s table n d st with
  |non=>rw[hp]at h;cases h
  |bad c p=>rw[hp]at h;cases h
  |ok q =>
   obtain⟨e,st1⟩:=q;rw[hp]at h;rw[Ohy hV s table n d d0 st _ hd hp];simp only at h⊢
   split at h;rename_i h1;rw[U18 h1];exact h
   rename_i h1
   rw[U1b h1]
   split at h;rename_i h2;rw[U18 h2];exact ih _ _ _ h
   cases h
theorem Og8{E:V19}{V:V2c}(hV:V9o V)(s:Bs)(d d0 n:Nat)(st:Ve)(r:Nat×Nat×Ve)(hd:d0<=d)(h:V1n E V s d n st=.ok r):V1n E V s d0 n st=.ok r:=by
 unfold V1n at h⊢
 split at h;cases h
 rw[U1b Ya]
 split at h
 rename_i hr
 rw[U18 hr];simp only at h⊢
 split at h;cases h
 cases h
 rename_i e1 st1 hx
 have:(if V9 s (V7 s (n+1))=125 then .ok (V7 s (n+1),st++[Vt]) else V21 E V s st.length d0 (s.length+2) (V7 s (n+1)) (st++[Vt]):Va (Nat×Ve))=.ok (e1,st1):=by
  split at hx;rename_i h1;rw[U18 h1];exact hx
  rename_i h1;rw[U1b h1];exact Ok4 hV s _ d d0 hd _ _ _ _ hx
 rw[this];exact h
 cases h
theorem Ohz{V:V2c}(hV:V9o V)(s:Bs)(d d0:Nat)(hd:d0<=d):∀(f n:Nat)(subs:List Nat)(st:Ve)(r:List Nat×Nat×Ve),V1h V s d f n subs st=.ok r->V1h V s d0 f n subs st=.ok r:=by
 intro f
 induction f with
 |zero=>intro n subs st r h;simp[V1h]at h
 |succ f ih =>
  intro n subs st r h;unfold V1h at h⊢
  split at h;rename_i h1;rw[U18 h1];exact h
  rename_i h1
  rw[U1b h1];cases hv:V (d+1) n st with
  |non=>rw[hv]at h;cases h
  |bad c p=>rw[hv]at h;cases h
  |ok q =>
   obtain⟨i,e,st1⟩:=q;rw[hv]at h;rw[hV (d+1) (d0+1) _ _ _ Ya hv];simp only at h⊢
   split at h;cases h
   rename_i h2
   rw[U1b h2];cases hg:Vy s e with
   |bad c p=>rw[hg]at h;cases h
   |ok g =>
    rw[hg]at h;simp only at h⊢
    split at h;rename_i h3;rw[U18 h3];exact h
    rename_i h3
    rw[U1b h3]
    split at h
    rename_i h4
    rw[U18 h4];cases cw:Vy s (g+1) with
    |bad c p=>rw[cw]at h;cases h
    |ok g2=>rw[cw]at h;exact ih _ _ _ _ h
    cases h
theorem Oi0{V:V2c}(hV:V9o V)(s:Bs)(d d0 n:Nat)(st:Ve)(r:Nat×Nat×Ve)(hd:d0<=d)(h:V2n V s d n st=.ok r):V2n V s d0 n st=.ok r:=by
 unfold V2n at h⊢
 split at h;cases h
 rw[U1b Ya];cases hg:Vy s (n+1) with
 |bad c p=>rw[hg]at h;cases h
 |ok g =>
  rw[hg]at h;simp only at h⊢;cases hl:V1h V s d (s.length+2) g [] st with
  |non=>rw[hl]at h;cases h
  |bad c p=>rw[hl]at h;cases h
  |ok q =>
   rw[hl]at h;rw[Ohz hV s d d0 hd _ _ _ _ _ hl];exact h
theorem O8k(E:V19)(s:Bs):∀f,V9o (Vv E s f):=by
 intro f
 induction f with
 |zero=>intro d d0 n st r _ h;simp[Vv]at h
 |succ f ih =>
  intro d d0 n st r hd h;unfold Vv at h⊢;simp only at h⊢
  split at h;rename_i h1;rw[U18 h1];exact h
  rename_i h1
  rw[U1b h1]
  split at h;rename_i h2;rw[U18 h2];exact Oi0 ih s d d0 n st r hd h
  rename_i h2
  rw[U1b h2]
  split at h;rename_i h3;rw[U18 h3];exact Og8 ih s d d0 n st r hd h
  rename_i h3;rw[U1b h3];exact h
theorem Oag{E:V19}{s:Bs}{n k k0:Nat}{r:Nat×Nat×Ve}(hk:k0<=k)(h:V1j E s n k=.ok r):V1j E s n k0=.ok r :=
 O8k E s 258 _ _ n [] r Ya h
structure GS(g1 g2:Vc):Prop where
 nds:RS 0 g1.nds g2.nds
 srt:g2.srt=g1.srt
 sec:g2.sec=g1.sec
 dep:g2.dep=g1.dep
 many:g2.many=g1.many
theorem GS.len{g1 g2:Vc}(h:GS g1 g2):g2.nds.length=g1.nds.length:=by have:=h.nds.len;omega
theorem GS.sort{g1 g2:Vc}(h:GS g1 g2)(i:Nat):Vf g2 i=Vf g1 i:=by unfold Vf;rw[h.srt]
theorem GS.sub{g1 g2:Vc}(h:GS g1 g2)(t:Nat)(w:Bs):V16 g2.nds t w=V16 g1.nds t w:=by
 rcases h.nds.sub t w with⟨h1,h2⟩|⟨h1,h2⟩|⟨i,h1,h2⟩
 rw[U1q]at h1;rw[h1,h2];rw[U1q]at h1;rw[h1,h2]
 rw[U1q,U1q]at h1;rw[h1,h2]
theorem GS.g8{g1 g2:Vc}(h:GS g1 g2){t:Nat}(hk:V2v g1 t=true):V2v g2 t=true:=by
 unfold V2v at hk⊢;simp only[U1g]at hk⊢;exact⟨h.nds.kind8 t (by rw[U1q];exact hk.1),by rw[h.sort];exact hk.2⟩
theorem GS.rm{g1 g2:Vc}(h:GS g1 g2)(hk:room g1.nds=true):room g2.nds=true:=h.nds.room hk
theorem On3(k:Nat):SN 0 (V1r k) (V1r k):=⟨rfl,rfl,rfl,rfl,rfl,rfl⟩
theorem GS.grow{g1 g2:Vc}(h:GS g1 g2)(k:Nat)(s:Nat×Nat)(t:Nat)(w:Bs)(sp ID:Nat×Nat):GS (V2s (V2j g1 k s) t w sp g1.nds.length) (V2s (V2j g2 k s) t w ID g2.nds.length):=by
 refine⟨?_,?_,h.sec,h.dep,h.many⟩;show RS 0 (Vj (g1.nds++[V1r k]) t w sp g1.nds.length) (Vj (g2.nds++[V1r k]) t w ID g2.nds.length);have:=(h.nds.app (On3 k)).put t w sp ID g2.nds.length;rw[U1q,U1q]at this;rw[h.len]at this⊢;exact this
 show g2.srt++[s]=g1.srt++[s]
 rw[h.srt]
theorem GS.subsOk{g1 g2:Vc}(h:GS g1 g2){i:Nat}(hk:subsOk g1 i=true):subsOk g2 i=true:=by
 unfold Pl.subsOk at hk⊢;rcases h.nds.get i with⟨h1,h2⟩|⟨x,y,h1,h2,h3⟩
 rw[U1q]at h1;rw[h1]at hk;cases hk
 rw[U1q]at h1;rw[h1]at hk;rw[h2];have:y.subs=x.subs:=by rw[h3.subs];simp
 simp only[this];exact hk
theorem Op0{a b c d:Ve}(h:RS 0 a b)(k:RS 0 c d):RS 0 (a++c) (b++d):=by
 have hl:=h.len;have kl:=k.len;refine⟨Ye,λ j y hy=>?_⟩;rw[U1q];by_cases hj:j<b.length;rw[U1d hj]at hy;rw[U1d Ya];obtain⟨x,h1,h2⟩:=h.at' j y hy;rw[U1q]at h1;exact⟨x,h1,h2⟩
 rw[U21 Ya]at hy;rw[U21 Ya];obtain⟨x,h1,h2⟩:=k.at' _ y hy;rw[U1q]at h1;exact⟨x,by rw[show j-a.length=j-b.length by omega];exact h1,h2⟩
theorem Op1{c d:Ve}(k:RS 0 c d)(L:Nat):RS 0 (c.map λ nd=>{ nd with subs:=nd.subs.map (· + L),owner:=0 }) (d.map λ nd=>{ nd with subs:=nd.subs.map (· + L),owner:=0 }):=by
 have kl:=k.len;refine⟨Ye,λ j y hy=>?_⟩;rw[U1q];rw[U1m]at hy⊢;cases hd:d[j]? with
 |none=>rw[hd]at hy;cases hy
 |some y0 =>
  rw[hd]at hy;simp only[U29,U1f]at hy;subst hy;obtain⟨x,h1,h2⟩:=k.at' j y0 hd;rw[U1q]at h1;rw[h1];refine⟨_,rfl,h2.kind,h2.text,h2.keys,h2.spots,?_,rfl⟩;simp only[h2.subs,U47];congr 1
  funext z;simp
theorem GS.graft{g1 g2:Vc}(h:GS g1 g2){n1 n2:Ve}(k:RS 0 n1 n2):GS (V14 g1 n1) (V14 g2 n2):=by
 refine⟨?_,?_,h.sec,h.dep,h.many⟩;show RS 0 (g1.nds++n1.map _) (g2.nds++n2.map _);rw[h.len];exact Op0 h.nds (Op1 k _)
 show g2.srt++n2.map _=g1.srt++n1.map _;rw[h.srt];congr 1;have:=k.len;rw[List.map_const',List.map_const',this,U1q]
theorem Ok7{s:Bs}{n m:Nat}{p:Bs}(hn:n<=s.length)(h:isF s n p=.ok m):m=n+p.length:=((V5r s p n hn).1 m h).1
theorem Oi2{E:V19}(hE:V1k E){s:Bs}{n e:Nat}{it:It}(hn:n<=s.length)(h:V3o E s n=.ok (e,it)):(pre (s.drop n) [91,91]=true/\it.kind=3/\∃ws e1,V23 E s (V7 s (n+2))=.ok (ws,e1)/\e=V7 s e1+2) \/(pre (s.drop n) [91,91]=false/\pre (s.drop n) [91]=true/\it.kind=2/\∃ws e1,V23 E s (V7 s (n+1))=.ok (ws,e1)/\e=V7 s e1+1) \/(pre (s.drop n) [91,91]=false/\pre (s.drop n) [91]=false/\V1c (s.drop n)=true/\it.kind=0) \/(pre (s.drop n) [91,91]=false/\pre (s.drop n) [91]=false/\V1c (s.drop n)=false/\it.kind=1/\∃ws e1 root nds,V23 E s n=.ok (ws,e1)/\V9 s (V7 s e1)=61/\V1j E s (V7 s (V7 s e1+1)) 0=.ok (root,e,nds)):=by
 have hd:∀(kind:Nat)(aT:Bs),n+aT.length<=s.length->V3p E s kind n aT=.ok (e,it)->it.kind=kind/\∃ws e1,V23 E s (V7 s (n+aT.length))=.ok (ws,e1)/\e=V7 s e1+aT.length:=by
  intro kind aT hl h;have hb:=V8 s (n+aT.length) hl;unfold V3p at h;cases hk:V23 E s (V7 s (n+aT.length)) with
  |non=>rw[hk]at h;cases h
  |bad c p=>rw[hk]at h;cases h
  |ok r =>
   obtain⟨ws,e1⟩:=r;have aQ:=(O1e hE (s:=s) hb.2).1 _ _ hk;have ay:=V8 s e1 aQ.2.1;rw[hk]at h;simp only at h;cases hi:isF s (V7 s e1) aT with
   |bad c p=>rw[hi]at h;cases h
   |ok m =>
    rw[hi]at h;cases h;exact⟨rfl,ws,e1,rfl,Ok7 ay.2 hi⟩
 unfold V3o at h
 split at h
 rename_i h2
 have:=V1w _ _ h2;rw[U15]at this;simp only[U17,U1t]at this;exact .inl ⟨h2,hd 3 [93,93] (by simp only[U17,U1t];omega) h⟩
 rename_i h2
 split at h
 rename_i h1
 have:=V1w _ _ h1;rw[U15]at this;simp only[U17,U1t]at this;exact .inr (.inl ⟨by simpa using h2,h1,hd 2 [93] (by simp only[U17,U1t];omega) h⟩)
 rename_i h1
 split at h
 rename_i hb
 cases h;exact .inr (.inr (.inl ⟨by simpa using h2,by simpa using h1,hb,rfl⟩))
 rename_i hb
 refine .inr (.inr (.inr ⟨by simpa using h2,by simpa using h1,by simpa using hb,?_⟩));unfold V5p at h;cases hk:V23 E s n with
 |non=>rw[hk]at h;cases h
 |bad c p=>rw[hk]at h;cases h
 |ok r =>
  obtain⟨ws,e1⟩:=r;rw[hk]at h;simp only at h;cases hi:isF s (V7 s e1) [61] with
  |bad c p=>rw[hi]at h;cases h
  |ok m =>
   rw[hi]at h;simp only at h;refine Z258 ?_;intro hm;cases hr:V1j E s (V7 s m) 0 with
   |non=>rw[hr]at h;cases h
   |bad c p=>rw[hr]at h;cases h
   |ok v =>
    obtain⟨root,e2,nds⟩:=v;rw[hr]at h;cases h;refine⟨rfl,ws,e1,root,nds,rfl,by unfold V9;rw[hm.1];rfl,?_⟩;rw[<-hm.2];exact hr
section
variable {E:V19}(hE:V1k E)(hN:Vch E){x s1 s2:Bs}{a1 a2:Nat}(T:V6c x s1 s2 a1 a2)
include hE hN T
end
structure Ctx(x s1 s2:Bs)(a1 a2:Nat):Prop where
 two:Two x s1 s2 a1 a2
 bl1:∀j,j<=x.length->V7 s1 (a1+j)=a1+(j+blanks (x.drop j))/\j+blanks (x.drop j)<=x.length
 bl2:∀j,j<=x.length->V7 s2 (a2+j)=a2+(j+blanks (x.drop j))/\j+blanks (x.drop j)<=x.length
 pre:∀j,j<=x.length->∀p:Bs,(∀c∈p,c≠10)->Pl.pre (s2.drop (a2+j)) p=Pl.pre (s1.drop (a1+j)) p
 bI:∀j,j<=x.length->V1c (s2.drop (a2+j))=V1c (s1.drop (a1+j))
 byte:∀j,j<=x.length->V9 s2 (a2+j)=V9 s1 (a1+j)
section
variable {E:V19}(hE:V1k E){x s1 s2:Bs}{a1 a2:Nat}(T:Ctx x s1 s2 a1 a2)
include hE T
end
theorem On4(st:Ve):RS 0 st st:=⟨Yb,λ j y h=>⟨y,by rw[U1q];exact h,rfl,rfl,rfl,rfl,Yb,by split <;> simp_all⟩⟩
theorem Ok8{a b c:Ve}(h:RS 0 a b)(k:RS 0 b c):RS 0 a c:=by
 have h1:=h.len;have k1:=k.len;refine⟨Ya,λ j z hz=>?_⟩;obtain⟨y,hy,q⟩:=k.at' j z hz;rw[U1q]at hy;obtain⟨x,hx,p⟩:=h.at' j y hy;refine⟨x,hx,p.kind.trans q.kind,p.text.trans q.text,p.keys.trans q.keys,p.spots.trans q.spots,?_,?_⟩;rw[p.subs,q.subs];simp
 have e3:y.owner=z.owner:=by rw[q.own];split <;> simp_all
 have e4:x.owner=y.owner:=by rw[p.own];split <;> simp_all
 rw[e4,e3];split <;> simp_all
theorem GS.refl(g:Vc):GS g g:=⟨On4 _,rfl,rfl,rfl,rfl⟩
theorem GS.trans{a b c:Vc}(h:GS a b)(k:GS b c):GS a c:=⟨Ok8 h.nds k.nds,k.srt.trans h.srt,k.sec.trans h.sec,k.dep.trans h.dep,k.many.trans h.many⟩
theorem GS.ok{g1 g2:Vc}(h:GS g1 g2)(hk:V78 g1=true)(hl:g2.its.length<=30000000):V78 g2=true:=by
 unfold V78 at hk⊢;rw[h.len,h.many,h.dep];simp only[U1g,U1x]at hk⊢;exact⟨hk.1,hl⟩
theorem Oi3{E:V19}{s:Bs}{n b:Nat}{g g':Vc}(h:V2o E s n g=.ok (b,g')):∃it,V41 E s n=.ok it/\it.b=b/\it.a=n/\g'.its=g.its++[it]:=by
 unfold V2o at h
 split at h;cases h
 cases h
 rename_i hw
 have h0:=(O44 hw).1.1
 split at h;cases h
 cases h
 rename_i it hi
 have ha:it.a=n:=by
  unfold V41 at hi
  split at hi;cases hi
  cases hi
  split at hi;cases hi
  simp only[Va.ok.injEq]at hi;rw[<-hi]
 refine⟨it,hi,?_⟩
 split at h;exact J48
 split at h
 split at h;cases h
 simp only at h
 split at h;simp only[Va.ok.injEq,U19]at h;rw[<-h.2];exact⟨h.1,ha,by simp[h0,V14]⟩
 cases h
 exact J48
inductive Stp (E:V19)(s:Bs):Nat->Vc->Nat->Vc->Prop
 |refl (n:Nat) (g:Vc):Stp E s n g n g
 |step (n:Nat) (g:Vc) (e:Nat) (g1:Vc) (m:Nat) (G:Vc):n<s.length->n<e->V78 g=true->V2o E s n g=.ok (e,g1)->Stp E s e g1 m G->Stp E s n g m G
theorem Stp.trans{E:V19}{s:Bs}{a b c:Nat}{g1 g2 g3:Vc}(h:Stp E s a g1 b g2)(k:Stp E s b g2 c g3):Stp E s a g1 c g3:=by
 induction h with
 |refl=>exact k
 |step n g e g1 m G h1 h2 h3 h4 _ ih=>exact .step n g e g1 _ _ h1 h2 h3 h4 (ih k)
theorem Stp.grown{E:V19}{s:Bs}{n m:Nat}{g G:Vc}(h:Stp E s n g m G)(hm:m=s.length):∀f,s.length<n+f->grownF E s f n g=.ok G:=by
 induction h with
 |refl n g =>
  intro f hf;cases f with
  |zero=>omega
  |succ f=>unfold grownF;rw[U1b Ya]
 |step n g e g1 m G h1 h2 h3 h4 _ ih =>
  intro f hf;cases f with
  |zero=>omega
  |succ f =>
   unfold grownF;rw[U18 h1,U18 h3,h4];exact ih hm f Ya
def Pu(st:Ve):Prop:=∀(i j:Nat) nd nd' (u:Nat),st[i]?=some nd->st[j]?=some nd'->u∈nd.subs->u∈nd'.subs->i=j
def Fr(st:Ve)(u:Nat):Prop:=∀(i:Nat) nd,st[i]?=some nd->u ∉ nd.subs
theorem O6v{st:Ve}{nd x:Nd}{i:Nat}(h:(st++[nd])[i]?=some x):st[i]?=some x/\i<st.length\/i=st.length/\x=nd:=by
 by_cases hi:i<st.length;rw[U1d hi]at h;exact .inl ⟨h,hi⟩
 have h2:=(U16.1 h).1;simp only[U1c,U25]at h2;have:i=st.length:=Ya;subst this;simp at h;exact .inr ⟨rfl,h.symm⟩
theorem Pu.app{st:Ve}(h:Pu st){nd:Nd}(hn:∀u∈nd.subs,Fr st u):Pu (st++[nd]):=by
 intro i j x y u hx hy h1 h2;rcases O6v hx with⟨a,_⟩|⟨a,rfl⟩
 rcases O6v hy with⟨b,_⟩|⟨b,rfl⟩
 exact h i j x y u a b h1 h2
 exact absurd h1 (hn u h2 i x a)
 rcases O6v hy with⟨b,_⟩|⟨b,rfl⟩
 exact absurd h2 (hn u h1 j y b)
 omega
theorem Fr.app{st:Ve}{u:Nat}(h:Fr st u){nd:Nd}(hn:u ∉ nd.subs):Fr (st++[nd]) u:=by
 intro i x hx;rcases O6v hx with⟨a,_⟩|⟨a,rfl⟩
 exact h i x a
 exact hn
theorem O6b{st:Ve}(h:WF st){u:Nat}(hu:st.length<=u):Fr st u:=λ i nd hi hm=>by have:=(h i nd hi).lt u hm;omega
theorem Pu.put{st:Ve}(h:Pu st){i:Nat}(hi:Fr st i)(t:Nat)(w:Bs)(sp:Nat×Nat):Pu (Vj st t w sp i):=by
 have key:∀(j:Nat) y u,(Vj st t w sp i)[j]?=some y->u∈y.subs->∃nd,st[j]?=some nd/\(u∈nd.subs\/u=i/\j=t):=by
  intro j y u hy hu;rw[O12]at hy
  split at hy
  rename_i e
  cases hs:st[j]? with
  |none=>rw[hs]at hy;cases hy
  |some nd =>
   rw[hs]at hy;simp only[U29,U1f]at hy;subst hy;simp only[V12,U2s,U22]at hu;exact⟨nd,rfl,hu.imp id λ h=>⟨h,e.symm⟩⟩
  exact⟨y,hy,.inl hu⟩
 intro a b x y u hx hy h1 h2;obtain⟨n1,p1,q1⟩:=key a x u hx h1;obtain⟨n2,p2,q2⟩:=key b y u hy h2;rcases q1 with q1|⟨rfl,rfl⟩
 rcases q2 with q2|⟨rfl,rfl⟩
 exact h a b n1 n2 u p1 p2 q1 q2
 exact absurd q1 (hi a n1 p1)
 rcases q2 with q2|⟨_,rfl⟩
 exact absurd q2 (hi b n2 p2)
 rfl
theorem Fr.put{st:Ve}{u:Nat}(h:Fr st u){i:Nat}(hi:u≠i)(t:Nat)(w:Bs)(sp:Nat×Nat):Fr (Vj st t w sp i) u:=by
 intro j y hy hu;rw[O12]at hy
 split at hy
 cases hs:st[j]? with
 |none=>rw[hs]at hy;cases hy
 |some nd =>
  rw[hs]at hy;simp only[U29,U1f]at hy;subst hy;simp only[V12,U2s,U22]at hu;exact hu.elim (h j nd hs) hi
 exact h j y hy hu
theorem O9i{st:Ve}{t:Nat}{f:Nd->Nd}(hf:∀nd,(f nd).subs=nd.subs){j:Nat}{y:Nd}(h:(st.modify t f)[j]?=some y):∃nd,st[j]?=some nd/\y.subs=nd.subs:=by
 rw[O10]at h
 split at h
 cases hs:st[j]? with
 |none=>rw[hs]at h;cases h
 |some nd =>
  rw[hs]at h;simp only[U29,U1f]at h;subst h;exact⟨nd,rfl,hf nd⟩
 exact⟨y,h,rfl⟩
theorem Pu.same{st:Ve}(h:Pu st)(t:Nat)(f:Nd->Nd)(hf:∀nd,(f nd).subs=nd.subs):Pu (st.modify t f):=by
 intro a b x y u hx hy h1 h2;obtain⟨n1,p1,q1⟩:=O9i hf hx;obtain⟨n2,p2,q2⟩:=O9i hf hy;exact h a b n1 n2 u p1 p2 (q1 ▸ h1) (q2 ▸ h2)
theorem Fr.same{st:Ve}{u:Nat}(h:Fr st u)(t:Nat)(f:Nd->Nd)(hf:∀nd,(f nd).subs=nd.subs):Fr (st.modify t f) u:=by
 intro j y hy hu;obtain⟨nd,p,q⟩:=O9i hf hy;exact h j nd p (q ▸ hu)
structure Nw(st st':Ve):Prop where
 pu:Pu st'
 fr:∀u,u<st.length->Fr st u->Fr st' u
 le:st.length<=st'.length
theorem Nw.trans{a b c:Ve}(h:Nw a b)(k:Nw b c):Nw a c:=⟨k.pu,λ u hu hf=>k.fr u (U13 hu h.le) (h.fr u hu hf),U1k h.le k.le⟩
theorem Op2(table:Nat):∀(ws:List KW)(into d:Nat)(st:Ve)(aw d':Nat)(st':Ve),WF st->table<=into->into<st.length->Pu st->V3j table ws into d st=.ok (aw,d',st')->Nw st st':=by
 intro ws
 induction ws with
 |nil=>intro into d st aw d' st' _ _ _ _ h;simp[V3j]at h
 |cons x rest ih =>
  intro into d st aw d' st' hw ht hi hp h;obtain⟨w,a,b⟩:=x;unfold V3j at h;cases hs:V16 st into w with
  |non=>rw[hs]at h;cases h
  |yes i =>
   rw[hs]at h;cases rest with
   |nil=>cases h
   |cons y rest =>
    simp only at h
    split at h
    rename_i ho
    have MD:table<=i/\i<st.length:=by
     refine Z286 ?_;intro aa;refine⟨?_,aa⟩;unfold V2y at ho;rw[U1h aa]at ho;have:=(hw i _ (U1h aa)).own (by simp only at ho;omega);simp only at ho;omega
    exact ih i (d+1) st aw d' st' hw MD.1 MD.2 hp h
    cases h
  |no =>
   rw[hs]at h;cases rest with
   |nil =>
    simp only[Va.ok.injEq,U19]at h;obtain⟨_,_,rfl⟩:=h;exact⟨hp,λ u _ hf=>hf,U12 _⟩
   |cons y rest =>
    simp only at h
    split at h;cases h
    split at h
    obtain⟨nd,bT⟩:∃nd,st[into]?=some nd:=⟨_,U1h hi⟩
    have nz:=O6b hw (U12 st.length);have fX:WF (st++[V1s (table+1)]):=hw.app _ ⟨λ _=>⟨rfl,rfl⟩,List.Pairwise.nil,λ x hx=>by (cases hx),λ _=>⟨rfl,by show table+1<=_;omega⟩⟩;have fj:WF (Vj (st++[V1s (table+1)]) into w (a,b) st.length):=fX.put into _ w (a,b) nd (by rw[U1d hi];exact bT) (λ x hx=>(hw into nd bT).lt x hx) Yb;have et:(Vj (st++[V1s (table+1)]) into w (a,b) st.length).length=st.length+1:=by unfold Vj;simp
    have mc:Pu (Vj (st++[V1s (table+1)]) into w (a,b) st.length):=(hp.app (λ u hu=>by cases hu)).put (nz.app (by intro h;cases h)) _ _ _;have q:=ih st.length (d+1) _ aw d' st' fj Ya (by rw[et];omega) mc h;exact⟨q.pu,λ u hu hf=>q.fr u (by rw[et];omega) ((hf.app (by intro h;cases h)).put Ya _ _ _),by have:=q.le;rw[et]at this;omega⟩
    cases h
def VPu(V:V2c):Prop:=∀d n st i e st',WF st->Pu st->(∃r,Rk st r)->V d n st=.ok (i,e,st')->Nw st st'/\Fr st' i
section
variable {E:V19}{s:Bs}{V:V2c}(hR:VRk V)(hV:VPu V)
include hR hV
theorem Okc(table n d:Nat)(st:Ve)(e:Nat)(st':Ve)(hw:WF st)(ht:table<st.length)(hp:Pu st)(hr:∃r,Rk st r)(ho:Own table st)(h:V1g E V s table n d st=.ok (e,st')):Nw st st':=by
 unfold V1g at h
 split at h;cases h
 cases h
 rename_i ws e0 hk
 split at h;cases h
 cases h
 rename_i into d' st1 hy
 obtain⟨y1,y2,y3,y4,y5,y6,y7⟩:=Oi4 table table ws table d st into d' st1 hw (U12 _) (U12 _) ht hy hr ho;have q1:=Op2 table ws table d st into d' st1 hw (U12 _) ht hp hy;simp only at h
 split at h
 split at h;cases h
 cases h
 rename_i i e2 st2 hv
 have v:=hR _ _ _ _ _ _ y3 hv y1;obtain⟨q2,q3⟩:=hV _ _ _ _ _ _ y3 q1.pu y1 hv
 split at h;cases h
 rename_i w a b _
 split at h;simp only[Va.ok.injEq,U19]at h;obtain⟨_,rfl⟩:=h;have IE:=v.lo;have aQ:=q1.le;have hq:=q1.trans q2;exact⟨q2.pu.put q3 _ _ _,λ u hu hf=>(hq.fr u hu hf).put Ya _ _ _,by have:=hq.le;unfold Vj;simp;exact this⟩
 cases h
 cases h
theorem On6(table d:Nat):∀(f n:Nat)(st:Ve)(e:Nat)(st':Ve),WF st->table<st.length->Pu st->(∃r,Rk st r)->Own table st->V21 E V s table d f n st=.ok (e,st')->Nw st st':=by
 intro f
 induction f with
 |zero=>intro n st e st' _ _ _ _ _ h;simp[V21]at h
 |succ f ih =>
  intro n st e st' hw ht hp hr ho h;unfold V21 at h
  split at h;cases h
  cases h
  rename_i e1 st1 hy
  obtain⟨y1,y2,y3,y4,y5⟩:=Oci hR table table n d st e1 st1 hw (U12 _) ht hy hr ho;have q1:=Okc hR hV table n d st e1 st1 hw ht hp hr ho hy;simp only at h
  split at h;simp only[Va.ok.injEq,U19]at h;obtain⟨_,rfl⟩:=h;exact q1
  split at h;exact q1.trans (ih _ st1 e st' y3 Ya q1.pu y1 y2 h)
  cases h
theorem Oi6(d n:Nat)(st:Ve)(i e:Nat)(st':Ve)(hw:WF st)(hp:Pu st)(hr:∃r,Rk st r)(h:V1n E V s d n st=.ok (i,e,st')):Nw st st'/\Fr st' i:=by
 unfold V1n at h
 split at h;cases h
 split at h
 refine Z203 ?_;intro fX;have fW:Pu (st++[Vt]):=hp.app (λ u hu=>by cases hu);have nz:Fr (st++[Vt]) st.length:=(O6b hw (U12 _)).app (by intro h;cases h);have aS:∃r,Rk (st++[Vt]) r:=by obtain⟨r,hr⟩:=hr;exact hr.app hw Vt (λ x hx=>by cases hx)
 have Ap:Own st.length (st++[Vt]):=(O3q st).app _ (λ x hx=>by cases hx);simp only at h
 split at h;cases h
 cases h
 rename_i e1 st1 hx
 have q:Nw (st++[Vt]) st1:=by
  split at hx;simp only[Va.ok.injEq,U19]at hx;obtain⟨_,rfl⟩:=hx;exact⟨fW,λ u _ hf=>hf,U12 _⟩
  exact On6 hR hV st.length d _ _ _ _ _ fX Yb fW aS Ap hx
 split at h;simp only[Va.ok.injEq,U19]at h;obtain⟨rfl,_,rfl⟩:=h;have hl:=q.le;simp only[U1c,U25]at hl;exact⟨⟨q.pu.same _ _ (λ _=>rfl),λ u hu hf=>((q.fr u Ye (hf.app (by intro h;cases h)))).same _ _ (λ _=>rfl),Ye⟩,(q.fr _ Yb nz).same _ _ (λ _=>rfl)⟩
 cases h
 cases h
theorem Okd(d b:Nat):∀(f n:Nat)(subs:List Nat)(st:Ve)(l:List Nat)(e:Nat)(st':Ve),WF st->b<=st.length->Pu st->(∃r,Rk st r)->(∀x∈subs,b<=x/\x<st.length/\Fr st x)->V1h V s d f n subs st=.ok (l,e,st') ->Nw st st'/\WF st'/\(∃r,Rk st' r)/\∀x∈l,b<=x/\x<st'.length/\Fr st' x:=by
 intro f
 induction f with
 |zero=>intro n subs st l e st' _ _ _ _ _ h;simp[V1h]at h
 |succ f ih =>
  intro n subs st l e st' hw hb hp hr hs h;unfold V1h at h
  split at h;simp only[Va.ok.injEq,U19]at h;obtain⟨rfl,_,rfl⟩:=h;exact⟨⟨hp,λ u _ hf=>hf,U12 _⟩,hw,hr,hs⟩
  split at h;cases h
  cases h
  rename_i i e1 st1 hv
  have v:=hR _ _ _ _ _ _ hw hv hr;obtain⟨q1,q2⟩:=hV _ _ _ _ _ _ hw hp hr hv;have UB:=v.lo;have QG:=v.hi;have eM:∀x∈subs++[i],b<=x/\x<st1.length/\Fr st1 x:=by
   intro x hx;rcases U2s.1 hx with hx|hx
   obtain⟨h1,h2,h3⟩:=hs x hx;exact⟨h1,by have:=q1.le;omega,q1.fr x h2 h3⟩
   rw[U22]at hx;subst hx;exact⟨Ya,QG,q2⟩
  split at h;cases h
  split at h;cases h
  split at h;simp only[Va.ok.injEq,U19]at h;obtain⟨rfl,_,rfl⟩:=h;exact⟨q1,v.wf,v.rk,eM⟩
  split at h
  split at h;cases h
  obtain⟨k1,k2,k3,k4⟩:=ih _ _ st1 l e st' v.wf (by have:=q1.le;omega) q1.pu v.rk eM h;exact⟨q1.trans k1,k2,k3,k4⟩
  cases h
theorem Oke(d n:Nat)(st:Ve)(i e:Nat)(st':Ve)(hw:WF st)(hp:Pu st)(hr:∃r,Rk st r)(h:V2n V s d n st=.ok (i,e,st')):Nw st st'/\Fr st' i:=by
 unfold V2n at h
 split at h;cases h
 split at h;cases h
 split at h;cases h
 cases h
 rename_i subs e1 st1 hx
 obtain⟨q1,q2,q3,q4⟩:=Okd hR hV d st.length _ _ [] st subs e1 st1 hw (U12 _) hp hr (λ x hx=>by cases hx) hx
 split at h
 simp only[Va.ok.injEq,U19]at h;obtain⟨rfl,_,rfl⟩:=h;refine⟨⟨q1.pu.app (λ u hu=>(q4 u hu).2.2),λ u hu hf=>(q1.fr u hu hf).app (λ hm=>?_),by have:=q1.le;simp;omega⟩,(O6b q2 (U12 _)).app (λ hm=>?_)⟩;have:=(q4 u hm).1;omega
 have:=(q4 _ hm).2.1;omega
 cases h
end
theorem On7{st:Ve}(hw:WF st)(hp:Pu st)(k:Nat)(t:Bs)(a b:Nat):Nw st (st++[V5w k t a b])/\Fr (st++[V5w k t a b]) st.length :=
 ⟨⟨hp.app (λ u hu=>by cases hu),λ u _ hf=>hf.app (by intro h;cases h),Yb⟩,(O6b hw (U12 _)).app (by intro h;cases h)⟩
theorem Oi7{E:V19}(hE:V1k E)(s:Bs):∀f,VPu (Vv E s f):=by
 intro f
 induction f with
 |zero=>intro d n st i e st' _ _ _ h;simp[Vv]at h
 |succ f ih =>
  intro d n st i e st' hw hp hr h;unfold Vv at h;simp only at h
  split at h;exact J164
  split at h;exact Oke (O6a hE s f) ih d n st i e st' hw hp hr h
  split at h;exact Oi6 (O6a hE s f) ih d n st i e st' hw hp hr h
  exact J164
theorem Okf{E:V19}(hE:V1k E){s:Bs}{n k i e:Nat}{st:Ve}(h:V1j E s n k=.ok (i,e,st)):Pu st/\Fr st i/\∃r,Rk st r:=by
 have h0:WF ([]:Ve):=λ i nd h=>by simp at h
 have hp:Pu ([]:Ve):=λ i j nd nd' u h=>by simp at h
 have hr:∃r,Rk ([]:Ve) r:=⟨λ _=>0,λ i nd h=>by simp at h⟩
 obtain⟨q1,q2⟩:=Oi7 hE s 258 _ n [] i e st h0 hp hr h;exact⟨q1.pu,q2,(O6a hE s 258 _ n [] i e st h0 h hr).rk⟩
structure GP(nds:Ve):Prop where
 pu:Pu nds
 fr:Fr nds 0
 rk:∃r,Rk nds r
def SS(a b:Ve):Prop:=∀j:Nat,a[j]?.map (·.subs)=b[j]?.map (·.subs)
theorem SS.get{a b:Ve}(h:SS a b){j:Nat}{y:Nd}(hy:b[j]?=some y):∃x,a[j]?=some x/\x.subs=y.subs:=by
 have:=h j;rw[hy]at this;cases hx:a[j]? with
 |none=>rw[hx]at this;cases this
 |some x=>rw[hx]at this;exact⟨x,rfl,by simpa using this⟩
theorem GP.same{a b:Ve}(h:GP a)(k:SS a b):GP b:=by
 refine⟨λ i j x y u hx hy h1 h2=>?_,λ i x hx hu=>?_,?_⟩;obtain⟨x',p1,q1⟩:=k.get hx;obtain⟨y',p2,q2⟩:=k.get hy;exact h.pu i j x' y' u p1 p2 (q1 ▸ h1) (q2 ▸ h2);obtain⟨x',p1,q1⟩:=k.get hx;exact h.fr i x' p1 (q1 ▸ hu)
 obtain⟨r,hr⟩:=h.rk;exact⟨r,λ i x hx u hu=>by obtain⟨x',p1,q1⟩:=k.get hx;exact hr i x' p1 u (q1 ▸ hu)⟩
theorem GP.add{nds:Ve}(h:GP nds)(hw:WF nds)(k:Nat){t:Nat}(ht:t<nds.length)(w:Bs)(sp:Nat×Nat):GP (Vj (nds++[V1r k]) t w sp nds.length):=by
 have hf:=O6b hw (U12 nds.length);obtain⟨r,hr⟩:=h.rk;obtain⟨r1,aS⟩:=hr.app hw (V1r k) (λ x hx=>by cases hx);refine⟨(h.pu.app (λ u hu=>by cases hu)).put (hf.app (by intro h;cases h)) _ _ _,(h.fr.app (by intro h;cases h)).put Ya _ _ _,?_⟩;exact aS.put nds.length ((O3q nds).app _ (λ x hx=>by cases hx)) t nds.length w sp ht (U12 _) (λ j x hj hx y hy=>by
  rw[U1d hj]at hx;exact (hw j x hx).lt y hy)
theorem Vi4(nds:Ve)(t i:Nat)(w:Bs)(sp:Nat×Nat):SS (Vj nds t w sp i) (nds.modify t λ nd=>{ nd with subs:=nd.subs++[i] }):=by
 intro j;rw[O12,O10]
 split;cases nds[j]? <;> rfl
 rfl
theorem GP.graft{nds n2:Ve}(h:GP nds)(hw:WF nds)(fj:WF n2)(mc:Pu n2){root:Nat}(dj:Fr n2 root)(cL:∃r,Rk n2 r){into:Nat}(hi:into<nds.length)(w:Bs)(sp:Nat×Nat):GP (Vj (nds++n2.map λ nd=>{ nd with subs:=nd.subs.map (· + nds.length),owner:=0 }) into w sp (root+nds.length)):=by
 have hg:∀(j:Nat) x,(nds++n2.map λ nd=>{ nd with subs:=nd.subs.map (· + nds.length),owner:=0 })[j]?=some x->(j<nds.length/\nds[j]?=some x)\/(nds.length<=j/\∃y,n2[j-nds.length]?=some y/\x.subs=y.subs.map (· + nds.length)):=by
  intro j x hx;by_cases hj:j<nds.length;rw[U1d hj]at hx;exact .inl ⟨hj,hx⟩
  rw[U21 Ya,U1m]at hx;cases hy:n2[j-nds.length]? with
  |none=>rw[hy]at hx;cases hx
  |some y =>
   rw[hy]at hx;simp only[U29,U1f]at hx;subst hx;exact .inr ⟨Ya,y,rfl,rfl⟩
 have QH:Pu (nds++n2.map λ nd=>{ nd with subs:=nd.subs.map (· + nds.length),owner:=0 }):=by
  intro i j x y u hx hy h1 h2;rcases hg i x hx with⟨a1,a2⟩|⟨a1,x',a2,a3⟩
  rcases hg j y hy with⟨b1,b2⟩|⟨b1,y',b2,b3⟩
  exact h.pu i j x y u a2 b2 h1 h2
  exfalso;have:=(hw i x a2).lt u h1;rw[b3]at h2;obtain⟨v,_,rfl⟩:=U3n.1 h2;omega
  rcases hg j y hy with⟨b1,b2⟩|⟨b1,y',b2,b3⟩
  exfalso;have:=(hw j y b2).lt u h2;rw[a3]at h1;obtain⟨v,_,rfl⟩:=U3n.1 h1;omega
  rw[a3]at h1;rw[b3]at h2;obtain⟨v,hv,rfl⟩:=U3n.1 h1;obtain⟨v',Eu,e⟩:=U3n.1 h2;have:v'=v:=Ya
  subst this;have:=mc _ _ x' y' v' a2 b2 hv Eu;omega
 have nz:∀u,u<nds.length->Fr nds u->Fr (nds++n2.map λ nd=>{ nd with subs:=nd.subs.map (· + nds.length),owner:=0 }) u:=by
  intro u hu hf i x hx hm;rcases hg i x hx with⟨a1,a2⟩|⟨a1,x',a2,a3⟩
  exact hf i x a2 hm
  rw[a3]at hm;obtain⟨v,_,rfl⟩:=U3n.1 hm;omega
 have yw:Fr (nds++n2.map λ nd=>{ nd with subs:=nd.subs.map (· + nds.length),owner:=0 }) (root+nds.length):=by
  intro i x hx hm;rcases hg i x hx with⟨a1,a2⟩|⟨a1,x',a2,a3⟩
  have:=(hw i x a2).lt _ hm;omega
  rw[a3]at hm;obtain⟨v,hv,e⟩:=U3n.1 hm;have:v=root:=Ya
  subst this;exact dj _ x' a2 hv
 refine⟨QH.put yw _ _ _,(nz 0 Ya h.fr).put Ya _ _ _,?_⟩;obtain⟨r,hr⟩:=h.rk;obtain⟨r2,cL⟩:=cL;have jN:Rk (nds++n2.map λ nd=>{ nd with subs:=nd.subs.map (· + nds.length),owner:=0 }) (λ j=>if j<nds.length then r j else r2 (j-nds.length)):=by
  intro i x hx u hu;rcases hg i x hx with⟨a1,a2⟩|⟨a1,x',a2,a3⟩
  have:=(hw i x a2).lt u hu;simp only[U18 a1,U18 this];exact hr i x a2 u hu
  rw[a3]at hu;obtain⟨v,hv,rfl⟩:=U3n.1 hu;simp only[U1b (show ¬i<nds.length by omega),U1b (show ¬v+nds.length<nds.length by omega),Nat.add_sub_cancel];exact cL _ x' a2 v hv
 refine jN.put nds.length (λ i x hb hx u hu=>?_) into _ w sp hi Ya (λ j x hj hx y hy=>?_)
 rcases hg i x hx with⟨a1,a2⟩|⟨a1,x',a2,a3⟩
 omega
 rw[a3]at hu;obtain⟨v,_,rfl⟩:=U3n.1 hu;omega
 rcases hg j x hx with⟨a1,a2⟩|⟨a1,_⟩
 exact (hw j x a2).lt y hy
 omega
theorem Of0{g:Vc}(h:GI g)(hp:GP g.nds){t:Nat}(ht:Tb g t){d:Nat}{w:Bs}{a b:Nat}{s:Nat×Nat}{over:Nat->Ov}{n d':Nat}{g':Vc}(he:V1p g t d w a b s over=.ok (n,d',g')):GP g'.nds:=by
 unfold V1p at he
 split at he;cases he
 exact J49
 split at he;cases he
 split at he;simp only[Va.ok.injEq,U19]at he;rw[<-he.2.2];exact hp.add h.wf 8 (h.lt ht) w (a,b)
 cases he
theorem Oi8(s:Nat×Nat)(k9:s.1=1\/s.1=2\/s.1=3)(over:Vc->Nat->Nat->Ov)(ho:∀g d i,GI g->i<g.nds.length->over g d i≠.non/\∀n d',over g d i=.go n d'->Tb g n/\d'<=d+2):∀(ws:List KW)(t d:Nat)(g:Vc)(t' d':Nat)(g':Vc),GI g->Tb g t->g.nds.length+ws.length<=20000000->GP g.nds->V2a s over ws t d g=.ok (t',d',g')->GP g'.nds:=by
 intro ws
 induction ws with
 |nil=>intro t d g t' d' g' _ _ _ hp he;simp only[V2a,Va.ok.injEq,U19]at he;rw[<-he.2.2];exact hp
 |cons x rest ih =>
  intro t d g t' d' g' h ht hl hp he;obtain⟨w,a,b⟩:=x;simp only[U17]at hl;unfold V2a at he;cases a9:V1p g t d w a b s (over g d) with
  |non=>rw[a9]at he;cases he
  |bad c p=>rw[a9]at he;cases he
  |ok r =>
   obtain⟨n,d2,g2⟩:=r;rw[a9]at he;obtain⟨q1,q2,q3,_⟩:=(O5g h Ya ht d w a b s k9 (over g d) (λ i hi=>ho g d i h hi)).2 _ _ _ a9;exact ih n d2 g2 t' d' g' q1 q2 Ya (Of0 h hp ht a9) he
theorem Okg{g g':Vc}(h:GI g)(hp:GP g.nds){k:List KW}(hk:k≠[])(hl:g.nds.length+k.length+1<=20000000)(he:V27 g k=.ok g'):GP g'.nds:=by
 refine Z245 ?_;intro hd;unfold V27 at he
 split at he;cases he
 cases he
 rename_i t d g1 hw
 refine Z130 ?_;intro ho q1 q2 fW
 split at he;cases he
 split at he;cases he
 cases he
 rename_i n d2 g2 hs
 simp only[Va.ok.injEq]at he;rw[<-he];show GP g2.nds;exact Of0 q1 fW q2 hs
theorem Of1{g:Vc}(hw:WF g.nds)(hp:GP g.nds){x:Nat}(hx:x<g.nds.length)(d:Nat):GP (V42 g x d).nds:=(hp.add hw 8 hx [] (0,0)).same (Vi4 _ _ _ _ _)
theorem On8{g g':Vc}(h:GI g)(hp:GP g.nds){k:List KW}(hk:k≠[])(hl:g.nds.length+k.length+2<=20000000)(he:V3l g k=.ok g'):GP g'.nds:=by
 refine Z245 ?_;intro hd;unfold V3l at he
 split at he;cases he
 cases he
 rename_i t d g1 hw
 refine Z130 ?_;intro ho q1 q2 fW
 split at he;cases he
 rename_i w a b dC
 split at he;cases he
 split at he
 rename_i h4
 split at he;cases he
 split at he;simp only[Va.ok.injEq]at he;rw[<-he];obtain⟨nd,l,h1,_⟩:=q1.lst _ h4;exact Of1 q1.wf fW (U16.1 h1).1 d
 cases he
 cases he
 split at he;cases he
 split at he;simp only[Va.ok.injEq]at he;rw[<-he];obtain⟨u1,_,_,_,u6⟩:=q1.grow q2 7 (4,0) w (a,b) Yb (λ h=>by simp at h);exact Of1 u1.wf (fW.add q1.wf 7 (q1.lt q2) w (a,b)) (by rw[u6];omega) d
 cases he
theorem On9{g g':Vc}(h:GI g)(hp:GP g.nds){k:List KW}(hk:k≠[])(hl:g.nds.length+k.length<=20000000){t d:Nat}(he:V2z g k=.ok (t,d,g')):GP g'.nds:=by
 refine Z245 ?_;intro hd;unfold V2z at he
 split at he;cases he
 cases he
 rename_i t' d' g1 hw
 have fW:=Oi8 (3,g.many) (.inr (.inr rfl)) V1v (λ g d i _ _=>Oae d i) k.dropLast _ _ g t' d' g1 h h.sec Ya hp hw
 split at he;cases he
 split at he;cases he
 cases he
 simp only[Va.ok.injEq,U19]at he;rw[<-he.2.2];exact fW
inductive Vbm (E:V19)(s:Bs)(n:Nat)(g:Vc)(into root:Nat)(nds:Ve)(g1:Vc):Prop
 |blank:V1c (s.drop (V7 s n))=true->g1=g->nds=[]->Vbm E s n g into root nds g1
 |head (m:Nat) (ws:List KW) (e:Nat):1<=m->(pre (s.drop (V7 s n)) [91,91]=true/\m=2\/pre (s.drop (V7 s n)) [91,91]=false/\pre (s.drop (V7 s n)) [91]=true/\m=1)->V23 E s (V7 s (V7 s n+m))=.ok (ws,e)->V7 s n+m<=s.length->g1.nds.length<=g.nds.length+ws.length+1->nds=[]->Vbm E s n g into root nds g1
 | pair (ws:List KW) (e:Nat):pre (s.drop (V7 s n)) [91,91]=false->pre (s.drop (V7 s n)) [91]=false->V1c (s.drop (V7 s n))=false->V23 E s (V7 s n)=.ok (ws,e)->g1.nds.length+1<=g.nds.length+ws.length->Tb g1 into ->
     (V9 s (V7 s e)=61->∃d ve,V1j E s (V7 s (V7 s e+1)) d=.ok (root,ve,nds))->Vbm E s n g into root nds g1
theorem Okh{E:V19}(hE:V1k E){s:Bs}(hs:s.length<=2000000){n:Nat}(hn:n<=s.length){g:Vc}(h:GI g)(hp:GP g.nds)(hl:g.nds.length+s.length+2<=20000000){into root:Nat}{nds:Ve}{g1:Vc}(he:V2d E s n g=.ok (into,root,nds,g1)):GP g1.nds/\Vbm E s n g into root nds g1:=by
 have hb:=V8 s n hn;unfold V2d at he;simp only at he
 split at he
 rename_i aO
 simp only[Va.ok.injEq,U19]at he;obtain⟨rfl,rfl,rfl,rfl⟩:=he;exact⟨hp,.blank aO rfl rfl⟩
 rename_i aO
 generalize hm:(if pre (s.drop (V7 s n)) [91,91] then 2 else if pre (s.drop (V7 s n)) [91] then 1 else 0)=m at he;have iL:V7 s n+m<=s.length/\(m=0/\pre (s.drop (V7 s n)) [91,91]=false/\pre (s.drop (V7 s n)) [91]=false\/m=1/\pre (s.drop (V7 s n)) [91,91]=false/\pre (s.drop (V7 s n)) [91]=true\/m=2/\pre (s.drop (V7 s n)) [91,91]=true):=by
  rw[<-hm]
  split
  rename_i h2
  have:=V1w _ _ h2;rw[U15]at this;simp only[U17,U1t]at this;exact⟨Ya,.inr (.inr ⟨rfl,h2⟩)⟩
  rename_i h2
  split
  rename_i h1
  have:=V1w _ _ h1;rw[U15]at this;simp only[U17,U1t]at this;exact⟨Ya,.inr (.inl ⟨rfl,by simpa using h2,h1⟩)⟩
  rename_i h1
  exact⟨Ya,.inl ⟨rfl,by simpa using h2,by simpa using h1⟩⟩
 have ay:=V8 s (V7 s n+m) iL.1;cases hk:V23 E s (V7 s (V7 s n+m)) with
 |non=>rw[hk]at he;cases he
 |bad c p=>rw[hk]at he;cases he
 |ok r =>
  obtain⟨ws,e⟩:=r;obtain⟨e1,e2,e3,e4,e5⟩:=(O1e hE (s:=s) ay.2).1 _ _ hk;have ed:=O3x hE (s.length+2) _ [] ws e ay.2 hk;simp only[U1t,U1q]at ed;rw[hk]at he;simp only at he;rcases iL.2 with⟨rfl,m1,m2⟩|⟨rfl,m1,m2⟩|⟨rfl,m1⟩
  simp only[show ¬(0:Nat)=2 by decide,show ¬(0:Nat)=1 by decide,U2c]at he;rw[U42,O69]at hk;cases ht:V2z g ws with
  |non=>rw[ht]at he;cases he
  |bad c p=>rw[ht]at he;cases he
  |ok r =>
   obtain⟨t,d,g2⟩:=r;rw[ht]at he;obtain⟨q1,q2,q3,q4,q5,q6,_⟩:=(Oce h ws e3 Ya).2 _ _ _ ht;have mc:=On9 h hp e3 Ya ht;simp only at he
   split at he
   rename_i eN
   cases hr:V1j E s (V7 s (V7 s e+1)) d with
   |non=>rw[hr]at he;cases he
   |bad c p=>rw[hr]at he;cases he
   |ok v =>
    obtain⟨cO,ve,Cm⟩:=v;rw[hr]at he;simp only[Va.ok.injEq,U19]at he;obtain⟨rfl,rfl,rfl,rfl⟩:=he;exact⟨mc,.pair ws e m1 m2 (by simpa using aO) hk q3 q2 (λ _=>⟨d,ve,hr⟩)⟩
   rename_i eN
   simp only[Va.ok.injEq,U19]at he;obtain⟨rfl,rfl,rfl,rfl⟩:=he;exact⟨mc,.pair ws e m1 m2 (by simpa using aO) hk q3 q2 (λ h=>absurd h eN)⟩
  simp only[show ¬(1:Nat)=2 by decide,U2i,U2c]at he;cases ht:V27 g ws with
  |non=>rw[ht]at he;cases he
  |bad c p=>rw[ht]at he;cases he
  |ok g2 =>
   rw[ht]at he;simp only[Va.ok.injEq,U19]at he;obtain⟨rfl,rfl,rfl,rfl⟩:=he;exact⟨Okg h hp e3 Ya ht,.head 1 ws e Ya (.inr ⟨m1,m2,rfl⟩) hk iL.1 ((O68 h ws e3 Ya).2 _ ht).le rfl⟩
  simp only[U2i]at he;cases ht:V3l g ws with
  |non=>rw[ht]at he;cases he
  |bad c p=>rw[ht]at he;cases he
  |ok g2 =>
   rw[ht]at he;simp only[Va.ok.injEq,U19]at he;obtain⟨rfl,rfl,rfl,rfl⟩:=he;exact⟨On8 h hp e3 Ya ht,.head 2 ws e Ya (.inl ⟨m1,rfl⟩) hk iL.1 ((Ocd h ws e3 Ya).2 _ ht).le rfl⟩
theorem Oi9{E:V19}(hE:V1k E){s:Bs}(hs:s.length<=20000000){n k i e:Nat}{st:Ve}(hn:n<=s.length)(h:V1j E s n k=.ok (i,e,st)):st.length+n<=e:=by
 have A:V50 (s.drop n) s n:=⟨λ m=>by rw[U27],by rw[U15];omega⟩
 have hr:=Oe7 hE A (by rw[U15];omega) 0 k Ya;rw[U42,h]at hr;cases hx:V1j E (s.drop n) 0 k with
 |non=>rw[hx]at hr;cases hr
 |bad c p=>rw[hx]at hr;cases hr
 |ok r =>
  obtain⟨i0,e0,UC⟩:=r;rw[hx]at hr;have:=((V4k hE (s.drop n) (by rw[U15];omega) 0 k Ya).2.2 _ _ _ hx).2.2.len;cases hr with
  |ok _ _ _ _ q =>
   have:=q.len;omega
theorem Oki{E:V19}(hE:V1k E){s:Bs}(hs:s.length<=2000000){n:Nat}(hn:n<s.length){g:Vc}(h:GI g)(hp:GP g.nds)(hl:g.nds.length+2*s.length+2<=20000000){e:Nat}{g':Vc}(he:V2o E s n g=.ok (e,g')):GP g'.nds/\g'.nds.length+2*n<=g.nds.length+2*e:=by
 obtain⟨it,hi,rfl,_⟩:=Oi3 he;have hb:=V8 s n Ya;have k:=(Ocb hE s Ya n hn).2.2 it hi;have aa:=k.lt;have sb:∃e0 yv,V3o E s (V7 s n)=.ok (e0,yv)/\e0<=it.b/\it.kind=yv.kind:=by
  have gX:=hi;unfold V41 at gX;cases iP:V3o E s (V7 s n) with
  |non=>rw[iP]at gX;cases gX
  |bad c p=>rw[iP]at gX;cases gX
  |ok r =>
   obtain⟨e0,yv⟩:=r;rw[iP]at gX;simp only at gX;have aQ:=((Oca hE s Ya _ hb.2).2.2 e0 yv iP).le;cases hc:V1e s e0 with
   |bad c p=>rw[hc]at gX;cases gX
   |ok m =>
    rw[hc]at gX;have:=((V60 s e0 aQ.2).1 _ hc).1;simp only[Va.ok.injEq]at gX;subst gX;exact⟨e0,yv,rfl,this,rfl⟩
 obtain⟨e0,yv,sb,Cn,fq⟩:=sb;have yx:=Oi2 hE hb.2 sb;unfold V2o at he;cases hw:V2d E s n g with
 |non=>rw[hw]at he;cases he
 |bad c p=>rw[hw]at he;cases he
 |ok r =>
  obtain⟨into,root,nds,g1⟩:=r;rw[hw,hi]at he;obtain⟨p1,q⟩:=Okh hE hs Ya h hp Ya hw;have ME:=((Oaf hE hs (n:=n) Ya h Ya).2 _ _ _ _ hw).gi;simp only at he;have lA:g1.nds.length+2*n<=g.nds.length+2*it.b/\(it.kind=1->∃ws e1 d ve,V23 E s (V7 s n)=.ok (ws,e1)/\g1.nds.length+1<=g.nds.length+ws.length/\Tb g1 into/\ws.length+n<=e1/\e1<V7 s (V7 s e1+1)/\V7 s (V7 s e1+1)<=s.length/\V1j E s (V7 s (V7 s e1+1)) d=.ok (root,ve,nds)/\ve<=it.b):=by
   cases q with
   |blank b1 b2 b3 =>
    subst b2;refine⟨Ya,λ hk=>?_⟩;rcases yx with⟨_,r2,_⟩|⟨_,_,r2,_⟩|⟨_,_,_,r2⟩|⟨_,_,r1,_⟩
    omega;omega;omega
    rw[b1]at r1;cases r1
   |head m ws e1 b1 b2 b3 b4 b5 b6 =>
    have ay:=V8 s (V7 s n+m) b4;have aQ:=(O1e hE (s:=s) ay.2).1 _ _ b3;have aR:=V8 s e1 aQ.2.1;have ed:=O3x hE (s.length+2) _ [] ws e1 ay.2 b3;simp only[U1t,U1q]at ed;rcases yx with⟨r1,r2,IC,e',r3,r4⟩|⟨r0,r1,r2,IC,e',r3,r4⟩|⟨r0,r1,_,r2⟩|⟨r0,r1,_⟩
    rcases b2 with⟨c1,rfl⟩|⟨c1,_⟩
    exact J178
    rw[r1]at c1;cases c1
    rcases b2 with⟨c1,_⟩|⟨_,c1,rfl⟩
    rw[r0]at c1;cases c1
    exact J178;exact J188
    exact J188
   |pair ws e1 b1 b2 b3 b4 b5 b6 b7 =>
    have aQ:=(O1e hE (s:=s) hb.2).1 _ _ b4;have aR:=V8 s e1 aQ.2.1;have ed:=O3x hE (s.length+2) _ [] ws e1 hb.2 b4;simp only[U1t,U1q]at ed;rcases yx with⟨r1,_⟩|⟨_,r1,_⟩|⟨_,_,r1,_⟩|⟨_,_,_,rk,IC,e',MF,QI,r3,r4,r5⟩
    rw[b1]at r1;cases r1
    rw[b2]at r1;cases r1
    rw[b3]at r1;cases r1
    rw[b4]at r3;simp only[Va.ok.injEq,U19]at r3;obtain⟨rfl,rfl⟩:=r3;have lw:=byteAt_lt r4 Yd;have ig:=V8 s (V7 s e1+1) Ya;obtain⟨d,ve,hr⟩:=b7 r4;have h0:=Oag (k0:=0) (U2y d) hr;rw[r5]at h0;simp only[Va.ok.injEq,U19]at h0;obtain⟨_,rfl,_⟩:=h0;have hv:=((V4k hE s Ya _ d ig.2).2.2 _ _ _ hr).1;exact⟨Ya,λ _=>⟨ws,e1,d,_,b4,b5,b6,Ya,Ya,ig.2,hr,Cn⟩⟩
  split at he;simp only[Va.ok.injEq,U19]at he;rw[<-he.2];exact⟨p1,lA.1⟩
  split at he
  rename_i hk
  obtain⟨ws,e1,d,ve,c1,c2,c3,c4,c5,c6,c7,c8⟩:=lA.2 hk
  split at he;cases he
  split at he;simp only[Va.ok.injEq,U19]at he;rw[<-he.2];obtain⟨v1,v2,v3⟩:=Okf hE c7;have v4:=((V4k hE s Ya _ d c6).2.2 _ _ _ c7).2.2;have v5:=Oi9 hE Ya c6 c7;refine⟨p1.graft ME.wf v4.wf v1 v2 v3 (ME.lt c3) _ _,?_⟩;show (Vj (g1.nds++nds.map _) into _ _ _).length+2*n<=_;unfold Vj;rw[List.length_modify,U1c,U1n];omega
  cases he
  simp only[Va.ok.injEq,U19]at he;rw[<-he.2];exact⟨p1,lA.1⟩
theorem gi0:GI V3n:=by
 have cz:∀i,Vf V3n i=if i=0 then (1,0) else (0,0):=by
  intro i;cases i with
  |zero=>rfl
  |succ i=>unfold Vf V3n;simp
 have hT:∀i,Tb V3n i ↔ i=0:=by
  intro i;unfold Tb;rw[cz]
  split;rename_i e;simp[e]
  rename_i e;simp[e]
 refine⟨rfl,λ i nd h=>?_,λ i h=>?_,λ i h=>?_,λ i=>?_,(hT 0).2 rfl,(hT 0).2 rfl⟩
 cases i with
 |zero=>simp only[V3n,U2e,U1f]at h;subst h;exact O9g 0 8
 |succ i=>simp[V3n]at h
 rw[(hT i).1 h];exact⟨_,rfl,rfl⟩;rw[cz]at h;split at h <;> simp at h
 rw[cz];split <;> simp
theorem gp0:GP V3n.nds:=by
 have h0:∀(i:Nat) nd,V3n.nds[i]?=some nd->nd.subs=[]:=by
  intro i nd h;cases i with
  |zero=>simp only[V3n,U2e,U1f]at h;subst h;rfl
  |succ i=>simp[V3n]at h
 exact⟨λ i j x y u hx hy h1 h2=>by (rw[h0 i x hx]at h1;cases h1),λ i x hx h=>by (rw[h0 i x hx]at h;cases h),λ _=>0,λ i x hx u hu=>by (rw[h0 i x hx]at hu;cases hu)⟩
structure Vcj(s:Bs)(G:Vc):Prop where
 gi:GI G
 gp:GP G.nds
 len:G.nds.length<=1+2*s.length
 its:G.its.length<=s.length
theorem Oia{E:V19}(hE:V1k E){s:Bs}(hs:s.length<=1000000):∀(f n:Nat)(g:Vc),n<=s.length->s.length<n+f->GI g->GP g.nds->g.nds.length<=1+2*n->g.its.length<=n->g.many<=n->g.dep<=2*s.length+3 ->grownF E s f n g≠.non/\∀G,grownF E s f n g=.ok G->Vcj s G:=by
 intro f
 induction f with
 |zero=>intro n g hn hf;omega
 |succ f ih =>
  intro n g hn hf h hp hl hi hm hd;unfold grownF
  split
  rename_i aa
  rw[U18 (by unfold V78;simp only[U1g,U1x];omega)];obtain⟨i1,i2⟩:=Ocg hE Ya aa h Ya;cases hx:V2o E s n g with
  |non=>exact absurd hx i1
  |bad c p=>exact⟨Yb,λ G he=>by simp at he⟩
  |ok r =>
   obtain⟨e,g1⟩:=r;have q:=i2 _ _ hx;obtain⟨p1,p2⟩:=Oki hE Ya aa h hp Ya hx;have q1:=q.lt;have q2:=q.its;have q3:=q.many;have q4:=q.dep;exact ih e g1 q.le Ya q.gi p1 Ya Ya Ya Ya
  refine⟨Yb,λ G he=>?_⟩;simp only[Va.ok.injEq]at he;subst he;exact⟨h,hp,Ya,Ya⟩
theorem Og9{E:V19}(hE:V1k E){s:Bs}(hs:s.length<=1000000):V1f E s≠.non/\∀G,V1f E s=.ok G->Vcj s G :=
 Oia hE hs _ 0 V3n (U2y _) Ya gi0 gp0 Yo Yo Yo Yo
theorem Oib{Q:Bs->Bs}{nds:Ve}{r:Nat->Nat}(hr:Rk nds r):∀(f i:Nat),r i<f->∃t,V2e Q nds f i=some t:=by
 intro f
 induction f with
 |zero=>intro i h;omega
 |succ f ih =>
  intro i h;unfold V2e;cases hn:nds[i]? with
  |none=>exact⟨[],rfl⟩
  |some nd =>
   simp only;have:∀(js:List Nat)(ks:List Bs),(∀u∈js,r u<r i)->∃us,V20 (V2e Q nds f) Q ks js=some us:=by
    intro js
    induction js with
    |nil=>intro ks _;exact⟨[],by unfold V20;rfl⟩
    |cons j js QJ =>
     intro ks hj;obtain⟨t,ht⟩:=ih j (by have:=hj j Yb;omega);obtain⟨us,hu⟩:=QJ ks.tail (λ u hu=>hj u (U26 _ hu));unfold V20;rw[ht,hu];exact⟨_,rfl⟩
   obtain⟨us,hu⟩:=this nd.subs nd.keys (λ u hu=>hr i nd hn u hu);rw[hu];exact⟨_,rfl⟩
theorem Oic:∀(N:Nat)(l:List Nat),l.Nodup->(∀x∈l,x<N)->l.length<=N:=by
 intro N
 induction N with
 |zero =>
  intro l _ h;cases l with
  |nil=>simp
  |cons a l=>exact absurd (h a Yb) Ya
 |succ N ih =>
  intro l hn h;have h1:=ih (l.erase N) (List.Nodup.erase _ hn) (λ x hx=>by
   have h2:=(List.Nodup.mem_erase_iff hn).1 hx;have:=h x h2.2;omega)
  rw[List.length_erase]at h1
  split at h1 <;> omega
def O2e(nds:Ve)(i:Nat):List Nat:=match nds[i]? with
 |some nd=>nd.subs
 |none=>[]
def lv(nds:Ve):Nat->List Nat
 |0=>[0]
 |k+1=>(lv nds k).flatMap (O2e nds)
theorem Vbn{nds:Ve}{k x:Nat}(h:x∈lv nds (k+1)):∃i nd,i∈lv nds k/\nds[i]?=some nd/\x∈nd.subs:=by
 obtain⟨i,h1,h2⟩:=List.mem_flatMap.1 h;unfold O2e at h2;cases hn:nds[i]? with
 |none=>rw[hn]at h2;cases h2
 |some nd=>rw[hn]at h2;exact⟨i,nd,h1,hn,h2⟩
theorem Op3{nds:Ve}(h:GP nds):∀(k m x:Nat),x∈lv nds k->x∈lv nds m->k=m:=by
 intro k
 induction k with
 |zero =>
  intro m x h1 h2;cases m with
  |zero=>rfl
  |succ m =>
   obtain⟨i,nd,_,a,b⟩:=Vbn h2;simp only[lv,U22]at h1;subst h1;exact absurd b (h.fr i nd a)
 |succ k ih =>
  intro m x h1 h2;obtain⟨i,nd,a1,a2,a3⟩:=Vbn h1;cases m with
  |zero =>
   simp only[lv,U22]at h2;subst h2;exact absurd a3 (h.fr i nd a2)
  |succ m =>
   obtain⟨j,nd',b1,b2,b3⟩:=Vbn h2;have:=h.pu i j nd nd' x a2 b2 a3 b3;subst this;rw[ih m i a1 b1]
theorem Ocj{nds:Ve}(h:GP nds)(hw:WF nds):∀k,(lv nds k).Nodup:=by
 intro k
 induction k with
 |zero=>simp[lv]
 |succ k ih =>
  unfold lv List.Nodup;rw[List.pairwise_flatMap];refine⟨λ i _=>?_,?_⟩
  unfold O2e;cases hn:nds[i]? with
  |none=>exact List.Pairwise.nil
  |some nd=>exact (hw i nd hn).up.imp λ h=>by omega
  refine ih.imp λ {i j} QK x hx y hy e=>?_
  subst e;unfold O2e at hx hy;cases hi:nds[i]? with
  |none=>rw[hi]at hx;cases hx
  |some nd =>
   cases hj:nds[j]? with
   |none=>rw[hj]at hy;cases hy
   |some nd' =>
    rw[hi]at hx;rw[hj]at hy;exact QK (h.pu i j nd nd' x hi hj hx hy)
theorem Omc{nds:Ve}(hw:WF nds)(h0:0<nds.length)(k:Nat):∀x∈lv nds k,x<nds.length:=by
 intro x hx;cases k with
 |zero=>simp only[lv,U22]at hx;omega
 |succ k =>
  obtain⟨i,nd,_,a,b⟩:=Vbn hx;exact (hw i nd a).lt x b
def cnt(nds:Ve):Nat->Nat->Nat
 |0,k=>(lv nds k).length
 |f+1,k=>(lv nds k).length+cnt nds f (k+1)
theorem Op4{nds:Ve}(h:GP nds)(hw:WF nds)(h0:0<nds.length)(f:Nat):cnt nds f 0<=nds.length:=by
 have key:∀f k,∃l:List Nat,l.length=cnt nds f k/\l.Nodup/\(∀x∈l,x<nds.length)/\∀x∈l,∃m,k<=m/\x∈lv nds m:=by
  intro f
  induction f with
  |zero=>intro k;exact⟨lv nds k,rfl,Ocj h hw k,Omc hw h0 k,λ x hx=>⟨k,U12 _,hx⟩⟩
  |succ f ih =>
   intro k;obtain⟨l,l1,l2,l3,l4⟩:=ih (k+1);refine⟨lv nds k++l,by simp[cnt,l1],?_,λ x hx=>?_,λ x hx=>?_⟩;rw[List.nodup_append];refine⟨Ocj h hw k,l2,λ a ha b hb e=>?_⟩;subst e;obtain⟨m,m1,m2⟩:=l4 a hb;have:=Op3 h k m a ha m2;omega
   rcases U2s.1 hx with hx|hx
   exact Omc hw h0 k x hx
   exact l3 x hx
   rcases U2s.1 hx with hx|hx
   exact⟨k,U12 _,hx⟩
   obtain⟨m,m1,m2⟩:=l4 x hx;exact⟨m,Ya,m2⟩
 obtain⟨l,l1,l2,l3,_⟩:=key f 0;rw[<-l1];exact Oic _ l l2 l3
def V9p(Q:Bs->Bs)(nds:Ve)(f i:Nat):Nat:=match V2e Q nds f i with
 |some t=>t.length
 |none=>0
def V5u(Q:Bs->Bs)(nds:Ve)(f:Nat):List Nat->Nat
 |[]=>0
 |i::l=>V9p Q nds f i+V5u Q nds f l
theorem Okj(Q:Bs->Bs)(nds:Ve)(f:Nat)(a b:List Nat):V5u Q nds f (a++b)=V5u Q nds f a+V5u Q nds f b:=by
 induction a with
 |nil=>simp[V5u]
 |cons i a ih=>simp only[U1l,V5u,ih];omega
theorem Okk{Q:Bs->Bs}{nds:Ve}{f K1:Nat}:∀(js:List Nat)(ks:List Bs)(us:Bs),(∀k∈ks,(Q k).length<=K1)->V20 (V2e Q nds f) Q ks js=some us->us.length<=V5u Q nds f js+js.length*(K1+2):=by
 intro js
 induction js with
 |nil=>intro ks us _ h;simp only[V20,U1f]at h;subst h;simp
 |cons j js ih =>
  intro ks us hk h;unfold V20 at h;cases ht:V2e Q nds f j with
  |none=>rw[ht]at h;cases h
  |some t =>
   cases hu:V20 (V2e Q nds f) Q ks.tail js with
   |none=>rw[ht,hu]at h;cases h
   |some u =>
    rw[ht,hu]at h;simp only[U1f]at h;subst h;have h1:=ih ks.tail u (λ k gh=>hk k (List.mem_of_mem_tail gh)) hu;have h2:V9p Q nds f j=t.length:=by unfold V9p;rw[ht]
    cases ks with
    |nil=>simp only[V5u,U1c,U17,U1t,Nat.succ_mul,h2];omega
    |cons k r =>
     have h3:=hk k Yb;simp only[V5u,U1c,U17,Nat.succ_mul,h2];omega
theorem Okl{Q:Bs->Bs}{nds:Ve}{K0 K1:Nat}(hb:∀(i:Nat) nd,nds[i]?=some nd->(Lib.itoa (nd.kind:Int)).length+(Q nd.text).length<=K0/\∀k∈nd.keys,(Q k).length<=K1)(f i:Nat):V9p Q nds (f+1) i<=K0+(V5u Q nds f (O2e nds i)+(O2e nds i).length*(K1+2)):=by
 unfold V9p V2e O2e;cases hn:nds[i]? with
 |none=>simp
 |some nd =>
  simp only;cases hs:V20 (V2e Q nds f) Q nd.keys nd.subs with
  |none=>simp
  |some us =>
   have h1:=Okk nd.subs nd.keys us (hb i nd hn).2 hs;have h2:=(hb i nd hn).1;simp only[U1c];omega
theorem Oid{Q:Bs->Bs}{nds:Ve}{K0 K1:Nat}(hb:∀(i:Nat) nd,nds[i]?=some nd->(Lib.itoa (nd.kind:Int)).length+(Q nd.text).length<=K0/\∀k∈nd.keys,(Q k).length<=K1)(f:Nat):∀J:List Nat,V5u Q nds (f+1) J<=J.length*K0+(V5u Q nds f (J.flatMap (O2e nds))+(J.flatMap (O2e nds)).length*(K1+2)):=by
 intro J
 induction J with
 |nil=>simp[V5u]
 |cons i J ih =>
  have:=Okl hb f i;rw[U37,Okj,U1c];simp only[V5u,U17,Nat.add_mul,Nat.one_mul];omega
theorem Okm{Q:Bs->Bs}{nds:Ve}(h:GP nds)(hw:WF nds)(h0:0<nds.length){K0 K1:Nat}(hb:∀(i:Nat) nd,nds[i]?=some nd->(Lib.itoa (nd.kind:Int)).length+(Q nd.text).length<=K0/\∀k∈nd.keys,(Q k).length<=K1):∀(f:Nat)(t:Bs),V2e Q nds f 0=some t->t.length<=nds.length*(K0+K1+2):=by
 have key:∀f k,V5u Q nds f (lv nds k)+(lv nds k).length*(K1+2)<=cnt nds f k*(K0+K1+2):=by
  intro f
  induction f with
  |zero =>
   intro k;have:∀J:List Nat,V5u Q nds 0 J=0:=by
    intro J
    induction J with
    |nil=>rfl
    |cons i J ih=>simp only[V5u,ih];rfl
   rw[this,U1q];exact Nat.mul_le_mul_left _ Ya
  |succ f ih =>
   intro k;have h1:=Oid hb f (lv nds k);have h2:=ih (k+1);have e:(lv nds k).flatMap (O2e nds)=lv nds (k+1):=rfl;rw[e]at h1;have e2:(lv nds k).length*(K0+K1+2)=(lv nds k).length*K0+(lv nds k).length*(K1+2):=by rw[<-Nat.mul_add,U2a]
   show _<=((lv nds k).length+cnt nds f (k+1))*(K0+K1+2);rw[Nat.add_mul,e2];omega
 intro f t ht;have h1:=key f 0;have h2:=U44 (K0+K1+2) (Op4 h hw h0 f);simp only[lv,V5u,V9p,ht]at h1;omega
structure V5y(E:V19):Prop where
 strN:∀l t k,E.str l=.ok (t,k)->t.length<=l.length
 scalN:∀l kd t m,E.scal l=.ok (kd,t,m)->t.length<=l.length+60
theorem Oah(T:Nat->UInt8×UInt8)(long:Bool)(q:UInt8)(l:Bs):∀(f n:Nat)(out t:Bs)(k:Nat),out.length<=n->n<=l.length->V2p (V1b T long q) l f n out=.ok (t,k)->t.length<=l.length:=by
 intro f
 induction f with
 |zero=>intro n out t k _ _ h;simp[V2p]at h
 |succ f ih =>
  intro n out t k ho hn h;unfold V2p at h;cases hd:l.drop n with
  |nil=>rw[hd]at h;cases h
  |cons c r =>
   have hl:=U2b List.length hd;rw[U15]at hl;rw[hd]at h;simp only at h;cases hs:V1b T long q (c::r) with
   |none=>rw[hs]at h;cases h
   |some sr =>
    rw[hs]at h;cases sr with
    |bad p=>cases h
    |go m u over =>
     obtain⟨h1,h2,h3⟩:=V46 T long q _ m u over hs;simp only at h
     split at h;simp only[Va.ok.injEq,U19]at h;rw[<-h.1,U1c];omega
     exact ih (n+m) (out++u) t k (by rw[U1c];omega) Ya h
theorem Okp(l:Bs)(m:Nat)(h:feed l=.ok m):m<=l.length:=by
 unfold feed at h
 split at h;simp only[V35.ok.injEq]at h;subst h;simp;simp only[V35.ok.injEq]at h;subst h;simp;cases h
 simp only[V35.ok.injEq]at h;omega
theorem Okq(T:Nat->UInt8×UInt8)(l t:Bs)(k:Nat)(h:Vu T l=.ok (t,k)):t.length<=l.length:=by
 unfold Vu at h;cases l with
 |nil=>cases h
 |cons c r =>
  simp only at h
  split at h
  split at h
  rename_i hl
  split at h;cases h
  rename_i m hf
  have h3:=O59 _ hl;have:=Okp _ _ hf;rw[U15]at this;exact Oah T true c _ _ _ [] t k Yb Ya h
  exact Oah T false c _ _ _ [] t k Yb Yb h
  cases h
theorem O3k{v:Int}(h0 : -9223372036854775808<=v)(h1:v<=9223372036854775807):(Lib.itoa v).length<=21:=Lib.itoa_length_le v h0 h1
theorem Oe8{l x:Bs}(h:V1i l=.ok x):x.length<=21:=by
 have key:∀r s d,V1t r s d=.ok x->x.length<=21:=by
  intro r s d h;unfold V1t at h
  split at h;cases h
  split at h
  rename_i v hv
  simp only[V35.ok.injEq]at h;rw[<-h];unfold V22 at hv
  split at hv;have:=Lib.parseIntB_bounds hv;exact O3k (by simp at this;omega) (by simp at this;omega)
  split at hv
  rename_i n _
  split at hv;simp only[U4y]at hv;exact O3k Ya Ya
  cases hv
  cases hv
  cases hv
  cases h
  cases h
 unfold V1i at h
 split at h;exact key _ _ _ h
 exact key _ _ _ h
theorem Oif(l cs:Bs):(Lib.trimLeftS l cs).length<=l.length:=by
 unfold Lib.trimLeftS;exact List.Sublist.length_le (U39 _)
theorem Oai(l cs:Bs):(Lib.trimRightS l cs).length<=l.length:=by
 unfold Lib.trimRightS;rw[U4z];have:=List.Sublist.length_le (U39 (cs.contains ·) (l:=l.reverse));rw[U4z]at this;exact this
theorem Ock{l:Bs}{d:Dec}(h:V58 l=some d):d.whole.length+d.part.length<=l.length:=by
 have hw:∀(p:UInt8->Bool)(l:Bs),(l.takeWhile p).length+(l.dropWhile p).length=l.length:=by
  intro p l;rw[<-U1c,U45]
 unfold V58 at h;simp only at h;generalize fg:(if Vg V2m l=true then l.drop 1 else l)=l1 at h;have h1:l1.length<=l.length:=by
  rw[<-fg];split;rw[U15];omega
  omega
 split at h;cases h
 generalize jL:(if Vg V2u (l1.dropWhile O2)=true then (l1.dropWhile O2).drop 1 else l1.dropWhile O2)=l3 at h;have h3:l3.length<=(l1.dropWhile O2).length:=by
  rw[<-jL];split;rw[U15];omega
  omega
 generalize QL:(if Vg V2u (l1.dropWhile O2)=true then l3.takeWhile O2 else [])=pt at h;have h4:pt.length<=l3.length:=by
  rw[<-QL];split;have:=hw O2 l3;omega
  simp
 have h5:=hw O2 l1;rw[U4b]at h;obtain⟨_,h⟩:=h;simp only[U1f]at h;rw[<-h];simp only;omega
theorem Oe9{l x:Bs}(h:V17 l=.ok x):x.length<=l.length+23:=by
 unfold V17 at h
 split at h;cases h
 rename_i d hd
 have hs:=Ock hd
 split at h;cases h
 rename_i n hn
 simp only at h
 split at h;simp only[V35.ok.injEq]at h;rw[<-h];simp
 split at h
 rename_i hw
 simp only[V35.ok.injEq]at h;unfold V31 at hw;simp only[U1g,U1x]at hw;have h1:=O3k (v:=n-(d.part.length:Int)+((Vk (d.whole++d.part)).length:Int)-((Vm (Vk (d.whole++d.part))).length:Int)) Ya Ya;have h2:(Vm (Vk (d.whole++d.part))).length<=d.whole.length+d.part.length:=by
  have a:=Oai (Vk (d.whole++d.part)) [48];have b:=Oif (d.whole++d.part) [48];rw[U1c]at b;unfold Vm;unfold Vk at a⊢;omega
 rw[<-h];simp only[U1c,U17,U1t];have h3:(if d.minus=true then [45] else []:Bs).length<=1:=by split <;> simp
 omega
 cases h
theorem Oea{l x:Bs}(h:V25 l=.ok x):x.length<=l.length+23:=by
 unfold V25 at h
 split at h
 ·simp only[V35.ok.injEq]at h;rw[<-h];unfold V1u
  split
  ·split <;> (simp[V6j];try omega)
  split <;> (simp[V7b];try omega)
 simp only at h
 split at h
 have h2:=V45 l;have h3:∀z y:Bs,V17 (match z with|43::r=>r|r=>r)=.ok y->y.length<=z.length+23:=by
  intro z y hy;have:=Oe9 hy
  split at this;simp only[U17];omega
  exact this
 have:=h3 _ _ h;omega
 cases h
theorem Oeb{l x:Bs}(h:V1x l=.ok x):x.length<=l.length+40:=by
 have qn:∀l:Bs,(Vi l).1.length<=8/\(Vi l).2.length<=l.length:=by
  intro l;unfold Vi
  split
  refine⟨by simp only[U2d];omega,?_⟩;simp only
  split;have:=Vn O2 (l.drop 9);rw[U15]at this;omega
  simp
  simp
 have Co:∀l:Bs,(V28 l).length<=6:=by
  intro l;exact J16
 have hs:(Vh l).date.length<=10/\(Vh l).time.length<=8/\(Vh l).part.length<=l.length/\(Vh l).zone.length<=6:=by
  unfold Vh;have c1:=qn (l.drop 11);have c2:=qn l;rw[U15]at c1
  split
  split
  simp only
  split;simp[U2d];omega
  exact⟨by rw[U2d];omega,c1.1,by have:=c1.2;simp only;omega,Co _⟩
  simp[U2d];omega
  exact⟨Yb,c2.1,c2.2,Yb⟩
 unfold V1x at h;simp only at h
 split at h;cases h
 split at h
 simp only[V35.ok.injEq]at h;rw[<-h];unfold V5o;simp only[U1c];have h1:(if (Vh l).date≠[]/\(Vh l).time≠[] then [84] else []:Bs).length<=1:=by split <;> simp
 have h2:(if Vm (Vh l).part≠[] then 46::Vm (Vh l).part else []:Bs).length<=(Vh l).part.length+1:=by
  have:=Oai (Vh l).part [48]
  split;simp only[U17];unfold Vm;omega
  simp
 have h3:(V6k (Vh l).zone).length=(Vh l).zone.length:=by unfold V6k;simp
 omega
 cases h
theorem Oig(l:Bs)(kd:Nat)(t:Bs)(m:Nat)(h:Vl l=.ok (kd,t,m)):t.length<=l.length+60:=by
 unfold Vl at h
 split at h
 split at h
 rename_i x hx
 simp only[Va.ok.injEq,U19]at h;rw[<-h.2.1];have:=Oeb hx;rw[U2d]at this;omega
 cases h
 split at h
 rename_i k x hx
 simp only[Va.ok.injEq,U19]at h;rw[<-h.2.1];have ht:=Vn V2w l;unfold V2l at hx
 split at hx
 rename_i hb
 simp only[V35.ok.injEq,U19]at hx;rw[<-hx.2];unfold V3m;omega
 split at hx
 rename_i y hy
 simp only[V35.ok.injEq,U19]at hx;rw[<-hx.2];have:=Oe8 hy;omega
 split at hx
 split at hx
 rename_i y hy
 simp only[V35.ok.injEq,U19]at hx;rw[<-hx.2];have:=Oea hy;unfold V3m at this;omega
 cases hx
 cases hx
 cases h
theorem V67(T:Nat->UInt8×UInt8):V5y (V29 T):=⟨Okq T,Oig⟩
def Td(M:Nat)(st:Ve):Prop:=∀nd∈st,nd.kind<=8/\nd.text.length<=M/\∀k∈nd.keys,k.length<=M
theorem Td.app{M:Nat}{a b:Ve}(h:Td M a)(k:Td M b):Td M (a++b):=λ nd hn=>(U2s.1 hn).elim (h nd) (k nd)
theorem O4t{M:Nat}{nd:Nd}(h:nd.kind<=8)(ht:nd.text.length<=M)(hk:∀k∈nd.keys,k.length<=M):Td M [nd]:=λ x hx=>by (rw[U22]at hx;subst hx;exact⟨h,ht,hk⟩)
theorem Td.mod{M:Nat}{a:Ve}(h:Td M a)(t:Nat)(f:Nd->Nd)(hf:∀nd,nd.kind<=8/\nd.text.length<=M/\(∀k∈nd.keys,k.length<=M)->(f nd).kind<=8/\(f nd).text.length<=M/\∀k∈(f nd).keys,k.length<=M):Td M (a.modify t f):=by
 intro nd hn;obtain⟨j,hj⟩:=U4s hn;rw[O10]at hj
 split at hj
 cases hs:a[j]? with
 |none=>rw[hs]at hj;cases hj
 |some x =>
  rw[hs]at hj;simp only[U29,U1f]at hj;subst hj;exact hf x (h x (U2g hs))
 exact h nd (U2g hj)
theorem Td.put{M:Nat}{a:Ve}(h:Td M a)(t:Nat){w:Bs}(hw:w.length<=M)(sp:Nat×Nat)(i:Nat):Td M (Vj a t w sp i) :=
 h.mod t _ λ nd q=>⟨q.1,q.2.1,λ k hk=>(U2s.1 (show k∈nd.keys++[w] from hk)).elim (q.2.2 k) λ e=>by (rw[U22]at e;subst e;exact hw)⟩
theorem O6w(M k:Nat)(hk:k<=8):Td M [V1r k]:=O4t hk (U2y _) (λ k h=>by cases h)
section
variable {E:V19}(hL:V5y E){s:Bs}
include hL
theorem Ona{n e:Nat}{t:Bs}(h:V3x E s n=.ok (t,e)):t.length<=s.length:=by
 unfold V3x at h
 split at h;simp only[Va.ok.injEq,U19]at h;rw[<-h.1];simp
 split at h
 split at h;cases h
 cases h
 rename_i u k hu
 simp only[Va.ok.injEq,U19]at h;have:=hL.strN _ _ _ hu;rw[U15]at this;rw[<-h.1];omega
 simp only[Va.ok.injEq,U19]at h;rw[<-h.1,U2d,U15];omega
theorem Onb:∀(f n:Nat)(acc ws:List KW)(e:Nat),(∀x∈acc,x.1.length<=s.length)->V4c E s f n acc=.ok (ws,e)->∀x∈ws,x.1.length<=s.length:=by
 intro f
 induction f with
 |zero=>intro n acc ws e _ h;simp[V4c]at h
 |succ f ih =>
  intro n acc ws e ha h;unfold V4c at h
  split at h;cases h
  cases h
  rename_i t e1 ht
  have Fb:∀x∈acc++[(t,n,e1)],x.1.length<=s.length:=λ x hx=>(U2s.1 hx).elim (ha x) λ e=>by (rw[U22]at e;subst e;exact Ona hL ht)
  simp only at h
  split at h;exact ih _ _ _ _ Fb h
  simp only[Va.ok.injEq,U19]at h;rw[<-h.1];exact Fb
theorem O9j{n e:Nat}{ws:List KW}(h:V23 E s n=.ok (ws,e)):∀x∈ws,x.1.length<=s.length:=Onb hL _ n [] ws e (λ x hx=>by cases hx) h
end
theorem Op5{M:Nat}(table:Nat):∀(ws:List KW)(into d:Nat)(st:Ve)(aw d':Nat)(st':Ve),(∀x∈ws,x.1.length<=M)->Td M st->V3j table ws into d st=.ok (aw,d',st')->Td M st':=by
 intro ws
 induction ws with
 |nil=>intro into d st aw d' st' _ _ h;simp[V3j]at h
 |cons x rest ih =>
  intro into d st aw d' st' hw hp h;obtain⟨w,a,b⟩:=x;have hr:∀x∈rest,x.1.length<=M:=λ x hx=>hw x (U26 _ hx)
  have rY:w.length<=M:=hw (w,a,b) Yb;unfold V3j at h;cases hs:V16 st into w with
  |non=>rw[hs]at h;cases h
  |yes i =>
   rw[hs]at h;cases rest with
   |nil=>cases h
   |cons y rest =>
    simp only at h
    split at h;exact ih i (d+1) st aw d' st' hr hp h
    cases h
  |no =>
   rw[hs]at h;cases rest with
   |nil=>simp only[Va.ok.injEq,U19]at h;rw[<-h.2.2];exact hp
   |cons y rest =>
    simp only at h
    split at h;cases h
    split at h;exact ih _ (d+1) _ aw d' st' hr ((hp.app (O4t (by show 8<=8;decide) (U2y _) (λ k h=>by cases h))).put _ rY _ _) h
    cases h
def VTd(M:Nat)(V:V2c):Prop:=∀d n st i e st',Td M st->V d n st=.ok (i,e,st')->Td M st'
section
variable {E:V19}(hL:V5y E){s:Bs}{V:V2c}{M:Nat}(hM:s.length<=M)(hV:VTd M V)
include hL hM hV
theorem Okr(table n d:Nat)(st:Ve)(e:Nat)(st':Ve)(hp:Td M st)(h:V1g E V s table n d st=.ok (e,st')):Td M st':=by
 unfold V1g at h
 split at h;cases h
 cases h
 rename_i ws e0 hk
 have hw:∀x∈ws,x.1.length<=M:=λ x hx=>U1k (O9j hL hk x hx) hM
 split at h;cases h
 cases h
 rename_i into d' st1 hy
 have h1:=Op5 table ws table d st into d' st1 hw hp hy;simp only at h
 split at h
 split at h;cases h
 cases h
 rename_i i e2 st2 hv
 have h2:=hV _ _ _ _ _ _ h1 hv
 split at h;cases h
 rename_i w a b hl
 split at h;simp only[Va.ok.injEq,U19]at h;rw[<-h.2];exact h2.put _ (hw _ (U4t hl)) _ _
 cases h
 cases h
theorem Onc(table d:Nat):∀(f n:Nat)(st:Ve)(e:Nat)(st':Ve),Td M st->V21 E V s table d f n st=.ok (e,st')->Td M st':=by
 intro f
 induction f with
 |zero=>intro n st e st' _ h;simp[V21]at h
 |succ f ih =>
  intro n st e st' hp h;unfold V21 at h
  split at h;cases h
  cases h
  rename_i e1 st1 hy
  have q:=Okr hL hM hV table n d st e1 st1 hp hy;simp only at h
  split at h;simp only[Va.ok.injEq,U19]at h;rw[<-h.2];exact q
  split at h;exact ih _ st1 e st' q h
  cases h
theorem Oih(d n:Nat)(st:Ve)(i e:Nat)(st':Ve)(hp:Td M st)(h:V1n E V s d n st=.ok (i,e,st')):Td M st':=by
 unfold V1n at h
 split at h;cases h
 split at h
 have fW:Td M (st++[Vt]):=hp.app (O4t Yd (U2y _) (λ k h=>by cases h));simp only at h
 split at h;cases h
 cases h
 rename_i e1 st1 hx
 have q:Td M st1:=by
  split at hx;simp only[Va.ok.injEq,U19]at hx;rw[<-hx.2];exact fW
  exact Onc hL hM hV st.length d _ _ _ _ _ fW hx
 split at h;simp only[Va.ok.injEq,U19]at h;rw[<-h.2.2];exact q.mod _ _ λ nd z=>z
 cases h
 cases h
end
section
variable {s:Bs}{V:V2c}{M:Nat}(hV:VTd M V)
include hV
theorem Oks(d:Nat):∀(f n:Nat)(subs:List Nat)(st:Ve)(l:List Nat)(e:Nat)(st':Ve),Td M st->V1h V s d f n subs st=.ok (l,e,st')->Td M st':=by
 intro f
 induction f with
 |zero=>intro n subs st l e st' _ h;simp[V1h]at h
 |succ f ih =>
  intro n subs st l e st' hp h;unfold V1h at h
  split at h;simp only[Va.ok.injEq,U19]at h;rw[<-h.2.2];exact hp
  split at h;cases h
  cases h
  rename_i i e1 st1 hv
  have q:=hV _ _ _ _ _ _ hp hv
  split at h;cases h
  split at h;cases h
  split at h;simp only[Va.ok.injEq,U19]at h;rw[<-h.2.2];exact q
  split at h
  split at h;cases h
  exact ih _ _ st1 l e st' q h
  cases h
theorem Okt(d n:Nat)(st:Ve)(i e:Nat)(st':Ve)(hp:Td M st)(h:V2n V s d n st=.ok (i,e,st')):Td M st':=by
 unfold V2n at h
 split at h;cases h
 split at h;cases h
 split at h;cases h
 cases h
 rename_i subs e1 st1 hx
 have q:=Oks hV d _ _ [] st subs e1 st1 hp hx
 split at h;simp only[Va.ok.injEq,U19]at h;rw[<-h.2.2];exact q.app (O4t (by show 7<=8;decide) (U2y _) (λ k h=>by cases h))
 cases h
end
theorem Oii{E:V19}(hE:V1k E)(hL:V5y E){s:Bs}{M:Nat}(hM:s.length+60<=M):∀f,VTd M (Vv E s f):=by
 intro f
 induction f with
 |zero=>intro d n st i e st' _ h;simp[Vv]at h
 |succ f ih =>
  intro d n st i e st' hp h;unfold Vv at h;simp only at h
  split at h
  split at h;cases h
  cases h
  rename_i t m hs
  have:=hL.strN _ _ _ hs;rw[U15]at this
  split at h;simp only[Va.ok.injEq,U19]at h;rw[<-h.2.2];exact hp.app (O4t (by show 3<=8;decide) (by show t.length<=M;omega) (λ k h=>by cases h))
  cases h
  split at h;exact Okt ih d n st i e st' hp h
  split at h;exact Oih hL Ya ih d n st i e st' hp h
  split at h;cases h
  cases h
  rename_i k t m hs
  have h1:=hL.scalN _ _ _ _ hs;have h2:=hE.scalK _ _ _ _ hs;rw[U15]at h1
  split at h;simp only[Va.ok.injEq,U19]at h;rw[<-h.2.2];exact hp.app (O4t (by show k<=8;omega) (by show t.length<=M;omega) (λ k h=>by cases h))
  cases h
theorem Oku{E:V19}(hE:V1k E)(hL:V5y E){s:Bs}{M:Nat}(hM:s.length+60<=M){n k i e:Nat}{st:Ve}(h:V1j E s n k=.ok (i,e,st)):Td M st :=
 Oii hE hL hM 258 _ n [] i e st (λ nd h=>by cases h) h
theorem Of2{M:Nat}{g:Vc}(hp:Td M g.nds){t d:Nat}{w:Bs}(hw:w.length<=M){a b:Nat}{s:Nat×Nat}{over:Nat->Ov}{n d':Nat}{g':Vc}(he:V1p g t d w a b s over=.ok (n,d',g')):Td M g'.nds:=by
 unfold V1p at he
 split at he;cases he
 exact J49
 split at he;cases he
 split at he;simp only[Va.ok.injEq,U19]at he;rw[<-he.2.2];exact (hp.app (O6w M 8 Yd)).put _ hw _ _
 cases he
theorem Ond{M:Nat}(s:Nat×Nat)(over:Vc->Nat->Nat->Ov):∀(ws:List KW)(t d:Nat)(g:Vc)(t' d':Nat)(g':Vc),(∀x∈ws,x.1.length<=M)->Td M g.nds->V2a s over ws t d g=.ok (t',d',g')->Td M g'.nds:=by
 intro ws
 induction ws with
 |nil=>intro t d g t' d' g' _ hp he;simp only[V2a,Va.ok.injEq,U19]at he;rw[<-he.2.2];exact hp
 |cons x rest ih =>
  intro t d g t' d' g' hw hp he;obtain⟨w,a,b⟩:=x;unfold V2a at he;cases a9:V1p g t d w a b s (over g d) with
  |non=>rw[a9]at he;cases he
  |bad c p=>rw[a9]at he;cases he
  |ok r =>
   obtain⟨n,d2,g2⟩:=r;rw[a9]at he;exact ih n d2 g2 t' d' g' (λ x hx=>hw x (U26 _ hx)) (Of2 hp (hw (w,a,b) Yb) a9) he
theorem Okv{M:Nat}{g g':Vc}(hp:Td M g.nds){k:List KW}(hw:∀x∈k,x.1.length<=M)(he:V27 g k=.ok g'):Td M g'.nds:=by
 unfold V27 at he
 split at he;cases he
 cases he
 rename_i t d g1 hy
 refine Z283 ?_;intro h1
 split at he;cases he
 rename_i w a b hl
 split at he;cases he
 cases he
 rename_i n d2 g2 hs
 simp only[Va.ok.injEq]at he;rw[<-he];show Td M g2.nds;exact Of2 h1 (hw _ (U4t hl)) hs
theorem Of3{M:Nat}{g:Vc}(hp:Td M g.nds)(i d:Nat):Td M (V42 g i d).nds:=(hp.app (O6w M 8 Yd)).mod _ _ λ nd z=>z
theorem One{M:Nat}{g g':Vc}(hp:Td M g.nds){k:List KW}(hw:∀x∈k,x.1.length<=M)(he:V3l g k=.ok g'):Td M g'.nds:=by
 unfold V3l at he
 split at he;cases he
 cases he
 rename_i t d g1 hy
 refine Z283 ?_;intro h1
 split at he;cases he
 rename_i w a b hl
 split at he;cases he
 split at he
 split at he;cases he
 split at he;simp only[Va.ok.injEq]at he;rw[<-he];exact Of3 h1 _ _
 cases he
 cases he
 split at he;cases he
 split at he;simp only[Va.ok.injEq]at he;rw[<-he];exact Of3 ((h1.app (O6w M 7 Yd)).put _ (hw _ (U4t hl)) _ _) _ _
 cases he
theorem Onf{M:Nat}{g g':Vc}(hp:Td M g.nds){k:List KW}(hw:∀x∈k,x.1.length<=M){t d:Nat}(he:V2z g k=.ok (t,d,g')):Td M g'.nds:=by
 unfold V2z at he
 split at he;cases he
 cases he
 rename_i t' d' g1 hy
 refine Z283 ?_;intro h1
 split at he;cases he
 split at he;cases he
 cases he
 simp only[Va.ok.injEq,U19]at he;rw[<-he.2.2];exact h1
section
variable {E:V19}(hE:V1k E)(hL:V5y E){s:Bs}{M:Nat}(hM:s.length+60<=M)
include hE hL hM
theorem Okw{n:Nat}{g g1:Vc}(hp:Td M g.nds){into root:Nat}{nds:Ve}(he:V2d E s n g=.ok (into,root,nds,g1)):Td M g1.nds/\Td M nds:=by
 have h0:Td M []:=λ nd h=>by cases h
 unfold V2d at he;simp only at he
 split at he;simp only[Va.ok.injEq,U19]at he;obtain⟨rfl,rfl,rfl,rfl⟩:=he;exact⟨hp,h0⟩
 generalize (if pre (s.drop (V7 s n)) [91,91] then 2 else if pre (s.drop (V7 s n)) [91] then 1 else 0)=m at he
 split at he;cases he
 cases he
 rename_i ws e hk
 have hw:∀x∈ws,x.1.length<=M:=λ x hx=>by have:=O9j hL hk x hx;omega
 split at he
 split at he;cases he
 cases he
 rename_i hm
 simp only[Va.ok.injEq,U19]at he;obtain⟨rfl,rfl,rfl,rfl⟩:=he;exact⟨One hp hw hm,h0⟩
 split at he
 split at he;cases he
 cases he
 rename_i hm
 simp only[Va.ok.injEq,U19]at he;obtain⟨rfl,rfl,rfl,rfl⟩:=he;exact⟨Okv hp hw hm,h0⟩
 split at he;cases he
 cases he
 rename_i hm
 have h1:=Onf hp hw hm
 split at he
 split at he;cases he
 cases he
 rename_i hr
 simp only[Va.ok.injEq,U19]at he;obtain⟨rfl,rfl,rfl,rfl⟩:=he;exact⟨h1,Oku hE hL hM hr⟩
 simp only[Va.ok.injEq,U19]at he;obtain⟨rfl,rfl,rfl,rfl⟩:=he;exact⟨h1,h0⟩
end
section
variable {E:V19}(hE:V1k E)(hL:V5y E){s:Bs}{M:Nat}(hM:s.length+60<=M)
include hE hL hM
theorem Ong{n e:Nat}{g g':Vc}(hp:Td M g.nds)(he:V2o E s n g=.ok (e,g')):Td M g'.nds:=by
 unfold V2o at he
 split at he;cases he
 cases he
 rename_i into root nds g1 hw
 obtain⟨h1,h2⟩:=Okw hE hL hM hp hw
 split at he;cases he
 cases he
 rename_i it hi
 split at he;simp only[Va.ok.injEq,U19]at he;rw[<-he.2];exact h1
 split at he
 rename_i hk
 obtain⟨_,_,ws,e1,q1,_,q3⟩:=Ocf hi hk
 split at he;cases he
 rename_i w a b hl
 simp only at he
 split at he
 simp only[Va.ok.injEq,U19]at he;rw[<-he.2];show Td M (Vj (g1.nds++nds.map _) into w (a,b) (root+g1.nds.length));have h3:Td M (nds.map λ nd=>{ nd with subs:=nd.subs.map (· + g1.nds.length),owner:=0 }):=by
  intro nd hn;obtain⟨x,hx,rfl⟩:=U3n.1 hn;exact h2 x hx
 refine (h1.app h3).put _ ?_ _ _;have:=O9j hL q1 _ (q3 ▸ U4t hl);simp only at this;omega
 cases he
 simp only[Va.ok.injEq,U19]at he;rw[<-he.2];exact h1
theorem Okx:∀(f n:Nat)(g G:Vc),Td M g.nds->grownF E s f n g=.ok G->Td M G.nds:=by
 intro f
 induction f with
 |zero=>intro n g G _ h;simp[grownF]at h
 |succ f ih =>
  intro n g G hp h;unfold grownF at h
  split at h
  split at h
  split at h;cases h
  cases h
  rename_i e g1 hi
  exact ih e g1 G (Ong hE hL hM hp hi) h
  cases h
  simp only[Va.ok.injEq]at h;rw[<-h];exact hp
end
theorem Onh{M:Nat}(hM:M<=1000000){nds:Ve}(h:Td M nds)(hw:WF nds)(hl:nds.length<=1000000):V5h nds=true:=by
 unfold V5h;simp only[U2h,U1g,U1x];intro nd hn;obtain⟨h1,h2,h3⟩:=h nd hn;obtain⟨i,hi⟩:=U4s hn;have h4:=hw i nd hi;have h5:=O4r _ _ h4.up h4.lt;exact⟨⟨⟨⟨Ya,Ya⟩,λ k hk=>by have:=h3 k hk;omega⟩,Ya⟩,λ u hu=>by have:=h4.lt u hu;omega⟩
theorem V5l{E:V19}(hE:V1k E)(hL:V5y E){s:Bs}(hs:s.length<=100000){G:Vc}(h:V1f E s=.ok G):Vcj s G/\V5h G.nds=true/\G.nds.length<=1000000/\∀(Q:Bs->Bs)(K:Nat),(∀l:Bs,l.length<=100060->(Q l).length<=K)->∃f t,V2e Q G.nds f 0=some t/\t.length<=200001*(2*K+30):=by
 have q:=(Og9 hE Ya).2 G h;have ht:=Okx hE hL (M:=100060) Ya _ _ _ _ (O6w 100060 8 Yd) h;have hl:=q.len;refine⟨q,Onh Ya ht q.gi.wf Ya,Ya,λ Q K hQ=>?_⟩;obtain⟨r,hr⟩:=q.gp.rk;obtain⟨t,h1⟩:=Oib (Q:=Q) hr (r 0+1) 0 Ya;refine⟨_,t,h1,?_⟩;have h0:0<G.nds.length:=by have:=q.gi.lt q.gi.root;exact this
 have h2:=Okm q.gp q.gi.wf h0 (K0:=K+21) (K1:=K) (λ i nd hn=>by
  obtain⟨a,b,c⟩:=ht nd (U2g hn);have d:=O3k (v:=(nd.kind:Int)) Ya Ya;have e:=hQ _ b;exact⟨Ya,λ k hk=>hQ k (c k hk)⟩) _ t h1
 have h3:G.nds.length*(K+21+K+2)<=200001*(K+21+K+2):=U44 _ Ya;have h4:200001*(K+21+K+2)<=200001*(2*K+30):=Nat.mul_le_mul_left _ Ya;omega
