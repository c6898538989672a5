/- The proof's part 26. -/
import Derived.Test.YtnkgknbdaiakgaaGreatDoorQ14
import Derived.Test.YtnkgknbdaiakgaaGreatDoorQ25
set_option maxHeartbeats 16000000
set_option linter.all false
namespace Go.Proofs.YtnkgknbdaiakgaaGreatDoor.Pl
def Tb(g:Vb)(i:Nat):Prop:=(Vd g i).1=1\/(Vd g i).1=2\/(Vd g i).1=3
structure GI(g:Vb):Prop where
 len:g.srt.length=g.nds.length
 wf:WF g.nds
 tab:∀i,Tb g i->∃nd,g.nds[i]?=some nd/\nd.kind=8
 lst:∀i,(Vd g i).1=4->∃nd l,g.nds[i]?=some nd/\nd.kind=7/\nd.subs.getLast?=some l/\Tb g l
 sort:∀i,(Vd g i).1<=4
 root:Tb g 0
 sec:Tb g g.sec
theorem Tb.lt{g:Vb}{i:Nat}(h:Tb g i):i<g.srt.length:=by
 by_cases hi:i<g.srt.length;exact hi
 unfold Tb Vd at h;rw[U1i,U2g Ya]at h;simp at h
theorem GI.lt{g:Vb}(h:GI g){i:Nat}(hi:Tb g i):i<g.nds.length:=by rw[<-h.len];exact hi.lt
theorem GI.g8{g:Vb}(h:GI g)(hs:g.nds.length<=20000000){i:Nat}(hi:Tb g i):V2o g i=true:=by
 obtain⟨nd,h1,h2⟩:=h.tab i hi;unfold V2o;rw[O4y h.wf hs i nd h1 h2];unfold Tb at hi;simp only[Bool.true_and,bne_iff_ne,ne_eq];omega
theorem O5r{st:Vc}(h:WF st){t:Nat}{nd:Nd}(ht:st[t]?=some nd)(hk:nd.kind=8)(w:Bs):V1a st t w=.no\/∃i,V1a st t w=.yes i/\i<st.length:=by
 have hw:=h t nd ht;unfold V1a;rw[ht];simp only;cases hf:nd.keys.findIdx? (λ x=>x==w) with
 |none=>exact .inl rfl
 |some j =>
  right;have hj:j<nd.keys.length:=by
   rw[List.findIdx?_eq_some_iff_getElem]at hf;exact hf.1
  have qH:j<nd.subs.length:=by have:=(hw.len hk).1;omega
  simp only;rw[U1e qH];have:=hw.lt _ (U43 qH);simp only;rw[U1a this];exact⟨_,rfl,this⟩
theorem O75(l:List (Nat×Nat))(s:Nat×Nat)(i:Nat):(l++[s]).getD i (0,0)=if i<l.length then l.getD i (0,0) else if i=l.length then s else (0,0):=by
 rw[U1i,U1i]
 split;rename_i h;rw[U19 h]
 split;rename_i h;subst h;simp
 rw[U1y Ya,U2g Ye];rfl
theorem getD_set(l:List (Nat×Nat))(t:Nat)(s:Nat×Nat)(i:Nat)(ht:t<l.length):(l.set t s).getD i (0,0)=if i=t then s else l.getD i (0,0):=by
 rw[U1i,U1i,U2h];by_cases h:i=t;subst h;rw[U1a rfl,U1a rfl,U1a ht];rfl
 rw[U1c (λ e=>h e.symm),U1c h]
structure GW(g:Vb)(x:Nat):Prop where
 len:g.srt.length=g.nds.length
 wf:WF g.nds
 tab:∀i,Tb g i->∃nd,g.nds[i]?=some nd/\nd.kind=8
 lst:∀i,(Vd g i).1=4->i≠x->∃nd l,g.nds[i]?=some nd/\nd.kind=7/\nd.subs.getLast?=some l/\Tb g l
 sort:∀i,(Vd g i).1<=4
 root:Tb g 0
theorem GI.gw{g:Vb}(h:GI g)(x:Nat):GW g x:=⟨h.len,h.wf,h.tab,λ i hi _=>h.lst i hi,h.sort,h.root⟩
theorem O8u(n k:Nat):Wn (n+1) n (V14 k):=⟨λ _=>⟨rfl,rfl⟩,List.Pairwise.nil,λ x hx=>by (cases hx),λ h=>absurd rfl h⟩
theorem GI.grow{g:Vb}(h:GI g){t:Nat}(ht:Tb g t)(k:Nat)(s:Nat×Nat)(w:Bs)(sp:Nat×Nat)(hs:s.1<=4)(hk:s.1=1\/s.1=2\/s.1=3->k=8):GW (V1r (V1o g k s) t w sp g.nds.length) g.nds.length/\(∀i,Tb g i->Tb (V1r (V1o g k s) t w sp g.nds.length) i)/\Vd (V1r (V1o g k s) t w sp g.nds.length) g.nds.length=s /\(∃nd,(V1r (V1o g k s) t w sp g.nds.length).nds[g.nds.length]?=some nd/\nd.kind=k/\nd.subs=[])/\(V1r (V1o g k s) t w sp g.nds.length).nds.length=g.nds.length+1:=by
 obtain⟨nt,od,yX⟩:=h.tab t ht;have a9:=h.lt ht;have bR:∀i,Vd (V1r (V1o g k s) t w sp g.nds.length) i=if i<g.nds.length then Vd g i else if i=g.nds.length then s else (0,0):=by
  intro i;show (g.srt++[s]).getD i (0,0)=_;rw[O75,h.len];rfl
 have aL:∀i,(V1r (V1o g k s) t w sp g.nds.length).nds[i]?=if t=i then g.nds[i]?.map (λ nd=>V10 nd w sp g.nds.length) else (g.nds++[V14 k])[i]?:=by
  intro i;show (Vf (g.nds++[V14 k]) t w sp g.nds.length)[i]?=_;rw[Oj]
  split;rename_i e;subst e;rw[U19 a9]
  rfl
 have jb:∀i,Tb g i->Tb (V1r (V1o g k s) t w sp g.nds.length) i:=by
  intro i hi;have:=h.lt hi;unfold Tb at hi⊢;rw[bR,U1a this];exact hi
 have cG:∀i nd,g.nds[i]?=some nd->∃nd',(V1r (V1o g k s) t w sp g.nds.length).nds[i]?=some nd'/\nd'.kind=nd.kind/\(i≠t->nd'=nd):=by
  intro i nd hi;rw[aL]
  split;rename_i e;subst e;rw[hi];exact⟨_,rfl,rfl,λ h=>absurd rfl h⟩
  rw[U19 (U14.1 hi).1];exact⟨_,hi,rfl,λ _=>rfl⟩
 have Jd:WF (V1r (V1o g k s) t w sp g.nds.length).nds:=by
  show WF (Vf (g.nds++[V14 k]) t w sp g.nds.length);have h1:=h.wf.app (V14 k) (O8u _ k);refine h1.put t _ w sp nt (by rw[U19 a9];exact od) ?_ Yb;exact λ x hx=>(h.wf t nt od).lt x hx
 have bz:(V1r (V1o g k s) t w sp g.nds.length).nds[g.nds.length]?=some (V14 k):=by
  rw[aL,U1c Ya];simp
 refine⟨⟨?_,Jd,λ i hi=>?_,λ i hi a8=>?_,λ i=>?_,jb 0 h.root⟩,jb,by rw[bR,U1c Ya,U1a rfl],⟨_,bz,rfl,rfl⟩,?_⟩;show (g.srt++[s]).length=(Vf (g.nds++[V14 k]) t w sp g.nds.length).length;unfold Vf;simp[h.len]
 unfold Tb at hi;rw[bR]at hi
 split at hi;obtain⟨nd,h1,h2⟩:=h.tab i hi;obtain⟨nd',h3,h4,_⟩:=cG i nd h1;exact⟨nd',h3,Ya⟩
 split at hi;rename_i e;subst e;exact⟨_,bz,hk hi⟩
 simp at hi
 rw[bR]at hi
 split at hi
 obtain⟨nd,l,h1,h2,h3,h4⟩:=h.lst i hi;obtain⟨nd',h5,h6,h7⟩:=cG i nd h1;have hit:i≠t:=λ e=>by (subst e;rw[od]at h1;cases h1;omega)
 rw[h7 hit]at h5;exact⟨nd,l,h5,h2,h3,jb l h4⟩
 simp only[U1c a8]at hi;simp at hi
 rw[bR]
 split;exact h.sort i
 split;exact hs
 simp
 show (Vf (g.nds++[V14 k]) t w sp g.nds.length).length=_;unfold Vf;simp
structure Sm(g g':Vb):Prop where
 sec:g'.sec=g.sec
 dep:g'.dep=g.dep
 many:g'.many=g.many
 its:g'.its=g.its
 ns:g'.ns=g.ns
 mono:∀i,Tb g i->Tb g' i
theorem Sm.refl(g:Vb):Sm g g:=⟨rfl,rfl,rfl,rfl,rfl,λ _ h=>h⟩
theorem Sm.trans{a b c:Vb}(h:Sm a b)(k:Sm b c):Sm a c:=⟨k.sec.trans h.sec,k.dep.trans h.dep,k.many.trans h.many,k.its.trans h.its,k.ns.trans h.ns,λ i hi=>k.mono i (h.mono i hi)⟩
theorem O76{g:Vb}(h:GI g)(hs:g.nds.length+1<=20000000){t:Nat}(ht:Tb g t)(d:Nat)(w:Bs)(a b:Nat)(s:Nat×Nat)(qW:s.1=1\/s.1=2\/s.1=3)(over:Nat->Ov)(ho:∀i,i<g.nds.length->over i≠.non/\∀n d',over i=.go n d'->Tb g n/\d'<=d+2):V1p g t d w a b s over≠.non/\∀n d' g',V1p g t d w a b s over=.ok (n,d',g')->GI g'/\Tb g' n/\g'.nds.length<=g.nds.length+1/\g.nds.length<=g'.nds.length/\d'<=d+2/\Sm g g':=by
 obtain⟨nt,od,yX⟩:=h.tab t ht;unfold V1p;rcases O5r h.wf od yX w with e|⟨i,e,hi⟩
 rw[e];simp only
 split;exact J155
 rw[U1a (by rw[h.g8 Ya ht,O1x Ya];rfl)];obtain⟨g1,g2,g3,g4,g5⟩:=h.grow ht 8 s w (a,b) Ya (λ _=>rfl);refine⟨Yb,λ n d' g' he=>?_⟩;simp only[V9.ok.injEq,U17]at he;obtain⟨rfl,rfl,rfl⟩:=he;have hT:Tb (V1r (V1o g 8 s) t w (a,b) g.nds.length) g.nds.length:=by unfold Tb;rw[g3];exact qW
 refine⟨⟨g1.len,g1.wf,g1.tab,λ i hi=>g1.lst i hi λ e=>?_,g1.sort,g1.root,g2 _ h.sec⟩,hT,Ya,Ya,Ya,⟨rfl,rfl,rfl,rfl,rfl,g2⟩⟩;subst e;rw[g3]at hi;omega
 rw[e];simp only;obtain⟨h1,h2⟩:=ho i hi;cases bV:over i with
 |non=>exact absurd bV h1
 |no=>exact⟨Yb,λ n d' g' h=>by simp at h⟩
 |go n d' =>
  obtain⟨h3,h4⟩:=h2 n d' bV;refine⟨Yb,λ n' M' g' he=>?_⟩;simp only[V9.ok.injEq,U17]at he;obtain⟨rfl,rfl,rfl⟩:=he;exact⟨h,h3,Ya,Ya,h4,Sm.refl g⟩
theorem O8v{g:Vb}(h:GI g)(d i:Nat):V37 g d i≠.non/\∀n d',V37 g d i=.go n d'->Tb g n/\d'<=d+2:=by
 unfold V37
 split;exact⟨Yb,λ n d' h=>by simp at h⟩
 rename_i h0
 split
 rename_i h4
 obtain⟨nd,l,h1,h2,h3,h5⟩:=h.lst i h4;rw[h1];simp only[h3];exact⟨Yb,λ n d' he=>by (simp only[Ov.go.injEq]at he;obtain⟨rfl,rfl⟩:=he;exact⟨h5,Ya⟩)⟩
 rename_i h4
 have:=h.sort i;exact⟨Yb,λ n d' he=>by (simp only[Ov.go.injEq]at he;obtain⟨rfl,rfl⟩:=he;exact⟨by unfold Tb;omega,Ya⟩)⟩
theorem O9p{g:Vb}(d i:Nat):V27 g d i≠.non/\∀n d',V27 g d i=.go n d'->Tb g n/\d'<=d+2:=by
 unfold V27
 split
 rename_i e
 exact⟨Yb,λ n d' he=>by (simp only[Ov.go.injEq]at he;obtain⟨rfl,rfl⟩:=he;exact⟨by unfold Tb;rw[e];simp,Ya⟩)⟩
 exact⟨Yb,λ n d' h=>by simp at h⟩
theorem O6b(s:Nat×Nat)(qW:s.1=1\/s.1=2\/s.1=3)(over:Vb->Nat->Nat->Ov)(ho:∀g d i,GI g->i<g.nds.length->over g d i≠.non/\∀n d',over g d i=.go n d'->Tb g n/\d'<=d+2):∀(ws:List KW)(t d:Nat)(g:Vb),GI g->Tb g t->g.nds.length+ws.length<=20000000 ->V24 s over ws t d g≠.non/\∀t' d' g',V24 s over ws t d g=.ok (t',d',g')->GI g'/\Tb g' t'/\g'.nds.length<=g.nds.length+ws.length/\g.nds.length<=g'.nds.length/\d'<=d+2*ws.length/\Sm g g':=by
 intro ws
 induction ws with
 |nil =>
  intro t d g h ht hl;refine⟨by simp[V24],λ t' d' g' he=>?_⟩;simp only[V24,V9.ok.injEq,U17]at he;obtain⟨rfl,rfl,rfl⟩:=he;exact⟨h,ht,Yb,Yb,Yb,Sm.refl g⟩
 |cons x rest ih =>
  intro t d g h ht hl;obtain⟨w,a,b⟩:=x;simp only[U1d]at hl⊢;obtain⟨s1,s2⟩:=O76 h Ya ht d w a b s qW (over g d) (λ i hi=>ho g d i h hi);unfold V24;cases aa:V1p g t d w a b s (over g d) with
  |non=>exact absurd aa s1
  |bad c p=>exact⟨Yb,λ t' d' g' he=>by simp at he⟩
  |ok r =>
   obtain⟨n,d2,g2⟩:=r;obtain⟨q1,q2,q3,q4,q5,q6⟩:=s2 _ _ _ aa;obtain⟨i1,i2⟩:=ih n d2 g2 q1 q2 Ya;refine⟨i1,λ t' d' g' he=>?_⟩;obtain⟨j1,j2,j3,j4,j5,j6⟩:=i2 t' d' g' he;exact⟨j1,j2,Ya,Ya,Ya,q6.trans j6⟩
theorem O3c{α : Type}{l:List α}(h:l≠[]):∃x,l.getLast?=some x:=by
 cases e:l.getLast? with
 |none=>exact absurd (U3z.1 e) h
 |some x=>exact⟨x,rfl⟩
structure Vdb(k:List KW)(g g':Vb):Prop where
 gi:GI g'
 le:g'.nds.length<=g.nds.length+k.length+1
 ge:g.nds.length<=g'.nds.length
 dep:g'.dep<=2*k.length+3
 many:g'.many=g.many+1
 its:g'.its=g.its
 ns:g'.ns=g.ns
theorem O9q{g:Vb}(h:GI g)(k:List KW)(hk:k≠[])(hl:g.nds.length+k.length+1<=20000000):V2f g k≠.non/\∀g',V2f g k=.ok g'->Vdb k g g':=by
 refine Z244 ?_;intro hd;obtain⟨w1,w2⟩:=O6b (2,0) (.inr (.inl rfl)) V37 (λ g d i h _=>O8v h d i) k.dropLast 0 1 g h h.root Ya;unfold V2f;cases hw:V24 (2,0) V37 k.dropLast 0 1 g with
 |non=>exact absurd hw w1
 |bad c p=>exact⟨Yb,λ g' he=>by simp at he⟩
 |ok r =>
  obtain⟨t,d,g1⟩:=r;obtain⟨q1,q2,q3,q4,q5,q6⟩:=w2 _ _ _ hw;obtain⟨⟨w,a,b⟩,dn⟩:=O3c hk;simp only[dn];obtain⟨s1,s2⟩:=O76 q1 Ya q2 d w a b (1,0) (.inl rfl) (λ i=>if (Vd g1 i).1=2 then .go i (d+1) else .no) (λ i hi=>by
   split;rename_i e;exact⟨Yb,λ n d' he=>by (simp only[Ov.go.injEq]at he;obtain⟨rfl,rfl⟩:=he;exact⟨.inr (.inl e),Ya⟩)⟩
   exact⟨Yb,λ n d' he=>by simp at he⟩)
  cases aa:V1p g1 t d w a b (1,0) (λ i=>if (Vd g1 i).1=2 then .go i (d+1) else .no) with
  |non=>exact absurd aa s1
  |bad c p=>exact⟨Yb,λ g' he=>by simp at he⟩
  |ok r =>
   obtain⟨n,d2,g2⟩:=r;obtain⟨r1,r2,r3,r4,r5,r6⟩:=s2 _ _ _ aa;refine⟨Yb,λ g' he=>?_⟩;simp only[V9.ok.injEq]at he;subst he;have bR:∀i,Vd { g2 with srt:=g2.srt.set n (1,0),sec:=n,dep:=d2,many:=g2.many+1 } i=if i=n then (1,0) else Vd g2 i:=by
    intro i;show (g2.srt.set n (1,0)).getD i (0,0)=_;rw[getD_set _ _ _ _ r2.lt];rfl
   have hT:∀i,Tb { g2 with srt:=g2.srt.set n (1,0),sec:=n,dep:=d2,many:=g2.many+1 } i ↔ Tb g2 i:=by
    intro i;unfold Tb;rw[bR]
    split;rename_i e;subst e;unfold Tb at r2;simp only[true_or,true_iff];exact r2
    rfl
   refine⟨⟨by simp[r1.len],r1.wf,λ i hi=>r1.tab i ((hT i).1 hi),λ i hi=>?_,λ i=>?_,(hT 0).2 r1.root,(hT n).2 r2⟩,Yj,Yj,Yj,?_,r6.its.trans q6.its,r6.ns.trans q6.ns⟩
   rw[bR]at hi
   split at hi;simp at hi
   obtain⟨nd,l,h1,h2,h3,h4⟩:=r1.lst i hi;exact⟨nd,l,h1,h2,h3,(hT l).2 h4⟩
   rw[bR]
   split;simp
   exact r1.sort i
   show g2.many+1=g.many+1;rw[r6.many,q6.many]
theorem WF.mod7{st:Vc}(h:WF st)(t i:Nat)(nd:Nd)(ht:st[t]?=some nd)(hk:nd.kind≠8)(hi:∀x∈nd.subs,x<i)(hl:i<st.length):WF (st.modify t λ nd=>{ nd with subs:=nd.subs++[i] }):=by
 intro j x hx;rw[Of]at hx;rw[U2i]
 split at hx
 rename_i e
 subst e;rw[ht]at hx;simp only[U25,U1f]at hx;subst hx;have h0:=h t nd ht;refine⟨λ ed=>absurd ed hk,?_,?_,h0.own⟩;exact J164
 exact J190
 exact h j x hx
theorem Obl{g:Vb}{x:Nat}(h:GW g x){nd:Nd}(hx:g.nds[x]?=some nd)(hk:nd.kind=7)(UJ:(Vd g x).1=4)(d:Nat):GI (V31 g x d)/\(V31 g x d).nds.length=g.nds.length+1/\(V31 g x d).dep=d+2/\(V31 g x d).many=g.many+1/\(V31 g x d).its=g.its/\(V31 g x d).ns=g.ns:=by
 have wD:=(U14.1 hx).1;have bR:∀i,Vd (V31 g x d) i=if i<g.nds.length then Vd g i else if i=g.nds.length then (1,0) else (0,0):=by
  intro i;show (g.srt++[(1,0)]).getD i (0,0)=_;rw[O75,h.len];rfl
 have aL:∀i,(V31 g x d).nds[i]?=if x=i then (g.nds++[V14 8])[i]?.map (λ nd=>{ nd with subs:=nd.subs++[g.nds.length] }) else (g.nds++[V14 8])[i]?:=by
  intro i;show ((g.nds++[V14 8]).modify x _)[i]?=_;rw[Of]
 have vz:∀i,Tb g i->i<g.nds.length:=λ i hi=>by rw[<-h.len];exact hi.lt
 have jb:∀i,Tb g i->Tb (V31 g x d) i:=by
  intro i hi;have:=vz i hi;unfold Tb at hi⊢;rw[bR,U1a this];exact hi
 have bz:(V31 g x d).nds[g.nds.length]?=some (V14 8):=by
  rw[aL,U1c Ya];simp
 have mp:Tb (V31 g x d) g.nds.length:=by unfold Tb;rw[bR,U1c Ya,U1a rfl];exact .inl rfl
 have cG:∀i nd',i≠x->g.nds[i]?=some nd'->(V31 g x d).nds[i]?=some nd':=by
  intro i nd' hi hg;rw[aL,U1c (λ e=>hi e.symm),U19 (U14.1 hg).1];exact hg
 have ap:(V31 g x d).nds.length=g.nds.length+1:=by
  show ((g.nds++[V14 8]).modify x _).length=_;simp
 refine⟨⟨?_,?_,λ i hi=>?_,λ i hi=>?_,λ i=>?_,jb 0 h.root,mp⟩,ap,rfl,rfl,rfl,rfl⟩;rw[ap];show (g.srt++[(1,0)]).length=_;simp[h.len];show WF ((g.nds++[V14 8]).modify x _);exact (h.wf.app (V14 8) (O8u _ 8)).mod7 x _ nd (by rw[U19 wD];exact hx) Ya (λ y hy=>(h.wf x nd hx).lt y hy) Yb
 unfold Tb at hi;rw[bR]at hi
 split at hi
 obtain⟨nd',h1,h2⟩:=h.tab i hi;have CM:i≠x:=λ e=>by (subst e;rw[hx]at h1;cases h1;omega)
 exact⟨nd',cG i nd' CM h1,h2⟩
 split at hi;rename_i e;subst e;exact⟨_,bz,rfl⟩
 simp at hi
 rw[bR]at hi
 split at hi
 by_cases CM:i=x;subst CM;refine⟨{ nd with subs:=nd.subs++[g.nds.length] },g.nds.length,?_,hk,Yb,mp⟩;rw[aL,U1a rfl,U19 wD,hx];rfl
 obtain⟨nd',l,h1,h2,h3,h4⟩:=h.lst i hi CM;exact⟨nd',l,cG i nd' CM h1,h2,h3,jb l h4⟩
 split at hi;simp at hi
 simp at hi
 rw[bR]
 split;exact h.sort i
 split;simp
 simp
theorem Om7{g:Vb}{x:Nat}(h:GW g x)(hs:g.nds.length<=20000000){i:Nat}{nd:Nd}(hi:g.nds[i]?=some nd):subsOk g i=true:=by
 have h0:=h.wf i nd hi;have h1:=O4g _ _ h0.up h0.lt;unfold subsOk;rw[hi];simp only[U1x];omega
theorem Obm{g:Vb}(h:GI g)(k:List KW)(hk:k≠[])(hl:g.nds.length+k.length+2<=20000000):V2v g k≠.non/\∀g',V2v g k=.ok g'->Vdb k g g':=by
 refine Z244 ?_;intro hd;obtain⟨w1,w2⟩:=O6b (2,0) (.inr (.inl rfl)) V37 (λ g d i h _=>O8v h d i) k.dropLast 0 1 g h h.root Ya;unfold V2v;cases hw:V24 (2,0) V37 k.dropLast 0 1 g with
 |non=>exact absurd hw w1
 |bad c p=>exact⟨Yb,λ g' he=>by simp at he⟩
 |ok r =>
  obtain⟨t,d,g1⟩:=r;obtain⟨q1,q2,q3,q4,q5,q6⟩:=w2 _ _ _ hw;obtain⟨⟨w,a,b⟩,dn⟩:=O3c hk;simp only[dn];obtain⟨nt,od,yX⟩:=q1.tab t q2;rcases O5r q1.wf od yX w with e|⟨i,e,hi⟩
  rw[e];simp only
  split;exact⟨Yb,λ g' he=>by simp at he⟩
  rw[U1a (by rw[q1.g8 Ya q2,O1x Ya];rfl)];obtain⟨u1,u2,u3,⟨nd,u4,u5,_⟩,u6⟩:=q1.grow q2 7 (4,0) w (a,b) Yb (λ h=>by simp at h);obtain⟨v1,v2,v3,v4,v5,v6⟩:=Obl u1 u4 u5 (by rw[u3]) d;refine⟨Yb,λ g' he=>?_⟩;simp only[V9.ok.injEq]at he;subst he;exact⟨v1,by rw[v2,u6];omega,by rw[v2,u6];omega,by rw[v3];omega,by (rw[v4];show g1.many+1=_;rw[q6.many]),by (rw[v5];exact q6.its),by (rw[v6];exact q6.ns)⟩
  rw[e];simp only
  split
  rename_i h4
  obtain⟨nd,l,h1,h2,h3,h5⟩:=q1.lst i h4
  split;exact⟨Yb,λ g' he=>by simp at he⟩
  rw[U1a (by rw[Om7 (q1.gw 0) Ya h1,O1x Ya];rfl)];obtain⟨v1,v2,v3,v4,v5,v6⟩:=Obl (q1.gw i) h1 h2 h4 d;refine⟨Yb,λ g' he=>?_⟩;simp only[V9.ok.injEq]at he;subst he;exact⟨v1,by rw[v2];omega,by rw[v2];omega,by rw[v3];omega,by rw[v4,q6.many],by rw[v5];exact q6.its,by rw[v6];exact q6.ns⟩
  exact⟨Yb,λ g' he=>by simp at he⟩
theorem Obn{g:Vb}(h:GI g)(k:List KW)(hk:k≠[])(hl:g.nds.length+k.length<=20000000):V2w g k≠.non/\∀t d g',V2w g k=.ok (t,d,g')->GI g'/\Tb g' t/\g'.nds.length+1<=g.nds.length+k.length/\g.nds.length<=g'.nds.length/\d<=g.dep+2*k.length/\Sm g g'/\∃w a b,k.getLast?=some (w,a,b)/\V1a g'.nds t w=.no:=by
 refine Z244 ?_;intro hd;obtain⟨w1,w2⟩:=O6b (3,g.many) (.inr (.inr rfl)) V27 (λ g d i _ _=>O9p d i) k.dropLast g.sec g.dep g h h.sec Ya;unfold V2w;cases hw:V24 (3,g.many) V27 k.dropLast g.sec g.dep g with
 |non=>exact absurd hw w1
 |bad c p=>exact⟨Yb,λ t d g' he=>by simp at he⟩
 |ok r =>
  obtain⟨t,d,g1⟩:=r;obtain⟨q1,q2,q3,q4,q5,q6⟩:=w2 _ _ _ hw;obtain⟨⟨w,a,b⟩,dn⟩:=O3c hk;simp only[dn];obtain⟨nt,od,yX⟩:=q1.tab t q2;rcases O5r q1.wf od yX w with e|⟨i,e,hi⟩
  rw[e];refine⟨Yb,λ t' d' g' he=>?_⟩;simp only[V9.ok.injEq,U17]at he;obtain⟨rfl,rfl,rfl⟩:=he;exact⟨q1,q2,Ya,q4,Ya,q6,w,a,b,rfl,e⟩
  rw[e];exact J155
theorem GI.graft{g:Vb}(h:GI g){nds:Vc}(hw:WF nds){root:Nat}(hr:root<nds.length){into:Nat}(hi:Tb g into)(w:Bs)(sp:Nat×Nat)(its:List It)(ns:List Int):GI { V1r (V12 g nds) into w sp (root+g.nds.length) with its:=its,ns:=ns }/\(V1r (V12 g nds) into w sp (root+g.nds.length)).nds.length=g.nds.length+nds.length:=by
 obtain⟨nt,od,yX⟩:=h.tab into hi;have a9:=h.lt hi;have bR:∀i,Vd { V1r (V12 g nds) into w sp (root+g.nds.length) with its:=its,ns:=ns } i=if i<g.nds.length then Vd g i else (0,0):=by
  intro i;show (g.srt++nds.map λ _=>(0,0)).getD i (0,0)=if i<g.nds.length then g.srt.getD i (0,0) else (0,0)
  rw[U1i,U1i]
  split
  ·rw[U19 (by rw[h.len];assumption)]
  rw[U1y (by rw[h.len];omega),U1m];cases nds[i-g.srt.length]? <;> rfl
 have ap:(V1r (V12 g nds) into w sp (root+g.nds.length)).nds.length=g.nds.length+nds.length:=by
  show (Vf (g.nds++nds.map _) into w sp (root+g.nds.length)).length=_;unfold Vf;simp
 have hT:∀i,Tb { V1r (V12 g nds) into w sp (root+g.nds.length) with its:=its,ns:=ns } i ↔ Tb g i:=by
  intro i;unfold Tb;rw[bR]
  split;rfl
  rename_i hn
  constructor;intro h;simp at h
  intro h';exact absurd (h.lt h') hn
 have jP:WF (g.nds++nds.map λ nd=>{ nd with subs:=nd.subs.map (· + g.nds.length),owner:=0 }):=by
  intro i x hx;rw[U1b,U1j];by_cases hi:i<g.nds.length;rw[U19 hi]at hx;exact (h.wf i x hx).mono Ya
  rw[U1y Ya,U1m]at hx;cases hy:nds[i-g.nds.length]? with
  |none=>rw[hy]at hx;cases hx
  |some y =>
   rw[hy]at hx;simp only[U25,U1f]at hx;subst hx;have h0:=hw _ y hy;refine⟨λ hk=>?_,?_,?_,λ h=>absurd rfl h⟩;have:=h0.len hk;simp only[U1j];exact this;show (y.subs.map (· + g.nds.length)).Pairwise (· < ·);rw[List.pairwise_map];exact h0.up.imp λ h=>by omega
   intro z hz;obtain⟨u,hu,rfl⟩:=U3k.1 hz;have:=h0.lt u hu;omega
 have aL:∀i nd,g.nds[i]?=some nd->∃nd',(Vf (g.nds++nds.map λ nd=>{ nd with subs:=nd.subs.map (· + g.nds.length),owner:=0 }) into w sp (root+g.nds.length))[i]?=some nd'/\nd'.kind=nd.kind/\(i≠into->nd'=nd):=by
  intro i nd ie;rw[Oj,U19 (U14.1 ie).1,ie]
  split;rename_i e;exact⟨_,rfl,rfl,λ h=>absurd e.symm h⟩
  exact⟨_,rfl,rfl,λ _=>rfl⟩
 refine⟨⟨?_,?_,λ i ie=>?_,λ i ie=>?_,λ i=>?_,(hT 0).2 h.root,(hT _).2 h.sec⟩,ap⟩;rw[ap];show (g.srt++nds.map λ _=>(0,0)).length=_;simp[h.len];show WF (Vf _ into w sp (root+g.nds.length));refine jP.put into _ w sp nt (by rw[U19 a9];exact od) (λ x hx=>?_) Ye;have:=(h.wf into nt od).lt x hx;omega;obtain⟨nd,h1,h2⟩:=h.tab i ((hT i).1 ie);obtain⟨nd',h3,h4,_⟩:=aL i nd h1;exact⟨nd',h3,Ya⟩
 rw[bR]at ie
 split at ie
 obtain⟨nd,l,h1,h2,h3,h4⟩:=h.lst i ie;obtain⟨nd',h5,h6,h7⟩:=aL i nd h1;have hit:i≠into:=λ e=>by (subst e;rw[od]at h1;cases h1;omega)
 rw[h7 hit]at h5;exact⟨nd,l,h5,h2,h3,(hT l).2 h4⟩
 simp at ie
 rw[bR]
 split;exact h.sort i
 simp
theorem Obo{E:Vv}{s:Bs}{n e:Nat}{it:It}(h:V3l E s n=.ok (e,it)):(pre (s.drop n) [91,91]=true/\it.kind=3)\/(pre (s.drop n) [91,91]=false/\pre (s.drop n) [91]=true/\it.kind=2)\/(pre (s.drop n) [91]=false/\V1c (s.drop n)=true/\it.kind=0) \/(pre (s.drop n) [91,91]=false/\pre (s.drop n) [91]=false/\V1c (s.drop n)=false/\it.kind=1/\∃ws e1,V1q E s n=.ok (ws,e1)/\Va s (V7 s e1)=61/\it.ws=ws/\isF s (V7 s e1) [61]=.ok (V7 s e1+1)):=by
 unfold V3l at h
 split at h
 rename_i h2
 refine .inl ⟨h2,?_⟩;exact J50
 rename_i h2
 split at h
 rename_i h1
 refine .inr (.inl ⟨by simpa using h2,h1,?_⟩);exact J50
 rename_i h1
 split at h
 rename_i hb
 cases h;exact .inr (.inr (.inl ⟨by simpa using h1,hb,rfl⟩))
 rename_i hb
 refine .inr (.inr (.inr ⟨by simpa using h2,by simpa using h1,by simpa using hb,?_⟩));unfold V55 at h;cases hk:V1q E s n with
 |non=>rw[hk]at h;cases h
 |bad c p=>rw[hk]at h;cases h
 |ok r =>
  obtain⟨ws,e1⟩:=r;rw[hk]at h;simp only at h;cases hi:isF s (V7 s e1) [61] with
  |bad c p=>rw[hi]at h;cases h
  |ok m =>
   rw[hi]at h;simp only at h;refine Z255 ?_;intro hm
   split at h;cases h
   cases h
   cases h;exact⟨rfl,ws,e1,rfl,by unfold Va;rw[hm.1];rfl,rfl,by rw[hi,hm.2]⟩
theorem Obp{l:Bs}(h:pre l [91,91]=true):pre l [91]=true/\V1c l=false:=by
 match l with
 |[]=>simp[pre]at h
 |c::r =>
  simp only[pre,U1h,U2z]at h⊢;have:=h.1;subst this;exact⟨Yb,rfl⟩
theorem O2j(s:Bs)(n:Nat):V7 s (V7 s n)=V7 s n:=by
 have key:∀l:Bs,blanks (l.drop (blanks l))=0:=by
  intro l
  induction l with
  |nil=>rfl
  |cons c r ih =>
   unfold blanks at ih⊢;rw[U1p]
   split;simpa using ih
   rename_i h
   rw[U1q,U2b,U1p,U1c h];rfl
 unfold V7;rw[<-U2j,key];rfl
structure Vgz(E:Vv)(s:Bs)(n:Nat)(g:Vb)(into root:Nat)(nds:Vc)(g1:Vb):Prop where
 gi:GI g1
 le:g1.nds.length<=g.nds.length+s.length+1
 ge:g.nds.length<=g1.nds.length
 its:g1.its=g.its
 ns:g1.ns=g.ns
 many:g1.many<=g.many+1
 dep:g1.dep<=g.dep\/g1.dep<=2*s.length+3
 pair:pre (s.drop (V7 s n)) [91]=false->V1c (s.drop (V7 s n))=false->Tb g1 into/\∀ws e,V1q E s (V7 s n)=.ok (ws,e)->Va s (V7 s e)=61->WF nds/\root<nds.length/\nds.length<=s.length
theorem O5s{E:Vv}(hE:V11 E){s:Bs}(hs:s.length<=2000000){n:Nat}(hn:n<=s.length){g:Vb}(h:GI g)(hl:g.nds.length+s.length+2<=20000000):V2n E s n g≠.non/\∀into root nds g1,V2n E s n g=.ok (into,root,nds,g1)->Vgz E s n g into root nds g1:=by
 have hb:=V8 s n hn;unfold V2n;simp only
 split
 rename_i bv
 refine⟨Yb,λ into root nds g1 he=>?_⟩;simp only[V9.ok.injEq,U17]at he;obtain⟨rfl,rfl,rfl,rfl⟩:=he;exact⟨h,Ya,U12 _,rfl,rfl,Ya,.inl (U12 _),λ _ h=>by rw[bv]at h;cases h⟩
 rename_i bv
 generalize hm:(if pre (s.drop (V7 s n)) [91,91] then 2 else if pre (s.drop (V7 s n)) [91] then 1 else 0)=m;have i9:V7 s n+m<=s.length/\(m=0->pre (s.drop (V7 s n)) [91]=false)/\(m≠0->pre (s.drop (V7 s n)) [91]=true):=by
  rw[<-hm]
  split
  rename_i h2
  have:=V1i _ _ h2;rw[U16]at this;simp only[U1d,U1q]at this;exact⟨Ya,Yb,λ _=>(Obp h2).1⟩
  split
  rename_i h1
  have:=V1i _ _ h1;rw[U16]at this;simp only[U1d,U1q]at this;exact⟨Ya,Yb,λ _=>h1⟩
  rename_i h1
  exact⟨Ya,λ _=>by simpa using h1,Yb⟩
 have aA:=V8 s (V7 s n+m) i9.1;obtain⟨k1,k2,k3⟩:=O15 hE (s:=s) aA.2;cases hk:V1q E s (V7 s (V7 s n+m)) with
 |non=>exact absurd hk k3
 |bad c p=>exact⟨Yb,λ into root nds g1 he=>by simp at he⟩
 |ok r =>
  obtain⟨ws,e⟩:=r;obtain⟨e1,e2,e3,e4,e5⟩:=k1 _ _ hk;have eT:=O3q hE (s.length+2) _ [] ws e aA.2 hk;simp only[U1q,U1v]at eT;simp only
  split
  rename_i jM
  obtain⟨t1,t2⟩:=Obm h ws e3 Ya;cases ht:V2v g ws with
  |non=>exact absurd ht t1
  |bad c p=>exact⟨Yb,λ into root nds g1 he=>by simp at he⟩
  |ok g1 =>
   exact J145
  split
  rename_i jS
  obtain⟨t1,t2⟩:=O9q h ws e3 Ya;cases ht:V2f g ws with
  |non=>exact absurd ht t1
  |bad c p=>exact⟨Yb,λ into root nds g1 he=>by simp at he⟩
  |ok g1 =>
   exact J145
  rename_i jM jS
  obtain⟨t1,t2⟩:=Obn h ws e3 Ya;cases ht:V2w g ws with
  |non=>exact absurd ht t1
  |bad c p=>exact⟨Yb,λ into root nds g1 he=>by simp at he⟩
  |ok r =>
   obtain⟨t,d,g1⟩:=r;obtain⟨q1,q2,q3,q4,q5,q6,_⟩:=t2 _ _ _ ht;have aV:=V8 s e e2;have Je:m=0:=by
    have:m=0\/m=1\/m=2:=by
     rw[<-hm];split;simp
     split <;> simp
    omega
   subst Je;simp only
   split
   rename_i dS
   refine Z238 ?_;intro a9 dE;obtain⟨r1,r2,r3⟩:=O1q hE s Ya (V7 s (V7 s e+1)) d dE.2;cases hr:V1g E s (V7 s (V7 s e+1)) d with
   |non=>exact absurd hr r1
   |bad c p=>exact⟨Yb,λ into root nds g1 he=>by simp at he⟩
   |ok v =>
    obtain⟨root,ve,nds⟩:=v;obtain⟨v1,v2,v3⟩:=r3 _ _ _ hr;refine⟨Yb,λ into cC yY iy he=>?_⟩;simp only[V9.ok.injEq,U17]at he;obtain⟨rfl,rfl,rfl,rfl⟩:=he;exact⟨q1,Ya,q4,q6.its,q6.ns,by rw[q6.many];omega,.inl (by rw[q6.dep];exact U12 _),λ _ _=>⟨q2,λ _ _ _ _=>⟨v3.wf,v3.hi,by have:=v3.len;omega⟩⟩⟩
   rename_i dS
   refine⟨Yb,λ into cC yY iy he=>?_⟩;simp only[V9.ok.injEq,U17]at he;obtain⟨rfl,rfl,rfl,rfl⟩:=he;refine⟨q1,Ya,q4,q6.its,q6.ns,by rw[q6.many];omega,.inl (by rw[q6.dep];exact U12 _),λ _ _=>⟨q2,λ CN e' ed h'=>?_⟩⟩;rw[Nat.add_zero,O2j]at hk;rw[hk]at ed;simp only[V9.ok.injEq,U17]at ed;obtain⟨rfl,rfl⟩:=ed;exact absurd h' dS
theorem O77{E:Vv}{s:Bs}{n:Nat}{it:It}(h:V3v E s n=.ok it)(hk:it.kind=1):pre (s.drop (V7 s n)) [91]=false/\V1c (s.drop (V7 s n))=false/\∃ws e,V1q E s (V7 s n)=.ok (ws,e)/\Va s (V7 s e)=61/\it.ws=ws:=by
 unfold V3v at h;cases hb:V3l E s (V7 s n) with
 |non=>rw[hb]at h;cases h
 |bad c p=>rw[hb]at h;cases h
 |ok r =>
  obtain⟨e,wE⟩:=r;rw[hb]at h;simp only at h;cases hc:V25 s e with
  |bad c p=>rw[hc]at h;cases h
  |ok m =>
   rw[hc]at h;simp only[V9.ok.injEq]at h;subst h;simp only at hk;rcases Obo hb with⟨_,q⟩|⟨_,_,q⟩|⟨_,_,q⟩|⟨_,h1,h2,_,ws,e1,q1,q2,q3,_⟩
   omega;omega;omega
   exact⟨h1,h2,ws,e1,q1,q2,q3⟩
structure ItG(s:Bs)(n:Nat)(g:Vb)(e:Nat)(g':Vb):Prop where
 gi:GI g'
 lt:n<e
 le:e<=s.length
 len:g'.nds.length<=g.nds.length+2*s.length+1
 ge:g.nds.length<=g'.nds.length
 its:g'.its.length=g.its.length+1
 ns:g'.ns.length=g.ns.length+1
 many:g'.many<=g.many+1
 dep:g'.dep<=g.dep\/g'.dep<=2*s.length+3
theorem GI.more{g:Vb}(h:GI g)(its:List It)(ns:List Int):GI { g with its:=its,ns:=ns }:=⟨h.len,h.wf,h.tab,h.lst,h.sort,h.root,h.sec⟩
theorem Ogy{nds:Vc}(h:WF nds)(hl:nds.length<=20000000){root:Nat}(hr:root<nds.length):V5c nds root=true:=by
 unfold V5c;simp only[U1h,U1x,U2k];refine⟨Ya,λ nd aL=>?_⟩;obtain⟨i,hi⟩:=U3n aL;have h0:=h i nd hi;have h1:=O4g _ _ h0.up h0.lt;exact⟨Ya,λ u hu=>by have:=h0.lt u hu;omega⟩
theorem Obq{E:Vv}(hE:V11 E){s:Bs}(hs:s.length<=2000000){n:Nat}(hn:n<s.length){g:Vb}(h:GI g)(hl:g.nds.length+2*s.length+2<=20000000):V32 E s n g≠.non/\∀e g',V32 E s n g=.ok (e,g')->ItG s n g e g':=by
 obtain⟨w1,w2⟩:=O5s hE hs (n:=n) Ya h Ya;unfold V32;cases hw:V2n E s n g with
 |non=>exact absurd hw w1
 |bad c p=>exact⟨Yb,λ e g' he=>by simp at he⟩
 |ok r =>
  obtain⟨into,root,nds,g1⟩:=r;have q:=w2 _ _ _ _ hw;obtain⟨i1,i2,i3⟩:=O74 hE s Ya n hn;simp only;cases hi:V3v E s n with
  |non=>exact absurd hi i1
  |bad c p=>exact⟨Yb,λ e g' he=>by simp at he⟩
  |ok it =>
   have k:=i3 it hi;have ql:=q.le;have qg:=q.ge;simp only
   split;exact J157
   split
   rename_i bB
   obtain⟨p1,p2,ws,e,p3,p4,p5⟩:=O77 hi bB;obtain⟨q2,q3⟩:=q.pair p1 p2;obtain⟨q4,q5,q6⟩:=q3 ws e p3 p4;obtain⟨⟨w,a,b⟩,dn⟩:=O3c (k.ws Ya);rw[dn];simp only;obtain⟨g4,g5⟩:=q.gi.graft q4 q5 q2 w (a,b) ((V12 g1 nds).its++[it]) ((V12 g1 nds).ns++[((root+g1.nds.length:Nat):Int)]);have en:(V12 g1 nds).nds.length=g1.nds.length+nds.length:=by show (g1.nds++nds.map _).length=_;simp
   have lc:V2o (V12 g1 nds) into=true:=by
    obtain⟨nd,t1,t2⟩:=q.gi.tab into q2;have t3:=q.gi.lt q2;have t4:=q.gi.wf into nd t1;have t5:=O4g _ _ t4.up t4.lt;have t6:=t4.len t2;have bR:Vd (V12 g1 nds) into=Vd g1 into:=by
     show (g1.srt++nds.map λ _=>(0,0)).getD into (0,0)=g1.srt.getD into (0,0);rw[U1i,U1i,U19 (by rw[q.gi.len];exact t3)]
    have aL:(V12 g1 nds).nds[into]?=some nd:=by
     show (g1.nds++nds.map _)[into]?=_;rw[U19 t3];exact t1
    unfold V2o kind8;rw[bR,aL,en];unfold Tb at q2;simp only[U1h,U1x,U2z,bne_iff_ne,ne_eq];omega
   rw[U1a (by rw[Ogy q4 Ya q5,lc,O1x (by rw[en];omega)];rfl)];refine⟨Yb,λ e' g' he=>?_⟩;simp only[V9.ok.injEq,U17]at he;obtain⟨rfl,rfl⟩:=he;exact⟨g4,k.lt,k.le,by rw[g5];omega,by rw[g5];omega,by simp[V12,q.its],by simp[V12,q.ns],q.many,q.dep⟩
   exact J157
theorem Omg(table:Nat):∀(ws:List KW)(into d d0:Nat)(st:Vc)(am d':Nat)(st':Vc),d0<=d->V3d table ws into d st=.ok (am,d',st')->∃d1,d1<=d'/\V3d table ws into d0 st=.ok (am,d1,st'):=by
 intro ws
 induction ws with
 |nil=>intro into d d0 st am d' st' _ h;simp[V3d]at h
 |cons x rest ih =>
  intro into d d0 st am d' st' hd h;obtain⟨w,a,b⟩:=x;unfold V3d at h⊢;cases hs:V1a st into w with
  |non=>rw[hs]at h;cases h
  |yes i =>
   rw[hs]at h;simp only at h⊢;cases rest with
   |nil=>cases h
   |cons y rest =>
    simp only at h⊢
    split at h
    rename_i ho
    rw[U1a ho];exact ih i (d+1) (d0+1) st am d' st' Ya h
    cases h
  |no =>
   rw[hs]at h;simp only at h⊢;cases rest with
   |nil =>
    simp only[V9.ok.injEq,U17]at h;obtain⟨rfl,rfl,rfl⟩:=h;exact⟨d0,hd,rfl⟩
   |cons y rest =>
    simp only at h⊢
    split at h;cases h
    rename_i N0
    rw[U1c Ya]
    split at h
    rename_i hk
    rw[U1a hk];exact ih _ (d+1) (d0+1) _ am d' st' Ya h
    cases h
def V8z(V:V1n):Prop:=∀d d0 n st r,d0<=d->V d n st=.ok r->V d0 n st=.ok r
theorem Oh4{E:Vv}{V:V1n}(hV:V8z V)(s:Bs)(table n d d0:Nat)(st:Vc)(r:Nat×Vc)(hd:d0<=d)(h:V1l E V s table n d st=.ok r):V1l E V s table n d0 st=.ok r:=by
 unfold V1l at h⊢;cases hk:V1q E s n with
 |non=>rw[hk]at h;cases h
 |bad c p=>rw[hk]at h;cases h
 |ok q =>
  obtain⟨ws,e⟩:=q;rw[hk]at h;simp only at h⊢;cases hw:V3d table ws table d st with
  |non=>rw[hw]at h;cases h
  |bad c p=>rw[hw]at h;cases h
  |ok q =>
   obtain⟨into,d',st'⟩:=q;obtain⟨d1,h1,h2⟩:=Omg table ws table d d0 st into d' st' hd hw;rw[hw]at h;rw[h2];simp only at h⊢
   split at h
   rename_i dS
   rw[U1a dS];cases hv:V (d'+1) (V7 s (V7 s e+1)) st' with
   |non=>rw[hv]at h;cases h
   |bad c p=>rw[hv]at h;cases h
   |ok q =>
    rw[hv]at h;rw[hV (d'+1) (d1+1) _ _ _ Ya hv];exact h
   cases h
theorem Ojl{E:Vv}{V:V1n}(hV:V8z V)(s:Bs)(table d d0:Nat)(hd:d0<=d):∀(f n:Nat)(st:Vc)(r:Nat×Vc),V29 E V s table d f n st=.ok r->V29 E V s table d0 f n st=.ok r:=by
 intro f
 induction f with
 |zero=>intro n st r h;simp[V29]at h
 |succ f ih =>
  intro n st r h;unfold V29 at h⊢;cases hp:V1l E V s table n d st with
  |non=>rw[hp]at h;cases h
  |bad c p=>rw[hp]at h;cases h
  |ok q =>
   obtain⟨e,st1⟩:=q;rw[hp]at h;rw[Oh4 hV s table n d d0 st _ hd hp];simp only at h⊢
   split at h;rename_i h1;rw[U1a h1];exact h
   rename_i h1
   rw[U1c h1]
   split at h;rename_i h2;rw[U1a h2];exact ih _ _ _ h
   cases h
theorem Of8{E:Vv}{V:V1n}(hV:V8z V)(s:Bs)(d d0 n:Nat)(st:Vc)(r:Nat×Nat×Vc)(hd:d0<=d)(h:V1h E V s d n st=.ok r):V1h E V s d0 n st=.ok r:=by
 unfold V1h at h⊢
 split at h;cases h
 rw[U1c Ya]
 split at h
 rename_i hr
 rw[U1a hr];simp only at h⊢
 split at h;cases h
 cases h
 rename_i e1 st1 hx
 have:(if Va s (V7 s (n+1))=125 then .ok (V7 s (n+1),st++[V16]) else V29 E V s st.length d0 (s.length+2) (V7 s (n+1)) (st++[V16]):V9 (Nat×Vc))=.ok (e1,st1):=by
  split at hx;rename_i h1;rw[U1a h1];exact hx
  rename_i h1;rw[U1c h1];exact Ojl hV s _ d d0 hd _ _ _ _ hx
 rw[this];exact h
 cases h
theorem Oh5{V:V1n}(hV:V8z V)(s:Bs)(d d0:Nat)(hd:d0<=d):∀(f n:Nat)(subs:List Nat)(st:Vc)(r:List Nat×Nat×Vc),V1f V s d f n subs st=.ok r->V1f V s d0 f n subs st=.ok r:=by
 intro f
 induction f with
 |zero=>intro n subs st r h;simp[V1f]at h
 |succ f ih =>
  intro n subs st r h;unfold V1f at h⊢
  split at h;rename_i h1;rw[U1a h1];exact h
  rename_i h1
  rw[U1c h1];cases hv:V (d+1) n st with
  |non=>rw[hv]at h;cases h
  |bad c p=>rw[hv]at h;cases h
  |ok q =>
   obtain⟨i,e,st1⟩:=q;rw[hv]at h;rw[hV (d+1) (d0+1) _ _ _ Ya hv];simp only at h⊢
   split at h;cases h
   rename_i h2
   rw[U1c h2];cases hg:Vt s e with
   |bad c p=>rw[hg]at h;cases h
   |ok g =>
    rw[hg]at h;simp only at h⊢
    split at h;rename_i h3;rw[U1a h3];exact h
    rename_i h3
    rw[U1c h3]
    split at h
    rename_i h4
    rw[U1a h4];cases cb:Vt s (g+1) with
    |bad c p=>rw[cb]at h;cases h
    |ok g2=>rw[cb]at h;exact ih _ _ _ _ h
    cases h
theorem Oh6{V:V1n}(hV:V8z V)(s:Bs)(d d0 n:Nat)(st:Vc)(r:Nat×Nat×Vc)(hd:d0<=d)(h:V2a V s d n st=.ok r):V2a V s d0 n st=.ok r:=by
 unfold V2a at h⊢
 split at h;cases h
 rw[U1c Ya];cases hg:Vt s (n+1) with
 |bad c p=>rw[hg]at h;cases h
 |ok g =>
  rw[hg]at h;simp only at h⊢;cases hl:V1f V s d (s.length+2) g [] st with
  |non=>rw[hl]at h;cases h
  |bad c p=>rw[hl]at h;cases h
  |ok q =>
   rw[hl]at h;rw[Oh5 hV s d d0 hd _ _ _ _ _ hl];exact h
theorem O84(E:Vv)(s:Bs):∀f,V8z (Vz E s f):=by
 intro f
 induction f with
 |zero=>intro d d0 n st r _ h;simp[Vz]at h
 |succ f ih =>
  intro d d0 n st r hd h;unfold Vz at h⊢;simp only at h⊢
  split at h;rename_i h1;rw[U1a h1];exact h
  rename_i h1
  rw[U1c h1]
  split at h;rename_i h2;rw[U1a h2];exact Oh6 ih s d d0 n st r hd h
  rename_i h2
  rw[U1c h2]
  split at h;rename_i h3;rw[U1a h3];exact Of8 ih s d d0 n st r hd h
  rename_i h3;rw[U1c h3];exact h
theorem O9s{E:Vv}{s:Bs}{n k k0:Nat}{r:Nat×Nat×Vc}(hk:k0<=k)(h:V1g E s n k=.ok r):V1g E s n k0=.ok r :=
 O84 E s 258 _ _ n [] r Ya h
structure GS(g1 g2:Vb):Prop where
 nds:RS 0 g1.nds g2.nds
 srt:g2.srt=g1.srt
 sec:g2.sec=g1.sec
 dep:g2.dep=g1.dep
 many:g2.many=g1.many
theorem GS.len{g1 g2:Vb}(h:GS g1 g2):g2.nds.length=g1.nds.length:=by have:=h.nds.len;omega
theorem GS.sort{g1 g2:Vb}(h:GS g1 g2)(i:Nat):Vd g2 i=Vd g1 i:=by unfold Vd;rw[h.srt]
theorem GS.sub{g1 g2:Vb}(h:GS g1 g2)(t:Nat)(w:Bs):V1a g2.nds t w=V1a g1.nds t w:=by
 rcases h.nds.sub t w with⟨h1,h2⟩|⟨h1,h2⟩|⟨i,h1,h2⟩
 rw[U1v]at h1;rw[h1,h2];rw[U1v]at h1;rw[h1,h2]
 rw[U1v,U1v]at h1;rw[h1,h2]
theorem GS.g8{g1 g2:Vb}(h:GS g1 g2){t:Nat}(hk:V2o g1 t=true):V2o g2 t=true:=by
 unfold V2o at hk⊢;simp only[U1h]at hk⊢;exact⟨h.nds.kind8 t (by rw[U1v];exact hk.1),by rw[h.sort];exact hk.2⟩
theorem GS.rm{g1 g2:Vb}(h:GS g1 g2)(hk:room g1.nds=true):room g2.nds=true:=h.nds.room hk
theorem Omi(k:Nat):SN 0 (V14 k) (V14 k):=⟨rfl,rfl,rfl,rfl,rfl,rfl⟩
theorem GS.grow{g1 g2:Vb}(h:GS g1 g2)(k:Nat)(s:Nat×Nat)(t:Nat)(w:Bs)(sp Jf:Nat×Nat):GS (V1r (V1o g1 k s) t w sp g1.nds.length) (V1r (V1o g2 k s) t w Jf g2.nds.length):=by
 refine⟨?_,?_,h.sec,h.dep,h.many⟩;show RS 0 (Vf (g1.nds++[V14 k]) t w sp g1.nds.length) (Vf (g2.nds++[V14 k]) t w Jf g2.nds.length);have:=(h.nds.app (Omi k)).put t w sp Jf g2.nds.length;rw[U1v,U1v]at this;rw[h.len]at this⊢;exact this
 show g2.srt++[s]=g1.srt++[s]
 rw[h.srt]
theorem GS.subsOk{g1 g2:Vb}(h:GS g1 g2){i:Nat}(hk:subsOk g1 i=true):subsOk g2 i=true:=by
 unfold Pl.subsOk at hk⊢;rcases h.nds.get i with⟨h1,h2⟩|⟨x,y,h1,h2,h3⟩
 rw[U1v]at h1;rw[h1]at hk;cases hk
 rw[U1v]at h1;rw[h1]at hk;rw[h2];have:y.subs=x.subs:=by rw[h3.subs];simp
 simp only[this];exact hk
theorem Oo3{a b c d:Vc}(h:RS 0 a b)(k:RS 0 c d):RS 0 (a++c) (b++d):=by
 have hl:=h.len;have kl:=k.len;refine⟨Ye,λ j y hy=>?_⟩;rw[U1v];by_cases hj:j<b.length;rw[U19 hj]at hy;rw[U19 Ya];obtain⟨x,h1,h2⟩:=h.at' j y hy;rw[U1v]at h1;exact⟨x,h1,h2⟩
 rw[U1y Ya]at hy;rw[U1y Ya];obtain⟨x,h1,h2⟩:=k.at' _ y hy;rw[U1v]at h1;exact⟨x,by rw[show j-a.length=j-b.length by omega];exact h1,h2⟩
theorem Oo4{c d:Vc}(k:RS 0 c d)(L:Nat):RS 0 (c.map λ nd=>{ nd with subs:=nd.subs.map (· + L),owner:=0 }) (d.map λ nd=>{ nd with subs:=nd.subs.map (· + L),owner:=0 }):=by
 have kl:=k.len;refine⟨Ye,λ j y hy=>?_⟩;rw[U1v];rw[U1m]at hy⊢;cases hd:d[j]? with
 |none=>rw[hd]at hy;cases hy
 |some y0 =>
  rw[hd]at hy;simp only[U25,U1f]at hy;subst hy;obtain⟨x,h1,h2⟩:=k.at' j y0 hd;rw[U1v]at h1;rw[h1];refine⟨_,rfl,h2.kind,h2.text,h2.keys,h2.spots,?_,rfl⟩;simp only[h2.subs,U4o];congr 1
  funext z;simp
theorem GS.graft{g1 g2:Vb}(h:GS g1 g2){n1 n2:Vc}(k:RS 0 n1 n2):GS (V12 g1 n1) (V12 g2 n2):=by
 refine⟨?_,?_,h.sec,h.dep,h.many⟩;show RS 0 (g1.nds++n1.map _) (g2.nds++n2.map _);rw[h.len];exact Oo3 h.nds (Oo4 k _)
 show g2.srt++n2.map _=g1.srt++n1.map _;rw[h.srt];congr 1;have:=k.len;rw[List.map_const',List.map_const',this,U1v]
theorem Obv{s:Bs}{n m:Nat}{p:Bs}(hn:n<=s.length)(h:isF s n p=.ok m):m=n+p.length:=((V57 s p n hn).1 m h).1
theorem Ohb{E:Vv}(hE:V11 E){s:Bs}{n e:Nat}{it:It}(hn:n<=s.length)(h:V3l E s n=.ok (e,it)):(pre (s.drop n) [91,91]=true/\it.kind=3/\∃ws e1,V1q E s (V7 s (n+2))=.ok (ws,e1)/\e=V7 s e1+2) \/(pre (s.drop n) [91,91]=false/\pre (s.drop n) [91]=true/\it.kind=2/\∃ws e1,V1q E s (V7 s (n+1))=.ok (ws,e1)/\e=V7 s e1+1) \/(pre (s.drop n) [91,91]=false/\pre (s.drop n) [91]=false/\V1c (s.drop n)=true/\it.kind=0) \/(pre (s.drop n) [91,91]=false/\pre (s.drop n) [91]=false/\V1c (s.drop n)=false/\it.kind=1/\∃ws e1 root nds,V1q E s n=.ok (ws,e1)/\Va s (V7 s e1)=61/\V1g E s (V7 s (V7 s e1+1)) 0=.ok (root,e,nds)):=by
 have hd:∀(kind:Nat)(aY:Bs),n+aY.length<=s.length->V3k E s kind n aY=.ok (e,it)->it.kind=kind/\∃ws e1,V1q E s (V7 s (n+aY.length))=.ok (ws,e1)/\e=V7 s e1+aY.length:=by
  intro kind aY hl h;have hb:=V8 s (n+aY.length) hl;unfold V3k at h;cases hk:V1q E s (V7 s (n+aY.length)) with
  |non=>rw[hk]at h;cases h
  |bad c p=>rw[hk]at h;cases h
  |ok r =>
   obtain⟨ws,e1⟩:=r;have aP:=(O15 hE (s:=s) hb.2).1 _ _ hk;have aA:=V8 s e1 aP.2.1;rw[hk]at h;simp only at h;cases hi:isF s (V7 s e1) aY with
   |bad c p=>rw[hi]at h;cases h
   |ok m =>
    rw[hi]at h;cases h;exact⟨rfl,ws,e1,rfl,Obv aA.2 hi⟩
 unfold V3l at h
 split at h
 rename_i h2
 have:=V1i _ _ h2;rw[U16]at this;simp only[U1d,U1q]at this;exact .inl ⟨h2,hd 3 [93,93] (by simp only[U1d,U1q];omega) h⟩
 rename_i h2
 split at h
 rename_i h1
 have:=V1i _ _ h1;rw[U16]at this;simp only[U1d,U1q]at this;exact .inr (.inl ⟨by simpa using h2,h1,hd 2 [93] (by simp only[U1d,U1q];omega) h⟩)
 rename_i h1
 split at h
 rename_i hb
 cases h;exact .inr (.inr (.inl ⟨by simpa using h2,by simpa using h1,hb,rfl⟩))
 rename_i hb
 refine .inr (.inr (.inr ⟨by simpa using h2,by simpa using h1,by simpa using hb,?_⟩));unfold V55 at h;cases hk:V1q E s n with
 |non=>rw[hk]at h;cases h
 |bad c p=>rw[hk]at h;cases h
 |ok r =>
  obtain⟨ws,e1⟩:=r;rw[hk]at h;simp only at h;cases hi:isF s (V7 s e1) [61] with
  |bad c p=>rw[hi]at h;cases h
  |ok m =>
   rw[hi]at h;simp only at h;refine Z255 ?_;intro hm;cases hr:V1g E s (V7 s m) 0 with
   |non=>rw[hr]at h;cases h
   |bad c p=>rw[hr]at h;cases h
   |ok v =>
    obtain⟨root,e2,nds⟩:=v;rw[hr]at h;cases h;refine⟨rfl,ws,e1,root,nds,rfl,by unfold Va;rw[hm.1];rfl,?_⟩;rw[<-hm.2];exact hr
section
variable {E:Vv}(hE:V11 E)(hN:Vbq E){x s1 s2:Bs}{a1 a2:Nat}(T:V5p x s1 s2 a1 a2)
include hE hN T
end
structure Ctx(x s1 s2:Bs)(a1 a2:Nat):Prop where
 two:Two x s1 s2 a1 a2
 bl1:∀j,j<=x.length->V7 s1 (a1+j)=a1+(j+blanks (x.drop j))/\j+blanks (x.drop j)<=x.length
 bl2:∀j,j<=x.length->V7 s2 (a2+j)=a2+(j+blanks (x.drop j))/\j+blanks (x.drop j)<=x.length
 pre:∀j,j<=x.length->∀p:Bs,(∀c∈p,c≠10)->Pl.pre (s2.drop (a2+j)) p=Pl.pre (s1.drop (a1+j)) p
 bI:∀j,j<=x.length->V1c (s2.drop (a2+j))=V1c (s1.drop (a1+j))
 byte:∀j,j<=x.length->Va s2 (a2+j)=Va s1 (a1+j)
section
variable {E:Vv}(hE:V11 E){x s1 s2:Bs}{a1 a2:Nat}(T:Ctx x s1 s2 a1 a2)
include hE T
end
theorem Omj(st:Vc):RS 0 st st:=⟨Yb,λ j y h=>⟨y,by rw[U1v];exact h,rfl,rfl,rfl,rfl,Yb,by split <;> simp_all⟩⟩
theorem Ojs{a b c:Vc}(h:RS 0 a b)(k:RS 0 b c):RS 0 a c:=by
 have h1:=h.len;have k1:=k.len;refine⟨Ya,λ j z hz=>?_⟩;obtain⟨y,hy,q⟩:=k.at' j z hz;rw[U1v]at hy;obtain⟨x,hx,p⟩:=h.at' j y hy;refine⟨x,hx,p.kind.trans q.kind,p.text.trans q.text,p.keys.trans q.keys,p.spots.trans q.spots,?_,?_⟩;rw[p.subs,q.subs];simp
 have e3:y.owner=z.owner:=by rw[q.own];split <;> simp_all
 have e4:x.owner=y.owner:=by rw[p.own];split <;> simp_all
 rw[e4,e3];split <;> simp_all
theorem GS.refl(g:Vb):GS g g:=⟨Omj _,rfl,rfl,rfl,rfl⟩
theorem GS.trans{a b c:Vb}(h:GS a b)(k:GS b c):GS a c:=⟨Ojs h.nds k.nds,k.srt.trans h.srt,k.sec.trans h.sec,k.dep.trans h.dep,k.many.trans h.many⟩
theorem GS.ok{g1 g2:Vb}(h:GS g1 g2)(hk:V7k g1=true)(hl:g2.its.length<=30000000):V7k g2=true:=by
 unfold V7k at hk⊢;rw[h.len,h.many,h.dep];simp only[U1h,U1x]at hk⊢;exact⟨hk.1,hl⟩
theorem Ohc{E:Vv}{s:Bs}{n b:Nat}{g g':Vb}(h:V32 E s n g=.ok (b,g')):∃it,V3v E s n=.ok it/\it.b=b/\it.a=n/\g'.its=g.its++[it]:=by
 unfold V32 at h
 split at h;cases h
 cases h
 rename_i hw
 have h0:=(O3x hw).1.1
 split at h;cases h
 cases h
 rename_i it hi
 have ha:it.a=n:=by
  unfold V3v at hi
  split at hi;cases hi
  cases hi
  split at hi;cases hi
  simp only[V9.ok.injEq]at hi;rw[<-hi]
 refine⟨it,hi,?_⟩
 split at h;exact J54
 split at h
 split at h;cases h
 simp only at h
 split at h;simp only[V9.ok.injEq,U17]at h;rw[<-h.2];exact⟨h.1,ha,by simp[h0,V12]⟩
 cases h
 exact J54
inductive Stp (E:Vv)(s:Bs):Nat->Vb->Nat->Vb->Prop
 |refl (n:Nat) (g:Vb):Stp E s n g n g
 |step (n:Nat) (g:Vb) (e:Nat) (g1:Vb) (m:Nat) (G:Vb):n<s.length->n<e->V7k g=true->V32 E s n g=.ok (e,g1)->Stp E s e g1 m G->Stp E s n g m G
theorem Stp.trans{E:Vv}{s:Bs}{a b c:Nat}{g1 g2 g3:Vb}(h:Stp E s a g1 b g2)(k:Stp E s b g2 c g3):Stp E s a g1 c g3:=by
 induction h with
 |refl=>exact k
 |step n g e g1 m G h1 h2 h3 h4 _ ih=>exact .step n g e g1 _ _ h1 h2 h3 h4 (ih k)
theorem Stp.grown{E:Vv}{s:Bs}{n m:Nat}{g G:Vb}(h:Stp E s n g m G)(hm:m=s.length):∀f,s.length<n+f->grownF E s f n g=.ok G:=by
 induction h with
 |refl n g =>
  intro f hf;cases f with
  |zero=>omega
  |succ f=>unfold grownF;rw[U1c Ya]
 |step n g e g1 m G h1 h2 h3 h4 _ ih =>
  intro f hf;cases f with
  |zero=>omega
  |succ f =>
   unfold grownF;rw[U1a h1,U1a h3,h4];exact ih hm f Ya
def Pu(st:Vc):Prop:=∀(i j:Nat) nd nd' (u:Nat),st[i]?=some nd->st[j]?=some nd'->u∈nd.subs->u∈nd'.subs->i=j
def Fr(st:Vc)(u:Nat):Prop:=∀(i:Nat) nd,st[i]?=some nd->u ∉ nd.subs
theorem O6d{st:Vc}{nd x:Nd}{i:Nat}(h:(st++[nd])[i]?=some x):st[i]?=some x/\i<st.length\/i=st.length/\x=nd:=by
 by_cases hi:i<st.length;rw[U19 hi]at h;exact .inl ⟨h,hi⟩
 have h2:=(U14.1 h).1;simp only[U1b,U1z]at h2;have:i=st.length:=Ya;subst this;simp at h;exact .inr ⟨rfl,h.symm⟩
theorem Pu.app{st:Vc}(h:Pu st){nd:Nd}(hn:∀u∈nd.subs,Fr st u):Pu (st++[nd]):=by
 intro i j x y u hx hy h1 h2;rcases O6d hx with⟨a,_⟩|⟨a,rfl⟩
 rcases O6d hy with⟨b,_⟩|⟨b,rfl⟩
 exact h i j x y u a b h1 h2
 exact absurd h1 (hn u h2 i x a)
 rcases O6d hy with⟨b,_⟩|⟨b,rfl⟩
 exact absurd h2 (hn u h1 j y b)
 omega
theorem Fr.app{st:Vc}{u:Nat}(h:Fr st u){nd:Nd}(hn:u ∉ nd.subs):Fr (st++[nd]) u:=by
 intro i x hx;rcases O6d hx with⟨a,_⟩|⟨a,rfl⟩
 exact h i x a
 exact hn
theorem O5u{st:Vc}(h:WF st){u:Nat}(hu:st.length<=u):Fr st u:=λ i nd hi hm=>by have:=(h i nd hi).lt u hm;omega
theorem Pu.put{st:Vc}(h:Pu st){i:Nat}(hi:Fr st i)(t:Nat)(w:Bs)(sp:Nat×Nat):Pu (Vf st t w sp i):=by
 have key:∀(j:Nat) y u,(Vf st t w sp i)[j]?=some y->u∈y.subs->∃nd,st[j]?=some nd/\(u∈nd.subs\/u=i/\j=t):=by
  intro j y u hy hu;rw[Oj]at hy
  split at hy
  rename_i e
  cases hs:st[j]? with
  |none=>rw[hs]at hy;cases hy
  |some nd =>
   rw[hs]at hy;simp only[U25,U1f]at hy;subst hy;simp only[V10,U29,U20]at hu;exact⟨nd,rfl,hu.imp id λ h=>⟨h,e.symm⟩⟩
  exact⟨y,hy,.inl hu⟩
 intro a b x y u hx hy h1 h2;obtain⟨n1,p1,q1⟩:=key a x u hx h1;obtain⟨n2,p2,q2⟩:=key b y u hy h2;rcases q1 with q1|⟨rfl,rfl⟩
 rcases q2 with q2|⟨rfl,rfl⟩
 exact h a b n1 n2 u p1 p2 q1 q2
 exact absurd q1 (hi a n1 p1)
 rcases q2 with q2|⟨_,rfl⟩
 exact absurd q2 (hi b n2 p2)
 rfl
theorem Fr.put{st:Vc}{u:Nat}(h:Fr st u){i:Nat}(hi:u≠i)(t:Nat)(w:Bs)(sp:Nat×Nat):Fr (Vf st t w sp i) u:=by
 intro j y hy hu;rw[Oj]at hy
 split at hy
 cases hs:st[j]? with
 |none=>rw[hs]at hy;cases hy
 |some nd =>
  rw[hs]at hy;simp only[U25,U1f]at hy;subst hy;simp only[V10,U29,U20]at hu;exact hu.elim (h j nd hs) hi
 exact h j y hy hu
theorem O8w{st:Vc}{t:Nat}{f:Nd->Nd}(hf:∀nd,(f nd).subs=nd.subs){j:Nat}{y:Nd}(h:(st.modify t f)[j]?=some y):∃nd,st[j]?=some nd/\y.subs=nd.subs:=by
 rw[Of]at h
 split at h
 cases hs:st[j]? with
 |none=>rw[hs]at h;cases h
 |some nd =>
  rw[hs]at h;simp only[U25,U1f]at h;subst h;exact⟨nd,rfl,hf nd⟩
 exact⟨y,h,rfl⟩
theorem Pu.same{st:Vc}(h:Pu st)(t:Nat)(f:Nd->Nd)(hf:∀nd,(f nd).subs=nd.subs):Pu (st.modify t f):=by
 intro a b x y u hx hy h1 h2;obtain⟨n1,p1,q1⟩:=O8w hf hx;obtain⟨n2,p2,q2⟩:=O8w hf hy;exact h a b n1 n2 u p1 p2 (q1 ▸ h1) (q2 ▸ h2)
theorem Fr.same{st:Vc}{u:Nat}(h:Fr st u)(t:Nat)(f:Nd->Nd)(hf:∀nd,(f nd).subs=nd.subs):Fr (st.modify t f) u:=by
 intro j y hy hu;obtain⟨nd,p,q⟩:=O8w hf hy;exact h j nd p (q ▸ hu)
structure Nw(st st':Vc):Prop where
 pu:Pu st'
 fr:∀u,u<st.length->Fr st u->Fr st' u
 le:st.length<=st'.length
theorem Nw.trans{a b c:Vc}(h:Nw a b)(k:Nw b c):Nw a c:=⟨k.pu,λ u hu hf=>k.fr u (U13 hu h.le) (h.fr u hu hf),U1l h.le k.le⟩
theorem Oo5(table:Nat):∀(ws:List KW)(into d:Nat)(st:Vc)(am d':Nat)(st':Vc),WF st->table<=into->into<st.length->Pu st->V3d table ws into d st=.ok (am,d',st')->Nw st st':=by
 intro ws
 induction ws with
 |nil=>intro into d st am d' st' _ _ _ _ h;simp[V3d]at h
 |cons x rest ih =>
  intro into d st am d' st' hw ht hi hp h;obtain⟨w,a,b⟩:=x;unfold V3d at h;cases hs:V1a st into w with
  |non=>rw[hs]at h;cases h
  |yes i =>
   rw[hs]at h;cases rest with
   |nil=>cases h
   |cons y rest =>
    simp only at h
    split at h
    rename_i ho
    have N1:table<=i/\i<st.length:=by
     refine Z283 ?_;intro a9;refine⟨?_,a9⟩;unfold V2c at ho;rw[U1e a9]at ho;have:=(hw i _ (U1e a9)).own (by simp only at ho;omega);simp only at ho;omega
    exact ih i (d+1) st am d' st' hw N1.1 N1.2 hp h
    cases h
  |no =>
   rw[hs]at h;cases rest with
   |nil =>
    simp only[V9.ok.injEq,U17]at h;obtain⟨_,_,rfl⟩:=h;exact⟨hp,λ u _ hf=>hf,U12 _⟩
   |cons y rest =>
    simp only at h
    split at h;cases h
    split at h
    obtain⟨nd,aL⟩:∃nd,st[into]?=some nd:=⟨_,U1e hi⟩
    have uG:=O5u hw (U12 st.length);have fD:WF (st++[V1s (table+1)]):=hw.app _ ⟨λ _=>⟨rfl,rfl⟩,List.Pairwise.nil,λ x hx=>by (cases hx),λ _=>⟨rfl,by show table+1<=_;omega⟩⟩;have fq:WF (Vf (st++[V1s (table+1)]) into w (a,b) st.length):=fD.put into _ w (a,b) nd (by rw[U19 hi];exact aL) (λ x hx=>(hw into nd aL).lt x hx) Yb;have en:(Vf (st++[V1s (table+1)]) into w (a,b) st.length).length=st.length+1:=by unfold Vf;simp
    have mx:Pu (Vf (st++[V1s (table+1)]) into w (a,b) st.length):=(hp.app (λ u hu=>by cases hu)).put (uG.app (by intro h;cases h)) _ _ _;have q:=ih st.length (d+1) _ am d' st' fq Ya (by rw[en];omega) mx h;exact⟨q.pu,λ u hu hf=>q.fr u (by rw[en];omega) ((hf.app (by intro h;cases h)).put Ya _ _ _),by have:=q.le;rw[en]at this;omega⟩
    cases h
def VPu(V:V1n):Prop:=∀d n st i e st',WF st->Pu st->(∃r,Rk st r)->V d n st=.ok (i,e,st')->Nw st st'/\Fr st' i
section
variable {E:Vv}{s:Bs}{V:V1n}(hR:VRk V)(hV:VPu V)
include hR hV
theorem Ojt(table n d:Nat)(st:Vc)(e:Nat)(st':Vc)(hw:WF st)(ht:table<st.length)(hp:Pu st)(hr:∃r,Rk st r)(ho:Own table st)(h:V1l E V s table n d st=.ok (e,st')):Nw st st':=by
 unfold V1l at h
 split at h;cases h
 cases h
 rename_i ws e0 hk
 split at h;cases h
 cases h
 rename_i into d' st1 hy
 obtain⟨y1,y2,y3,y4,y5,y6,y7⟩:=Obt table table ws table d st into d' st1 hw (U12 _) (U12 _) ht hy hr ho;have q1:=Oo5 table ws table d st into d' st1 hw (U12 _) ht hp hy;simp only at h
 split at h
 split at h;cases h
 cases h
 rename_i i e2 st2 hv
 have v:=hR _ _ _ _ _ _ y3 hv y1;obtain⟨q2,q3⟩:=hV _ _ _ _ _ _ y3 q1.pu y1 hv
 split at h;cases h
 rename_i w a b _
 split at h;simp only[V9.ok.injEq,U17]at h;obtain⟨_,rfl⟩:=h;have UK:=v.lo;have aP:=q1.le;have hq:=q1.trans q2;exact⟨q2.pu.put q3 _ _ _,λ u hu hf=>(hq.fr u hu hf).put Ya _ _ _,by have:=hq.le;unfold Vf;simp;exact this⟩
 cases h
 cases h
theorem Omk(table d:Nat):∀(f n:Nat)(st:Vc)(e:Nat)(st':Vc),WF st->table<st.length->Pu st->(∃r,Rk st r)->Own table st->V29 E V s table d f n st=.ok (e,st')->Nw st st':=by
 intro f
 induction f with
 |zero=>intro n st e st' _ _ _ _ _ h;simp[V29]at h
 |succ f ih =>
  intro n st e st' hw ht hp hr ho h;unfold V29 at h
  split at h;cases h
  cases h
  rename_i e1 st1 hy
  obtain⟨y1,y2,y3,y4,y5⟩:=O79 hR table table n d st e1 st1 hw (U12 _) ht hy hr ho;have q1:=Ojt hR hV table n d st e1 st1 hw ht hp hr ho hy;simp only at h
  split at h;exact J53
  split at h;exact q1.trans (ih _ st1 e st' y3 Ya q1.pu y1 y2 h)
  cases h
theorem Ohd(d n:Nat)(st:Vc)(i e:Nat)(st':Vc)(hw:WF st)(hp:Pu st)(hr:∃r,Rk st r)(h:V1h E V s d n st=.ok (i,e,st')):Nw st st'/\Fr st' i:=by
 unfold V1h at h
 split at h;cases h
 split at h
 refine Z139 ?_;intro fD;have fQ:Pu (st++[V16]):=hp.app (λ u hu=>by cases hu);have uG:Fr (st++[V16]) st.length:=(O5u hw (U12 _)).app (by intro h;cases h);have aZ:∃r,Rk (st++[V16]) r:=by obtain⟨r,hr⟩:=hr;exact hr.app hw V16 (λ x hx=>by cases hx)
 have sL:Own st.length (st++[V16]):=(O2r st).app _ (λ x hx=>by cases hx);simp only at h
 split at h;cases h
 cases h
 rename_i e1 st1 hx
 have q:Nw (st++[V16]) st1:=by
  split at hx;simp only[V9.ok.injEq,U17]at hx;obtain⟨_,rfl⟩:=hx;exact⟨fQ,λ u _ hf=>hf,U12 _⟩
  exact Omk hR hV st.length d _ _ _ _ _ fD Yb fQ aZ sL hx
 split at h;simp only[V9.ok.injEq,U17]at h;obtain⟨rfl,_,rfl⟩:=h;have hl:=q.le;simp only[U1b,U1z]at hl;exact⟨⟨q.pu.same _ _ (λ _=>rfl),λ u hu hf=>((q.fr u Ye (hf.app (by intro h;cases h)))).same _ _ (λ _=>rfl),Ye⟩,(q.fr _ Yb uG).same _ _ (λ _=>rfl)⟩
 cases h
 cases h
theorem Oju(d b:Nat):∀(f n:Nat)(subs:List Nat)(st:Vc)(l:List Nat)(e:Nat)(st':Vc),WF st->b<=st.length->Pu st->(∃r,Rk st r)->(∀x∈subs,b<=x/\x<st.length/\Fr st x)->V1f V s d f n subs st=.ok (l,e,st') ->Nw st st'/\WF st'/\(∃r,Rk st' r)/\∀x∈l,b<=x/\x<st'.length/\Fr st' x:=by
 intro f
 induction f with
 |zero=>intro n subs st l e st' _ _ _ _ _ h;simp[V1f]at h
 |succ f ih =>
  intro n subs st l e st' hw hb hp hr hs h;unfold V1f at h
  split at h;simp only[V9.ok.injEq,U17]at h;obtain⟨rfl,_,rfl⟩:=h;exact⟨⟨hp,λ u _ hf=>hf,U12 _⟩,hw,hr,hs⟩
  split at h;cases h
  cases h
  rename_i i e1 st1 hv
  have v:=hR _ _ _ _ _ _ hw hv hr;obtain⟨q1,q2⟩:=hV _ _ _ _ _ _ hw hp hr hv;have Jg:=v.lo;have FA:=v.hi;have dX:∀x∈subs++[i],b<=x/\x<st1.length/\Fr st1 x:=by
   intro x hx;rcases U29.1 hx with hx|hx
   obtain⟨h1,h2,h3⟩:=hs x hx;exact⟨h1,by have:=q1.le;omega,q1.fr x h2 h3⟩
   rw[U20]at hx;subst hx;exact⟨Ya,FA,q2⟩
  split at h;cases h
  split at h;cases h
  split at h;simp only[V9.ok.injEq,U17]at h;obtain⟨rfl,_,rfl⟩:=h;exact⟨q1,v.wf,v.rk,dX⟩
  split at h
  split at h;cases h
  obtain⟨k1,k2,k3,k4⟩:=ih _ _ st1 l e st' v.wf (by have:=q1.le;omega) q1.pu v.rk dX h;exact⟨q1.trans k1,k2,k3,k4⟩
  cases h
theorem Ojv(d n:Nat)(st:Vc)(i e:Nat)(st':Vc)(hw:WF st)(hp:Pu st)(hr:∃r,Rk st r)(h:V2a V s d n st=.ok (i,e,st')):Nw st st'/\Fr st' i:=by
 unfold V2a at h
 split at h;cases h
 split at h;cases h
 split at h;cases h
 cases h
 rename_i subs e1 st1 hx
 obtain⟨q1,q2,q3,q4⟩:=Oju hR hV d st.length _ _ [] st subs e1 st1 hw (U12 _) hp hr (λ x hx=>by cases hx) hx
 split at h
 simp only[V9.ok.injEq,U17]at h;obtain⟨rfl,_,rfl⟩:=h;refine⟨⟨q1.pu.app (λ u hu=>(q4 u hu).2.2),λ u hu hf=>(q1.fr u hu hf).app (λ hm=>?_),by have:=q1.le;simp;omega⟩,(O5u q2 (U12 _)).app (λ hm=>?_)⟩;have:=(q4 u hm).1;omega
 have:=(q4 _ hm).2.1;omega
 cases h
end
theorem Oml{st:Vc}(hw:WF st)(hp:Pu st)(k:Nat)(t:Bs)(a b:Nat):Nw st (st++[V4t k t a b])/\Fr (st++[V4t k t a b]) st.length :=
 ⟨⟨hp.app (λ u hu=>by cases hu),λ u _ hf=>hf.app (by intro h;cases h),Yb⟩,(O5u hw (U12 _)).app (by intro h;cases h)⟩
theorem Ohe{E:Vv}(hE:V11 E)(s:Bs):∀f,VPu (Vz E s f):=by
 intro f
 induction f with
 |zero=>intro d n st i e st' _ _ _ h;simp[Vz]at h
 |succ f ih =>
  intro d n st i e st' hw hp hr h;unfold Vz at h;simp only at h
  split at h;exact J167
  split at h;exact Ojv (O2c hE s f) ih d n st i e st' hw hp hr h
  split at h;exact Ohd (O2c hE s f) ih d n st i e st' hw hp hr h
  exact J167
theorem Ojw{E:Vv}(hE:V11 E){s:Bs}{n k i e:Nat}{st:Vc}(h:V1g E s n k=.ok (i,e,st)):Pu st/\Fr st i/\∃r,Rk st r:=by
 have h0:WF ([]:Vc):=λ i nd h=>by simp at h
 have hp:Pu ([]:Vc):=λ i j nd nd' u h=>by simp at h
 have hr:∃r,Rk ([]:Vc) r:=⟨λ _=>0,λ i nd h=>by simp at h⟩
 obtain⟨q1,q2⟩:=Ohe hE s 258 _ n [] i e st h0 hp hr h;exact⟨q1.pu,q2,(O2c hE s 258 _ n [] i e st h0 h hr).rk⟩
structure GP(nds:Vc):Prop where
 pu:Pu nds
 fr:Fr nds 0
 rk:∃r,Rk nds r
def SS(a b:Vc):Prop:=∀j:Nat,a[j]?.map (·.subs)=b[j]?.map (·.subs)
theorem SS.get{a b:Vc}(h:SS a b){j:Nat}{y:Nd}(hy:b[j]?=some y):∃x,a[j]?=some x/\x.subs=y.subs:=by
 have:=h j;rw[hy]at this;cases hx:a[j]? with
 |none=>rw[hx]at this;cases this
 |some x=>rw[hx]at this;exact⟨x,rfl,by simpa using this⟩
theorem GP.same{a b:Vc}(h:GP a)(k:SS a b):GP b:=by
 refine⟨λ i j x y u hx hy h1 h2=>?_,λ i x hx hu=>?_,?_⟩;obtain⟨x',p1,q1⟩:=k.get hx;obtain⟨y',p2,q2⟩:=k.get hy;exact h.pu i j x' y' u p1 p2 (q1 ▸ h1) (q2 ▸ h2);obtain⟨x',p1,q1⟩:=k.get hx;exact h.fr i x' p1 (q1 ▸ hu)
 obtain⟨r,hr⟩:=h.rk;exact⟨r,λ i x hx u hu=>by obtain⟨x',p1,q1⟩:=k.get hx;exact hr i x' p1 u (q1 ▸ hu)⟩
theorem GP.add{nds:Vc}(h:GP nds)(hw:WF nds)(k:Nat){t:Nat}(ht:t<nds.length)(w:Bs)(sp:Nat×Nat):GP (Vf (nds++[V14 k]) t w sp nds.length):=by
 have hf:=O5u hw (U12 nds.length);obtain⟨r,hr⟩:=h.rk;obtain⟨r1,aZ⟩:=hr.app hw (V14 k) (λ x hx=>by cases hx);refine⟨(h.pu.app (λ u hu=>by cases hu)).put (hf.app (by intro h;cases h)) _ _ _,(h.fr.app (by intro h;cases h)).put Ya _ _ _,?_⟩;exact aZ.put nds.length ((O2r nds).app _ (λ x hx=>by cases hx)) t nds.length w sp ht (U12 _) (λ j x hj hx y hy=>by
  rw[U19 hj]at hx;exact (hw j x hx).lt y hy)
theorem Vh3(nds:Vc)(t i:Nat)(w:Bs)(sp:Nat×Nat):SS (Vf nds t w sp i) (nds.modify t λ nd=>{ nd with subs:=nd.subs++[i] }):=by
 intro j;rw[Oj,Of]
 split;cases nds[j]? <;> rfl
 rfl
theorem GP.graft{nds n2:Vc}(h:GP nds)(hw:WF nds)(fq:WF n2)(mx:Pu n2){root:Nat}(d5:Fr n2 root)(d8:∃r,Rk n2 r){into:Nat}(hi:into<nds.length)(w:Bs)(sp:Nat×Nat):GP (Vf (nds++n2.map λ nd=>{ nd with subs:=nd.subs.map (· + nds.length),owner:=0 }) into w sp (root+nds.length)):=by
 have hg:∀(j:Nat) x,(nds++n2.map λ nd=>{ nd with subs:=nd.subs.map (· + nds.length),owner:=0 })[j]?=some x->(j<nds.length/\nds[j]?=some x)\/(nds.length<=j/\∃y,n2[j-nds.length]?=some y/\x.subs=y.subs.map (· + nds.length)):=by
  intro j x hx;by_cases hj:j<nds.length;rw[U19 hj]at hx;exact .inl ⟨hj,hx⟩
  rw[U1y Ya,U1m]at hx;cases hy:n2[j-nds.length]? with
  |none=>rw[hy]at hx;cases hx
  |some y =>
   rw[hy]at hx;simp only[U25,U1f]at hx;subst hx;exact .inr ⟨Ya,y,rfl,rfl⟩
 have R2:Pu (nds++n2.map λ nd=>{ nd with subs:=nd.subs.map (· + nds.length),owner:=0 }):=by
  intro i j x y u hx hy h1 h2;rcases hg i x hx with⟨a1,a2⟩|⟨a1,x',a2,a3⟩
  rcases hg j y hy with⟨b1,b2⟩|⟨b1,y',b2,b3⟩
  exact h.pu i j x y u a2 b2 h1 h2
  exfalso;have:=(hw i x a2).lt u h1;rw[b3]at h2;obtain⟨v,_,rfl⟩:=U3k.1 h2;omega
  rcases hg j y hy with⟨b1,b2⟩|⟨b1,y',b2,b3⟩
  exfalso;have:=(hw j y b2).lt u h2;rw[a3]at h1;obtain⟨v,_,rfl⟩:=U3k.1 h1;omega
  rw[a3]at h1;rw[b3]at h2;obtain⟨v,hv,rfl⟩:=U3k.1 h1;obtain⟨v',EX,e⟩:=U3k.1 h2;have:v'=v:=Ya
  subst this;have:=mx _ _ x' y' v' a2 b2 hv EX;omega
 have uG:∀u,u<nds.length->Fr nds u->Fr (nds++n2.map λ nd=>{ nd with subs:=nd.subs.map (· + nds.length),owner:=0 }) u:=by
  intro u hu hf i x hx hm;rcases hg i x hx with⟨a1,a2⟩|⟨a1,x',a2,a3⟩
  exact hf i x a2 hm
  rw[a3]at hm;obtain⟨v,_,rfl⟩:=U3k.1 hm;omega
 have yZ:Fr (nds++n2.map λ nd=>{ nd with subs:=nd.subs.map (· + nds.length),owner:=0 }) (root+nds.length):=by
  intro i x hx hm;rcases hg i x hx with⟨a1,a2⟩|⟨a1,x',a2,a3⟩
  have:=(hw i x a2).lt _ hm;omega
  rw[a3]at hm;obtain⟨v,hv,e⟩:=U3k.1 hm;have:v=root:=Ya
  subst this;exact d5 _ x' a2 hv
 refine⟨R2.put yZ _ _ _,(uG 0 Ya h.fr).put Ya _ _ _,?_⟩;obtain⟨r,hr⟩:=h.rk;obtain⟨r2,d8⟩:=d8;have gY:Rk (nds++n2.map λ nd=>{ nd with subs:=nd.subs.map (· + nds.length),owner:=0 }) (λ j=>if j<nds.length then r j else r2 (j-nds.length)):=by
  intro i x hx u hu;rcases hg i x hx with⟨a1,a2⟩|⟨a1,x',a2,a3⟩
  have:=(hw i x a2).lt u hu;simp only[U1a a1,U1a this];exact hr i x a2 u hu
  rw[a3]at hu;obtain⟨v,hv,rfl⟩:=U3k.1 hu;simp only[U1c (show ¬i<nds.length by omega),U1c (show ¬v+nds.length<nds.length by omega),Nat.add_sub_cancel];exact d8 _ x' a2 v hv
 refine gY.put nds.length (λ i x hb hx u hu=>?_) into _ w sp hi Ya (λ j x hj hx y hy=>?_)
 rcases hg i x hx with⟨a1,a2⟩|⟨a1,x',a2,a3⟩
 omega
 rw[a3]at hu;obtain⟨v,_,rfl⟩:=U3k.1 hu;omega
 rcases hg j x hx with⟨a1,a2⟩|⟨a1,_⟩
 exact (hw j x a2).lt y hy
 omega
theorem Oe2{g:Vb}(h:GI g)(hp:GP g.nds){t:Nat}(ht:Tb g t){d:Nat}{w:Bs}{a b:Nat}{s:Nat×Nat}{over:Nat->Ov}{n d':Nat}{g':Vb}(he:V1p g t d w a b s over=.ok (n,d',g')):GP g'.nds:=by
 unfold V1p at he
 split at he;cases he
 exact J51
 split at he;cases he
 split at he;simp only[V9.ok.injEq,U17]at he;rw[<-he.2.2];exact hp.add h.wf 8 (h.lt ht) w (a,b)
 cases he
theorem Ohf(s:Nat×Nat)(qW:s.1=1\/s.1=2\/s.1=3)(over:Vb->Nat->Nat->Ov)(ho:∀g d i,GI g->i<g.nds.length->over g d i≠.non/\∀n d',over g d i=.go n d'->Tb g n/\d'<=d+2):∀(ws:List KW)(t d:Nat)(g:Vb)(t' d':Nat)(g':Vb),GI g->Tb g t->g.nds.length+ws.length<=20000000->GP g.nds->V24 s over ws t d g=.ok (t',d',g')->GP g'.nds:=by
 intro ws
 induction ws with
 |nil=>intro t d g t' d' g' _ _ _ hp he;simp only[V24,V9.ok.injEq,U17]at he;rw[<-he.2.2];exact hp
 |cons x rest ih =>
  intro t d g t' d' g' h ht hl hp he;obtain⟨w,a,b⟩:=x;simp only[U1d]at hl;unfold V24 at he;cases aa:V1p g t d w a b s (over g d) with
  |non=>rw[aa]at he;cases he
  |bad c p=>rw[aa]at he;cases he
  |ok r =>
   obtain⟨n,d2,g2⟩:=r;rw[aa]at he;obtain⟨q1,q2,q3,_⟩:=(O76 h Ya ht d w a b s qW (over g d) (λ i hi=>ho g d i h hi)).2 _ _ _ aa;exact ih n d2 g2 t' d' g' q1 q2 Ya (Oe2 h hp ht aa) he
theorem Ojx{g g':Vb}(h:GI g)(hp:GP g.nds){k:List KW}(hk:k≠[])(hl:g.nds.length+k.length+1<=20000000)(he:V2f g k=.ok g'):GP g'.nds:=by
 refine Z244 ?_;intro hd;unfold V2f at he
 split at he;cases he
 cases he
 rename_i t d g1 hw
 refine Z131 ?_;intro ho q1 q2 fQ
 split at he;cases he
 split at he;cases he
 cases he
 rename_i n d2 g2 hs
 simp only[V9.ok.injEq]at he;rw[<-he];show GP g2.nds;exact Oe2 q1 fQ q2 hs
theorem Oe3{g:Vb}(hw:WF g.nds)(hp:GP g.nds){x:Nat}(hx:x<g.nds.length)(d:Nat):GP (V31 g x d).nds:=(hp.add hw 8 hx [] (0,0)).same (Vh3 _ _ _ _ _)
theorem Omm{g g':Vb}(h:GI g)(hp:GP g.nds){k:List KW}(hk:k≠[])(hl:g.nds.length+k.length+2<=20000000)(he:V2v g k=.ok g'):GP g'.nds:=by
 refine Z244 ?_;intro hd;unfold V2v at he
 split at he;cases he
 cases he
 rename_i t d g1 hw
 refine Z131 ?_;intro ho q1 q2 fQ
 split at he;cases he
 rename_i w a b dn
 split at he;cases he
 split at he
 rename_i h4
 split at he;cases he
 split at he;simp only[V9.ok.injEq]at he;rw[<-he];obtain⟨nd,l,h1,_⟩:=q1.lst _ h4;exact Oe3 q1.wf fQ (U14.1 h1).1 d
 cases he
 cases he
 split at he;cases he
 split at he;simp only[V9.ok.injEq]at he;rw[<-he];obtain⟨u1,_,_,_,u6⟩:=q1.grow q2 7 (4,0) w (a,b) Yb (λ h=>by simp at h);exact Oe3 u1.wf (fQ.add q1.wf 7 (q1.lt q2) w (a,b)) (by rw[u6];omega) d
 cases he
theorem Omn{g g':Vb}(h:GI g)(hp:GP g.nds){k:List KW}(hk:k≠[])(hl:g.nds.length+k.length<=20000000){t d:Nat}(he:V2w g k=.ok (t,d,g')):GP g'.nds:=by
 refine Z244 ?_;intro hd;unfold V2w at he
 split at he;cases he
 cases he
 rename_i t' d' g1 hw
 have fQ:=Ohf (3,g.many) (.inr (.inr rfl)) V27 (λ g d i _ _=>O9p d i) k.dropLast _ _ g t' d' g1 h h.sec Ya hp hw
 split at he;cases he
 split at he;cases he
 cases he
 simp only[V9.ok.injEq,U17]at he;rw[<-he.2.2];exact fQ
inductive Vap (E:Vv)(s:Bs)(n:Nat)(g:Vb)(into root:Nat)(nds:Vc)(g1:Vb):Prop
 |blank:V1c (s.drop (V7 s n))=true->g1=g->nds=[]->Vap E s n g into root nds g1
 |head (m:Nat) (ws:List KW) (e:Nat):1<=m->(pre (s.drop (V7 s n)) [91,91]=true/\m=2\/pre (s.drop (V7 s n)) [91,91]=false/\pre (s.drop (V7 s n)) [91]=true/\m=1)->V1q E s (V7 s (V7 s n+m))=.ok (ws,e)->V7 s n+m<=s.length->g1.nds.length<=g.nds.length+ws.length+1->nds=[]->Vap E s n g into root nds g1
 | pair (ws:List KW) (e:Nat):pre (s.drop (V7 s n)) [91,91]=false->pre (s.drop (V7 s n)) [91]=false->V1c (s.drop (V7 s n))=false->V1q E s (V7 s n)=.ok (ws,e)->g1.nds.length+1<=g.nds.length+ws.length->Tb g1 into ->
     (Va s (V7 s e)=61->∃d ve,V1g E s (V7 s (V7 s e+1)) d=.ok (root,ve,nds))->Vap E s n g into root nds g1
theorem Ojy{E:Vv}(hE:V11 E){s:Bs}(hs:s.length<=2000000){n:Nat}(hn:n<=s.length){g:Vb}(h:GI g)(hp:GP g.nds)(hl:g.nds.length+s.length+2<=20000000){into root:Nat}{nds:Vc}{g1:Vb}(he:V2n E s n g=.ok (into,root,nds,g1)):GP g1.nds/\Vap E s n g into root nds g1:=by
 have hb:=V8 s n hn;unfold V2n at he;simp only at he
 split at he
 rename_i bv
 simp only[V9.ok.injEq,U17]at he;obtain⟨rfl,rfl,rfl,rfl⟩:=he;exact⟨hp,.blank bv rfl rfl⟩
 rename_i bv
 generalize hm:(if pre (s.drop (V7 s n)) [91,91] then 2 else if pre (s.drop (V7 s n)) [91] then 1 else 0)=m at he;have i9:V7 s n+m<=s.length/\(m=0/\pre (s.drop (V7 s n)) [91,91]=false/\pre (s.drop (V7 s n)) [91]=false\/m=1/\pre (s.drop (V7 s n)) [91,91]=false/\pre (s.drop (V7 s n)) [91]=true\/m=2/\pre (s.drop (V7 s n)) [91,91]=true):=by
  rw[<-hm]
  split
  rename_i h2
  have:=V1i _ _ h2;rw[U16]at this;simp only[U1d,U1q]at this;exact⟨Ya,.inr (.inr ⟨rfl,h2⟩)⟩
  rename_i h2
  split
  rename_i h1
  have:=V1i _ _ h1;rw[U16]at this;simp only[U1d,U1q]at this;exact⟨Ya,.inr (.inl ⟨rfl,by simpa using h2,h1⟩)⟩
  rename_i h1
  exact⟨Ya,.inl ⟨rfl,by simpa using h2,by simpa using h1⟩⟩
 have aA:=V8 s (V7 s n+m) i9.1;cases hk:V1q E s (V7 s (V7 s n+m)) with
 |non=>rw[hk]at he;cases he
 |bad c p=>rw[hk]at he;cases he
 |ok r =>
  obtain⟨ws,e⟩:=r;obtain⟨e1,e2,e3,e4,e5⟩:=(O15 hE (s:=s) aA.2).1 _ _ hk;have eT:=O3q hE (s.length+2) _ [] ws e aA.2 hk;simp only[U1q,U1v]at eT;rw[hk]at he;simp only at he;rcases i9.2 with⟨rfl,m1,m2⟩|⟨rfl,m1,m2⟩|⟨rfl,m1⟩
  simp only[show ¬(0:Nat)=2 by decide,show ¬(0:Nat)=1 by decide,U2f]at he;rw[Nat.add_zero,O2j]at hk;cases ht:V2w g ws with
  |non=>rw[ht]at he;cases he
  |bad c p=>rw[ht]at he;cases he
  |ok r =>
   obtain⟨t,d,g2⟩:=r;rw[ht]at he;obtain⟨q1,q2,q3,q4,q5,q6,_⟩:=(Obn h ws e3 Ya).2 _ _ _ ht;have mx:=Omn h hp e3 Ya ht;simp only at he
   split at he
   rename_i dS
   cases hr:V1g E s (V7 s (V7 s e+1)) d with
   |non=>rw[hr]at he;cases he
   |bad c p=>rw[hr]at he;cases he
   |ok v =>
    obtain⟨cC,ve,yY⟩:=v;rw[hr]at he;simp only[V9.ok.injEq,U17]at he;obtain⟨rfl,rfl,rfl,rfl⟩:=he;exact⟨mx,.pair ws e m1 m2 (by simpa using bv) hk q3 q2 (λ _=>⟨d,ve,hr⟩)⟩
   rename_i dS
   simp only[V9.ok.injEq,U17]at he;obtain⟨rfl,rfl,rfl,rfl⟩:=he;exact⟨mx,.pair ws e m1 m2 (by simpa using bv) hk q3 q2 (λ h=>absurd h dS)⟩
  simp only[show ¬(1:Nat)=2 by decide,U2o,U2f]at he;cases ht:V2f g ws with
  |non=>rw[ht]at he;cases he
  |bad c p=>rw[ht]at he;cases he
  |ok g2 =>
   rw[ht]at he;simp only[V9.ok.injEq,U17]at he;obtain⟨rfl,rfl,rfl,rfl⟩:=he;exact⟨Ojx h hp e3 Ya ht,.head 1 ws e Ya (.inr ⟨m1,m2,rfl⟩) hk i9.1 ((O9q h ws e3 Ya).2 _ ht).le rfl⟩
  simp only[U2o]at he;cases ht:V2v g ws with
  |non=>rw[ht]at he;cases he
  |bad c p=>rw[ht]at he;cases he
  |ok g2 =>
   rw[ht]at he;simp only[V9.ok.injEq,U17]at he;obtain⟨rfl,rfl,rfl,rfl⟩:=he;exact⟨Omm h hp e3 Ya ht,.head 2 ws e Ya (.inl ⟨m1,rfl⟩) hk i9.1 ((Obm h ws e3 Ya).2 _ ht).le rfl⟩
theorem O9t{E:Vv}(hE:V11 E){s:Bs}(hs:s.length<=20000000){n k i e:Nat}{st:Vc}(hn:n<=s.length)(h:V1g E s n k=.ok (i,e,st)):st.length+n<=e:=by
 have A:V4k (s.drop n) s n:=⟨λ m=>by rw[U2j],by rw[U16];omega⟩
 have hr:=Oda hE A (by rw[U16];omega) 0 k Ya;rw[Nat.add_zero,h]at hr;cases hx:V1g E (s.drop n) 0 k with
 |non=>rw[hx]at hr;cases hr
 |bad c p=>rw[hx]at hr;cases hr
 |ok r =>
  obtain⟨i0,e0,UL⟩:=r;rw[hx]at hr;have:=((O1q hE (s.drop n) (by rw[U16];omega) 0 k Ya).2.2 _ _ _ hx).2.2.len;cases hr with
  |ok _ _ _ _ q =>
   have:=q.len;omega
theorem Obw{E:Vv}(hE:V11 E){s:Bs}(hs:s.length<=2000000){n:Nat}(hn:n<s.length){g:Vb}(h:GI g)(hp:GP g.nds)(hl:g.nds.length+2*s.length+2<=20000000){e:Nat}{g':Vb}(he:V32 E s n g=.ok (e,g')):GP g'.nds/\g'.nds.length+2*n<=g.nds.length+2*e:=by
 obtain⟨it,hi,rfl,_⟩:=Ohc he;have hb:=V8 s n Ya;have k:=(O74 hE s Ya n hn).2.2 it hi;have a9:=k.lt;have dP:∃e0 wE,V3l E s (V7 s n)=.ok (e0,wE)/\e0<=it.b/\it.kind=wE.kind:=by
  have ie:=hi;unfold V3v at ie;cases j8:V3l E s (V7 s n) with
  |non=>rw[j8]at ie;cases ie
  |bad c p=>rw[j8]at ie;cases ie
  |ok r =>
   obtain⟨e0,wE⟩:=r;rw[j8]at ie;simp only at ie;have aP:=((Obk hE s Ya _ hb.2).2.2 e0 wE j8).le;cases hc:V25 s e0 with
   |bad c p=>rw[hc]at ie;cases ie
   |ok m =>
    rw[hc]at ie;have:=((V5f s e0 aP.2).1 _ hc).1;simp only[V9.ok.injEq]at ie;subst ie;exact⟨e0,wE,rfl,this,rfl⟩
 obtain⟨e0,wE,dP,CO,fx⟩:=dP;have zc:=Ohb hE hb.2 dP;unfold V32 at he;cases hw:V2n E s n g with
 |non=>rw[hw]at he;cases he
 |bad c p=>rw[hw]at he;cases he
 |ok r =>
  obtain⟨into,root,nds,g1⟩:=r;rw[hw,hi]at he;obtain⟨p1,q⟩:=Ojy hE hs Ya h hp Ya hw;have wG:=((O5s hE hs (n:=n) Ya h Ya).2 _ _ _ _ hw).gi;simp only at he;have lQ:g1.nds.length+2*n<=g.nds.length+2*it.b/\(it.kind=1->∃ws e1 d ve,V1q E s (V7 s n)=.ok (ws,e1)/\g1.nds.length+1<=g.nds.length+ws.length/\Tb g1 into/\ws.length+n<=e1/\e1<V7 s (V7 s e1+1)/\V7 s (V7 s e1+1)<=s.length/\V1g E s (V7 s (V7 s e1+1)) d=.ok (root,ve,nds)/\ve<=it.b):=by
   cases q with
   |blank b1 b2 b3 =>
    subst b2;refine⟨Ya,λ hk=>?_⟩;rcases zc with⟨_,r2,_⟩|⟨_,_,r2,_⟩|⟨_,_,_,r2⟩|⟨_,_,r1,_⟩
    omega;omega;omega
    rw[b1]at r1;cases r1
   |head m ws e1 b1 b2 b3 b4 b5 b6 =>
    have aA:=V8 s (V7 s n+m) b4;have aP:=(O15 hE (s:=s) aA.2).1 _ _ b3;have aV:=V8 s e1 aP.2.1;have eT:=O3q hE (s.length+2) _ [] ws e1 aA.2 b3;simp only[U1q,U1v]at eT;rcases zc with⟨r1,r2,CN,e',r3,r4⟩|⟨r0,r1,r2,CN,e',r3,r4⟩|⟨r0,r1,_,r2⟩|⟨r0,r1,_⟩
    rcases b2 with⟨c1,rfl⟩|⟨c1,_⟩
    exact J182
    rw[r1]at c1;cases c1
    rcases b2 with⟨c1,_⟩|⟨_,c1,rfl⟩
    rw[r0]at c1;cases c1
    exact J182;exact J191
    exact J191
   |pair ws e1 b1 b2 b3 b4 b5 b6 b7 =>
    have aP:=(O15 hE (s:=s) hb.2).1 _ _ b4;have aV:=V8 s e1 aP.2.1;have eT:=O3q hE (s.length+2) _ [] ws e1 hb.2 b4;simp only[U1q,U1v]at eT;rcases zc with⟨r1,_⟩|⟨_,r1,_⟩|⟨_,_,r1,_⟩|⟨_,_,_,rk,CN,e',N2,R3,r3,r4,r5⟩
    rw[b1]at r1;cases r1
    rw[b2]at r1;cases r1
    rw[b3]at r1;cases r1
    rw[b4]at r3;simp only[V9.ok.injEq,U17]at r3;obtain⟨rfl,rfl⟩:=r3;have lP:=byteAt_lt r4 Yd;have iq:=V8 s (V7 s e1+1) Ya;obtain⟨d,ve,hr⟩:=b7 r4;have h0:=O9s (k0:=0) (U2u d) hr;rw[r5]at h0;simp only[V9.ok.injEq,U17]at h0;obtain⟨_,rfl,_⟩:=h0;have hv:=((O1q hE s Ya _ d iq.2).2.2 _ _ _ hr).1;exact⟨Ya,λ _=>⟨ws,e1,d,_,b4,b5,b6,Ya,Ya,iq.2,hr,CO⟩⟩
  split at he;simp only[V9.ok.injEq,U17]at he;rw[<-he.2];exact⟨p1,lQ.1⟩
  split at he
  rename_i hk
  obtain⟨ws,e1,d,ve,c1,c2,c3,c4,c5,c6,c7,c8⟩:=lQ.2 hk
  split at he;cases he
  split at he;simp only[V9.ok.injEq,U17]at he;rw[<-he.2];obtain⟨v1,v2,v3⟩:=Ojw hE c7;have v4:=((O1q hE s Ya _ d c6).2.2 _ _ _ c7).2.2;have v5:=O9t hE Ya c6 c7;refine⟨p1.graft wG.wf v4.wf v1 v2 v3 (wG.lt c3) _ _,?_⟩;show (Vf (g1.nds++nds.map _) into _ _ _).length+2*n<=_;unfold Vf;rw[U2i,U1b,U1j];omega
  cases he
  simp only[V9.ok.injEq,U17]at he;rw[<-he.2];exact⟨p1,lQ.1⟩
theorem gi0:GI V4p:=by
 have bR:∀i,Vd V4p i=if i=0 then (1,0) else (0,0):=by
  intro i;cases i with
  |zero=>rfl
  |succ i=>unfold Vd V4p;simp
 have hT:∀i,Tb V4p i ↔ i=0:=by
  intro i;unfold Tb;rw[bR]
  split;rename_i e;simp[e]
  rename_i e;simp[e]
 refine⟨rfl,λ i nd h=>?_,λ i h=>?_,λ i h=>?_,λ i=>?_,(hT 0).2 rfl,(hT 0).2 rfl⟩
 cases i with
 |zero=>simp only[V4p,U2a,U1f]at h;subst h;exact O8u 0 8
 |succ i=>simp[V4p]at h
 rw[(hT i).1 h];exact⟨_,rfl,rfl⟩;rw[bR]at h;split at h <;> simp at h
 rw[bR];split <;> simp
theorem gp0:GP V4p.nds:=by
 have h0:∀(i:Nat) nd,V4p.nds[i]?=some nd->nd.subs=[]:=by
  intro i nd h;cases i with
  |zero=>simp only[V4p,U2a,U1f]at h;subst h;rfl
  |succ i=>simp[V4p]at h
 exact⟨λ i j x y u hx hy h1 h2=>by (rw[h0 i x hx]at h1;cases h1),λ i x hx h=>by (rw[h0 i x hx]at h;cases h),λ _=>0,λ i x hx u hu=>by (rw[h0 i x hx]at hu;cases hu)⟩
structure Vbr(s:Bs)(G:Vb):Prop where
 gi:GI G
 gp:GP G.nds
 len:G.nds.length<=1+2*s.length
 its:G.its.length<=s.length
theorem Ohl{E:Vv}(hE:V11 E){s:Bs}(hs:s.length<=1000000):∀(f n:Nat)(g:Vb),n<=s.length->s.length<n+f->GI g->GP g.nds->g.nds.length<=1+2*n->g.its.length<=n->g.many<=n->g.dep<=2*s.length+3 ->grownF E s f n g≠.non/\∀G,grownF E s f n g=.ok G->Vbr s G:=by
 intro f
 induction f with
 |zero=>intro n g hn hf;omega
 |succ f ih =>
  intro n g hn hf h hp hl hi hm hd;unfold grownF
  split
  rename_i a9
  rw[U1a (by unfold V7k;simp only[U1h,U1x];omega)];obtain⟨i1,i2⟩:=Obq hE Ya a9 h Ya;cases hx:V32 E s n g with
  |non=>exact absurd hx i1
  |bad c p=>exact⟨Yb,λ G he=>by simp at he⟩
  |ok r =>
   obtain⟨e,g1⟩:=r;have q:=i2 _ _ hx;obtain⟨p1,p2⟩:=Obw hE Ya a9 h hp Ya hx;have q1:=q.lt;have q2:=q.its;have q3:=q.many;have q4:=q.dep;exact ih e g1 q.le Ya q.gi p1 Ya Ya Ya Ya
  refine⟨Yb,λ G he=>?_⟩;simp only[V9.ok.injEq]at he;subst he;exact⟨h,hp,Ya,Ya⟩
theorem Ofb{E:Vv}(hE:V11 E){s:Bs}(hs:s.length<=1000000):V1e E s≠.non/\∀G,V1e E s=.ok G->Vbr s G :=
 Ohl hE hs _ 0 V4p (U2u _) Ya gi0 gp0 Yn Yn Yn Yn
theorem Ohm{Q:Bs->Bs}{nds:Vc}{r:Nat->Nat}(hr:Rk nds r):∀(f i:Nat),r i<f->∃t,V28 Q nds f i=some t:=by
 intro f
 induction f with
 |zero=>intro i h;omega
 |succ f ih =>
  intro i h;unfold V28;cases hn:nds[i]? with
  |none=>exact⟨[],rfl⟩
  |some nd =>
   simp only;have:∀(js:List Nat)(ks:List Bs),(∀u∈js,r u<r i)->∃us,V17 (V28 Q nds f) Q ks js=some us:=by
    intro js
    induction js with
    |nil=>intro ks _;exact⟨[],by unfold V17;rfl⟩
    |cons j js R5 =>
     intro ks hj;obtain⟨t,ht⟩:=ih j (by have:=hj j Yb;omega);obtain⟨us,hu⟩:=R5 ks.tail (λ u hu=>hj u (U24 _ hu));unfold V17;rw[ht,hu];exact⟨_,rfl⟩
   obtain⟨us,hu⟩:=this nd.subs nd.keys (λ u hu=>hr i nd hn u hu);rw[hu];exact⟨_,rfl⟩
theorem O5v:∀(N:Nat)(l:List Nat),l.Nodup->(∀x∈l,x<N)->l.length<=N:=by
 intro N
 induction N with
 |zero =>
  intro l _ h;cases l with
  |nil=>simp
  |cons a l=>exact absurd (h a Yb) Ya
 |succ N ih =>
  intro l hn h;have h1:=ih (l.erase N) (List.Nodup.erase _ hn) (λ x hx=>by
   have h2:=(List.Nodup.mem_erase_iff hn).1 hx;have:=h x h2.2;omega)
  rw[List.length_erase]at h1
  split at h1 <;> omega
def O27(nds:Vc)(i:Nat):List Nat:=match nds[i]? with
 |some nd=>nd.subs
 |none=>[]
def lv(nds:Vc):Nat->List Nat
 |0=>[0]
 |k+1=>(lv nds k).flatMap (O27 nds)
theorem Oat{nds:Vc}{k x:Nat}(h:x∈lv nds (k+1)):∃i nd,i∈lv nds k/\nds[i]?=some nd/\x∈nd.subs:=by
 obtain⟨i,h1,h2⟩:=List.mem_flatMap.1 h;unfold O27 at h2;cases hn:nds[i]? with
 |none=>rw[hn]at h2;cases h2
 |some nd=>rw[hn]at h2;exact⟨i,nd,h1,hn,h2⟩
theorem Oo6{nds:Vc}(h:GP nds):∀(k m x:Nat),x∈lv nds k->x∈lv nds m->k=m:=by
 intro k
 induction k with
 |zero =>
  intro m x h1 h2;cases m with
  |zero=>rfl
  |succ m =>
   obtain⟨i,nd,_,a,b⟩:=Oat h2;simp only[lv,U20]at h1;subst h1;exact absurd b (h.fr i nd a)
 |succ k ih =>
  intro m x h1 h2;obtain⟨i,nd,a1,a2,a3⟩:=Oat h1;cases m with
  |zero =>
   simp only[lv,U20]at h2;subst h2;exact absurd a3 (h.fr i nd a2)
  |succ m =>
   obtain⟨j,nd',b1,b2,b3⟩:=Oat h2;have:=h.pu i j nd nd' x a2 b2 a3 b3;subst this;rw[ih m i a1 b1]
theorem Oby{nds:Vc}(h:GP nds)(hw:WF nds):∀k,(lv nds k).Nodup:=by
 intro k
 induction k with
 |zero=>simp[lv]
 |succ k ih =>
  unfold lv List.Nodup;rw[List.pairwise_flatMap];refine⟨λ i _=>?_,?_⟩
  unfold O27;cases hn:nds[i]? with
  |none=>exact List.Pairwise.nil
  |some nd=>exact (hw i nd hn).up.imp λ h=>by omega
  refine ih.imp λ {i j} R6 x hx y hy e=>?_
  subst e;unfold O27 at hx hy;cases hi:nds[i]? with
  |none=>rw[hi]at hx;cases hx
  |some nd =>
   cases hj:nds[j]? with
   |none=>rw[hj]at hy;cases hy
   |some nd' =>
    rw[hi]at hx;rw[hj]at hy;exact R6 (h.pu i j nd nd' x hi hj hx hy)
theorem Oli{nds:Vc}(hw:WF nds)(h0:0<nds.length)(k:Nat):∀x∈lv nds k,x<nds.length:=by
 intro x hx;cases k with
 |zero=>simp only[lv,U20]at hx;omega
 |succ k =>
  obtain⟨i,nd,_,a,b⟩:=Oat hx;exact (hw i nd a).lt x b
def cnt(nds:Vc):Nat->Nat->Nat
 |0,k=>(lv nds k).length
 |f+1,k=>(lv nds k).length+cnt nds f (k+1)
theorem Oo7{nds:Vc}(h:GP nds)(hw:WF nds)(h0:0<nds.length)(f:Nat):cnt nds f 0<=nds.length:=by
 have key:∀f k,∃l:List Nat,l.length=cnt nds f k/\l.Nodup/\(∀x∈l,x<nds.length)/\∀x∈l,∃m,k<=m/\x∈lv nds m:=by
  intro f
  induction f with
  |zero=>intro k;exact⟨lv nds k,rfl,Oby h hw k,Oli hw h0 k,λ x hx=>⟨k,U12 _,hx⟩⟩
  |succ f ih =>
   intro k;obtain⟨l,l1,l2,l3,l4⟩:=ih (k+1);refine⟨lv nds k++l,by simp[cnt,l1],?_,λ x hx=>?_,λ x hx=>?_⟩;rw[List.nodup_append];refine⟨Oby h hw k,l2,λ a ha b hb e=>?_⟩;subst e;obtain⟨m,m1,m2⟩:=l4 a hb;have:=Oo6 h k m a ha m2;omega
   rcases U29.1 hx with hx|hx
   exact Oli hw h0 k x hx
   exact l3 x hx
   rcases U29.1 hx with hx|hx
   exact⟨k,U12 _,hx⟩
   obtain⟨m,m1,m2⟩:=l4 x hx;exact⟨m,Ya,m2⟩
 obtain⟨l,l1,l2,l3,_⟩:=key f 0;rw[<-l1];exact O5v _ l l2 l3
def V90(Q:Bs->Bs)(nds:Vc)(f i:Nat):Nat:=match V28 Q nds f i with
 |some t=>t.length
 |none=>0
def V59(Q:Bs->Bs)(nds:Vc)(f:Nat):List Nat->Nat
 |[]=>0
 |i::l=>V90 Q nds f i+V59 Q nds f l
theorem Ok2(Q:Bs->Bs)(nds:Vc)(f:Nat)(a b:List Nat):V59 Q nds f (a++b)=V59 Q nds f a+V59 Q nds f b:=by
 induction a with
 |nil=>simp[V59]
 |cons i a ih=>simp only[U1o,V59,ih];omega
theorem Ok3{Q:Bs->Bs}{nds:Vc}{f K1:Nat}:∀(js:List Nat)(ks:List Bs)(us:Bs),(∀k∈ks,(Q k).length<=K1)->V17 (V28 Q nds f) Q ks js=some us->us.length<=V59 Q nds f js+js.length*(K1+2):=by
 intro js
 induction js with
 |nil=>intro ks us _ h;simp only[V17,U1f]at h;subst h;simp
 |cons j js ih =>
  intro ks us hk h;unfold V17 at h;cases ht:V28 Q nds f j with
  |none=>rw[ht]at h;cases h
  |some t =>
   cases hu:V17 (V28 Q nds f) Q ks.tail js with
   |none=>rw[ht,hu]at h;cases h
   |some u =>
    rw[ht,hu]at h;simp only[U1f]at h;subst h;have h1:=ih ks.tail u (λ k ed=>hk k (List.mem_of_mem_tail ed)) hu;have h2:V90 Q nds f j=t.length:=by unfold V90;rw[ht]
    cases ks with
    |nil=>simp only[V59,U1b,U1d,U1q,Nat.succ_mul,h2];omega
    |cons k r =>
     have h3:=hk k Yb;simp only[V59,U1b,U1d,Nat.succ_mul,h2];omega
theorem Ok4{Q:Bs->Bs}{nds:Vc}{K0 K1:Nat}(hb:∀(i:Nat) nd,nds[i]?=some nd->(Lib.itoa (nd.kind:Int)).length+(Q nd.text).length<=K0/\∀k∈nd.keys,(Q k).length<=K1)(f i:Nat):V90 Q nds (f+1) i<=K0+(V59 Q nds f (O27 nds i)+(O27 nds i).length*(K1+2)):=by
 unfold V90 V28 O27;cases hn:nds[i]? with
 |none=>simp
 |some nd =>
  simp only;cases hs:V17 (V28 Q nds f) Q nd.keys nd.subs with
  |none=>simp
  |some us =>
   have h1:=Ok3 nd.subs nd.keys us (hb i nd hn).2 hs;have h2:=(hb i nd hn).1;simp only[U1b];omega
theorem Ohn{Q:Bs->Bs}{nds:Vc}{K0 K1:Nat}(hb:∀(i:Nat) nd,nds[i]?=some nd->(Lib.itoa (nd.kind:Int)).length+(Q nd.text).length<=K0/\∀k∈nd.keys,(Q k).length<=K1)(f:Nat):∀J:List Nat,V59 Q nds (f+1) J<=J.length*K0+(V59 Q nds f (J.flatMap (O27 nds))+(J.flatMap (O27 nds)).length*(K1+2)):=by
 intro J
 induction J with
 |nil=>simp[V59]
 |cons i J ih =>
  have:=Ok4 hb f i;rw[List.flatMap_cons,Ok2,U1b];simp only[V59,U1d,Nat.add_mul,Nat.one_mul];omega
theorem Ok5{Q:Bs->Bs}{nds:Vc}(h:GP nds)(hw:WF nds)(h0:0<nds.length){K0 K1:Nat}(hb:∀(i:Nat) nd,nds[i]?=some nd->(Lib.itoa (nd.kind:Int)).length+(Q nd.text).length<=K0/\∀k∈nd.keys,(Q k).length<=K1):∀(f:Nat)(t:Bs),V28 Q nds f 0=some t->t.length<=nds.length*(K0+K1+2):=by
 have key:∀f k,V59 Q nds f (lv nds k)+(lv nds k).length*(K1+2)<=cnt nds f k*(K0+K1+2):=by
  intro f
  induction f with
  |zero =>
   intro k;have:∀J:List Nat,V59 Q nds 0 J=0:=by
    intro J
    induction J with
    |nil=>rfl
    |cons i J ih=>simp only[V59,ih];rfl
   rw[this,U1v];exact Nat.mul_le_mul_left _ Ya
  |succ f ih =>
   intro k;have h1:=Ohn hb f (lv nds k);have h2:=ih (k+1);have e:(lv nds k).flatMap (O27 nds)=lv nds (k+1):=rfl;rw[e]at h1;have e2:(lv nds k).length*(K0+K1+2)=(lv nds k).length*K0+(lv nds k).length*(K1+2):=by rw[<-Nat.mul_add,U28]
   show _<=((lv nds k).length+cnt nds f (k+1))*(K0+K1+2);rw[Nat.add_mul,e2];omega
 intro f t ht;have h1:=key f 0;have h2:=U4h (K0+K1+2) (Oo7 h hw h0 f);simp only[lv,V59,V90,ht]at h1;omega
structure V5q(E:Vv):Prop where
 strN:∀l t k,E.str l=.ok (t,k)->t.length<=l.length
 scalN:∀l kd t m,E.scal l=.ok (kd,t,m)->t.length<=l.length+60
theorem O9v(T:Nat->UInt8×UInt8)(long:Bool)(q:UInt8)(l:Bs):∀(f n:Nat)(out t:Bs)(k:Nat),out.length<=n->n<=l.length->V2i (V15 T long q) l f n out=.ok (t,k)->t.length<=l.length:=by
 intro f
 induction f with
 |zero=>intro n out t k _ _ h;simp[V2i]at h
 |succ f ih =>
  intro n out t k ho hn h;unfold V2i at h;cases hd:l.drop n with
  |nil=>rw[hd]at h;cases h
  |cons c r =>
   have hl:=U2w List.length hd;rw[U16]at hl;rw[hd]at h;simp only at h;cases hs:V15 T long q (c::r) with
   |none=>rw[hs]at h;cases h
   |some sr =>
    rw[hs]at h;cases sr with
    |bad p=>cases h
    |go m u over =>
     obtain⟨h1,h2,h3⟩:=V3p T long q _ m u over hs;simp only at h
     split at h;simp only[V9.ok.injEq,U17]at h;rw[<-h.1,U1b];omega
     exact ih (n+m) (out++u) t k (by rw[U1b];omega) Ya h
theorem Okb(l:Bs)(m:Nat)(h:feed l=.ok m):m<=l.length:=by
 unfold feed at h
 split at h;simp only[V2x.ok.injEq]at h;subst h;simp;simp only[V2x.ok.injEq]at h;subst h;simp;cases h
 simp only[V2x.ok.injEq]at h;omega
theorem Okc(T:Nat->UInt8×UInt8)(l t:Bs)(k:Nat)(h:Vi T l=.ok (t,k)):t.length<=l.length:=by
 unfold Vi at h;cases l with
 |nil=>cases h
 |cons c r =>
  simp only at h
  split at h
  split at h
  rename_i hl
  split at h;cases h
  rename_i m hf
  have h3:=O4w _ hl;have:=Okb _ _ hf;rw[U16]at this;exact O9v T true c _ _ _ [] t k Yb Ya h
  exact O9v T false c _ _ _ [] t k Yb Yb h
  cases h
theorem O3d{v:Int}(h0 : -9223372036854775808<=v)(h1:v<=9223372036854775807):(Lib.itoa v).length<=21:=Lib.itoa_length_le v h0 h1
theorem Odc{l x:Bs}(h:V1d l=.ok x):x.length<=21:=by
 have key:∀r s d,V1t r s d=.ok x->x.length<=21:=by
  intro r s d h;unfold V1t at h
  split at h;cases h
  split at h
  rename_i v hv
  simp only[V2x.ok.injEq]at h;rw[<-h];unfold V1z at hv
  split at hv;have:=Lib.parseIntB_bounds hv;exact O3d (by simp at this;omega) (by simp at this;omega)
  split at hv
  rename_i n _
  split at hv;simp only[U4m]at hv;exact O3d Ya Ya
  cases hv
  cases hv
  cases hv
  cases h
  cases h
 unfold V1d at h
 split at h;exact key _ _ _ h
 exact key _ _ _ h
theorem Ohq(l cs:Bs):(Lib.trimLeftS l cs).length<=l.length:=by
 unfold Lib.trimLeftS;exact List.Sublist.length_le (U39 _)
theorem O9w(l cs:Bs):(Lib.trimRightS l cs).length<=l.length:=by
 unfold Lib.trimRightS;rw[U4n];have:=List.Sublist.length_le (U39 (cs.contains ·) (l:=l.reverse));rw[U4n]at this;exact this
theorem Obz{l:Bs}{d:Dec}(h:V4v l=some d):d.whole.length+d.part.length<=l.length:=by
 have hw:∀(p:UInt8->Bool)(l:Bs),(l.takeWhile p).length+(l.dropWhile p).length=l.length:=by
  intro p l;rw[<-U1b,U40]
 unfold V4v at h;simp only at h;generalize gm:(if Vg V2k l=true then l.drop 1 else l)=l1 at h;have h1:l1.length<=l.length:=by
  rw[<-gm];split;rw[U16];omega
  omega
 split at h;cases h
 generalize km:(if Vg V2m (l1.dropWhile O2)=true then (l1.dropWhile O2).drop 1 else l1.dropWhile O2)=l3 at h;have h3:l3.length<=(l1.dropWhile O2).length:=by
  rw[<-km];split;rw[U16];omega
  omega
 generalize FB:(if Vg V2m (l1.dropWhile O2)=true then l3.takeWhile O2 else [])=pt at h;have h4:pt.length<=l3.length:=by
  rw[<-FB];split;have:=hw O2 l3;omega
  simp
 have h5:=hw O2 l1;rw[U44]at h;obtain⟨_,h⟩:=h;simp only[U1f]at h;rw[<-h];simp only;omega
theorem Odd{l x:Bs}(h:V18 l=.ok x):x.length<=l.length+23:=by
 unfold V18 at h
 split at h;cases h
 rename_i d hd
 have hs:=Obz hd
 split at h;cases h
 rename_i n hn
 simp only at h
 split at h;simp only[V2x.ok.injEq]at h;rw[<-h];simp
 split at h
 rename_i hw
 simp only[V2x.ok.injEq]at h;unfold V2t at hw;simp only[U1h,U1x]at hw;have h1:=O3d (v:=n-(d.part.length:Int)+((Vk (d.whole++d.part)).length:Int)-((Vm (Vk (d.whole++d.part))).length:Int)) Ya Ya;have h2:(Vm (Vk (d.whole++d.part))).length<=d.whole.length+d.part.length:=by
  have a:=O9w (Vk (d.whole++d.part)) [48];have b:=Ohq (d.whole++d.part) [48];rw[U1b]at b;unfold Vm;unfold Vk at a⊢;omega
 rw[<-h];simp only[U1b,U1d,U1q];have h3:(if d.minus=true then [45] else []:Bs).length<=1:=by split <;> simp
 omega
 cases h
theorem Ode{l x:Bs}(h:V21 l=.ok x):x.length<=l.length+23:=by
 unfold V21 at h
 split at h
 ·simp only[V2x.ok.injEq]at h;rw[<-h];unfold V1v
  split
  ·split <;> (simp[V5w];try omega)
  split <;> (simp[V6n];try omega)
 simp only at h
 split at h
 have h2:=V3o l;have h3:∀z y:Bs,V18 (match z with|43::r=>r|r=>r)=.ok y->y.length<=z.length+23:=by
  intro z y hy;have:=Odd hy
  split at this;simp only[U1d];omega
  exact this
 have:=h3 _ _ h;omega
 cases h
theorem Odf{l x:Bs}(h:V1w l=.ok x):x.length<=l.length+40:=by
 have qX:∀l:Bs,(Vl l).1.length<=8/\(Vl l).2.length<=l.length:=by
  intro l;unfold Vl
  split
  refine⟨by simp only[U26];omega,?_⟩;simp only
  split;have:=Vj O2 (l.drop 9);rw[U16]at this;omega
  simp
  simp
 have CP:∀l:Bs,(V23 l).length<=6:=by
  intro l;exact J19
 have hs:(Vh l).date.length<=10/\(Vh l).time.length<=8/\(Vh l).part.length<=l.length/\(Vh l).zone.length<=6:=by
  unfold Vh;have c1:=qX (l.drop 11);have c2:=qX l;rw[U16]at c1
  split
  split
  simp only
  split;simp[U26];omega
  exact⟨by rw[U26];omega,c1.1,by have:=c1.2;simp only;omega,CP _⟩
  simp[U26];omega
  exact⟨Yb,c2.1,c2.2,Yb⟩
 unfold V1w at h;simp only at h
 split at h;cases h
 split at h
 simp only[V2x.ok.injEq]at h;rw[<-h];unfold V54;simp only[U1b];have h1:(if (Vh l).date≠[]/\(Vh l).time≠[] then [84] else []:Bs).length<=1:=by split <;> simp
 have h2:(if Vm (Vh l).part≠[] then 46::Vm (Vh l).part else []:Bs).length<=(Vh l).part.length+1:=by
  have:=O9w (Vh l).part [48]
  split;simp only[U1d];unfold Vm;omega
  simp
 have h3:(V5x (Vh l).zone).length=(Vh l).zone.length:=by unfold V5x;simp
 omega
 cases h
theorem Ohr(l:Bs)(kd:Nat)(t:Bs)(m:Nat)(h:Ve l=.ok (kd,t,m)):t.length<=l.length+60:=by
 unfold Ve at h
 split at h
 split at h
 rename_i x hx
 simp only[V9.ok.injEq,U17]at h;rw[<-h.2.1];have:=Odf hx;rw[U26]at this;omega
 cases h
 split at h
 rename_i k x hx
 simp only[V9.ok.injEq,U17]at h;rw[<-h.2.1];have ht:=Vj V3a l;unfold V2j at hx
 split at hx
 rename_i hb
 simp only[V2x.ok.injEq,U17]at hx;rw[<-hx.2];unfold V3e;omega
 split at hx
 rename_i y hy
 simp only[V2x.ok.injEq,U17]at hx;rw[<-hx.2];have:=Odc hy;omega
 split at hx
 split at hx
 rename_i y hy
 simp only[V2x.ok.injEq,U17]at hx;rw[<-hx.2];have:=Ode hy;unfold V3e at this;omega
 cases hx
 cases hx
 cases h
theorem V8q(T:Nat->UInt8×UInt8):V5q (Vbn T):=⟨Okc T,Ohr⟩
def Td(M:Nat)(st:Vc):Prop:=∀nd∈st,nd.kind<=8/\nd.text.length<=M/\∀k∈nd.keys,k.length<=M
theorem Td.app{M:Nat}{a b:Vc}(h:Td M a)(k:Td M b):Td M (a++b):=λ nd hn=>(U29.1 hn).elim (h nd) (k nd)
theorem Td.mod{M:Nat}{a:Vc}(h:Td M a)(t:Nat)(f:Nd->Nd)(hf:∀nd,nd.kind<=8/\nd.text.length<=M/\(∀k∈nd.keys,k.length<=M)->(f nd).kind<=8/\(f nd).text.length<=M/\∀k∈(f nd).keys,k.length<=M):Td M (a.modify t f):=by
 exact J141
theorem Td.put{M:Nat}{a:Vc}(h:Td M a)(t:Nat){w:Bs}(hw:w.length<=M)(sp:Nat×Nat)(i:Nat):Td M (Vf a t w sp i) :=
 h.mod t _ λ nd q=>⟨q.1,q.2.1,λ k hk=>(U29.1 (show k∈nd.keys++[w] from hk)).elim (q.2.2 k) λ e=>by (rw[U20]at e;subst e;exact hw)⟩
section
variable {E:Vv}(hL:V5q E){s:Bs}
include hL
end
def VTd(M:Nat)(V:V1n):Prop:=∀d n st i e st',Td M st->V d n st=.ok (i,e,st')->Td M st'
section
variable {E:Vv}(hL:V5q E){s:Bs}{V:V1n}{M:Nat}(hM:s.length<=M)(hV:VTd M V)
include hL hM hV
end
section
variable {s:Bs}{V:V1n}{M:Nat}(hV:VTd M V)
include hV
end
section
variable {E:Vv}(hE:V11 E)(hL:V5q E){s:Bs}{M:Nat}(hM:s.length+60<=M)
include hE hL hM
end
