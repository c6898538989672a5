/- The proof's part 28. -/
import Derived.Test.YtnkgknbdaiakgaaGreatDoorQ27
import Derived.Test.YtnkgknbdaiakgaaGreatDoorQ29
set_option maxHeartbeats 16000000
set_option linter.all false
namespace Go.Proofs.YtnkgknbdaiakgaaGreatDoor.Pl
def tot:Vc->Nat
 |[]=>0
 |nd::r=>nd.subs.length+tot r
theorem O3j:∀a b:Vc,tot (a++b)=tot a+tot b:=by
 intro a b
 induction a with
 |nil=>simp[tot]
 |cons x a ih=>simp only[U1o,tot,ih];omega
theorem O8x(f:Nd->Nd)(c:Nat)(hf:∀nd,(f nd).subs.length=nd.subs.length+c):∀(a:Vc)(t:Nat),t<a.length->tot (a.modify t f)=tot a+c:=by
 intro a
 induction a with
 |nil=>intro t h;simp at h
 |cons x a ih =>
  intro t h;cases t with
  |zero=>rw[List.modify_zero_cons,tot,tot,hf];omega
  |succ t =>
   rw[List.modify_succ_cons,tot,tot,ih t (by simpa using h)];omega
theorem O4i(a:Vc)(t:Nat)(w:Bs)(sp:Nat×Nat)(i:Nat)(ht:t<a.length):tot (Vf a t w sp i)=tot a+1 :=
 O8x _ 1 (λ nd=>by simp[V10]) a t ht
theorem O53{st:Vc}{t:Nat}(h:kind8 st t=true):t<st.length:=by
 unfold kind8 at h;cases hg:st[t]? with
 |none=>rw[hg]at h;simp at h
 |some nd=>exact (U14.1 hg).1
theorem Omo(table:Nat):∀(ws:List KW)(into d:Nat)(st:Vc)(am d':Nat)(st':Vc),V3d table ws into d st=.ok (am,d',st')->tot st'+st.length=tot st+st'.length:=by
 intro ws
 induction ws with
 |nil=>intro into d st am d' st' h;simp[V3d]at h
 |cons x rest ih =>
  intro into d st am d' st' h;obtain⟨w,a,b⟩:=x;unfold V3d at h;cases hs:V1a st into w with
  |non=>rw[hs]at h;cases h
  |yes i =>
   rw[hs]at h;cases rest with
   |nil=>cases h
   |cons y rest =>
    simp only at h
    split at h;exact ih _ _ _ _ _ _ h
    cases h
  |no =>
   rw[hs]at h;cases rest with
   |nil=>simp only[V9.ok.injEq,U17]at h;rw[<-h.2.2]
   |cons y rest =>
    simp only at h
    split at h;cases h
    split at h
    rename_i hk
    simp only[U1h]at hk;have:=ih _ _ _ _ _ _ h;rw[O4i _ _ _ _ _ (by have:=O53 hk.1;simp;omega),O3j]at this;unfold Vf at this;simp only[U2i,U1b,U1z,tot,V1s,U1q]at this;omega
    cases h
def Var(V:V1n):Prop:=∀d n st i e st',V d n st=.ok (i,e,st')->tot st'+st.length+1=tot st+st'.length
section
variable {E:Vv}{s:Bs}{V:V1n}(hV:Var V)
include hV
theorem Ohg(table n d:Nat)(st:Vc)(e:Nat)(st':Vc)(h:V1l E V s table n d st=.ok (e,st')):tot st'+st.length=tot st+st'.length:=by
 unfold V1l at h
 split at h;cases h
 cases h
 split at h;cases h
 cases h
 rename_i into d' st1 hy
 have q1:=Omo table _ _ _ _ _ _ _ hy;simp only at h
 split at h
 split at h;cases h
 cases h
 rename_i i e2 st2 hv
 have q2:=hV _ _ _ _ _ _ hv
 split at h;cases h
 split at h
 rename_i hk
 simp only[V9.ok.injEq,U17]at h;obtain⟨_,rfl⟩:=h;rw[O4i _ _ _ _ _ (O53 hk)];unfold Vf;rw[U2i];omega
 cases h
 cases h
theorem Ojz(table d:Nat):∀(f n:Nat)(st:Vc)(e:Nat)(st':Vc),V29 E V s table d f n st=.ok (e,st')->tot st'+st.length=tot st+st'.length:=by
 intro f
 induction f with
 |zero=>intro n st e st' h;simp[V29]at h
 |succ f ih =>
  intro n st e st' h;unfold V29 at h
  split at h;cases h
  cases h
  rename_i e1 st1 hy
  have q1:=Ohg hV table n d st e1 st1 hy;simp only at h
  split at h;exact J53
  split at h;have:=ih _ st1 e st' h;omega
  cases h
theorem Of9(d n:Nat)(st:Vc)(i e:Nat)(st':Vc)(h:V1h E V s d n st=.ok (i,e,st')):tot st'+st.length+1=tot st+st'.length:=by
 unfold V1h at h
 split at h;cases h
 split at h
 simp only at h
 split at h;cases h
 cases h
 rename_i e1 st1 hx
 have q:tot st1+(st++[V16]).length=tot (st++[V16])+st1.length:=by
  split at hx;simp only[V9.ok.injEq,U17]at hx;obtain⟨_,rfl⟩:=hx;rfl
  exact Ojz hV st.length d _ _ _ _ _ hx
 rw[O3j]at q;simp only[U1b,U1z,tot,V16,U1q]at q
 split at h
 rename_i hk
 simp only[V9.ok.injEq,U17]at h;obtain⟨_,_,rfl⟩:=h;have hm:=O8x (λ nd=>{ nd with sp:=((n:Int),((e1+1:Nat):Int)) }) 0 (λ nd=>rfl) st1 st.length (O53 hk);rw[hm,U2i];omega
 cases h
 cases h
omit hV
theorem Ohh{V:V1n}(hV:Var V)(d:Nat):∀(f n:Nat)(subs:List Nat)(st:Vc)(l:List Nat)(e:Nat)(st':Vc),V1f V s d f n subs st=.ok (l,e,st')->tot st'+st.length+l.length=tot st+st'.length+subs.length:=by
 intro f
 induction f with
 |zero=>intro n subs st l e st' h;simp[V1f]at h
 |succ f ih =>
  intro n subs st l e st' h;unfold V1f at h
  split at h;simp only[V9.ok.injEq,U17]at h;obtain⟨rfl,_,rfl⟩:=h;rfl
  split at h;cases h
  cases h
  rename_i i e1 st1 hv
  have q:=hV _ _ _ _ _ _ hv
  split at h;cases h
  split at h;cases h
  split at h;simp only[V9.ok.injEq,U17]at h;obtain⟨rfl,_,rfl⟩:=h;rw[U1b,U1z];omega
  split at h
  split at h;cases h
  have:=ih _ _ st1 l e st' h;rw[U1b,U1z]at this;omega
  cases h
theorem Ohi{V:V1n}(hV:Var V)(d n:Nat)(st:Vc)(i e:Nat)(st':Vc)(h:V2a V s d n st=.ok (i,e,st')):tot st'+st.length+1=tot st+st'.length:=by
 unfold V2a at h
 split at h;cases h
 split at h;cases h
 split at h;cases h
 cases h
 rename_i subs e1 st1 hx
 have q:=Ohh hV d _ _ [] st subs e1 st1 hx
 split at h;simp only[V9.ok.injEq,U17]at h;obtain⟨_,_,rfl⟩:=h;rw[O3j];simp only[U1b,U1z,tot,V4e,U1q]at q⊢;omega
 cases h
end
theorem Ofa(E:Vv)(s:Bs):∀f,Var (Vz E s f):=by
 intro f
 induction f with
 |zero=>intro d n st i e st' h;simp[Vz]at h
 |succ f ih =>
  intro d n st i e st' h;have lf:∀k t a b,tot (st++[V4t k t a b])+st.length+1=tot st+(st++[V4t k t a b]).length:=λ k t a b=>by
   rw[O3j];simp only[U1b,U1z,tot,V4t,U1q];omega
  unfold Vz at h;simp only at h
  split at h;exact J173
  split at h;exact Ohi ih d n st i e st' h
  split at h;exact Of9 ih d n st i e st' h
  exact J173
theorem Ohj{E:Vv}{s:Bs}{n k i e:Nat}{st:Vc}(h:V1g E s n k=.ok (i,e,st)):tot st+1=st.length:=by
 have:=Ofa E s 258 _ n [] i e st h
 simpa [tot]using this
structure Gx(g g':Vb):Prop where
 len:g'.srt.length=g'.nds.length
 le:g.nds.length<=g'.nds.length
 old:∀j,j<g.nds.length->(Vd g j).1=0->(Vd g' j).1=0/\g'.nds[j]?=g.nds[j]?
 grw:∀(j:Nat) nd,g.nds[j]?=some nd->(Vd g j).1≠0->(Vd g' j).1≠0/\∃nd',g'.nds[j]?=some nd'/\nd'.sp=nd.sp/\nd'.kind=nd.kind
 new:∀j,g.nds.length<=j->j<g'.nds.length->(Vd g' j).1≠0/\∃nd,g'.nds[j]?=some nd/\nd.sp=(-1,-1)/\(nd.kind=7\/nd.kind=8)
 cnt:tot g'.nds+g.nds.length=tot g.nds+g'.nds.length
 its:g'.its=g.its
 ns:g'.ns=g.ns
theorem Gx.refl{g:Vb}(h:g.srt.length=g.nds.length):Gx g g:=⟨h,U12 _,λ j _ h=>⟨h,rfl⟩,λ j nd h k=>⟨k,nd,h,rfl,rfl⟩,λ j h k=>by omega,rfl,rfl,rfl⟩
theorem Gx.trans{a b c:Vb}(h:Gx a b)(k:Gx b c):Gx a c:=by
 have aP:=h.le;have UM:=k.le;refine⟨k.len,Ya,λ j hj h0=>?_,λ j nd hn h0=>?_,λ j h1 h2=>?_,by have:=h.cnt;have:=k.cnt;omega,k.its.trans h.its,k.ns.trans h.ns⟩;obtain⟨p,q⟩:=h.old j hj h0;obtain⟨p2,q2⟩:=k.old j Ya p;exact⟨p2,q2.trans q⟩;obtain⟨p,nd',q1,q2,q3⟩:=h.grw j nd hn h0;obtain⟨p',CQ,r1,r2,r3⟩:=k.grw j nd' q1 p;exact⟨p',CQ,r1,r2.trans q2,r3.trans q3⟩
 by_cases hj:j<b.nds.length;obtain⟨p,nd,q1,q2,q3⟩:=h.new j h1 hj;obtain⟨p',nd',r1,r2,r3⟩:=k.grw j nd q1 p;exact⟨p',nd',r1,r2.trans q2,by rw[r3];exact q3⟩
 exact k.new j Ya h2
theorem Gx.grow{g:Vb}(h:g.srt.length=g.nds.length)(k:Nat)(hk:k=7\/k=8)(s:Nat×Nat)(hs:s.1≠0){t:Nat}(ht:t<g.nds.length)(AL:(Vd g t).1≠0)(w:Bs)(sp:Nat×Nat):Gx g (V1r (V1o g k s) t w sp g.nds.length)/\Vd (V1r (V1o g k s) t w sp g.nds.length) g.nds.length=s:=by
 have bR:∀i,Vd (V1r (V1o g k s) t w sp g.nds.length) i=if i<g.nds.length then Vd g i else if i=g.nds.length then s else (0,0):=by
  intro i;show (g.srt++[s]).getD i (0,0)=_;rw[O75,h];rfl
 have aL:(V1r (V1o g k s) t w sp g.nds.length).nds=Vf (g.nds++[V14 k]) t w sp g.nds.length:=rfl;have hl:(V1r (V1o g k s) t w sp g.nds.length).nds.length=g.nds.length+1:=by rw[aL];unfold Vf;simp
 refine⟨⟨?_,Ya,λ j hj h0=>?_,λ j nd hn h0=>?_,λ j h1 h2=>?_,?_,rfl,rfl⟩,by rw[bR];simp⟩;show (g.srt++[s]).length=_;rw[hl];simp[h];rw[bR,U1a hj,aL,Oj,U1c (by intro e;subst e;exact AL h0),U19 hj];exact⟨h0,rfl⟩;have hj:=(U14.1 hn).1;rw[bR,U1a hj,aL,Oj,U19 hj,hn];refine⟨h0,?_⟩;exact J185
 have hj:j=g.nds.length:=Ya;subst hj;rw[bR,aL,Oj,U1c (show ¬t=g.nds.length by omega)];exact⟨by simpa using hs,V14 k,Yb,rfl,hk⟩
 rw[aL,O4i _ _ _ _ _ Ye,O3j,<-aL,hl];simp only[tot,V14,U1q];omega
theorem O33{g:Vb}{t:Nat}(h:V2o g t=true):t<g.nds.length/\(Vd g t).1≠0:=by
 unfold V2o at h;simp only[U1h,bne_iff_ne]at h;exact⟨O53 h.1,h.2⟩
theorem Oe4{g:Vb}(h:g.srt.length=g.nds.length){t d:Nat}{w:Bs}{a b:Nat}{s:Nat×Nat}(hs:s.1≠0){over:Nat->Ov}{n d':Nat}{g':Vb}(he:V1p g t d w a b s over=.ok (n,d',g')):Gx g g'/\((∃i d2,over i=.go n d2/\g'=g)\/Vd g' n=s):=by
 unfold V1p at he
 split at he;cases he
 split at he;cases he
 cases he
 rename_i n2 d2 ho
 simp only[V9.ok.injEq,U17]at he;obtain⟨rfl,rfl,rfl⟩:=he;exact⟨Gx.refl h,.inl ⟨_,d2,ho,rfl⟩⟩
 split at he;cases he
 split at he
 rename_i hg
 simp only[U1h]at hg;simp only[V9.ok.injEq,U17]at he;obtain⟨rfl,_,rfl⟩:=he;obtain⟨q1,q2⟩:=Gx.grow h 8 (.inr rfl) s hs (O33 hg.1).1 (O33 hg.1).2 w (a,b);exact⟨q1,.inr q2⟩
 cases he
theorem Obx(s:Nat×Nat)(hs:s.1≠0)(over:Vb->Nat->Nat->Ov):∀(ws:List KW)(t d:Nat)(g:Vb)(t' d':Nat)(g':Vb),g.srt.length=g.nds.length->V24 s over ws t d g=.ok (t',d',g')->Gx g g':=by
 intro ws
 induction ws with
 |nil=>intro t d g t' d' g' hp he;simp only[V24,V9.ok.injEq,U17]at he;rw[<-he.2.2];exact Gx.refl hp
 |cons x rest ih =>
  intro t d g t' d' g' hp he;obtain⟨w,a,b⟩:=x;unfold V24 at he;cases aa:V1p g t d w a b s (over g d) with
  |non=>rw[aa]at he;cases he
  |bad c p=>rw[aa]at he;cases he
  |ok r =>
   obtain⟨n,d2,g2⟩:=r;rw[aa]at he;have q:=(Oe4 hp hs aa).1;exact q.trans (ih n d2 g2 t' d' g' q.len he)
theorem Ok0{g g':Vb}(hp:g.srt.length=g.nds.length){k:List KW}(he:V2f g k=.ok g'):Gx g g':=by
 unfold V2f at he
 split at he;cases he
 cases he
 rename_i t d g1 hy
 have h1:=Obx _ Yd _ _ _ _ _ _ _ _ hp hy
 split at he;cases he
 rename_i w a b hl
 split at he;cases he
 cases he
 rename_i n d2 g2 hs
 simp only[V9.ok.injEq]at he;subst he;obtain⟨h2,h3⟩:=Oe4 h1.len Yd hs;have h4:(Vd g2 n).1≠0:=by
  rcases h3 with⟨i,d3,h3,rfl⟩|h3
  split at h3;rename_i h;cases h3;rw[h];decide
  cases h3
  rw[h3];decide
 have a9:n<g2.srt.length:=by
  cases hx:decide (n<g2.srt.length) with
  |true=>exact of_decide_eq_true hx
  |false =>
   exfalso;apply h4;unfold Vd;rw[U1i,U2g (Nat.le_of_not_lt (of_decide_eq_false hx))];rfl
 have bR:∀(g3:Vb),g3.srt=g2.srt.set n (1,0)->∀i,(Vd g3 i).1≠0 ↔ (Vd g2 i).1≠0:=by
  intro g3 e i;unfold Vd;rw[e,getD_set _ _ _ _ a9]
  split;rename_i e;subst e;exact⟨λ _=>h4,λ _=>by decide⟩
  exact Iff.rfl
 have hz:=bR _ (rfl:({ g2 with srt:=g2.srt.set n (1,0),sec:=n,dep:=d2,many:=g2.many+1 }:Vb).srt=_);refine h1.trans ⟨by show (g2.srt.set n (1,0)).length=g2.nds.length;rw[U2c];exact h2.len,h2.le,λ j hj h0=>?_,λ j nd hn h0=>?_,λ j p1 p2=>?_,h2.cnt,h2.its,h2.ns⟩;obtain⟨q1,q2⟩:=h2.old j hj h0;refine⟨?_,q2⟩;have:=hz j;omega;obtain⟨q1,q2⟩:=h2.grw j nd hn h0;exact⟨(hz j).2 q1,q2⟩
 obtain⟨q1,q2⟩:=h2.new j p1 p2;exact⟨(hz j).2 q1,q2⟩
theorem Oe5{g:Vb}(h:g.srt.length=g.nds.length){i:Nat}(hi:i<g.nds.length)(h4:(Vd g i).1≠0)(d:Nat):Gx g (V31 g i d):=by
 obtain⟨q,_⟩:=Gx.grow h 8 (.inr rfl) (1,0) Yd hi h4 [] (0,0);have bR:∀j,Vd (V31 g i d) j=Vd (V1r (V1o g 8 (1,0)) i [] (0,0) g.nds.length) j:=λ j=>rfl
 have hl:(V31 g i d).nds.length=(V1r (V1o g 8 (1,0)) i [] (0,0) g.nds.length).nds.length:=by
  show ((g.nds++[V14 8]).modify i _).length=(Vf (g.nds++[V14 8]) i _ _ _).length;unfold Vf;rw[U2i,U2i]
 have aL:∀j,(V31 g i d).nds[j]?=if i=j then (g.nds++[V14 8])[j]?.map (λ nd=>{ nd with subs:=nd.subs++[g.nds.length] }) else (g.nds++[V14 8])[j]?:=λ j=>Of _ _ _ _
 have Ji:∀j,(V1r (V1o g 8 (1,0)) i [] (0,0) g.nds.length).nds[j]?=if i=j then (g.nds++[V14 8])[j]?.map (λ nd=>V10 nd [] (0,0) g.nds.length) else (g.nds++[V14 8])[j]?:=λ j=>Oj _ _ _ _ _ _
 have N6:∀(j:Nat) nd,(V1r (V1o g 8 (1,0)) i [] (0,0) g.nds.length).nds[j]?=some nd->∃nd',(V31 g i d).nds[j]?=some nd'/\nd'.sp=nd.sp/\nd'.kind=nd.kind:=by
  intro j nd hj;rw[Ji]at hj;rw[aL]
  split at hj
  rename_i e
  rw[U1a e];cases hx:(g.nds++[V14 8])[j]? with
  |none=>rw[hx]at hj;cases hj
  |some x =>
   rw[hx]at hj;simp only[U25,U1f]at hj;subst hj;exact⟨_,rfl,rfl,rfl⟩
  rename_i e
  rw[U1c e];exact⟨nd,hj,rfl,rfl⟩
 refine⟨?_,by rw[hl];exact q.le,λ j hj h0=>?_,λ j nd hn h0=>?_,λ j p1 p2=>?_,?_,rfl,rfl⟩;show (g.srt++[(1,0)]).length=_;rw[hl];exact q.len;obtain⟨q1,q2⟩:=q.old j hj h0;refine⟨q1,?_⟩;rw[aL,U1c (by intro e;subst e;exact h4 h0),U19 hj];obtain⟨q1,nd',q2,q3,q4⟩:=q.grw j nd hn h0;obtain⟨CQ,r1,r2,r3⟩:=N6 j nd' q2;exact⟨q1,CQ,r1,r2.trans q3,r3.trans q4⟩;obtain⟨q1,nd',q2,q3,q4⟩:=q.new j p1 (by rw[<-hl];exact p2);obtain⟨CQ,r1,r2,r3⟩:=N6 j nd' q2;exact⟨q1,CQ,r1,r2.trans q3,by rw[r3];exact q4⟩
 rw[hl];have:=q.cnt;have e1:tot (V31 g i d).nds=tot (g.nds++[V14 8])+1:=O8x _ 1 (λ nd=>by show (nd.subs++[_]).length=_;simp) _ _ Ye;have e2:tot (V1r (V1o g 8 (1,0)) i [] (0,0) g.nds.length).nds=tot (g.nds++[V14 8])+1:=O4i _ _ _ _ _ (by show i<(g.nds++[V14 8]).length;rw[U1b];omega);omega
theorem Ohk{g:Vb}{i:Nat}(h:subsOk g i=true):i<g.nds.length:=by
 unfold subsOk at h
 split at h;exact J192
 cases h
theorem Omp{g g':Vb}(hp:g.srt.length=g.nds.length){k:List KW}(he:V2v g k=.ok g'):Gx g g':=by
 unfold V2v at he
 split at he;cases he
 cases he
 rename_i t d g1 hy
 have h1:=Obx _ Yd _ _ _ _ _ _ _ _ hp hy
 split at he;cases he
 rename_i w a b hl
 split at he;cases he
 split at he
 rename_i h4
 split at he;cases he
 split at he
 rename_i hk
 simp only[U1h]at hk;simp only[V9.ok.injEq]at he;subst he;exact h1.trans (Oe5 h1.len (Ohk hk.1) (by rw[h4];decide) _)
 cases he
 cases he
 split at he;cases he
 split at he
 rename_i hk
 simp only[U1h]at hk;simp only[V9.ok.injEq]at he;subst he;obtain⟨q1,q2⟩:=Gx.grow h1.len 7 (.inl rfl) (4,0) Yd (O33 hk.1).1 (O33 hk.1).2 w (a,b);have ap:g1.nds.length<(V1r (V1o g1 7 (4,0)) t w (a,b) g1.nds.length).nds.length:=by
  show _<(Vf (g1.nds++[V14 7]) t w (a,b) _).length;unfold Vf;simp
 exact (h1.trans q1).trans (Oe5 q1.len ap (by rw[q2];decide) _)
 cases he
theorem Omq{g g':Vb}(hp:g.srt.length=g.nds.length){k:List KW}{t d:Nat}(he:V2w g k=.ok (t,d,g')):Gx g g':=by
 unfold V2w at he
 split at he;cases he
 cases he
 rename_i t' d' g1 hy
 have h1:=Obx (3,g.many) (λ h=>by cases h) _ _ _ _ _ _ _ _ hp hy;exact J180
theorem Ok1{E:Vv}{s:Bs}{n:Nat}{g g1:Vb}(hp:g.srt.length=g.nds.length){into root:Nat}{nds:Vc}(he:V2n E s n g=.ok (into,root,nds,g1)):Gx g g1/\(pre (s.drop (V7 s n)) [91]=false->V1c (s.drop (V7 s n))=false->∀ws e,V1q E s (V7 s n)=.ok (ws,e)->Va s (V7 s e)=61->∃d ve,V1g E s (V7 s (V7 s e+1)) d=.ok (root,ve,nds)):=by
 unfold V2n at he;simp only at he
 split at he
 rename_i hb
 simp only[V9.ok.injEq,U17]at he;obtain⟨_,_,_,rfl⟩:=he;exact⟨Gx.refl hp,λ _ h=>by rw[hb]at h;cases h⟩
 generalize hm:(if pre (s.drop (V7 s n)) [91,91] then 2 else if pre (s.drop (V7 s n)) [91] then 1 else 0)=m at he;have jS:pre (s.drop (V7 s n)) [91]=false->m=0:=by
  intro h;rw[U1c (by intro h2;rw[(Obp h2).1]at h;cases h),U1c (by rw[h];simp)]at hm;exact hm.symm
 split at he;cases he
 cases he
 rename_i ws e hk
 split at he
 rename_i h2
 split at he;cases he
 cases he
 rename_i hx
 simp only[V9.ok.injEq,U17]at he;obtain⟨_,_,_,rfl⟩:=he;exact⟨Omp hp hx,λ h=>by have:=jS h;omega⟩
 split at he
 split at he;cases he
 cases he
 rename_i hx
 simp only[V9.ok.injEq,U17]at he;obtain⟨_,_,_,rfl⟩:=he;exact⟨Ok0 hp hx,λ h=>by have:=jS h;omega⟩
 split at he;cases he
 cases he
 rename_i hx
 have h1:=Omq hp hx
 split at he
 rename_i dS
 split at he;cases he
 cases he
 rename_i hr
 simp only[V9.ok.injEq,U17]at he;obtain⟨_,rfl,rfl,rfl⟩:=he;refine⟨h1,λ h _ CN e' ed _=>?_⟩;have:=jS h;subst this;rw[Nat.add_zero,O2j,ed]at hk;cases hk;exact⟨_,_,hr⟩
 rename_i dS
 simp only[V9.ok.injEq,U17]at he;obtain⟨_,rfl,rfl,rfl⟩:=he;refine⟨h1,λ h _ CN e' ed Jj=>?_⟩;have:=jS h;subst this;rw[Nat.add_zero,O2j,ed]at hk;cases hk;exact absurd Jj dS
def EmW(L:Nat)(st nds:Vc):Prop:=∀(j:Nat) y,nds[j]?=some y->∃x,st[L+j]?=some x/\x.kind=y.kind/\x.text=y.text/\x.keys=y.keys/\x.subs=y.subs.map (L+·)
theorem Omr{Q:Bs->Bs}{L:Nat}{st nds:Vc}(h:EmW L st nds)(hw:WF nds):∀(f k:Nat),k<nds.length->V28 Q st f (L+k)=V28 Q nds f k:=by
 intro f
 induction f with
 |zero=>intro k _;rfl
 |succ f ih =>
  intro k hk;obtain⟨y,hy⟩:∃y,nds[k]?=some y:=⟨_,U1e hk⟩
  obtain⟨x,hx,h1,h2,h3,h4⟩:=h k y hy;have hs:∀(l:List Nat)(ks:List Bs),(∀v∈l,v<nds.length)->V17 (V28 Q st f) Q ks (l.map (L+·))=V17 (V28 Q nds f) Q ks l:=by
   intro l
   induction l with
   |nil=>intro ks _;rfl
   |cons v l R7 =>
    intro ks hv;rw[U3q];unfold V17;rw[ih v (hv v Yb),R7 ks.tail (λ w hw=>hv w (U24 _ hw))]
  unfold V28;rw[hx,hy];simp only;rw[h1,h2,h3,h4,hs y.subs y.keys (hw k y hy).lt]
def Vdf(E:Vv)(s:Bs)(g:Vb)(j:Nat):Prop:=∃(L r n e:Nat)(nds:Vc)(nd:Nd),L+nds.length<=g.nds.length/\r<nds.length/\j=L+r/\n<=s.length/\V1g E s n 0=.ok (r,e,nds)/\EmW L g.nds nds/\(∀k,k<nds.length->(Vd g (L+k)).1=0)/\g.nds[j]?=some nd/\nd.sp=((n:Int),(e:Int))
def GV(E:Vv)(s:Bs)(g:Vb):Prop:=∀(j:Nat) nd,g.nds[j]?=some nd->(nd.sp=(-1,-1)/\(nd.kind=7\/nd.kind=8))\/Vdf E s g j
structure Kp(g g':Vb):Prop where
 le:g.nds.length<=g'.nds.length
 old:∀j,j<g.nds.length->(Vd g j).1=0->(Vd g' j).1=0/\g'.nds[j]?=g.nds[j]?
 grw:∀(j:Nat) nd,g.nds[j]?=some nd->(Vd g j).1≠0->∃nd',g'.nds[j]?=some nd'/\nd'.sp=nd.sp/\nd'.kind=nd.kind
theorem Gx.kp{g g':Vb}(h:Gx g g'):Kp g g':=⟨h.le,h.old,λ j nd hn h0=>(h.grw j nd hn h0).2⟩
theorem Kp.nd{g g':Vb}(h:Kp g g'){j:Nat}{nd:Nd}(hn:g.nds[j]?=some nd):∃nd',g'.nds[j]?=some nd'/\nd'.sp=nd.sp/\nd'.kind=nd.kind:=by
 by_cases h0:(Vd g j).1=0;exact⟨nd,by rw[(h.old j (U14.1 hn).1 h0).2];exact hn,rfl,rfl⟩
 exact h.grw j nd hn h0
theorem GV.kp{E:Vv}{s:Bs}{g g':Vb}(h:GV E s g)(k:Kp g g'){j:Nat}{nd:Nd}(hj:j<g.nds.length)(hn:g'.nds[j]?=some nd):(nd.sp=(-1,-1)/\(nd.kind=7\/nd.kind=8))\/Vdf E s g' j:=by
 obtain⟨x,hx⟩:∃x,g.nds[j]?=some x:=⟨_,U1e hj⟩
 obtain⟨x',N7,e1,e2⟩:=k.nd hx;rw[hn]at N7;cases N7;rcases h j x hx with⟨q1,q2⟩|⟨L,r,n,e,nds,nd',h2,h3,h4,h5,h6,h7,h8,h9,da⟩
 exact .inl ⟨e1.trans q1,by rw[e2];exact q2⟩
 right;refine⟨L,r,n,e,nds,nd,by have:=k.le;omega,h3,h4,h5,h6,λ i y hy=>?_,λ i hi=>(k.old _ Ya (h8 i hi)).1,hn,?_⟩;obtain⟨z,hz,hs⟩:=h7 i y hy;have hi:=(U14.1 hy).1;exact⟨z,by rw[(k.old _ Ya (h8 i hi)).2];exact hz,hs⟩
 rw[hx]at h9;cases h9;exact e1.trans da
theorem GV.gx{E:Vv}{s:Bs}{g g':Vb}(h:GV E s g)(k:Gx g g'):GV E s g':=by
 intro j nd hn;by_cases hj:j<g.nds.length;exact h.kp k.kp hj hn
 obtain⟨_,x,h1,h2⟩:=k.new j Ya (U14.1 hn).1;rw[hn]at h1;cases h1;exact .inl h2
def V8h(g:Vb)(it:It)(k:Int):Prop:=(it.kind=0->k = -1)/\(it.kind=1->∃(j:Nat)(nd:Nd),k=(j:Int)/\g.nds[j]?=some nd/\nd.sp=((it.va:Int),(it.vb:Int)))/\(it.kind≠0->it.kind≠1->∃(j:Nat)(nd:Nd),k=(j:Int)/\g.nds[j]?=some nd/\nd.kind=8)
def GN(g:Vb):Prop:=V4a (V8h g) g.its g.ns
theorem O9u{α β : Type}{R R' : α -> β -> Prop}(hR:∀a b,R a b->R' a b){a:List α}{b:List β}(h:V4a R a b):V4a R' a b:=by
 induction h with
 |nil=>exact .nil
 |cons h _ ih=>exact .cons (hR _ _ h) ih
theorem V8h.kp{g g':Vb}(k:Kp g g'){it:It}{i:Int}(h:V8h g it i):V8h g' it i:=by
 refine⟨h.1,λ e=>?_,λ e1 e2=>?_⟩;obtain⟨j,nd,h1,h2,h3⟩:=h.2.1 e;obtain⟨nd',k1,k2,_⟩:=k.nd h2;exact⟨j,nd',h1,k1,k2.trans h3⟩
 obtain⟨j,nd,h1,h2,h3⟩:=h.2.2 e1 e2;obtain⟨nd',k1,_,k2⟩:=k.nd h2;exact⟨j,nd',h1,k1,k2.trans h3⟩
theorem GN.kp{g g':Vb}(h:GN g)(k:Kp g g')(hi:g'.its=g.its)(hn:g'.ns=g.ns):GN g':=by
 unfold GN;rw[hi,hn];exact O9u (λ _ _=>V8h.kp k) h
theorem Ok6{E:Vv}(hE:V11 E){s:Bs}{n:Nat}(hn:n<=s.length){it:It}(h:V3v E s n=.ok it)(hk:it.kind=1):∃ws e root nds,V1q E s (V7 s n)=.ok (ws,e)/\Va s (V7 s e)=61/\it.va=V7 s (V7 s e+1)/\V1g E s it.va 0=.ok (root,it.vb,nds):=by
 have hb:=V8 s n hn;unfold V3v at h;cases dP:V3l E s (V7 s n) with
 |non=>rw[dP]at h;cases h
 |bad c p=>rw[dP]at h;cases h
 |ok r =>
  obtain⟨e,wE⟩:=r;rw[dP]at h;simp only at h;cases hc:V25 s e with
  |bad c p=>rw[hc]at h;cases h
  |ok m =>
   rw[hc]at h;simp only[V9.ok.injEq]at h;subst h;simp only at hk⊢;rcases Obo dP with⟨_,q⟩|⟨_,_,q⟩|⟨_,_,q⟩|⟨h2,h1,h0,_,_⟩
   omega;omega;omega
   unfold V3l at dP;rw[U1c (by rw[h2];simp),U1c (by rw[h1];simp),U1c (by rw[h0];simp)]at dP;unfold V55 at dP;cases ed:V1q E s (V7 s n) with
   |non=>rw[ed]at dP;cases dP
   |bad c p=>rw[ed]at dP;cases dP
   |ok r =>
    obtain⟨ws,e1⟩:=r;have aP:=(O15 hE (s:=s) hb.2).1 _ _ ed;have aA:=V8 s e1 aP.2.1;rw[ed]at dP;simp only at dP;cases hi:isF s (V7 s e1) [61] with
    |bad c p=>rw[hi]at dP;cases dP
    |ok m2 =>
     have hm:=Obv aA.2 hi;simp only[U1d,U1q]at hm;rw[hi]at dP;simp only at dP;subst hm;have dS:Va s (V7 s e1)=61:=by
      unfold isF at hi
      split at hi
      rename_i hx
      unfold Va;rw[hx];rfl
      cases hi
     cases hr:V1g E s (V7 s (V7 s e1+1)) 0 with
     |non=>rw[hr]at dP;cases dP
     |bad c p=>rw[hr]at dP;cases dP
     |ok v =>
      obtain⟨root,e2,nds⟩:=v;rw[hr]at dP;cases dP;exact⟨ws,e1,root,nds,rfl,dS,rfl,hr⟩
theorem Ok7{E:Vv}(hE:V11 E){s:Bs}{g:Vb}(hl:g.srt.length=g.nds.length)(h:GV E s g){n d root e:Nat}{nds:Vc}(hn:n<=s.length)(hr:V1g E s n d=.ok (root,e,nds)){into:Nat}(hi:into<g.nds.length)(R8:(Vd g into).1≠0)(w:Bs)(sp:Nat×Nat)(its:List It)(ns:List Int):Kp g { V1r (V12 g nds) into w sp (root+g.nds.length) with its:=its,ns:=ns }/\GV E s { V1r (V12 g nds) into w sp (root+g.nds.length) with its:=its,ns:=ns } /\(∃nd,({ V1r (V12 g nds) into w sp (root+g.nds.length) with its:=its,ns:=ns }:Vb).nds[root+g.nds.length]?=some nd/\nd.sp=((n:Int),(e:Int))) /\tot ({ V1r (V12 g nds) into w sp (root+g.nds.length) with its:=its,ns:=ns }:Vb).nds=tot g.nds+tot nds+1/\({ V1r (V12 g nds) into w sp (root+g.nds.length) with its:=its,ns:=ns }:Vb).nds.length=g.nds.length+nds.length:=by
 generalize hG:({ V1r (V12 g nds) into w sp (root+g.nds.length) with its:=its,ns:=ns }:Vb)=G;have aL:G.nds=Vf (g.nds++nds.map λ nd=>{ nd with subs:=nd.subs.map (· + g.nds.length),owner:=0 }) into w sp (root+g.nds.length):=by rw[<-hG];rfl
 have bR:∀j,Vd G j=if j<g.nds.length then Vd g j else (0,0):=by
  intro j;have:G.srt=g.srt++nds.map λ _=>(0,0):=by rw[<-hG];rfl
  unfold Vd;rw[this,U1i,U1i]
  split;rw[U19 Ya]
  rw[U1y Ya,U1m];cases nds[j-g.srt.length]? <;> rfl
 have ap:G.nds.length=g.nds.length+nds.length:=by rw[aL];unfold Vf;simp
 have bz:∀(k:Nat) y,nds[k]?=some y->G.nds[g.nds.length+k]?=some { y with subs:=y.subs.map (· + g.nds.length),owner:=0 }:=by
  intro k y hy;rw[aL,Oj,U1c Ya,U1y Ya,Nat.add_sub_cancel_left,U1m,hy];rfl
 have N8:Kp g G:=by
  refine⟨Ya,λ j hj h0=>?_,λ j nd hn h0=>?_⟩;rw[bR,U1a hj,aL,Oj,U1c (by intro e;subst e;exact R8 h0),U19 hj];exact⟨h0,rfl⟩
  rw[aL,Oj,U19 (U14.1 hn).1,hn];exact J185
 have iz:=Ojp hE hn hr;refine⟨N8,λ j nd hj=>?_,?_,?_,ap⟩
 by_cases e9:j<g.nds.length;exact h.kp N8 e9 hj
 obtain⟨k,rfl⟩:∃k,j=g.nds.length+k:=⟨j-g.nds.length,Ya⟩
 have hk:k<nds.length:=by have:=(U14.1 hj).1;omega
 have hg:=bz k _ (U1e hk);rw[hg]at hj;cases hj;rcases iz k (U2u _) hk with⟨y,q1,q2,q3⟩|⟨L,r,n',e',R9,y,h1,h2,h3,h4,h5,h6,h7,h8,h9⟩
 rw[U1e hk]at q1;cases q1;exact .inl ⟨q2,.inr q3⟩
 rw[U1e hk]at h8;cases h8;refine .inr ⟨g.nds.length+L,r,n',e',R9,_,Ya,h3,Ya,h5,h6,λ i z hz=>?_,λ i _=>by rw[bR,U1c Ya],hg,h9⟩;obtain⟨x,hx,hs⟩:=h7 i z hz;refine⟨{ x with subs:=x.subs.map (· + g.nds.length),owner:=0 },by rw[U28];exact bz _ _ hx,hs.kind,hs.text,hs.keys,?_⟩;show x.subs.map (· + g.nds.length)=_;rw[hs.subs,U4o];apply List.map_congr_left;intro v _;show L+v+g.nds.length=g.nds.length+L+v;omega;obtain⟨nd,h1,h2⟩:=O6t s 258 _ n [] root e nds hr;exact⟨{ nd with subs:=nd.subs.map (· + g.nds.length),owner:=0 },by rw[Nat.add_comm];exact bz root nd h1,h2⟩
 rw[aL,O4i _ _ _ _ _ Ye,O3j];have:∀l:Vc,tot (l.map λ nd=>{ nd with subs:=nd.subs.map (· + g.nds.length),owner:=0 })=tot l:=by
  intro l
  induction l with
  |nil=>rfl
  |cons a l ih=>rw[U3q,tot,tot,ih];simp
 rw[this]
theorem Oms{E:Vv}(hE:V11 E){s:Bs}(hs:s.length<=2000000){n:Nat}(hn:n<s.length){g:Vb}(h:GI g)(hl:g.nds.length+2*s.length+2<=20000000)(hv:GV E s g)(hN:GN g)(hc:tot g.nds+1=g.nds.length){e:Nat}{g':Vb}(he:V32 E s n g=.ok (e,g')):GV E s g'/\GN g'/\tot g'.nds+1=g'.nds.length:=by
 unfold V32 at he;cases hw:V2n E s n g with
 |non=>rw[hw]at he;cases he
 |bad c p=>rw[hw]at he;cases he
 |ok r =>
  obtain⟨into,root,nds,g1⟩:=r;rw[hw]at he;simp only at he;obtain⟨q1,q2⟩:=Ok1 h.len hw;have wG:=((O5s hE hs (n:=n) Ya h Ya).2 _ _ _ _ hw).gi;have v1:=hv.gx q1;have n1:GN g1:=hN.kp q1.kp q1.its q1.ns;have c1:tot g1.nds+1=g1.nds.length:=by have:=q1.cnt;omega
  cases hi:V3v E s n with
  |non=>rw[hi]at he;cases he
  |bad c p=>rw[hi]at he;cases he
  |ok it =>
   rw[hi]at he;simp only at he
   split at he
   rename_i h0
   simp only[V9.ok.injEq,U17]at he;obtain⟨_,rfl⟩:=he;exact⟨v1,V4a.app n1 (.cons ⟨λ _=>rfl,λ k=>by omega,λ k=>absurd h0 k⟩ .nil),c1⟩
   rename_i h0
   split at he
   rename_i hk
   obtain⟨p1,p2,_⟩:=O77 hi hk;obtain⟨ws,e1,cC,yY,r1,r2,r3,r4⟩:=Ok6 hE Ya hi hk;obtain⟨d,ve,r5⟩:=q2 p1 p2 ws e1 r1 r2;rw[<-r3]at r5;have r6:=O9s (U2u d) r5;rw[r4]at r6;cases r6;have b1:=byteAt_lt r2 Yd;have b2:=V8 s (V7 s e1+1) Ya
   split at he;cases he
   rename_i w a b dn
   split at he
   rename_i bh
   simp only[U1h]at bh;simp only[V9.ok.injEq,U17]at he;obtain⟨_,rfl⟩:=he;have a9:into<g1.nds.length/\(Vd g1 into).1≠0:=by
    obtain⟨x1,x2⟩:=O33 bh.1.2;have hx:∀j,(Vd (V12 g1 nds) j).1≠0->j<g1.nds.length/\(Vd g1 j).1≠0:=by
     intro j hj;by_cases e9:j<g1.nds.length
     refine⟨e9,?_⟩;have:Vd (V12 g1 nds) j=Vd g1 j:=by
      show (g1.srt++nds.map λ _=>(0,0)).getD j (0,0)=g1.srt.getD j (0,0);rw[U1i,U1i,U19 (by rw[wG.len];exact e9)]
     rw[this]at hj;exact hj
     exfalso;apply hj;show ((g1.srt++nds.map λ _=>(0,0)).getD j (0,0)).1=0;rw[U1i,U1y (by rw[wG.len];omega),U1m];cases nds[j-g1.srt.length]? <;> rfl
    exact hx into x2
   obtain⟨k1,k2,⟨nd,k3,k4⟩,k5,k6⟩:=Ok7 hE wG.len v1 (by rw[r3];exact b2.2) r5 a9.1 a9.2 w (a,b) ((V12 g1 nds).its++[it]) ((V12 g1 nds).ns++[((root+g1.nds.length:Nat):Int)]);have AG:=Ohj r5;refine⟨k2,?_,Eq.trans (U2w (· + 1) k5) (Eq.trans (show tot g1.nds+tot nds+1+1=g1.nds.length+nds.length by omega) k6.symm)⟩;show V4a _ (g1.its++[it]) (g1.ns++[((root+g1.nds.length:Nat):Int)]);exact V4a.app (O9u (λ _ _=>V8h.kp k1) n1) (.cons ⟨λ z=>absurd z h0,λ _=>⟨_,nd,rfl,k3,k4⟩,λ _ z=>absurd hk z⟩ .nil)
   cases he
   rename_i h1
   simp only[V9.ok.injEq,U17]at he;obtain⟨_,rfl⟩:=he;obtain⟨nd,t1,t2⟩:=wG.tab _ wG.sec;exact⟨v1,V4a.app n1 (.cons ⟨λ z=>absurd z h0,λ z=>absurd z h1,λ _ _=>⟨_,nd,rfl,t1,t2⟩⟩ .nil),c1⟩
theorem Ok8{E:Vv}(hE:V11 E){s:Bs}(hs:s.length<=1000000):∀(f n:Nat)(g:Vb),n<=s.length->GI g->GP g.nds->g.nds.length<=1+2*n->GV E s g->GN g->tot g.nds+1=g.nds.length ->∀G,grownF E s f n g=.ok G->GV E s G/\GN G/\tot G.nds+1=G.nds.length:=by
 intro f
 induction f with
 |zero=>intro n g _ _ _ _ _ _ _ G h;simp[grownF]at h
 |succ f ih =>
  intro n g hn h hp hl hv hN hc G hG;unfold grownF at hG
  split at hG
  rename_i a9
  split at hG
  cases hx:V32 E s n g with
  |non=>rw[hx]at hG;cases hG
  |bad c p=>rw[hx]at hG;cases hG
  |ok r =>
   obtain⟨e,g1⟩:=r;rw[hx]at hG;have q:=(Obq hE Ya a9 h Ya).2 _ _ hx;obtain⟨p1,p2⟩:=Obw hE Ya a9 h hp Ya hx;obtain⟨v1,v2,v3⟩:=Oms hE Ya a9 h Ya hv hN hc hx;exact ih e g1 q.le q.gi p1 Ya v1 v2 v3 G hG
  cases hG
  simp only[V9.ok.injEq]at hG;subst hG;exact⟨hv,hN,hc⟩
theorem Oho{E:Vv}(hE:V11 E){s:Bs}(hs:s.length<=1000000){G:Vb}(h:V1e E s=.ok G):GV E s G/\GN G/\tot G.nds+1=G.nds.length:=by
 refine Ok8 hE hs _ 0 V4p (U2u _) gi0 gp0 Yn (λ j nd hj => .inl ?_) .nil rfl G h;cases j with
 |zero=>simp only[V4p,U2a,U1f]at hj;subst hj;exact⟨rfl,.inr rfl⟩
 |succ j=>simp[V4p]at hj
def TdP(M:Nat)(nd:Nd):Prop:=nd.kind<=8/\nd.text.length<=M/\∀k∈nd.keys,k.length<=M
section
variable {E:Vv}(hL:V5q E){s:Bs}
include hL
theorem Omt{n e:Nat}{t:Bs}(h:word E s n=.ok (t,e)):t.length<=s.length:=by
 unfold word at h
 split at h;simp only[V9.ok.injEq,U17]at h;rw[<-h.1];simp
 split at h
 split at h;cases h
 cases h
 rename_i u k hu
 simp only[V9.ok.injEq,U17]at h;have:=hL.strN _ _ _ hu;rw[U16]at this;rw[<-h.1];omega
 simp only[V9.ok.injEq,U17]at h;rw[<-h.1,U26,U16];omega
theorem Omu:∀(f n:Nat)(acc ws:List KW)(e:Nat),(∀x∈acc,x.1.length<=s.length)->V3r E s f n acc=.ok (ws,e)->∀x∈ws,x.1.length<=s.length:=by
 intro f
 induction f with
 |zero=>intro n acc ws e _ h;simp[V3r]at h
 |succ f ih =>
  intro n acc ws e ha h;unfold V3r at h
  split at h;cases h
  cases h
  rename_i t e1 ht
  have BU:∀x∈acc++[(t,n,e1)],x.1.length<=s.length:=λ x hx=>(U29.1 hx).elim (ha x) λ e=>by (rw[U20]at e;subst e;exact Omt hL ht)
  exact J186
end
theorem Olj{E:Vv}(hE:V11 E)(hL:V5q E){s:Bs}{M:Nat}(hM:s.length+60<=M):NP E s (λ x=>x.1.length<=M) (TdP M) where
 grow:=λ k hk=>⟨hk,U2u _,λ k h=>by cases h⟩
 same:=λ _ _ _ _ h=>h
 put:=λ nd w _ _ _ h hw=>⟨h.1,h.2.1,λ k hk=>(U29.1 (show k∈nd.keys++[w] from hk)).elim (h.2.2 k) λ e=>by (rw[U20]at e;subst e;exact hw)⟩
 str:=λ n t m h=>⟨by show 3<=8;decide,by have:=hL.strN _ _ _ h;rw[U16]at this;show t.length<=M;omega,λ k h=>by cases h⟩
 scal:=λ n k t m h=>⟨by have:=(hE.scalK _ _ _ _ h).2.2;show k<=8;omega,by have:=hL.scalN _ _ _ _ h;rw[U16]at this;show t.length<=M;omega,λ k h=>by cases h⟩
 word:=λ _ _ _ h x hx=>by have:=Omu hL _ _ [] _ _ (λ x hx=>by cases hx) h x hx;omega
theorem Oe6{M:Nat}(hM:M<=1000000){nds:Vc}(h:Al (TdP M) nds)(hw:WF nds)(hl:nds.length<=1000000):tidy nds=true:=by
 unfold tidy;simp only[U2k,U1h,U1x];intro nd hn;obtain⟨h1,h2,h3⟩:=h nd hn;obtain⟨i,hi⟩:=U3n hn;have h4:=hw i nd hi;have h5:=O4g _ _ h4.up h4.lt;exact⟨⟨⟨⟨Ya,Ya⟩,λ k hk=>by have:=h3 k hk;omega⟩,Ya⟩,λ u hu=>by have:=h4.lt u hu;omega⟩
def Pt(nds:Vc):Prop:=∀j,j<nds.length->j≠0->∃(i:Nat)(nd:Nd),nds[i]?=some nd/\j∈nd.subs
theorem Oke:∀nds:Vc,(nds.flatMap (·.subs)).length=tot nds:=by
 intro nds
 induction nds with
 |nil=>rfl
 |cons a l ih=>rw[List.flatMap_cons,U1b,ih];rfl
theorem Op4{nds:Vc}(hp:GP nds)(hw:WF nds)(hc:tot nds+1=nds.length):Pt nds:=by
 intro j hj qo;apply Classical.byContradiction;intro oF;have iH:∀x,x∈nds.flatMap (·.subs)->∃(i:Nat)(nd:Nd),nds[i]?=some nd/\x∈nd.subs:=λ x hx=>by
  obtain⟨nd,h1,h2⟩:=List.mem_flatMap.1 hx;obtain⟨i,hi⟩:=U3n h1;exact⟨i,nd,hi,h2⟩
 have aL:(nds.flatMap (·.subs)).Nodup:=by
  unfold List.Nodup;rw[List.pairwise_flatMap];refine⟨λ a ha=>?_,List.pairwise_iff_getElem.2 λ a b ha hb Bk x hx y hy e=>?_⟩;obtain⟨i,hi⟩:=U3n ha;exact (hw i a hi).up.imp λ h=>by omega
  subst e;have:=hp.pu a b _ _ x (U1e ha) (U1e hb) hx hy;omega
 have h0:(0::j::nds.flatMap (·.subs)).Nodup:=by
  refine List.nodup_cons.2 ⟨λ h=>?_,List.nodup_cons.2 ⟨λ h=>oF (iH j h),aL⟩⟩;rcases U2s.1 h with e|e
  exact qo e.symm
  obtain⟨i,nd,h1,h2⟩:=iH 0 e;exact hp.fr i nd h1 h2
 have:=O5v nds.length _ h0 (λ x hx=>by
  rcases U2s.1 hx with rfl|hx
  omega
  rcases U2s.1 hx with rfl|hx
  exact hj
  obtain⟨i,nd,h1,h2⟩:=iH x hx;exact (hw i nd h1).lt x h2)
 rw[U1d,U1d,Oke]at this;omega
theorem Olk{nds:Vc}(hp:Pt nds){r:Nat->Nat}(hr:Rk nds r)(P:Nat->Prop)(h0:P 0)(hs:∀(i:Nat) nd,nds[i]?=some nd->P i->∀x∈nd.subs,P x):∀j,j<nds.length->P j:=by
 obtain⟨K,hK⟩:=O78 r nds.length;have iG:∀(m j:Nat),j<nds.length->K-r j<=m->P j:=by
  intro m
  induction m with
  |zero=>intro j hj hm;have:=hK j hj;omega
  |succ m ih =>
   intro j hj hm;by_cases qo:j=0;rw[qo];exact h0
   obtain⟨i,nd,h1,h2⟩:=hp j hj qo;have h3:=hr i nd h1 j h2;have hi:=(U14.1 h1).1;have:=hK i hi;exact hs i nd h1 (ih i hi Ya) j h2
 intro j hj;exact iG (K-r j) j hj (U12 _)
theorem Omv{T:Nat->Option Bs}{Q:Bs->Bs}:∀(js:List Nat)(ks:List Bs)(u:Bs),V17 T Q ks js=some u->∀x∈js,∃t,T x=some t/\t.length<=u.length:=by
 intro js
 induction js with
 |nil=>intro ks u _ x hx;cases hx
 |cons i js ih =>
  intro ks u h x hx;unfold V17 at h;cases h1:T i with
  |none=>rw[h1]at h;cases h
  |some t =>
   cases h2:V17 T Q ks.tail js with
   |none=>rw[h1,h2]at h;cases h
   |some v =>
    rw[h1,h2]at h;simp only[U1f]at h;subst h;rcases U2s.1 hx with rfl|hx
    refine⟨t,h1,?_⟩;simp only[U1b,U1d];omega
    obtain⟨t',h3,h4⟩:=ih _ _ h2 x hx;refine⟨t',h3,?_⟩;simp only[U1b,U1d];omega
theorem Okf{Q:Bs->Bs}{nds:Vc}(hg:GP nds)(hw:WF nds)(hp:Pt nds)(h0:0<nds.length){K0 K1:Nat}(hb:∀(i:Nat) nd,nds[i]?=some nd->(Lib.itoa (nd.kind:Int)).length+(Q nd.text).length<=K0/\∀k∈nd.keys,(Q k).length<=K1):∃f,∀j,j<nds.length->∃t,V28 Q nds f j=some t/\t.length<=nds.length*(K0+K1+2):=by
 obtain⟨r,hr⟩:=hg.rk;obtain⟨K,hK⟩:=O78 r nds.length;have iG:=Olk hp hr (λ j=>j<nds.length->∀f,K<=f->∃t,V28 Q nds f j=some t/\t.length<=nds.length*(K0+K1+2)) (λ _ f hf=>by
     obtain⟨t,ht⟩:=Ohm (Q:=Q) hr f 0 (by have:=hK 0 h0;omega);exact⟨t,ht,Ok5 hg hw h0 hb f t ht⟩) (λ i nd hi hP x hx wD f hf=>by
     have dT:=(U14.1 hi).1;obtain⟨t,h1,h2⟩:=hP dT (f+1) Ya;unfold V28 at h1;rw[hi]at h1;simp only at h1;cases hu:V17 (V28 Q nds f) Q nd.keys nd.subs with
     |none=>rw[hu]at h1;cases h1
     |some u =>
      rw[hu]at h1;simp only[U1f]at h1;obtain⟨t',h3,h4⟩:=Omv _ _ _ hu x hx;refine⟨t',h3,?_⟩;rw[<-h1]at h2;simp only[U1b]at h2;omega)
 exact⟨K,λ j hj=>iG j hj hj K (U12 _)⟩
theorem Oe7{α β : Type}{R : α -> β -> Prop}{a:List α}{b:List β}(h:V4a R a b):a.length=b.length/\∀(k:Nat) x,a[k]?=some x->∃y,b[k]?=some y/\R x y:=by
 induction h with
 |nil=>exact⟨rfl,λ k x hx=>by simp at hx⟩
 |cons h _ ih =>
  refine⟨by simp[ih.1],λ k x hx=>?_⟩;cases k with
  |zero=>simp only[U2a,U1f]at hx;subst hx;exact⟨_,rfl,h⟩
  |succ k=>simp only[List.getElem?_cons_succ]at hx⊢;exact ih.2 k x hx
inductive V8i (E:Vv)(s:Bs)(nds:Vc)(j:Nat)(nd:Nd):Prop
 |dot:nd.sp=(-1,-1)->(nd.kind=7\/nd.kind=8)->V8i E s nds j nd
 |val (n e r:Nat) (st:Vc):nd.sp=((n:Int),(e:Int))->n<=s.length->V1g E s n 0=.ok (r,e,st)->tidy st=true->st.length<=1000000->(∀(Q:Bs->Bs)(f:Nat),V28 Q st f r=V28 Q nds f j)->V8i E s nds j nd
structure V7x(E:Vv)(s:Bs)(G:Vb):Prop where
 gr:Vbr s G
 tidy:tidy G.nds=true
 pt:Pt G.nds
 spot:∀(j:Nat) nd,G.nds[j]?=some nd->nd.keys.length=nd.spots.length/\∀(k:Nat) w,nd.keys[k]?=some w->∃sp:Nat×Nat,nd.spots[k]?=some sp/\V7w E s w sp.1 sp.2
 node:∀(j:Nat) nd,G.nds[j]?=some nd->V8i E s G.nds j nd
 txt:∀(Q:Bs->Bs)(K:Nat),(∀l:Bs,l.length<=100060->(Q l).length<=K)->∃f,∀j,j<G.nds.length->∃t,V28 Q G.nds f j=some t/\t.length<=200001*(2*K+30)
 its:G.its.length=G.ns.length/\∀(i:Nat) it,G.its[i]?=some it->∃k,G.ns[i]?=some k/\V8h G it k
theorem V88{E:Vv}(hE:V11 E)(hL:V5q E)(hC:V6j E){s:Bs}(hs:s.length<=2000):V1e E s≠.non/\(∀c p,V1e E s=.bad c p->p<=s.length/\c≠0)/\∀G,V1e E s=.ok G->V7x E s G:=by
 obtain⟨t1,t2⟩:=Ofb hE (s:=s) Ya;refine⟨t1,λ c p h=>Off hE Ya h,λ G h=>?_⟩;have q:=t2 G h;obtain⟨v1,v2,v3⟩:=Oho hE Ya h;have hl:=q.len;have CR:=O9r (Olj hE hL (M:=100060) (s:=s) Ya) h;have cg:=O9r (Oji hE hC s) h;have FB:=Op4 q.gp q.gi.wf v3;have h0:0<G.nds.length:=q.gi.lt q.gi.root;refine⟨q,Oe6 Ya CR q.gi.wf Ya,FB,λ j nd hj=>Oe7 (cg nd (U2p hj)),λ j nd hj=>?_,λ Q K hQ=>?_,Oe7 v2⟩
 rcases v1 j nd hj with⟨p1,p2⟩|⟨L,r,n,e,st,nd',p1,p2,p3,p4,p5,p6,p7,p8,p9⟩
 exact .dot p1 p2
 rw[hj]at p8;cases p8;have hv:=O2c hE s 258 _ n [] r e st (λ i nd h=>by simp at h) p5 ⟨λ _=>0,λ i nd h=>by simp at h⟩;have Ra:=O9t hE (s:=s) Ya p4 p5;have aP:=((O14 hE s 258) _ n [] p4).1 _ _ _ p5;refine .val n e r st p9 p4 p5 (Oe6 Ya (Obr (Olj hE hL (M:=100060) (s:=s) Ya) p5) hv.wf Ya) Ya λ Q f=>?_
 rw[p3];exact (Omr p6 hv.wf f r p2).symm
 obtain⟨f,hf⟩:=Okf (Q:=Q) q.gp q.gi.wf FB h0 (K0:=K+21) (K1:=K) (λ i nd hn=>by
  obtain⟨a,b,c⟩:=CR nd (U2p hn);have d:=O3d (v:=(nd.kind:Int)) Ya Ya;have e:=hQ _ b;exact⟨Ya,λ k hk=>hQ k (c k hk)⟩)
 refine⟨f,λ j hj=>?_⟩;obtain⟨t,h1,h2⟩:=hf j hj;refine⟨t,h1,?_⟩;have h3:G.nds.length*(K+21+K+2)<=200001*(K+21+K+2):=U4h _ Ya;have h4:200001*(K+21+K+2)<=200001*(2*K+30):=Nat.mul_le_mul_left _ Ya;omega
structure V7y(nds:Vc)(sb:List Bool)(todo:List Nat):Prop where
 len:sb.length=nds.length
 td:∀x∈todo,x<nds.length/\sb[x]?=some false
 nd:todo.Nodup
 cl:∀(i:Nat) nd,nds[i]?=some nd->sb[i]?=some true->∀u∈nd.subs,sb[u]?=some true\/u∈todo
 pr:∀u,(sb[u]?=some true\/u∈todo)->u=0\/∃(i:Nat)(nd:Nd),nds[i]?=some nd/\sb[i]?=some true/\u∈nd.subs
 rt:sb[0]?=some true\/0∈todo
theorem V7y.start{nds:Vc}(h0:0<nds.length):V7y nds (List.replicate nds.length false) [0]:=by
 have hr:∀u:Nat,(List.replicate nds.length false)[u]?≠some true:=λ u h=>by
  rw[List.getElem?_replicate]at h
  split at h <;> simp at h
 refine⟨List.length_replicate ..,λ x hx=>?_,Yb,λ i nd _ h=>absurd h (hr i),λ u h=>?_,.inr Yb⟩;rw[U20]at hx;subst hx;exact⟨h0,by rw[List.getElem?_replicate,U1a h0]⟩
 rcases h with h|h
 exact absurd h (hr u)
 exact .inl (U20.1 h)
theorem V7y.le{nds:Vc}{sb:List Bool}{todo:List Nat}(h:V7y nds sb todo):todo.length<=nds.length:=O5v _ _ h.nd λ x hx=>(h.td x hx).1
theorem V7y.pop{nds:Vc}(hg:GP nds)(hw:WF nds){sb:List Bool}{todo:List Nat}{j:Nat}(h:V7y nds sb (todo++[j])){nd:Nd}(hj:nds[j]?=some nd):sb[j]?=some false/\V7y nds (sb.set j true) (todo++nd.subs):=by
 obtain⟨e9,N9⟩:=h.td j Yb;have hn:=List.nodup_append.1 h.nd;have Na:j ∉ todo:=λ hm=>hn.2.2 j hm j Yb rfl
 have a9:j<sb.length:=by rw[h.len];exact e9
 have eI:∀u,(sb.set j true)[u]?=if u=j then some true else sb[u]?:=λ u=>by
  rw[U2h];by_cases e:j=u;rw[U1a e,U1a e.symm,U1a Ya]
  rw[U1c e,U1c (λ e2=>e e2.symm)]
 have iH:∀u,u∈todo++[j] ↔ u∈todo\/u=j:=λ u=>by simp
 obtain⟨r,hr⟩:=hg.rk;have CS:∀u∈nd.subs,(sb[u]?=some true\/u∈todo++[j])->False:=by
  intro u hu hs;rcases h.pr u hs with e|⟨i,x,h1,h2,h3⟩
  subst e;exact hg.fr j nd hj hu
  have:=hg.pu i j x nd u h1 hj h3 hu;subst this;rw[N9]at h2;cases h2
 have CT:j ∉ nd.subs:=λ hm=>by have:=hr j nd hj j hm;omega
 refine⟨N9,by rw[U2c];exact h.len,λ x hx=>?_,?_,λ i x hi hs u hu=>?_,λ u hu=>?_,?_⟩
 rcases U29.1 hx with hx|hx
 obtain⟨h1,h2⟩:=h.td x ((iH x).2 (.inl hx));exact⟨h1,by rw[eI,U1c (show ¬x=j from λ e=>Na (by rw[<-e];exact hx))];exact h2⟩
 have h1:=(hw j nd hj).lt x hx;refine⟨h1,?_⟩;rw[eI,U1c (show ¬x=j from λ e=>CT (by rw[<-e];exact hx))];obtain⟨b,hb⟩:∃b,sb[x]?=some b:=⟨_,U1e (by rw[h.len];exact h1)⟩
 cases b with
 |false=>exact hb
 |true=>exact absurd (CS x hx (.inl hb)) Yb
 refine List.nodup_append.2 ⟨hn.1,(hw j nd hj).up.imp λ h=>by omega,λ a ha b hb e=>?_⟩;subst e;exact CS a hb (.inr ((iH a).2 (.inl ha)))
 by_cases e:i=j;subst e;rw[hj]at hi;cases hi;exact .inr (U29.2 (.inr hu))
 rw[eI,U1c e]at hs;rcases h.cl i x hi hs u hu with h1|h1
 left;rw[eI];split <;> first|rfl|exact h1
 rcases (iH u).1 h1 with h2|h2
 exact .inr (U29.2 (.inl h2))
 left;rw[eI,U1a h2]
 have up:∀(i:Nat),sb[i]?=some true->(sb.set j true)[i]?=some true:=λ i hi=>by rw[eI];split <;> first|rfl|exact hi
 have old:(sb[u]?=some true\/u∈todo++[j])->u=0\/∃(i:Nat)(nd:Nd),nds[i]?=some nd/\(sb.set j true)[i]?=some true/\u∈nd.subs:=λ hs=>(h.pr u hs).imp id λ ⟨i,x,h1,h2,h3⟩=>⟨i,x,h1,up i h2,h3⟩
 rcases hu with hu|hu
 rw[eI]at hu
 split at hu;rename_i e;exact old (.inr ((iH u).2 (.inr e)))
 exact old (.inl hu)
 rcases U29.1 hu with hu|hu
 exact old (.inr ((iH u).2 (.inl hu)))
 exact .inr ⟨j,nd,hj,by rw[eI,U1a rfl],hu⟩
 rcases h.rt with h1|h1
 left;rw[eI];split <;> first|rfl|exact h1
 rcases (iH 0).1 h1 with h2|h2
 exact .inr (U29.2 (.inl h2))
 left;rw[eI,U1a h2]
theorem V7y.all{nds:Vc}(hg:GP nds)(hp:Pt nds){sb:List Bool}(h:V7y nds sb []):(sb.filter λ b=>b).length=nds.length:=by
 obtain⟨r,hr⟩:=hg.rk;have iG:=Olk hp hr (λ j=>sb[j]?=some true) (h.rt.resolve_right Yb) (λ i nd hi hs x hx=>(h.cl i nd hi hs x hx).resolve_right Yb);have:sb.filter (λ b=>b)=sb:=List.filter_eq_self.2 λ b hb=>by
  obtain⟨i,hi⟩:=U3n hb;have:=iG i (by rw[<-h.len];exact (U14.1 hi).1);rw[hi]at this
  simpa using this
 rw[this,h.len]
