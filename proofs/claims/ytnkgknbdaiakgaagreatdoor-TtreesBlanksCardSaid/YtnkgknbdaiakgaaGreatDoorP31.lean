/- The proof's part 31. -/
import Derived.Test.YtnkgknbdaiakgaaGreatDoorP15
import Derived.Test.YtnkgknbdaiakgaaGreatDoorP30
set_option maxHeartbeats 16000000
set_option linter.all false
namespace Go.Proofs.YtnkgknbdaiakgaaGreatDoor.Pl
inductive Vam (E:Vz)(s:Bs)(n:Nat)(g:Vb)(into root:Nat)(nds:Vc)(g1:Vb):Prop
 |blank:V14 (s.drop (V7 s n))=true->g1=g->nds=[]->Vam E s n g into root nds g1
 |head (m:Nat) (ws:List KW) (e:Nat):1<=m->(pre (s.drop (V7 s n)) [91,91]=true/\m=2\/pre (s.drop (V7 s n)) [91,91]=false/\pre (s.drop (V7 s n)) [91]=true/\m=1)->V1k E s (V7 s (V7 s n+m)) = .ok (ws,e)->V7 s n+m<=s.length->g1.nds.length<=g.nds.length+ws.length+1->nds=[]->Vam E s n g into root nds g1
 | pair (ws:List KW) (e:Nat):pre (s.drop (V7 s n)) [91,91]=false->pre (s.drop (V7 s n)) [91]=false->V14 (s.drop (V7 s n))=false->V1k E s (V7 s n) = .ok (ws,e)->g1.nds.length+1<=g.nds.length+ws.length->Tb g1 into ->
     (V9 s (V7 s e)=61->∃d ve,V1l E s (V7 s (V7 s e+1)) d = .ok (root,ve,nds))->Vam E s n g into root nds g1
theorem Okr{E:Vz}(hE:V10 E){s:Bs}(hs:s.length<=2000000){n:Nat}(hn:n<=s.length){g:Vb}(h:GI g)(hp:GP g.nds)(hl:g.nds.length+s.length+2<=20000000){into root:Nat}{nds:Vc}{g1:Vb}(he:V27 E s n g = .ok (into,root,nds,g1)) :
    GP g1.nds/\Vam E s n g into root nds g1:=by
 have hb:=V8 s n hn;unfold V27 at he;simp only at he
 split at he
 rename_i aN
 simp only[Va.ok.injEq,U6]at he;obtain⟨rfl,rfl,rfl,rfl⟩:=he;exact⟨hp,.blank aN rfl rfl⟩
 rename_i aN
 generalize hm:(if pre (s.drop (V7 s n)) [91,91] then 2 else if pre (s.drop (V7 s n)) [91] then 1 else 0)=m at he;have iG:V7 s n+m<=s.length/\(m=0/\pre (s.drop (V7 s n)) [91,91]=false/\pre (s.drop (V7 s n)) [91]=false\/m=1/\pre (s.drop (V7 s n)) [91,91]=false/\pre (s.drop (V7 s n)) [91]=true\/m=2/\pre (s.drop (V7 s n)) [91,91]=true):=by
  rw[<-hm]
  split
  rename_i h2
  have:=V18 _ _ h2;rw[U3]at this;simp only[Ub,Ur]at this;exact⟨by omega,.inr (.inr ⟨rfl,h2⟩)⟩
  rename_i h2
  split
  rename_i h1
  have:=V18 _ _ h1;rw[U3]at this;simp only[Ub,Ur]at this;exact⟨by omega,.inr (.inl ⟨rfl,by simpa using h2,h1⟩)⟩
  rename_i h1
  exact⟨by omega,.inl ⟨rfl,by simpa using h2,by simpa using h1⟩⟩
 have aA:=V8 s (V7 s n+m) iG.1;cases hk:V1k E s (V7 s (V7 s n+m)) with
 |non=>rw[hk]at he;cases he
 |bad c p=>rw[hk]at he;cases he
 |ok r =>
  obtain⟨ws,e⟩:=r;obtain⟨e1,e2,e3,e4,e5⟩:=(O_s hE (s:=s) aA.2).1 _ _ hk;have eP:=O3o hE (s.length+2) _ [] ws e aA.2 hk;simp only[Ur,Uu]at eP;rw[hk]at he;simp only at he;rcases iG.2 with⟨rfl,m1,m2⟩|⟨rfl,m1,m2⟩|⟨rfl,m1⟩
  simp only[show ¬(0:Nat)=2 by decide,show ¬(0:Nat)=1 by decide,U1d]at he;rw[U2z,O3r]at hk;cases ht:V2z g ws with
  |non=>rw[ht]at he;cases he
  |bad c p=>rw[ht]at he;cases he
  |ok r =>
   obtain⟨t,d,g2⟩:=r;rw[ht]at he;obtain⟨q1,q2,q3,q4,q5,q6,_⟩:=(Ocx h ws e3 (by omega)).2 _ _ _ ht;have jt:=Onc h hp e3 (by omega) ht;simp only at he
   split at he
   rename_i eV
   cases hr:V1l E s (V7 s (V7 s e+1)) d with
   |non=>rw[hr]at he;cases he
   |bad c p=>rw[hr]at he;cases he
   |ok v =>
    obtain⟨cB,ve,xJ⟩:=v;rw[hr]at he;simp only[Va.ok.injEq,U6]at he;obtain⟨rfl,rfl,rfl,rfl⟩:=he;exact⟨jt,.pair ws e m1 m2 (by simpa using aN) hk q3 q2 (λ _=>⟨d,ve,hr⟩)⟩
   rename_i eV
   simp only[Va.ok.injEq,U6]at he;obtain⟨rfl,rfl,rfl,rfl⟩:=he;exact⟨jt,.pair ws e m1 m2 (by simpa using aN) hk q3 q2 (λ h=>absurd h eV)⟩
  simp only[show ¬(1:Nat)=2 by decide,U1j,U1d]at he;cases ht:V2a g ws with
  |non=>rw[ht]at he;cases he
  |bad c p=>rw[ht]at he;cases he
  |ok g2 =>
   rw[ht]at he;simp only[Va.ok.injEq,U6]at he;obtain⟨rfl,rfl,rfl,rfl⟩:=he;exact⟨Okq h hp e3 (by omega) ht,.head 1 ws e (by omega) (.inr ⟨m1,m2,rfl⟩) hk iG.1 ((Oa9 h ws e3 (by omega)).2 _ ht).le rfl⟩
  simp only[U1j]at he;cases ht:V2y g ws with
  |non=>rw[ht]at he;cases he
  |bad c p=>rw[ht]at he;cases he
  |ok g2 =>
   rw[ht]at he;simp only[Va.ok.injEq,U6]at he;obtain⟨rfl,rfl,rfl,rfl⟩:=he;exact⟨Onb h hp e3 (by omega) ht,.head 2 ws e (by omega) (.inl ⟨m1,rfl⟩) hk iG.1 ((Ocw h ws e3 (by omega)).2 _ ht).le rfl⟩
theorem Oio{E:Vz}(hE:V10 E){s:Bs}(hs:s.length<=20000000){n k i e:Nat}{st:Vc}(hn:n<=s.length)(h:V1l E s n k = .ok (i,e,st)):st.length+n<=e:=by
 have A:V3y (s.drop n) s n:=⟨λ m=>by rw[U16],by rw[U3];omega⟩
 have hr:=O75 hE A (by rw[U3];omega) 0 k (by omega);rw[U2z,h]at hr;cases hx:V1l E (s.drop n) 0 k with
 |non=>rw[hx]at hr;cases hr
 |bad c p=>rw[hx]at hr;cases hr
 |ok r =>
  obtain⟨i0,e0,Tc⟩:=r;rw[hx]at hr;have:=((O2e hE (s.drop n) (by rw[U3];omega) 0 k (by omega)).2.2 _ _ _ hx).2.2.len;cases hr with
  |ok _ _ _ _ q =>
   have:=q.len;omega
theorem Oks{E:Vz}(hE:V10 E){s:Bs}(hs:s.length<=2000000){n:Nat}(hn:n<s.length){g:Vb}(h:GI g)(hp:GP g.nds)(hl:g.nds.length+2*s.length+2<=20000000){e:Nat}{g':Vb}(he:V23 E s n g = .ok (e,g')) :
    GP g'.nds/\g'.nds.length+2*n<=g.nds.length+2*e:=by
 obtain⟨it,hi,rfl,_⟩:=O67 he;have hb:=V8 s n (by omega);have k:=(O1m hE s (by omega) n hn).2.2 it hi;have aa:=k.lt;have cj:∃e0 bJ,V2d E s (V7 s n) = .ok (e0,bJ)/\e0<=it.b/\it.kind=bJ.kind:=by
  have gR:=hi;unfold V2h at gR;cases fP:V2d E s (V7 s n) with
  |non=>rw[fP]at gR;cases gR
  |bad c p=>rw[fP]at gR;cases gR
  |ok r =>
   obtain⟨e0,bJ⟩:=r;rw[fP]at gR;simp only at gR;have aK:=((O3q hE s (by omega) _ hb.2).2.2 e0 bJ fP).le;cases hc:V1b s e0 with
   |bad c p=>rw[hc]at gR;cases gR
   |ok m =>
    rw[hc]at gR;have:=((V4n s e0 aK.2).1 _ hc).1;simp only[Va.ok.injEq]at gR;subst gR;exact⟨e0,bJ,rfl,this,rfl⟩
 obtain⟨e0,bJ,cj,xH,fp⟩:=cj;have xN:=Oac hE hb.2 cj;unfold V23 at he;cases hw:V27 E s n g with
 |non=>rw[hw]at he;cases he
 |bad c p=>rw[hw]at he;cases he
 |ok r =>
  obtain⟨into,root,nds,g1⟩:=r;rw[hw,hi]at he;obtain⟨p1,q⟩:=Okr hE hs (by omega) h hp (by omega) hw;have LK:=((Oaa hE hs (n:=n) (by omega) h (by omega)).2 _ _ _ _ hw).gi;simp only at he;have ls:g1.nds.length+2*n<=g.nds.length+2*it.b/\(it.kind=1->∃ws e1 d ve,V1k E s (V7 s n) = .ok (ws,e1)/\g1.nds.length+1<=g.nds.length+ws.length/\Tb g1 into/\ws.length+n<=e1/\e1<V7 s (V7 s e1+1)/\V7 s (V7 s e1+1)<=s.length/\V1l E s (V7 s (V7 s e1+1)) d = .ok (root,ve,nds)/\ve<=it.b):=by
   cases q with
   |blank b1 b2 b3 =>
    subst b2;refine⟨by omega,λ hk=>?_⟩;rcases xN with⟨_,r2,_⟩|⟨_,_,r2,_⟩|⟨_,_,_,r2⟩|⟨_,_,r1,_⟩
    omega;omega;omega
    rw[b1]at r1;cases r1
   |head m ws e1 b1 b2 b3 b4 b5 b6 =>
    have aA:=V8 s (V7 s n+m) b4;have aK:=(O_s hE (s:=s) aA.2).1 _ _ b3;have aO:=V8 s e1 aK.2.1;have eP:=O3o hE (s.length+2) _ [] ws e1 aA.2 b3;simp only[Ur,Uu]at eP;rcases xN with⟨r1,r2,Ha,e',r3,r4⟩|⟨r0,r1,r2,Ha,e',r3,r4⟩|⟨r0,r1,_,r2⟩|⟨r0,r1,_⟩
    rcases b2 with⟨c1,rfl⟩|⟨c1,_⟩
    exact J180
    rw[r1]at c1;cases c1
    rcases b2 with⟨c1,_⟩|⟨_,c1,rfl⟩
    rw[r0]at c1;cases c1
    exact J180;exact J187
    exact J187
   |pair ws e1 b1 b2 b3 b4 b5 b6 b7 =>
    have aK:=(O_s hE (s:=s) hb.2).1 _ _ b4;have aO:=V8 s e1 aK.2.1;have eP:=O3o hE (s.length+2) _ [] ws e1 hb.2 b4;simp only[Ur,Uu]at eP;rcases xN with⟨r1,_⟩|⟨_,r1,_⟩|⟨_,_,r1,_⟩|⟨_,_,_,rk,Ha,e',LM,Px,r3,r4,r5⟩
    rw[b1]at r1;cases r1
    rw[b2]at r1;cases r1
    rw[b3]at r1;cases r1
    rw[b4]at r3;simp only[Va.ok.injEq,U6]at r3;obtain⟨rfl,rfl⟩:=r3;have lq:=byteAt_lt r4 (by decide);have ie:=V8 s (V7 s e1+1) (by omega);obtain⟨d,ve,hr⟩:=b7 r4;have h0:=Oab (k0:=0) (U1p d) hr;rw[r5]at h0;simp only[Va.ok.injEq,U6]at h0;obtain⟨_,rfl,_⟩:=h0;have hv:=((O2e hE s (by omega) _ d ie.2).2.2 _ _ _ hr).1;exact⟨by omega,λ _=>⟨ws,e1,d,_,b4,b5,b6,by omega,by omega,ie.2,hr,xH⟩⟩
  split at he;simp only[Va.ok.injEq,U6]at he;rw[<-he.2];exact⟨p1,ls.1⟩
  split at he
  rename_i hk
  obtain⟨ws,e1,d,ve,c1,c2,c3,c4,c5,c6,c7,c8⟩:=ls.2 hk
  split at he;cases he
  split at he;simp only[Va.ok.injEq,U6]at he;rw[<-he.2];obtain⟨v1,v2,v3⟩:=Okp hE c7;have v4:=((O2e hE s (by omega) _ d c6).2.2 _ _ _ c7).2.2;have v5:=Oio hE (by omega) c6 c7;refine⟨p1.graft LK.wf v4.wf v1 v2 v3 (LK.lt c3) _ _,?_⟩;show (Vo (g1.nds++nds.map _) into _ _ _).length+2*n<=_;unfold Vo;rw[List.length_modify,Ug,Ul];omega
  cases he
  simp only[Va.ok.injEq,U6]at he;rw[<-he.2];exact⟨p1,ls.1⟩
theorem gi0:GI V4w:=by
 have cD:∀i,Vl V4w i=if i=0 then (1,0) else (0,0):=by
  intro i;cases i with
  |zero=>rfl
  |succ i=>unfold Vl V4w;simp
 have hT:∀i,Tb V4w i ↔ i=0:=by
  intro i;unfold Tb;rw[cD]
  split;rename_i e;simp[e]
  rename_i e;simp[e]
 refine⟨rfl,λ i nd h=>?_,λ i h=>?_,λ i h=>?_,λ i=>?_,(hT 0).2 rfl,(hT 0).2 rfl⟩
 cases i with
 |zero=>simp only[V4w,U1h,Uc]at h;subst h;exact O9f 0 8
 |succ i=>simp[V4w]at h
 rw[(hT i).1 h];exact⟨_,rfl,rfl⟩;rw[cD]at h;split at h <;> simp at h
 rw[cD];split <;> simp
theorem gp0:GP V4w.nds:=by
 have h0:∀(i:Nat) nd,V4w.nds[i]?=some nd->nd.subs=[]:=by
  intro i nd h;cases i with
  |zero=>simp only[V4w,U1h,Uc]at h;subst h;rfl
  |succ i=>simp[V4w]at h
 exact⟨λ i j x y u hx hy h1 h2=>by (rw[h0 i x hx]at h1;cases h1),λ i x hx h=>by (rw[h0 i x hx]at h;cases h),λ _=>0,λ i x hx u hu=>by (rw[h0 i x hx]at hu;cases hu)⟩
structure Vbl(s:Bs)(G:Vb):Prop where
 gi:GI G
 gp:GP G.nds
 len:G.nds.length<=1+2*s.length
 its:G.its.length<=s.length
theorem Oip{E:Vz}(hE:V10 E){s:Bs}(hs:s.length<=1000000):∀(f n:Nat)(g:Vb),n<=s.length->s.length<n+f->GI g->GP g.nds->g.nds.length<=1+2*n->g.its.length<=n->g.many<=n->g.dep<=2*s.length+3 ->
    grownF E s f n g ≠ .non/\∀G,grownF E s f n g = .ok G->Vbl s G:=by
 intro f
 induction f with
 |zero=>intro n g hn hf;omega
 |succ f ih =>
  intro n g hn hf h hp hl hi hm hd;unfold grownF
  split
  rename_i aa
  rw[Ua (by unfold V6t;simp only[Uf,Ux];omega)];obtain⟨i1,i2⟩:=Okf hE (by omega) aa h (by omega);cases hx:V23 E s n g with
  |non=>exact absurd hx i1
  |bad c p=>exact⟨by simp,λ G he=>by simp at he⟩
  |ok r =>
   obtain⟨e,g1⟩:=r;have q:=i2 _ _ hx;obtain⟨p1,p2⟩:=Oks hE (by omega) aa h hp (by omega) hx;have q1:=q.lt;have q2:=q.its;have q3:=q.many;have q4:=q.dep;exact ih e g1 q.le (by omega) q.gi p1 (by omega) (by omega) (by omega) (by omega)
  refine⟨by simp,λ G he=>?_⟩;simp only[Va.ok.injEq]at he;subst he;exact⟨h,hp,by omega,by omega⟩
theorem O8q{E:Vz}(hE:V10 E){s:Bs}(hs:s.length<=1000000):V11 E s ≠ .non/\∀G,V11 E s = .ok G->Vbl s G :=
 Oip hE hs _ 0 V4w (U1p _) (by omega) gi0 gp0 (by simp[V4w]) (by simp[V4w]) (by simp[V4w]) (by simp[V4w])
theorem Oiq{Q:Bs->Bs}{nds:Vc}{r:Nat->Nat}(hr:Rk nds r):∀(f i:Nat),r i<f->∃t,V25 Q nds f i=some t:=by
 intro f
 induction f with
 |zero=>intro i h;omega
 |succ f ih =>
  intro i h;unfold V25;cases hn:nds[i]? with
  |none=>exact⟨[],rfl⟩
  |some nd =>
   simp only;have:∀(js:List Nat)(ks:List Bs),(∀u∈js,r u<r i)->∃us,V1v (V25 Q nds f) Q ks js=some us:=by
    intro js
    induction js with
    |nil=>intro ks _;exact⟨[],by unfold V1v;rfl⟩
    |cons j js Py =>
     intro ks hj;obtain⟨t,ht⟩:=ih j (by have:=hj j (by simp);omega);obtain⟨us,hu⟩:=Py ks.tail (λ u hu=>hj u (U15 _ hu));unfold V1v;rw[ht,hu];exact⟨_,rfl⟩
   obtain⟨us,hu⟩:=this nd.subs nd.keys (λ u hu=>hr i nd hn u hu);rw[hu];exact⟨_,rfl⟩
theorem Ond{Q:Bs->Bs}{a b:Vc}(h:RS 0 a b):∀(f i:Nat),V25 Q b f i=V25 Q a f i:=by
 intro f
 induction f with
 |zero=>intro i;rfl
 |succ f ih =>
  intro i;unfold V25;rcases h.get i with⟨h1,h2⟩|⟨x,y,h1,h2,h3⟩
  exact J91
  rw[Uu]at h1;rw[h1,h2];have e1:y.subs=x.subs:=by rw[h3.subs];simp
  have e2:V25 Q b f=V25 Q a f:=funext ih;simp only[e1,e2,h3.kind,h3.text,h3.keys]
theorem Oir:∀(N:Nat)(l:List Nat),l.Nodup->(∀x∈l,x<N)->l.length<=N:=by
 intro N
 induction N with
 |zero =>
  intro l _ h;cases l with
  |nil=>simp
  |cons a l=>exact absurd (h a (by simp)) (by omega)
 |succ N ih =>
  intro l hn h;have h1:=ih (l.erase N) (List.Nodup.erase _ hn) (λ x hx=>by
   have h2:=(List.Nodup.mem_erase_iff hn).1 hx;have:=h x h2.2;omega)
  rw[List.length_erase]at h1
  split at h1 <;> omega
def O27(nds:Vc)(i:Nat):List Nat:=match nds[i]? with
 |some nd=>nd.subs
 |none=>[]
def lv(nds:Vc):Nat->List Nat
 |0=>[0]
 |k+1=>(lv nds k).flatMap (O27 nds)
theorem Ob3{nds:Vc}{k x:Nat}(h:x∈lv nds (k+1)):∃i nd,i∈lv nds k/\nds[i]?=some nd/\x∈nd.subs:=by
 obtain⟨i,h1,h2⟩:=List.mem_flatMap.1 h;unfold O27 at h2;cases hn:nds[i]? with
 |none=>rw[hn]at h2;cases h2
 |some nd=>rw[hn]at h2;exact⟨i,nd,h1,hn,h2⟩
theorem Ooh{nds:Vc}(h:GP nds):∀(k m x:Nat),x∈lv nds k->x∈lv nds m->k=m:=by
 intro k
 induction k with
 |zero =>
  intro m x h1 h2;cases m with
  |zero=>rfl
  |succ m =>
   obtain⟨i,nd,_,a,b⟩:=Ob3 h2;simp only[lv,U13]at h1;subst h1;exact absurd b (h.fr i nd a)
 |succ k ih =>
  intro m x h1 h2;obtain⟨i,nd,a1,a2,a3⟩:=Ob3 h1;cases m with
  |zero =>
   simp only[lv,U13]at h2;subst h2;exact absurd a3 (h.fr i nd a2)
  |succ m =>
   obtain⟨j,nd',b1,b2,b3⟩:=Ob3 h2;have:=h.pu i j nd nd' x a2 b2 a3 b3;subst this;rw[ih m i a1 b1]
theorem Od5{nds:Vc}(h:GP nds)(hw:WF nds):∀k,(lv nds k).Nodup:=by
 intro k
 induction k with
 |zero=>simp[lv]
 |succ k ih =>
  unfold lv List.Nodup;rw[List.pairwise_flatMap];refine⟨λ i _=>?_,?_⟩
  unfold O27;cases hn:nds[i]? with
  |none=>exact List.Pairwise.nil
  |some nd=>exact (hw i nd hn).up.imp λ h=>by omega
  refine ih.imp λ {i j} Pz x hx y hy e=>?_
  subst e;unfold O27 at hx hy;cases hi:nds[i]? with
  |none=>rw[hi]at hx;cases hx
  |some nd =>
   cases hj:nds[j]? with
   |none=>rw[hj]at hy;cases hy
   |some nd' =>
    rw[hi]at hx;rw[hj]at hy;exact Pz (h.pu i j nd nd' x hi hj hx hy)
theorem Olg{nds:Vc}(hw:WF nds)(h0:0<nds.length)(k:Nat):∀x∈lv nds k,x<nds.length:=by
 intro x hx;cases k with
 |zero=>simp only[lv,U13]at hx;omega
 |succ k =>
  obtain⟨i,nd,_,a,b⟩:=Ob3 hx;exact (hw i nd a).lt x b
def cnt(nds:Vc):Nat->Nat->Nat
 |0,k=>(lv nds k).length
 |f+1,k=>(lv nds k).length+cnt nds f (k+1)
theorem Ooi{nds:Vc}(h:GP nds)(hw:WF nds)(h0:0<nds.length)(f:Nat):cnt nds f 0<=nds.length:=by
 have key:∀f k,∃l:List Nat,l.length=cnt nds f k/\l.Nodup/\(∀x∈l,x<nds.length)/\∀x∈l,∃m,k<=m/\x∈lv nds m:=by
  intro f
  induction f with
  |zero=>intro k;exact⟨lv nds k,rfl,Od5 h hw k,Olg hw h0 k,λ x hx=>⟨k,U2 _,hx⟩⟩
  |succ f ih =>
   intro k;obtain⟨l,l1,l2,l3,l4⟩:=ih (k+1);refine⟨lv nds k++l,by simp[cnt,l1],?_,λ x hx=>?_,λ x hx=>?_⟩;rw[List.nodup_append];refine⟨Od5 h hw k,l2,λ a ha b hb e=>?_⟩;subst e;obtain⟨m,m1,m2⟩:=l4 a hb;have:=Ooh h k m a ha m2;omega
   rcases U1t.1 hx with hx|hx
   exact Olg hw h0 k x hx
   exact l3 x hx
   rcases U1t.1 hx with hx|hx
   exact⟨k,U2 _,hx⟩
   obtain⟨m,m1,m2⟩:=l4 x hx;exact⟨m,by omega,m2⟩
 obtain⟨l,l1,l2,l3,_⟩:=key f 0;rw[<-l1];exact Oir _ l l2 l3
def V90(Q:Bs->Bs)(nds:Vc)(f i:Nat):Nat:=match V25 Q nds f i with
 |some t=>t.length
 |none=>0
def V5h(Q:Bs->Bs)(nds:Vc)(f:Nat):List Nat->Nat
 |[]=>0
 |i::l=>V90 Q nds f i+V5h Q nds f l
theorem Okt(Q:Bs->Bs)(nds:Vc)(f:Nat)(a b:List Nat):V5h Q nds f (a++b)=V5h Q nds f a+V5h Q nds f b:=by
 induction a with
 |nil=>simp[V5h]
 |cons i a ih=>simp only[Un,V5h,ih];omega
theorem Oku{Q:Bs->Bs}{nds:Vc}{f K1:Nat}:∀(js:List Nat)(ks:List Bs)(us:Bs),(∀k∈ks,(Q k).length<=K1)->V1v (V25 Q nds f) Q ks js=some us->us.length<=V5h Q nds f js+js.length*(K1+2):=by
 intro js
 induction js with
 |nil=>intro ks us _ h;simp only[V1v,Uc]at h;subst h;simp
 |cons j js ih =>
  intro ks us hk h;unfold V1v at h;cases ht:V25 Q nds f j with
  |none=>rw[ht]at h;cases h
  |some t =>
   cases hu:V1v (V25 Q nds f) Q ks.tail js with
   |none=>rw[ht,hu]at h;cases h
   |some u =>
    rw[ht,hu]at h;simp only[Uc]at h;subst h;have h1:=ih ks.tail u (λ k cS=>hk k (List.mem_of_mem_tail cS)) hu;have h2:V90 Q nds f j=t.length:=by unfold V90;rw[ht]
    cases ks with
    |nil=>simp only[V5h,Ug,Ub,Ur,Nat.succ_mul,h2];omega
    |cons k r =>
     have h3:=hk k (by simp);simp only[V5h,Ug,Ub,Nat.succ_mul,h2];omega
theorem Okv{Q:Bs->Bs}{nds:Vc}{K0 K1:Nat}(hb:∀(i:Nat) nd,nds[i]?=some nd->(Lib.itoa (nd.kind:Int)).length+(Q nd.text).length<=K0/\∀k∈nd.keys,(Q k).length<=K1)(f i:Nat) :
    V90 Q nds (f+1) i<=K0+(V5h Q nds f (O27 nds i)+(O27 nds i).length*(K1+2)):=by
 unfold V90 V25 O27;cases hn:nds[i]? with
 |none=>simp
 |some nd =>
  simp only;cases hs:V1v (V25 Q nds f) Q nd.keys nd.subs with
  |none=>simp
  |some us =>
   have h1:=Oku nd.subs nd.keys us (hb i nd hn).2 hs;have h2:=(hb i nd hn).1;simp only[Ug];omega
theorem Ois{Q:Bs->Bs}{nds:Vc}{K0 K1:Nat}(hb:∀(i:Nat) nd,nds[i]?=some nd->(Lib.itoa (nd.kind:Int)).length+(Q nd.text).length<=K0/\∀k∈nd.keys,(Q k).length<=K1)(f:Nat):∀J:List Nat,
    V5h Q nds (f+1) J<=J.length*K0+(V5h Q nds f (J.flatMap (O27 nds))+(J.flatMap (O27 nds)).length*(K1+2)):=by
 intro J
 induction J with
 |nil=>simp[V5h]
 |cons i J ih =>
  have:=Okv hb f i;rw[List.flatMap_cons,Okt,Ug];simp only[V5h,Ub,Nat.add_mul,Nat.one_mul];omega
theorem Okw{Q:Bs->Bs}{nds:Vc}(h:GP nds)(hw:WF nds)(h0:0<nds.length){K0 K1:Nat}(hb:∀(i:Nat) nd,nds[i]?=some nd->(Lib.itoa (nd.kind:Int)).length+(Q nd.text).length<=K0/\∀k∈nd.keys,(Q k).length<=K1) :
    ∀(f:Nat)(t:Bs),V25 Q nds f 0=some t->t.length<=nds.length*(K0+K1+2):=by
 have key:∀f k,V5h Q nds f (lv nds k)+(lv nds k).length*(K1+2)<=cnt nds f k*(K0+K1+2):=by
  intro f
  induction f with
  |zero =>
   intro k;have:∀J:List Nat,V5h Q nds 0 J=0:=by
    intro J
    induction J with
    |nil=>rfl
    |cons i J ih=>simp only[V5h,ih];rfl
   rw[this,Uu];exact Nat.mul_le_mul_left _ (by omega)
  |succ f ih =>
   intro k;have h1:=Ois hb f (lv nds k);have h2:=ih (k+1);have e:(lv nds k).flatMap (O27 nds)=lv nds (k+1):=rfl;rw[e]at h1;have e2:(lv nds k).length*(K0+K1+2)=(lv nds k).length*K0+(lv nds k).length*(K1+2):=by rw[<-Nat.mul_add,U12]
   show _<=((lv nds k).length+cnt nds f (k+1))*(K0+K1+2);rw[Nat.add_mul,e2];omega
 intro f t ht;have h1:=key f 0;have h2:=U3i (K0+K1+2) (Ooi h hw h0 f);simp only[lv,V5h,V90,ht]at h1;omega
structure V5c(E:Vz):Prop where
 strN:∀l t k,E.str l = .ok (t,k)->t.length<=l.length
 scalN:∀l kd t m,E.scal l = .ok (kd,t,m)->t.length<=l.length+60
theorem Oad(T:Nat->UInt8×UInt8)(long:Bool)(q:UInt8)(l:Bs):∀(f n:Nat)(out t:Bs)(k:Nat),out.length<=n->n<=l.length->V2m (V17 T long q) l f n out = .ok (t,k)->t.length<=l.length:=by
 intro f
 induction f with
 |zero=>intro n out t k _ _ h;simp[V2m]at h
 |succ f ih =>
  intro n out t k ho hn h;unfold V2m at h;cases hd:l.drop n with
  |nil=>rw[hd]at h;cases h
  |cons c r =>
   have hl:=U1q List.length hd;rw[U3]at hl;rw[hd]at h;simp only at h;cases hs:V17 T long q (c::r) with
   |none=>rw[hs]at h;cases h
   |some sr =>
    rw[hs]at h;cases sr with
    |bad p=>cases h
    |go m u over =>
     obtain⟨h1,h2,h3⟩:=V3c T long q _ m u over hs;simp only at h
     split at h;simp only[Va.ok.injEq,U6]at h;rw[<-h.1,Ug];omega
     exact ih (n+m) (out++u) t k (by rw[Ug];omega) (by omega) h
theorem Okx(l:Bs)(m:Nat)(h:feed l = .ok m):m<=l.length:=by
 unfold feed at h
 split at h;simp only[V2x.ok.injEq]at h;subst h;simp;simp only[V2x.ok.injEq]at h;subst h;simp;cases h
 simp only[V2x.ok.injEq]at h;omega
theorem Oky(T:Nat->UInt8×UInt8)(l t:Bs)(k:Nat)(h:Vj T l = .ok (t,k)):t.length<=l.length:=by
 unfold Vj at h;cases l with
 |nil=>cases h
 |cons c r =>
  simp only at h
  split at h
  split at h
  rename_i hl
  split at h;cases h
  rename_i m hf
  have h3:=O57 _ hl;have:=Okx _ _ hf;rw[U3]at this;exact Oad T true c _ _ _ [] t k (by simp) (by omega) h
  exact Oad T false c _ _ _ [] t k (by simp) (by simp) h
  cases h
theorem O3d{v:Int}(h0 : -9223372036854775808<=v)(h1:v<=9223372036854775807):(Lib.itoa v).length<=21:=Lib.itoa_length_le v h0 h1
theorem Odw{l x:Bs}(h:V1d l = .ok x):x.length<=21:=by
 have key:∀r s d,V1m r s d = .ok x->x.length<=21:=by
  intro r s d h;unfold V1m at h
  split at h;cases h
  split at h
  rename_i v hv
  simp only[V2x.ok.injEq]at h;rw[<-h];unfold V1w at hv
  split at hv;have:=Lib.parseIntB_bounds hv;exact O3d (by simp at this;omega) (by simp at this;omega)
  split at hv
  rename_i n _
  split at hv;simp only[U3p]at hv;exact O3d (by omega) (by omega)
  cases hv
  cases hv
  cases hv
  cases h
  cases h
 unfold V1d at h
 split at h;exact key _ _ _ h
 exact key _ _ _ h
theorem Oit(l cs:Bs):(Lib.trimLeftS l cs).length<=l.length:=by
 unfold Lib.trimLeftS;exact List.Sublist.length_le (U29 _)
theorem Oae(l cs:Bs):(Lib.trimRightS l cs).length<=l.length:=by
 unfold Lib.trimRightS;rw[U3q];have:=List.Sublist.length_le (U29 (cs.contains ·) (l:=l.reverse));rw[U3q]at this;exact this
theorem Od6{l:Bs}{d:Dec}(h:V50 l=some d):d.whole.length+d.part.length<=l.length:=by
 have hw:∀(p:UInt8->Bool)(l:Bs),(l.takeWhile p).length+(l.dropWhile p).length=l.length:=by
  intro p l;rw[<-Ug,U32]
 unfold V50 at h;simp only at h;generalize gj:(if Ve V2k l=true then l.drop 1 else l)=l1 at h;have h1:l1.length<=l.length:=by
  rw[<-gj];split;rw[U3];omega
  omega
 split at h;cases h
 generalize jK:(if Ve V2p (l1.dropWhile O2)=true then (l1.dropWhile O2).drop 1 else l1.dropWhile O2)=l3 at h;have h3:l3.length<=(l1.dropWhile O2).length:=by
  rw[<-jK];split;rw[U3];omega
  omega
 generalize PA:(if Ve V2p (l1.dropWhile O2)=true then l3.takeWhile O2 else [])=pt at h;have h4:pt.length<=l3.length:=by
  rw[<-PA];split;have:=hw O2 l3;omega
  simp
 have h5:=hw O2 l1;rw[U35]at h;obtain⟨_,h⟩:=h;simp only[Uc]at h;rw[<-h];simp only;omega
theorem Odx{l x:Bs}(h:V13 l = .ok x):x.length<=l.length+23:=by
 unfold V13 at h
 split at h;cases h
 rename_i d hd
 have hs:=Od6 hd
 split at h;cases h
 rename_i n hn
 simp only at h
 split at h;simp only[V2x.ok.injEq]at h;rw[<-h];simp
 split at h
 rename_i hw
 simp only[V2x.ok.injEq]at h;unfold V2w at hw;simp only[Uf,Ux]at hw;have h1:=O3d (v:=n-(d.part.length:Int)+((Vh (d.whole++d.part)).length:Int)-((Vk (Vh (d.whole++d.part))).length:Int)) (by omega) (by omega);have h2:(Vk (Vh (d.whole++d.part))).length<=d.whole.length+d.part.length:=by
  have a:=Oae (Vh (d.whole++d.part)) [48];have b:=Oit (d.whole++d.part) [48];rw[Ug]at b;unfold Vk;unfold Vh at a⊢;omega
 rw[<-h];simp only[Ug,Ub,Ur];have h3:(if d.minus=true then [45] else []:Bs).length<=1:=by split <;> simp
 omega
 cases h
theorem Ody{l x:Bs}(h:V1y l = .ok x):x.length<=l.length+23:=by
 unfold V1y at h
 split at h
 ·simp only[V2x.ok.injEq]at h;rw[<-h];unfold V1p
  split
  ·split <;> (simp[V5z];try omega)
  split <;> (simp[V6o];try omega)
 simp only at h
 split at h
 have h2:=V3q l;have h3:∀z y:Bs,V13 (match z with|43::r=>r|r=>r) = .ok y->y.length<=z.length+23:=by
  intro z y hy;have:=Odx hy
  split at this;simp only[Ub];omega
  exact this
 have:=h3 _ _ h;omega
 cases h
theorem Odz{l x:Bs}(h:V1q l = .ok x):x.length<=l.length+40:=by
 have pR:∀l:Bs,(Vi l).1.length<=8/\(Vi l).2.length<=l.length:=by
  intro l;unfold Vi
  split
  refine⟨by simp only[U17];omega,?_⟩;simp only
  split;have:=Vg O2 (l.drop 9);rw[U3]at this;omega
  simp
  simp
 have BG:∀l:Bs,(V22 l).length<=6:=by
  intro l;exact J52
 have hs:(Vf l).date.length<=10/\(Vf l).time.length<=8/\(Vf l).part.length<=l.length/\(Vf l).zone.length<=6:=by
  unfold Vf;have c1:=pR (l.drop 11);have c2:=pR l;rw[U3]at c1
  split
  split
  simp only
  split;simp[U17];omega
  exact⟨by rw[U17];omega,c1.1,by have:=c1.2;simp only;omega,BG _⟩
  simp[U17];omega
  exact⟨by simp,c2.1,c2.2,by simp⟩
 unfold V1q at h;simp only at h
 split at h;cases h
 split at h
 simp only[V2x.ok.injEq]at h;rw[<-h];unfold V5e;simp only[Ug];have h1:(if (Vf l).date≠[]/\(Vf l).time≠[] then [84] else []:Bs).length<=1:=by split <;> simp
 have h2:(if Vk (Vf l).part≠[] then 46::Vk (Vf l).part else []:Bs).length<=(Vf l).part.length+1:=by
  have:=Oae (Vf l).part [48]
  split;simp only[Ub];unfold Vk;omega
  simp
 have h3:(V60 (Vf l).zone).length=(Vf l).zone.length:=by unfold V60;simp
 omega
 cases h
theorem Oiu(l:Bs)(kd:Nat)(t:Bs)(m:Nat)(h:Vd l = .ok (kd,t,m)):t.length<=l.length+60:=by
 unfold Vd at h
 split at h
 split at h
 rename_i x hx
 simp only[Va.ok.injEq,U6]at h;rw[<-h.2.1];have:=Odz hx;rw[U17]at this;omega
 cases h
 split at h
 rename_i k x hx
 simp only[Va.ok.injEq,U6]at h;rw[<-h.2.1];have ht:=Vg V39 l;unfold V2i at hx
 split at hx
 rename_i hb
 simp only[V2x.ok.injEq,U6]at hx;rw[<-hx.2];unfold V3f;omega
 split at hx
 rename_i y hy
 simp only[V2x.ok.injEq,U6]at hx;rw[<-hx.2];have:=Odw hy;omega
 split at hx
 split at hx
 rename_i y hy
 simp only[V2x.ok.injEq,U6]at hx;rw[<-hx.2];have:=Ody hy;unfold V3f at this;omega
 cases hx
 cases hx
 cases h
theorem V8q(T:Nat->UInt8×UInt8):V5c (Vbj T):=⟨Oky T,Oiu⟩
def Td(M:Nat)(st:Vc):Prop:=∀nd∈st,nd.kind<=8/\nd.text.length<=M/\∀k∈nd.keys,k.length<=M
theorem Td.app{M:Nat}{a b:Vc}(h:Td M a)(k:Td M b):Td M (a++b):=λ nd hn=>(U1t.1 hn).elim (h nd) (k nd)
theorem O4n{M:Nat}{nd:Nd}(h:nd.kind<=8)(ht:nd.text.length<=M)(hk:∀k∈nd.keys,k.length<=M):Td M [nd]:=λ x hx=>by (rw[U13]at hx;subst hx;exact⟨h,ht,hk⟩)
theorem Td.mod{M:Nat}{a:Vc}(h:Td M a)(t:Nat)(f:Nd->Nd)(hf:∀nd,nd.kind<=8/\nd.text.length<=M/\(∀k∈nd.keys,k.length<=M)->(f nd).kind<=8/\(f nd).text.length<=M/\∀k∈(f nd).keys,k.length<=M):Td M (a.modify t f):=by
 intro nd hn;obtain⟨j,hj⟩:=U3l hn;rw[Oz]at hj
 split at hj
 cases hs:a[j]? with
 |none=>rw[hs]at hj;cases hj
 |some x =>
  rw[hs]at hj;simp only[U18,Uc]at hj;subst hj;exact hf x (h x (U1r hs))
 exact h nd (U1r hj)
theorem Td.put{M:Nat}{a:Vc}(h:Td M a)(t:Nat){w:Bs}(hw:w.length<=M)(sp:Nat×Nat)(i:Nat):Td M (Vo a t w sp i) :=
 h.mod t _ λ nd q=>⟨q.1,q.2.1,λ k hk=>(U1t.1 (show k∈nd.keys++[w] from hk)).elim (q.2.2 k) λ e=>by (rw[U13]at e;subst e;exact hw)⟩
theorem O6r(M k:Nat)(hk:k<=8):Td M [V1t k]:=O4n hk (U1p _) (λ k h=>by cases h)
section
variable {E:Vz}(hL:V5c E){s:Bs}
include hL
theorem One{n e:Nat}{t:Bs}(h:V3w E s n = .ok (t,e)):t.length<=s.length:=by
 unfold V3w at h
 split at h;simp only[Va.ok.injEq,U6]at h;rw[<-h.1];simp
 split at h
 split at h;cases h
 cases h
 rename_i u k hu
 simp only[Va.ok.injEq,U6]at h;have:=hL.strN _ _ _ hu;rw[U3]at this;rw[<-h.1];omega
 simp only[Va.ok.injEq,U6]at h;rw[<-h.1,U17,U3];omega
theorem Onf:∀(f n:Nat)(acc ws:List KW)(e:Nat),(∀x∈acc,x.1.length<=s.length)->V4c E s f n acc = .ok (ws,e)->∀x∈ws,x.1.length<=s.length:=by
 intro f
 induction f with
 |zero=>intro n acc ws e _ h;simp[V4c]at h
 |succ f ih =>
  intro n acc ws e ha h;unfold V4c at h
  split at h;cases h
  cases h
  rename_i t e1 ht
  have rC:∀x∈acc++[(t,n,e1)],x.1.length<=s.length:=λ x hx=>(U1t.1 hx).elim (ha x) λ e=>by (rw[U13]at e;subst e;exact One hL ht)
  simp only at h
  split at h;exact ih _ _ _ _ rC h
  simp only[Va.ok.injEq,U6]at h;rw[<-h.1];exact rC
theorem O9i{n e:Nat}{ws:List KW}(h:V1k E s n = .ok (ws,e)):∀x∈ws,x.1.length<=s.length:=Onf hL _ n [] ws e (λ x hx=>by cases hx) h
end
theorem Ooj{M:Nat}(table:Nat):∀(ws:List KW)(into d:Nat)(st:Vc)(ax d':Nat)(st':Vc),(∀x∈ws,x.1.length<=M)->Td M st->V3m table ws into d st = .ok (ax,d',st')->Td M st':=by
 intro ws
 induction ws with
 |nil=>intro into d st ax d' st' _ _ h;simp[V3m]at h
 |cons x rest ih =>
  intro into d st ax d' st' hw hp h;obtain⟨w,a,b⟩:=x;have hr:∀x∈rest,x.1.length<=M:=λ x hx=>hw x (U15 _ hx)
  have z':w.length<=M:=hw (w,a,b) (by simp);unfold V3m at h;cases hs:V12 st into w with
  |non=>rw[hs]at h;cases h
  |yes i =>
   rw[hs]at h;cases rest with
   |nil=>cases h
   |cons y rest =>
    simp only at h
    split at h;exact ih i (d+1) st ax d' st' hr hp h
    cases h
  |no =>
   rw[hs]at h;cases rest with
   |nil=>simp only[Va.ok.injEq,U6]at h;rw[<-h.2.2];exact hp
   |cons y rest =>
    simp only at h
    split at h;cases h
    split at h;exact ih _ (d+1) _ ax d' st' hr ((hp.app (O4n (by show 8<=8;decide) (U1p _) (λ k h=>by cases h))).put _ z' _ _) h
    cases h
def VTd(M:Nat)(V:V24):Prop:=∀d n st i e st',Td M st->V d n st = .ok (i,e,st')->Td M st'
section
variable {E:Vz}(hL:V5c E){s:Bs}{V:V24}{M:Nat}(hM:s.length<=M)(hV:VTd M V)
include hL hM hV
theorem Okz(table n d:Nat)(st:Vc)(e:Nat)(st':Vc)(hp:Td M st)(h:V1s E V s table n d st = .ok (e,st')):Td M st':=by
 unfold V1s at h
 split at h;cases h
 cases h
 rename_i ws e0 hk
 have hw:∀x∈ws,x.1.length<=M:=λ x hx=>Uj (O9i hL hk x hx) hM
 split at h;cases h
 cases h
 rename_i into d' st1 hy
 have h1:=Ooj table ws table d st into d' st1 hw hp hy;simp only at h
 split at h
 split at h;cases h
 cases h
 rename_i i e2 st2 hv
 have h2:=hV _ _ _ _ _ _ h1 hv
 split at h;cases h
 rename_i w a b hl
 split at h;simp only[Va.ok.injEq,U6]at h;rw[<-h.2];exact h2.put _ (hw _ (U3m hl)) _ _
 cases h
 cases h
theorem Ong(table d:Nat):∀(f n:Nat)(st:Vc)(e:Nat)(st':Vc),Td M st->V2g E V s table d f n st = .ok (e,st')->Td M st':=by
 intro f
 induction f with
 |zero=>intro n st e st' _ h;simp[V2g]at h
 |succ f ih =>
  intro n st e st' hp h;unfold V2g at h
  split at h;cases h
  cases h
  rename_i e1 st1 hy
  have q:=Okz hL hM hV table n d st e1 st1 hp hy;simp only at h
  split at h;simp only[Va.ok.injEq,U6]at h;rw[<-h.2];exact q
  split at h;exact ih _ st1 e st' q h
  cases h
theorem Oiv(d n:Nat)(st:Vc)(i e:Nat)(st':Vc)(hp:Td M st)(h:V1z E V s d n st = .ok (i,e,st')):Td M st':=by
 unfold V1z at h
 split at h;cases h
 split at h
 have fY:Td M (st++[V1f]):=hp.app (O4n (by decide) (U1p _) (λ k h=>by cases h));simp only at h
 split at h;cases h
 cases h
 rename_i e1 st1 hx
 have q:Td M st1:=by
  split at hx;simp only[Va.ok.injEq,U6]at hx;rw[<-hx.2];exact fY
  exact Ong hL hM hV st.length d _ _ _ _ _ fY hx
 split at h;simp only[Va.ok.injEq,U6]at h;rw[<-h.2.2];exact q.mod _ _ λ nd z=>z
 cases h
 cases h
end
section
variable {s:Bs}{V:V24}{M:Nat}(hV:VTd M V)
include hV
theorem Ol0(d:Nat):∀(f n:Nat)(subs:List Nat)(st:Vc)(l:List Nat)(e:Nat)(st':Vc),Td M st->V1h V s d f n subs st = .ok (l,e,st')->Td M st':=by
 intro f
 induction f with
 |zero=>intro n subs st l e st' _ h;simp[V1h]at h
 |succ f ih =>
  intro n subs st l e st' hp h;unfold V1h at h
  split at h;simp only[Va.ok.injEq,U6]at h;rw[<-h.2.2];exact hp
  split at h;cases h
  cases h
  rename_i i e1 st1 hv
  have q:=hV _ _ _ _ _ _ hp hv
  split at h;cases h
  split at h;cases h
  split at h;simp only[Va.ok.injEq,U6]at h;rw[<-h.2.2];exact q
  split at h
  split at h;cases h
  exact ih _ _ st1 l e st' q h
  cases h
theorem Ol1(d n:Nat)(st:Vc)(i e:Nat)(st':Vc)(hp:Td M st)(h:V2s V s d n st = .ok (i,e,st')):Td M st':=by
 unfold V2s at h
 split at h;cases h
 split at h;cases h
 split at h;cases h
 cases h
 rename_i subs e1 st1 hx
 have q:=Ol0 hV d _ _ [] st subs e1 st1 hp hx
 split at h;simp only[Va.ok.injEq,U6]at h;rw[<-h.2.2];exact q.app (O4n (by show 7<=8;decide) (U1p _) (λ k h=>by cases h))
 cases h
end
theorem Oiw{E:Vz}(hE:V10 E)(hL:V5c E){s:Bs}{M:Nat}(hM:s.length+60<=M):∀f,VTd M (V19 E s f):=by
 intro f
 induction f with
 |zero=>intro d n st i e st' _ h;simp[V19]at h
 |succ f ih =>
  intro d n st i e st' hp h;unfold V19 at h;simp only at h
  split at h
  split at h;cases h
  cases h
  rename_i t m hs
  have:=hL.strN _ _ _ hs;rw[U3]at this
  split at h;simp only[Va.ok.injEq,U6]at h;rw[<-h.2.2];exact hp.app (O4n (by show 3<=8;decide) (by show t.length<=M;omega) (λ k h=>by cases h))
  cases h
  split at h;exact Ol1 ih d n st i e st' hp h
  split at h;exact Oiv hL (by omega) ih d n st i e st' hp h
  split at h;cases h
  cases h
  rename_i k t m hs
  have h1:=hL.scalN _ _ _ _ hs;have h2:=hE.scalK _ _ _ _ hs;rw[U3]at h1
  split at h;simp only[Va.ok.injEq,U6]at h;rw[<-h.2.2];exact hp.app (O4n (by show k<=8;omega) (by show t.length<=M;omega) (λ k h=>by cases h))
  cases h
theorem Ol2{E:Vz}(hE:V10 E)(hL:V5c E){s:Bs}{M:Nat}(hM:s.length+60<=M){n k i e:Nat}{st:Vc}(h:V1l E s n k = .ok (i,e,st)):Td M st :=
 Oiw hE hL hM 258 _ n [] i e st (λ nd h=>by cases h) h
theorem Oev{M:Nat}{g:Vb}(hp:Td M g.nds){t d:Nat}{w:Bs}(hw:w.length<=M){a b:Nat}{s:Nat×Nat}{over:Nat->Ov}{n d':Nat}{g':Vb}(he:V1n g t d w a b s over = .ok (n,d',g')):Td M g'.nds:=by
 unfold V1n at he
 split at he;cases he
 exact J95
 split at he;cases he
 split at he;simp only[Va.ok.injEq,U6]at he;rw[<-he.2.2];exact (hp.app (O6r M 8 (by decide))).put _ hw _ _
 cases he
theorem Onh{M:Nat}(s:Nat×Nat)(over:Vb->Nat->Nat->Ov):∀(ws:List KW)(t d:Nat)(g:Vb)(t' d':Nat)(g':Vb),(∀x∈ws,x.1.length<=M)->Td M g.nds->V20 s over ws t d g = .ok (t',d',g')->Td M g'.nds:=by
 intro ws
 induction ws with
 |nil=>intro t d g t' d' g' _ hp he;simp only[V20,Va.ok.injEq,U6]at he;rw[<-he.2.2];exact hp
 |cons x rest ih =>
  intro t d g t' d' g' hw hp he;obtain⟨w,a,b⟩:=x;unfold V20 at he;cases a9:V1n g t d w a b s (over g d) with
  |non=>rw[a9]at he;cases he
  |bad c p=>rw[a9]at he;cases he
  |ok r =>
   obtain⟨n,d2,g2⟩:=r;rw[a9]at he;exact ih n d2 g2 t' d' g' (λ x hx=>hw x (U15 _ hx)) (Oev hp (hw (w,a,b) (by simp)) a9) he
theorem Ol3{M:Nat}{g g':Vb}(hp:Td M g.nds){k:List KW}(hw:∀x∈k,x.1.length<=M)(he:V2a g k = .ok g'):Td M g'.nds:=by
 unfold V2a at he
 split at he;cases he
 cases he
 rename_i t d g1 hy
 refine Z277 ?_;intro h1
 split at he;cases he
 rename_i w a b hl
 split at he;cases he
 cases he
 rename_i n d2 g2 hs
 simp only[Va.ok.injEq]at he;rw[<-he];show Td M g2.nds;exact Oev h1 (hw _ (U3m hl)) hs
theorem Oew{M:Nat}{g:Vb}(hp:Td M g.nds)(i d:Nat):Td M (V3g g i d).nds:=(hp.app (O6r M 8 (by decide))).mod _ _ λ nd z=>z
theorem Oni{M:Nat}{g g':Vb}(hp:Td M g.nds){k:List KW}(hw:∀x∈k,x.1.length<=M)(he:V2y g k = .ok g'):Td M g'.nds:=by
 unfold V2y at he
 split at he;cases he
 cases he
 rename_i t d g1 hy
 refine Z277 ?_;intro h1
 split at he;cases he
 rename_i w a b hl
 split at he;cases he
 split at he
 split at he;cases he
 split at he;simp only[Va.ok.injEq]at he;rw[<-he];exact Oew h1 _ _
 cases he
 cases he
 split at he;cases he
 split at he;simp only[Va.ok.injEq]at he;rw[<-he];exact Oew ((h1.app (O6r M 7 (by decide))).put _ (hw _ (U3m hl)) _ _) _ _
 cases he
theorem Onj{M:Nat}{g g':Vb}(hp:Td M g.nds){k:List KW}(hw:∀x∈k,x.1.length<=M){t d:Nat}(he:V2z g k = .ok (t,d,g')):Td M g'.nds:=by
 unfold V2z at he
 split at he;cases he
 cases he
 rename_i t' d' g1 hy
 refine Z277 ?_;intro h1
 split at he;cases he
 split at he;cases he
 cases he
 simp only[Va.ok.injEq,U6]at he;rw[<-he.2.2];exact h1
section
variable {E:Vz}(hE:V10 E)(hL:V5c E){s:Bs}{M:Nat}(hM:s.length+60<=M)
include hE hL hM
theorem Ol4{n:Nat}{g g1:Vb}(hp:Td M g.nds){into root:Nat}{nds:Vc}(he:V27 E s n g = .ok (into,root,nds,g1)):Td M g1.nds/\Td M nds:=by
 have h0:Td M []:=λ nd h=>by cases h
 unfold V27 at he;simp only at he
 split at he;simp only[Va.ok.injEq,U6]at he;obtain⟨rfl,rfl,rfl,rfl⟩:=he;exact⟨hp,h0⟩
 generalize (if pre (s.drop (V7 s n)) [91,91] then 2 else if pre (s.drop (V7 s n)) [91] then 1 else 0)=m at he
 split at he;cases he
 cases he
 rename_i ws e hk
 have hw:∀x∈ws,x.1.length<=M:=λ x hx=>by have:=O9i hL hk x hx;omega
 split at he
 split at he;cases he
 cases he
 rename_i hm
 simp only[Va.ok.injEq,U6]at he;obtain⟨rfl,rfl,rfl,rfl⟩:=he;exact⟨Oni hp hw hm,h0⟩
 split at he
 split at he;cases he
 cases he
 rename_i hm
 simp only[Va.ok.injEq,U6]at he;obtain⟨rfl,rfl,rfl,rfl⟩:=he;exact⟨Ol3 hp hw hm,h0⟩
 split at he;cases he
 cases he
 rename_i hm
 have h1:=Onj hp hw hm
 split at he
 split at he;cases he
 cases he
 rename_i hr
 simp only[Va.ok.injEq,U6]at he;obtain⟨rfl,rfl,rfl,rfl⟩:=he;exact⟨h1,Ol2 hE hL hM hr⟩
 simp only[Va.ok.injEq,U6]at he;obtain⟨rfl,rfl,rfl,rfl⟩:=he;exact⟨h1,h0⟩
end
section
variable {E:Vz}(hE:V10 E)(hL:V5c E){s:Bs}{M:Nat}(hM:s.length+60<=M)
include hE hL hM
theorem Onk{n e:Nat}{g g':Vb}(hp:Td M g.nds)(he:V23 E s n g = .ok (e,g')):Td M g'.nds:=by
 unfold V23 at he
 split at he;cases he
 cases he
 rename_i into root nds g1 hw
 obtain⟨h1,h2⟩:=Ol4 hE hL hM hp hw
 split at he;cases he
 cases he
 rename_i it hi
 split at he;simp only[Va.ok.injEq,U6]at he;rw[<-he.2];exact h1
 split at he
 rename_i hk
 obtain⟨_,_,ws,e1,q1,_,q3⟩:=Ocz hi hk
 split at he;cases he
 rename_i w a b hl
 simp only at he
 split at he
 simp only[Va.ok.injEq,U6]at he;rw[<-he.2];show Td M (Vo (g1.nds++nds.map _) into w (a,b) (root+g1.nds.length));have h3:Td M (nds.map λ nd=>{ nd with subs:=nd.subs.map (· + g1.nds.length),owner:=0 }):=by
  intro nd hn;obtain⟨x,hx,rfl⟩:=U30.1 hn;exact h2 x hx
 refine (h1.app h3).put _ ?_ _ _;have:=O9i hL q1 _ (q3 ▸ U3m hl);simp only at this;omega
 cases he
 simp only[Va.ok.injEq,U6]at he;rw[<-he.2];exact h1
theorem Ol5:∀(f n:Nat)(g G:Vb),Td M g.nds->grownF E s f n g = .ok G->Td M G.nds:=by
 intro f
 induction f with
 |zero=>intro n g G _ h;simp[grownF]at h
 |succ f ih =>
  intro n g G hp h;unfold grownF at h
  split at h
  split at h
  split at h;cases h
  cases h
  rename_i e g1 hi
  exact ih e g1 G (Onk hE hL hM hp hi) h
  cases h
  simp only[Va.ok.injEq]at h;rw[<-h];exact hp
end
theorem Onl{M:Nat}(hM:M<=1000000){nds:Vc}(h:Td M nds)(hw:WF nds)(hl:nds.length<=1000000):V59 nds=true:=by
 unfold V59;simp only[U1g,Uf,Ux];intro nd hn;obtain⟨h1,h2,h3⟩:=h nd hn;obtain⟨i,hi⟩:=U3l hn;have h4:=hw i nd hi;have h5:=O4m _ _ h4.up h4.lt;exact⟨⟨⟨⟨by omega,by omega⟩,λ k hk=>by have:=h3 k hk;omega⟩,by omega⟩,λ u hu=>by have:=h4.lt u hu;omega⟩
theorem O8r{E:Vz}(hE:V10 E)(hL:V5c E){s:Bs}(hs:s.length<=100000){G:Vb}(h:V11 E s = .ok G) :
    Vbl s G/\V59 G.nds=true/\G.nds.length<=1000000/\∀(Q:Bs->Bs)(K:Nat),(∀l:Bs,l.length<=100060->(Q l).length<=K)->∃f t,V25 Q G.nds f 0=some t/\t.length<=200001*(2*K+30):=by
 have q:=(O8q hE (by omega)).2 G h;have ht:=Ol5 hE hL (M:=100060) (by omega) _ _ _ _ (O6r 100060 8 (by decide)) h;have hl:=q.len;refine⟨q,Onl (by omega) ht q.gi.wf (by omega),by omega,λ Q K hQ=>?_⟩;obtain⟨r,hr⟩:=q.gp.rk;obtain⟨t,h1⟩:=Oiq (Q:=Q) hr (r 0+1) 0 (by omega);refine⟨_,t,h1,?_⟩;have h0:0<G.nds.length:=by have:=q.gi.lt q.gi.root;exact this
 have h2:=Okw q.gp q.gi.wf h0 (K0:=K+21) (K1:=K) (λ i nd hn=>by
  obtain⟨a,b,c⟩:=ht nd (U1r hn);have d:=O3d (v:=(nd.kind:Int)) (by omega) (by omega);have e:=hQ _ b;exact⟨by omega,λ k hk=>hQ k (c k hk)⟩) _ t h1
 have h3:G.nds.length*(K+21+K+2)<=200001*(K+21+K+2):=U3i _ (by omega);have h4:200001*(K+21+K+2)<=200001*(2*K+30):=Nat.mul_le_mul_left _ (by omega);omega
theorem Onm{E:Vz}(hE:V10 E){s:Bs}(hs:s.length<=20000000)(gs:Nat->Bs)(bZ:∀i,gs i∈V4r){n:Nat}{g:Vb}{l:List It}{G:Vb}(h:Run E s n g l G):∀i,n<=s.length->(V3l s gs i l).length+n<=s.length+11*l.length:=by
 induction h with
 |nil n g hn=>intro i hi;simp[V3l];omega
 |cons n g it g1 l G hn cJ hi hit ha hr ih =>
  intro i jw;have q:=(O1m hE s hs n hn).2.2 it hit;have q1:=q.lt;have:=ih (i+1) q.le;have hg:(gs i).length<=11:=by
   have h1:=bZ i;simp only[V4r,U1k,List.not_mem_nil,or_false]at h1;rcases h1 with e|e|e|e|e <;> (rw[e];decide)
  simp only[V3l,Ug,U17,U3,Ub];omega
theorem V7r{E:Vz}(hE:V10 E)(hN:V4v E)(hL:V5c E){s:Bs}(hs:s.length<=1000) :
    V11 E s ≠ .non/\∀G,V11 E s = .ok G ->
     (∀it∈G.its,it.b<=s.length/\it.a<=it.b/\∃g',V11 E (s.take it.b) = .ok g')/\G.its.length<=1000/\V59 G.nds=true/\G.nds.length<=1000000 /\
     ∀gs,(∀i,gs i∈V4r)->(V3l s gs 0 G.its).length<=12000/\∃G2,V11 E (V3l s gs 0 G.its) = .ok G2/\V59 G2.nds=true/\G2.nds.length<=1000000 /\
      ∀(Q:Bs->Bs)(K:Nat),(∀l:Bs,l.length<=100060->(Q l).length<=K)->∃f t,V25 Q G.nds f 0=some t/\V25 Q G2.nds f 0=some t/\t.length<=200001*(2*K+30):=by
 refine⟨(O8q hE (by omega)).1,λ G h=>?_⟩;obtain⟨q1,q2,q3,q4⟩:=O8r hE hL (by omega) h;obtain⟨b1,b2⟩:=Og8 hE hN (by omega) h;have hi:=q1.its;refine⟨b1,by omega,q2,q3,λ gs bZ=>?_⟩;obtain⟨l,hr,hl⟩:=Oii _ _ _ _ h;rw[show V4w.its=[] from rfl,U1c]at hl;have ho:=Onm hE (by omega) gs bZ hr 0 (U1p _);rw[<-hl]at ho;obtain⟨G2,h1,h2⟩:=b2 gs bZ (by omega);obtain⟨_,r2,r3,_⟩:=O8r hE hL (by omega) h1;refine⟨by omega,G2,h1,r2,r3,λ Q K hQ=>?_⟩;obtain⟨f,t,t1,t2⟩:=q4 Q K hQ;exact⟨f,t,t1,by rw[Ond h2];exact t1,t2⟩
theorem Ol6(s:Bs)(gs:Nat->Bs)(x:It):∀(l:List It)(k:Nat),V3l s gs k (l++[x])=V3l s gs k l++(gs (k+l.length)++(s.drop x.a).take (x.b-x.a)):=by
 intro l
 induction l with
 |nil=>intro k;simp[V3l]
 |cons y l ih =>
  intro k;rw[Un,V3l,V3l,ih,Ub,show k+1+l.length=k+(l.length+1) by omega];simp only[U2p]
theorem V87(s:Bs)(gs:Nat->Bs)(l:List It)(i:Nat)(x:It)(h:l[i]?=some x):V3l s gs 0 (l.take (i+1))=V3l s gs 0 (l.take i)++(gs i++(s.drop x.a).take (x.b-x.a)):=by
 have hi:=(U7.1 h).1;rw[List.take_succ,h];have:=Ol6 s gs x (l.take i) 0;rw[U17,Nat.min_eq_left (by omega),Uu]at this;exact this
def V5f(gl:List UInt8)(i:Nat):Bs:=V4r.getD ((match gl[i]? with|some c=>c.toNat|none=>i % 256) % 5) []
theorem V8r(gl:List UInt8)(i:Nat):V5f gl i∈V4r:=by
 unfold V5f;generalize (match gl[i]? with|some c=>c.toNat|none=>i % 256)=m;have h:m % 5<V4r.length:=Nat.mod_lt _ (by decide);rw[Ui,Uh h];exact U2v h
