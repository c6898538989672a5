/- The proof's part 27. -/
import Derived.Test.YtnkgknbdaiakgaaGreatDoorQ26
set_option maxHeartbeats 16000000
set_option linter.all false
namespace Go.Proofs.YtnkgknbdaiakgaaGreatDoor.Pl
def Al(P:Nd->Prop)(st:Vc):Prop:=∀nd∈st,P nd
structure NP(E:Vv)(s:Bs)(W:KW->Prop)(P:Nd->Prop):Prop where
 grow:∀k,k<=8->P (V14 k)
 same:∀(nd:Nd) subs sp o,P nd->P ⟨nd.kind,nd.text,nd.keys,nd.spots,subs,sp,o⟩
 put:∀(nd:Nd) w a b i,P nd->W (w,a,b)->P (V10 nd w (a,b) i)
 str:∀n t m,E.str (s.drop n)=.ok (t,m)->P (V4t 3 t n (n+m))
 scal:∀n k t m,E.scal (s.drop n)=.ok (k,t,m)->P (V4t k t n (n+m))
 word:∀n ws e,V1q E s n=.ok (ws,e)->∀x∈ws,W x
theorem Al.app{P:Nd->Prop}{a b:Vc}(h:Al P a)(k:Al P b):Al P (a++b):=λ nd hn=>(U29.1 hn).elim (h nd) (k nd)
theorem O2k{P:Nd->Prop}{nd:Nd}(h:P nd):Al P [nd]:=λ x hx=>by (rw[U20]at hx;subst hx;exact h)
theorem Al.mod{P:Nd->Prop}{a:Vc}(h:Al P a)(t:Nat)(f:Nd->Nd)(hf:∀nd,P nd->P (f nd)):Al P (a.modify t f):=by
 exact J141
section
variable {E:Vv}{s:Bs}{W:KW->Prop}{P:Nd->Prop}(N:NP E s W P)
include N
theorem NP.tab:P V16:=N.same _ [] (0,0) 0 (N.grow 8 Yd)
theorem NP.dot(o:Nat):P (V1s o):=N.same _ [] (-1,-1) o (N.grow 8 Yd)
theorem NP.list(l:List Nat)(a b:Nat):P (V4e l a b):=N.same _ l ((a:Int),(b:Int)) 0 (N.grow 7 Yd)
theorem NP.putA{a:Vc}(h:Al P a)(t:Nat){x:KW}(hx:W x)(i:Nat):Al P (Vf a t x.1 (x.2.1,x.2.2) i):=h.mod t _ λ nd q=>N.put nd _ _ _ _ q hx
theorem Oo1(table:Nat):∀(ws:List KW)(into d:Nat)(st:Vc)(am d':Nat)(st':Vc),(∀x∈ws,W x)->Al P st->V3d table ws into d st=.ok (am,d',st')->Al P st':=by
 intro ws
 induction ws with
 |nil=>intro into d st am d' st' _ _ h;simp[V3d]at h
 |cons x rest ih =>
  intro into d st am d' st' hw hp h;obtain⟨w,a,b⟩:=x;have hr:∀x∈rest,W x:=λ x hx=>hw x (U24 _ hx)
  have AM:W (w,a,b):=hw (w,a,b) Yb;unfold V3d at h;cases hs:V1a st into w with
  |non=>rw[hs]at h;cases h
  |yes i =>
   rw[hs]at h;cases rest with
   |nil=>cases h
   |cons y rest =>
    simp only at h
    split at h;exact ih i (d+1) st am d' st' hr hp h
    cases h
  |no =>
   rw[hs]at h;cases rest with
   |nil=>simp only[V9.ok.injEq,U17]at h;rw[<-h.2.2];exact hp
   |cons y rest =>
    simp only at h
    split at h;cases h
    split at h;exact ih _ (d+1) _ am d' st' hr (N.putA (hp.app (O2k (N.dot _))) _ AM _) h
    cases h
end
def VNp(P:Nd->Prop)(V:V1n):Prop:=∀d n st i e st',Al P st->V d n st=.ok (i,e,st')->Al P st'
section
variable {E:Vv}{s:Bs}{W:KW->Prop}{P:Nd->Prop}(N:NP E s W P){V:V1n}(hV:VNp P V)
include N hV
theorem Ojb(table n d:Nat)(st:Vc)(e:Nat)(st':Vc)(hp:Al P st)(h:V1l E V s table n d st=.ok (e,st')):Al P st':=by
 unfold V1l at h
 split at h;cases h
 cases h
 rename_i ws e0 hk
 have hw:=N.word _ _ _ hk
 split at h;cases h
 cases h
 rename_i into d' st1 hy
 have h1:=Oo1 N table ws table d st into d' st1 hw hp hy;simp only at h
 split at h
 split at h;cases h
 cases h
 rename_i i e2 st2 hv
 have h2:=hV _ _ _ _ _ _ h1 hv
 split at h;cases h
 rename_i w a b hl
 split at h;simp only[V9.ok.injEq,U17]at h;rw[<-h.2];exact N.putA h2 _ (hw _ (U3e hl)) _
 cases h
 cases h
theorem Om8(table d:Nat):∀(f n:Nat)(st:Vc)(e:Nat)(st':Vc),Al P st->V29 E V s table d f n st=.ok (e,st')->Al P st':=by
 intro f
 induction f with
 |zero=>intro n st e st' _ h;simp[V29]at h
 |succ f ih =>
  intro n st e st' hp h;unfold V29 at h
  split at h;cases h
  cases h
  rename_i e1 st1 hy
  have q:=Ojb N hV table n d st e1 st1 hp hy;simp only at h
  split at h;simp only[V9.ok.injEq,U17]at h;rw[<-h.2];exact q
  split at h;exact ih _ st1 e st' q h
  cases h
theorem Ogz(d n:Nat)(st:Vc)(i e:Nat)(st':Vc)(hp:Al P st)(h:V1h E V s d n st=.ok (i,e,st')):Al P st':=by
 unfold V1h at h
 split at h;cases h
 split at h
 have fQ:Al P (st++[V16]):=hp.app (O2k N.tab);simp only at h
 split at h;cases h
 cases h
 rename_i e1 st1 hx
 have q:Al P st1:=by
  split at hx;simp only[V9.ok.injEq,U17]at hx;rw[<-hx.2];exact fQ
  exact Om8 N hV st.length d _ _ _ _ _ fQ hx
 split at h;simp only[V9.ok.injEq,U17]at h;rw[<-h.2.2];exact q.mod _ _ λ nd z=>N.same nd nd.subs _ nd.owner z
 cases h
 cases h
theorem Ojc(d:Nat):∀(f n:Nat)(subs:List Nat)(st:Vc)(l:List Nat)(e:Nat)(st':Vc),Al P st->V1f V s d f n subs st=.ok (l,e,st')->Al P st':=by
 intro f
 induction f with
 |zero=>intro n subs st l e st' _ h;simp[V1f]at h
 |succ f ih =>
  intro n subs st l e st' hp h;unfold V1f at h
  split at h;simp only[V9.ok.injEq,U17]at h;rw[<-h.2.2];exact hp
  split at h;cases h
  cases h
  rename_i i e1 st1 hv
  have q:=hV _ _ _ _ _ _ hp hv
  split at h;cases h
  split at h;cases h
  split at h;simp only[V9.ok.injEq,U17]at h;rw[<-h.2.2];exact q
  split at h
  split at h;cases h
  exact ih _ _ st1 l e st' q h
  cases h
theorem Ojd(d n:Nat)(st:Vc)(i e:Nat)(st':Vc)(hp:Al P st)(h:V2a V s d n st=.ok (i,e,st')):Al P st':=by
 unfold V2a at h
 split at h;cases h
 split at h;cases h
 split at h;cases h
 cases h
 rename_i subs e1 st1 hx
 have q:=Ojc N hV d _ _ [] st subs e1 st1 hp hx
 split at h;simp only[V9.ok.injEq,U17]at h;rw[<-h.2.2];exact q.app (O2k (N.list _ _ _))
 cases h
end
section
variable {E:Vv}{s:Bs}{W:KW->Prop}{P:Nd->Prop}(N:NP E s W P)
include N
theorem Oh0:∀f,VNp P (Vz E s f):=by
 intro f
 induction f with
 |zero=>intro d n st i e st' _ h;simp[Vz]at h
 |succ f ih =>
  intro d n st i e st' hp h;unfold Vz at h;simp only at h
  split at h
  split at h;cases h
  cases h
  rename_i t m hs
  split at h;simp only[V9.ok.injEq,U17]at h;rw[<-h.2.2];exact hp.app (O2k (N.str _ _ _ hs))
  cases h
  split at h;exact Ojd N ih d n st i e st' hp h
  split at h;exact Ogz N ih d n st i e st' hp h
  split at h;cases h
  cases h
  rename_i k t m hs
  split at h;simp only[V9.ok.injEq,U17]at h;rw[<-h.2.2];exact hp.app (O2k (N.scal _ _ _ _ hs))
  cases h
theorem Obr{n k i e:Nat}{st:Vc}(h:V1g E s n k=.ok (i,e,st)):Al P st:=Oh0 N 258 _ n [] i e st (λ nd h=>by cases h) h
theorem Odz{g:Vb}(hp:Al P g.nds){t d:Nat}{w:Bs}{a b:Nat}(hw:W (w,a,b)){s':Nat×Nat}{over:Nat->Ov}{n d':Nat}{g':Vb}(he:V1p g t d w a b s' over=.ok (n,d',g')):Al P g'.nds:=by
 unfold V1p at he
 split at he;cases he
 exact J51
 split at he;cases he
 split at he;simp only[V9.ok.injEq,U17]at he;rw[<-he.2.2];exact N.putA (hp.app (O2k (N.grow 8 Yd))) _ hw _
 cases he
theorem Om9(s':Nat×Nat)(over:Vb->Nat->Nat->Ov):∀(ws:List KW)(t d:Nat)(g:Vb)(t' d':Nat)(g':Vb),(∀x∈ws,W x)->Al P g.nds->V24 s' over ws t d g=.ok (t',d',g')->Al P g'.nds:=by
 intro ws
 induction ws with
 |nil=>intro t d g t' d' g' _ hp he;simp only[V24,V9.ok.injEq,U17]at he;rw[<-he.2.2];exact hp
 |cons x rest ih =>
  intro t d g t' d' g' hw hp he;obtain⟨w,a,b⟩:=x;unfold V24 at he;cases aa:V1p g t d w a b s' (over g d) with
  |non=>rw[aa]at he;cases he
  |bad c p=>rw[aa]at he;cases he
  |ok r =>
   obtain⟨n,d2,g2⟩:=r;rw[aa]at he;exact ih n d2 g2 t' d' g' (λ x hx=>hw x (U24 _ hx)) (Odz N hp (hw (w,a,b) Yb) aa) he
theorem Oje{g g':Vb}(hp:Al P g.nds){k:List KW}(hw:∀x∈k,W x)(he:V2f g k=.ok g'):Al P g'.nds:=by
 unfold V2f at he
 split at he;cases he
 cases he
 rename_i t d g1 hy
 refine Z274 ?_;intro h1
 split at he;cases he
 rename_i w a b hl
 split at he;cases he
 cases he
 rename_i n d2 g2 hs
 simp only[V9.ok.injEq]at he;rw[<-he];show Al P g2.nds;exact Odz N h1 (hw _ (U3e hl)) hs
theorem Oe0{g:Vb}(hp:Al P g.nds)(i d:Nat):Al P (V31 g i d).nds:=(hp.app (O2k (N.grow 8 Yd))).mod _ _ λ nd z=>N.same nd _ nd.sp nd.owner z
theorem Oma{g g':Vb}(hp:Al P g.nds){k:List KW}(hw:∀x∈k,W x)(he:V2v g k=.ok g'):Al P g'.nds:=by
 unfold V2v at he
 split at he;cases he
 cases he
 rename_i t d g1 hy
 refine Z274 ?_;intro h1
 split at he;cases he
 rename_i w a b hl
 split at he;cases he
 split at he
 split at he;cases he
 split at he;simp only[V9.ok.injEq]at he;rw[<-he];exact Oe0 N h1 _ _
 cases he
 cases he
 split at he;cases he
 split at he;simp only[V9.ok.injEq]at he;rw[<-he];exact Oe0 N (N.putA (h1.app (O2k (N.grow 7 Yd))) _ (hw _ (U3e hl)) _) _ _
 cases he
theorem Omb{g g':Vb}(hp:Al P g.nds){k:List KW}(hw:∀x∈k,W x){t d:Nat}(he:V2w g k=.ok (t,d,g')):Al P g'.nds:=by
 unfold V2w at he
 split at he;cases he
 cases he
 rename_i t' d' g1 hy
 refine Z274 ?_;intro h1;exact J180
theorem Ojf{n:Nat}{g g1:Vb}(hp:Al P g.nds){into root:Nat}{nds:Vc}(he:V2n E s n g=.ok (into,root,nds,g1)):Al P g1.nds/\Al P nds:=by
 have h0:Al P []:=λ nd h=>by cases h
 unfold V2n at he;simp only at he
 split at he;simp only[V9.ok.injEq,U17]at he;obtain⟨rfl,rfl,rfl,rfl⟩:=he;exact⟨hp,h0⟩
 generalize (if pre (s.drop (V7 s n)) [91,91] then 2 else if pre (s.drop (V7 s n)) [91] then 1 else 0)=m at he
 split at he;cases he
 cases he
 rename_i ws e hk
 have hw:=N.word _ _ _ hk
 split at he
 split at he;cases he
 cases he
 rename_i hm
 simp only[V9.ok.injEq,U17]at he;obtain⟨rfl,rfl,rfl,rfl⟩:=he;exact⟨Oma N hp hw hm,h0⟩
 split at he
 split at he;cases he
 cases he
 rename_i hm
 simp only[V9.ok.injEq,U17]at he;obtain⟨rfl,rfl,rfl,rfl⟩:=he;exact⟨Oje N hp hw hm,h0⟩
 split at he;cases he
 cases he
 rename_i hm
 have h1:=Omb N hp hw hm
 split at he
 split at he;cases he
 cases he
 rename_i hr
 simp only[V9.ok.injEq,U17]at he;obtain⟨rfl,rfl,rfl,rfl⟩:=he;exact⟨h1,Obr N hr⟩
 simp only[V9.ok.injEq,U17]at he;obtain⟨rfl,rfl,rfl,rfl⟩:=he;exact⟨h1,h0⟩
theorem Omc{n e:Nat}{g g':Vb}(hp:Al P g.nds)(he:V32 E s n g=.ok (e,g')):Al P g'.nds:=by
 unfold V32 at he
 split at he;cases he
 cases he
 rename_i into root nds g1 hw
 obtain⟨h1,h2⟩:=Ojf N hp hw
 split at he;cases he
 cases he
 rename_i it hi
 split at he;simp only[V9.ok.injEq,U17]at he;rw[<-he.2];exact h1
 split at he
 rename_i hk
 obtain⟨_,_,ws,e1,q1,_,q3⟩:=O77 hi hk
 split at he;cases he
 rename_i w a b hl
 simp only at he
 split at he
 simp only[V9.ok.injEq,U17]at he;rw[<-he.2];show Al P (Vf (g1.nds++nds.map _) into w (a,b) (root+g1.nds.length));have h3:Al P (nds.map λ nd=>{ nd with subs:=nd.subs.map (· + g1.nds.length),owner:=0 }):=by
  intro nd hn;obtain⟨x,hx,rfl⟩:=U3k.1 hn;exact N.same x _ x.sp 0 (h2 x hx)
 exact N.putA (h1.app h3) _ (N.word _ _ _ q1 _ (q3 ▸ U3e hl)) _
 cases he
 simp only[V9.ok.injEq,U17]at he;rw[<-he.2];exact h1
theorem Ojg:∀(f n:Nat)(g G:Vb),Al P g.nds->grownF E s f n g=.ok G->Al P G.nds:=by
 intro f
 induction f with
 |zero=>intro n g G _ h;simp[grownF]at h
 |succ f ih =>
  intro n g G hp h;unfold grownF at h
  split at h
  split at h
  split at h;cases h
  cases h
  rename_i e g1 hi
  exact ih e g1 G (Omc N hp hi) h
  cases h
  simp only[V9.ok.injEq]at h;rw[<-h];exact hp
theorem O9r{G:Vb}(h:V1e E s=.ok G):Al P G.nds:=Ojg N _ _ _ _ (O2k (N.grow 8 Yd)) h
end
theorem Obs(T){q:UInt8}(w r:Bs)(m:Nat)(t:Bs)(o:Bool)(hw:w≠[])(h:V15 T false q (w++r)=some (.go m t o))(hm:m<=w.length):V15 T false q w=some (.go m t o):=by
 unfold V15 at h⊢;simp only[U23,U2f]at h⊢
 split at h
 rename_i kD
 rw[U1a kD]
 match w,hw with
 |c::v,_=>exact h
 rename_i kD
 rw[U1c kD]
 match w,hw with
 |c::v,_ =>
  simp only[U1o]at h⊢;unfold V49 at h⊢;simp only at h⊢;by_cases uE:(c.toNat==q.toNat)=true;rw[U1a uE]at h;rw[U1a uE];exact h
  rw[U1c uE]at h;rw[U1c uE];by_cases j7:(c.toNat==92)=true;rw[U1a j7]at h;rw[U1a j7];simp only[U1f]at h⊢;have:=O5o T (c::v) r [] m t o h hm;rw[U3j]at this;exact this
  rw[U1c j7]at h;rw[U1c j7];exact h
theorem Oh1(T){q:UInt8}(u r:Bs):∀(f f' n:Nat)(out t:Bs)(k:Nat),n<=(u++r).length->(u++r).length<n+f->V2i (V15 T false q) (u++r) f n out=.ok (t,k)->k<=u.length->u.length<n+f' ->V2i (V15 T false q) u f' n out=.ok (t,k):=by
 intro f
 induction f with
 |zero=>intro f' n out t k _ _ h;simp[V2i]at h
 |succ f ih =>
  intro f' n out t k hn hf h hk AF;have aB:=((O32 T false q (u++r) (f+1) n out hn hf).2.1 t k h).1
  match f',AF with
  |0,AF=>omega
  |f'+1,AF =>
  unfold V2i at h⊢;rw[O_v u r n Ya]at h;have hl:(u.drop n).length=u.length-n:=U16
  match hv:u.drop n,hl with
  |[],hl=>simp at hl;omega
  |c::v,hl =>
   rw[hv]at h;simp only[U1o]at h⊢;rw[<-U1o]at h
   split at h;cases h
   cases h
   rename_i m t' over hs
   have hm:=O35 T false q _ _ _ _ hs;have aP:m<=(c::v).length:=by
    split at h;simp only[V9.ok.injEq,U17]at h;omega
    have en:(c::v++r).length+n=(u++r).length:=by
     rw[U1b,U1b,hl];omega
    have:=((O32 T false q (u++r) f (n+m) (out++t') Ya Ya).2.1 t k h).1;omega
   rw[Obs T (c::v) r m t' over Yb hs aP];simp only
   split at h
   rename_i ho
   rw[U1a ho];exact h
   rename_i ho
   rw[U1c ho];have en:(c::v++r).length+n=(u++r).length:=by
    rw[U1b,U1b,hl];omega
   exact ih f' (n+m) (out++t') t k Ya Ya h hk Ya
theorem O5t{l:Bs}{k:Nat}(h:long l=false):long (l.take k)=false:=by
 cases hx:long (l.take k) with
 |false=>rfl
 |true =>
  exfalso;unfold long at hx h
  match l,k with
  |[],_=>simp at hx
  |[a],0=>simp at hx
  |[a],k+1=>simp at hx
  |[a,b],0=>simp at hx
  |[a,b],1=>simp at hx
  |[a,b],k+2=>simp at hx
  |a::b::c::r,0=>simp at hx
  |a::b::c::r,1=>simp at hx
  |a::b::c::r,2=>simp at hx
  |a::b::c::r,k+3 =>
   simp only[U35]at hx
   split at hx;exact J52;exact J52
   cases hx
structure V6j(E:Vv):Prop where
 cut:∀l t k,long l=false->E.str l=.ok (t,k)->E.str (l.take k)=.ok (t,k)
 emp:E.str [34,34]=.ok ([],2)/\E.str [39,39]=.ok ([],2)
theorem V8r(T):V6j (Vbn T) where
 cut:=by
  intro l t k hl h;have aT:=(O3t T l).2.1 t k h;show Vi T (l.take k)=.ok (t,k);have a9:=O5t (k:=k) hl;have h':Vi T l=.ok (t,k):=h
  match l,k,aT with
  |[],k,aT=>simp at aT;omega
  |c::r,0,aT=>omega
  |c::r,k+1,aT =>
   have hu:(c::r)=(c::r.take k)++r.drop k:=by rw[U1o,List.take_append_drop]
   unfold Vi at h'⊢;simp only[U35]at h' a9⊢
   split at h'
   rename_i hq
   rw[U1a hq];rw[U1c (by rw[hl];simp)]at h';rw[U1c (by rw[a9];simp)];rw[hu]at h';have ap:((c::r.take k)++r.drop k).length=(c::r).length:=by rw[<-hu]
   have bB:=aT.2;simp only[U1d]at bB;exact Oh1 T (c::r.take k) (r.drop k) _ _ 1 [] t (k+1) (by rw[ap];simp) Ya h' (by simp only[U1d,U26];omega) Ya
   cases h'
 emp:=⟨rfl,rfl⟩
def V7w(E:Vv)(s:Bs)(w:Bs)(a b:Nat):Prop:=a<=b/\b<=s.length/\V1q E ((s.take b).drop a) 0=.ok ([(w,0,b-a)],b-a)
theorem Ojh(p:UInt8->Bool):∀l:Bs,(l.take (l.takeWhile p).length).takeWhile p=l.take (l.takeWhile p).length:=by
 intro l
 induction l with
 |nil=>rfl
 |cons a l ih =>
  rw[U1p]
  split;rename_i h;rw[U1d,U35,U1p,U1a h,ih]
  rfl
theorem Oh2{E:Vv}{l t:Bs}(h:word E l 0=.ok (t,l.length)):V1q E l 0=.ok ([(t,0,l.length)],l.length):=by
 unfold V1q V3r;rw[h];have hb:Va l (V7 l l.length)≠46:=by
  have h1:V7 l l.length=l.length:=by unfold V7;rw[List.drop_length];rfl
  rw[h1];unfold Va;rw[U2g (U12 _)];decide
 simp only;rw[U1c hb];rfl
theorem Omd{E:Vv}(hE:V11 E)(hC:V6j E){s:Bs}{n e:Nat}{t:Bs}(h:word E s n=.ok (t,e)):V7w E s t n e:=by
 have iG:∀k,e=n+k->n+k<=s.length->word E ((s.drop n).take k) 0=.ok (t,k)->V7w E s t n e:=by
  intro k he aP hw;refine⟨Ya,Ya,?_⟩;have h1:(s.take e).drop n=(s.drop n).take k:=by rw[List.drop_take,he,Nat.add_sub_cancel_left]
  have h2:((s.drop n).take k).length=k:=by rw[U26,U16];omega
  rw[h1,show e-n=k by omega];have:=Oh2 (l:=(s.drop n).take k) (t:=t) (by rw[h2];exact hw);rw[h2]at this;exact this
 unfold word at h
 split at h
 rename_i hl
 simp only[V9.ok.injEq,U17]at h;obtain⟨rfl,rfl⟩:=h;unfold V35 long at hl;have hd:∀c r,s.drop n=c::c::c::r->n+2<=s.length:=λ c r e=>by
  have:=U2w List.length e;rw[U16]at this;simp only[U1d]at this;omega
 split at hl
 rename_i r e
 refine iG 2 rfl (hd _ _ e) ?_;rw[e];show word E [34,34] 0=_;unfold word;rw[U1c Yd,U1a Yd];show (match E.str [34,34] with|.non=>_|.bad c p=>_|.ok (t,k)=>_)=_;rw[hC.emp.1]
 rename_i r e
 refine iG 2 rfl (hd _ _ e) ?_;rw[e];show word E [39,39] 0=_;unfold word;rw[U1c Yd,U1a Yd];show (match E.str [39,39] with|.non=>_|.bad c p=>_|.ok (t,k)=>_)=_;rw[hC.emp.2]
 cases hl
 rename_i hl
 have kx:long (s.drop n)=false:=by unfold V35 at hl;cases hx:long (s.drop n) with
  |false=>rfl
  |true=>exact absurd hx hl
 split at h
 rename_i hb
 split at h;cases h
 cases h
 rename_i u k hu
 simp only[V9.ok.injEq,U17]at h;obtain⟨rfl,rfl⟩:=h;obtain⟨k1,k2⟩:=hE.strK _ _ _ hu;rw[U16]at k2;refine iG k rfl Ya ?_;unfold word;have h0:Vs (((s.drop n).take k).drop 0)=0:=by
  rw[U2b];unfold Vs at hb⊢
  match hsd:s.drop n,k,k1 with
  |[],_,_=>simp
  |c::r,k+1,_ =>
   rw[hsd,U1p]at hb;rw[U35,U1p]
   split at hb;simp at hb
   rename_i hc;rw[U1c hc];rfl
 rw[U1c (by unfold V35;rw[U2b,O5t kx];simp),U1a h0,U2b,hC.cut _ _ _ kx hu];simp
 rename_i hb
 simp only[V9.ok.injEq,U17]at h;obtain⟨rfl,rfl⟩:=h;have aP:Vs (s.drop n)<=(s.drop n).length:=Vj _ _;rw[U16]at aP;refine iG _ rfl Ya ?_;unfold word;have hr:Vs ((s.drop n).take (Vs (s.drop n)))=Vs (s.drop n):=by
  have:=U2w List.length (Ojh V2h (s.drop n));unfold Vs;rw[this,U26];have:=aP;unfold Vs at this;rw[U16];omega
 rw[U1c (by unfold V35;rw[U2b,O5t kx];simp),U2b,hr,U1c hb,List.take_take,Nat.min_self,U1v]
theorem Ome{E:Vv}(hE:V11 E)(hC:V6j E){s:Bs}:∀(f n:Nat)(acc ws:List KW)(e:Nat),(∀x∈acc,V7w E s x.1 x.2.1 x.2.2)->V3r E s f n acc=.ok (ws,e)->∀x∈ws,V7w E s x.1 x.2.1 x.2.2:=by
 intro f
 induction f with
 |zero=>intro n acc ws e _ h;simp[V3r]at h
 |succ f ih =>
  intro n acc ws e ha h;unfold V3r at h
  split at h;cases h
  cases h
  rename_i t e1 ht
  have BU:∀x∈acc++[(t,n,e1)],V7w E s x.1 x.2.1 x.2.2:=λ x hx=>(U29.1 hx).elim (ha x) λ e=>by (rw[U20]at e;subst e;exact Omd hE hC ht)
  exact J186
def Sps(E:Vv)(s:Bs)(nd:Nd):Prop:=V4a (λ w (sp:Nat×Nat)=>V7w E s w sp.1 sp.2) nd.keys nd.spots
theorem Oji{E:Vv}(hE:V11 E)(hC:V6j E)(s:Bs):NP E s (λ x=>V7w E s x.1 x.2.1 x.2.2) (Sps E s) where
 grow:=λ _ _ => .nil
 same:=λ _ _ _ _ h=>h
 put:=λ _ _ _ _ _ h hw=>V4a.app h (.cons hw .nil)
 str:=λ _ _ _ _ => .nil
 scal:=λ _ _ _ _ _ => .nil
 word:=λ _ _ _ h=>Ome hE hC _ _ [] _ _ (λ x hx=>by cases hx) h
def Em(L:Nat)(st nds:Vc):Prop:=∀(j:Nat) y,nds[j]?=some y->∃x,st[L+j]?=some x/\SN L x y
def Fin(E:Vv)(s:Bs)(b:Nat)(st:Vc)(j:Nat):Prop:=∃(L r n e:Nat)(nds:Vc)(nd:Nd),b<=L/\L+nds.length<=st.length/\r<nds.length/\j=L+r/\n<=s.length/\V1g E s n 0=.ok (r,e,nds)/\Em L st nds/\st[j]?=some nd/\nd.sp=((n:Int),(e:Int))
def Dot(st:Vc)(j:Nat):Prop:=∃nd,st[j]?=some nd/\nd.sp=(-1,-1)/\nd.kind=8
def FD(E:Vv)(s:Bs)(b:Nat)(st:Vc):Prop:=∀j,b<=j->j<st.length->Dot st j\/Fin E s b st j
theorem Fin.low{E:Vv}{s:Bs}{b c:Nat}{st:Vc}{j:Nat}(h:Fin E s c st j)(hb:b<=c):Fin E s b st j:=by
 obtain⟨L,r,n,e,nds,nd,h1,h2⟩:=h;exact⟨L,r,n,e,nds,nd,Ya,h2⟩
theorem Fin.keep{E:Vv}{s:Bs}{b:Nat}{st st':Vc}{j:Nat}(h:Fin E s b st j)(hk:V2q st.length st st')(hl:st.length<=st'.length):Fin E s b st' j:=by
 obtain⟨L,r,n,e,nds,nd,h1,h2,h3,h4,h5,h6,h7,h8,h9⟩:=h;refine⟨L,r,n,e,nds,nd,h1,Ya,h3,h4,h5,h6,λ k y hy=>?_,by rw[hk j Ya];exact h8,h9⟩;obtain⟨x,hx,hs⟩:=h7 k y hy;have:=(U14.1 hy).1;exact⟨x,by rw[hk _ Ya];exact hx,hs⟩
theorem Dot.keep{st st':Vc}{j:Nat}(h:Dot st j)(hk:V2q st.length st st'):Dot st' j:=by
 obtain⟨nd,h1,h2⟩:=h;exact⟨nd,by rw[hk j (U14.1 h1).1];exact h1,h2⟩
def V6k(table:Nat)(st:Vc)(i:Nat):Prop:=i<st.length/\(i=table\/V2c st i=table+1)
theorem Fin.mod{E:Vv}{s:Bs}{table:Nat}{st:Vc}{j i:Nat}(h:Fin E s (table+1) st j)(ho:V6k table st i)(f:Nd->Nd):Fin E s (table+1) (st.modify i f) j:=by
 obtain⟨L,r,n,e,nds,nd,h1,h2,h3,h4,h5,h6,h7,h8,h9⟩:=h;have a8:∀k,k<nds.length->i≠L+k:=by
  intro k hk he;rcases ho.2 with e|e
  omega
  obtain⟨x,hx,hs⟩:=h7 k _ (U1e hk);unfold V2c at e;rw[he,hx]at e;simp only at e;have:=hs.own
  split at this <;> omega
 refine⟨L,r,n,e,nds,nd,h1,by rw[U2i];exact h2,h3,h4,h5,h6,λ k y hy=>?_,?_,h9⟩;obtain⟨x,hx,hs⟩:=h7 k y hy;exact⟨x,by rw[Of,U1c (a8 k (U14.1 hy).1)];exact hx,hs⟩
 rw[Of,U1c (by rw[h4];exact a8 r h3)];exact h8
theorem Dot.put{st:Vc}{j:Nat}(h:Dot st j)(t:Nat)(w:Bs)(sp:Nat×Nat)(i:Nat):Dot (Vf st t w sp i) j:=by
 obtain⟨nd,h1,h2⟩:=h;unfold Dot Vf;rw[Of]
 split;rw[h1];exact⟨_,rfl,h2⟩
 exact⟨nd,h1,h2⟩
theorem FD.put{E:Vv}{s:Bs}{table:Nat}{st:Vc}(h:FD E s (table+1) st){t:Nat}(ho:V6k table st t)(w:Bs)(sp:Nat×Nat)(i:Nat):FD E s (table+1) (Vf st t w sp i):=by
 intro j hj hl;have kx:j<st.length:=by unfold Vf at hl;rwa [U2i]at hl
 rcases h j hj kx with q|q
 exact .inl (q.put _ _ _ _)
 exact .inr (q.mod ho _)
theorem FD.more{E:Vv}{s:Bs}{b c:Nat}{st st':Vc}(h:FD E s b st)(hk:V2q st.length st st')(hl:st.length<=st'.length)(hc:b<=c)(cA:c<=st.length)(h':FD E s c st'):FD E s b st':=by
 intro j hj e9;by_cases yq:j<st.length
 rcases h j hj yq with q|q
 exact .inl (q.keep hk)
 exact .inr (q.keep hk hl)
 rcases h' j Ya e9 with q|q
 exact .inl q
 exact .inr (q.low hc)
theorem V6k.put{table:Nat}{st:Vc}{i:Nat}(h:V6k table st i)(t:Nat)(w:Bs)(sp:Nat×Nat)(k:Nat):V6k table (Vf st t w sp k) i:=by
 refine⟨by unfold Vf;rw[U2i];exact h.1,h.2.imp id λ e=>?_⟩;rw[<-e];unfold V2c;rw[Oj];by_cases e2:t=i;rw[U1a e2];cases st[i]? <;> rfl
 rw[U1c e2]
theorem V6k.keep{table:Nat}{st st':Vc}{i:Nat}(h:V6k table st i)(hk:V2q st.length st st')(hl:st.length<=st'.length):V6k table st' i :=
 ⟨U13 h.1 hl,h.2.imp id λ e=>by unfold V2c at e⊢;rw[hk i h.1];exact e⟩
theorem Oo2{E:Vv}{s:Bs}(table:Nat):∀(ws:List KW)(into d:Nat)(st:Vc)(am d':Nat)(st':Vc),table<st.length->V6k table st into->FD E s (table+1) st->V3d table ws into d st=.ok (am,d',st') ->V6k table st' am/\FD E s (table+1) st':=by
 intro ws
 induction ws with
 |nil=>intro into d st am d' st' _ _ _ h;simp[V3d]at h
 |cons x rest ih =>
  intro into d st am d' st' ht ho hp h;obtain⟨w,a,b⟩:=x;unfold V3d at h;cases hs:V1a st into w with
  |non=>rw[hs]at h;cases h
  |yes i =>
   rw[hs]at h;cases rest with
   |nil=>cases h
   |cons y rest =>
    simp only at h
    split at h
    rename_i hi
    refine ih i (d+1) st am d' st' ht ⟨?_,.inr hi⟩ hp h;unfold V2c at hi
    split at hi;exact J192
    omega
    cases h
  |no =>
   rw[hs]at h;cases rest with
   |nil =>
    simp only[V9.ok.injEq,U17]at h;obtain⟨rfl,_,rfl⟩:=h;exact⟨ho,hp⟩
   |cons y rest =>
    simp only at h
    split at h;cases h
    split at h
    have hk:V2q st.length st (st++[V1s (table+1)]):=V2q.app _ _ _ (U12 _);have hl:st.length<=(st++[V1s (table+1)]).length:=Yb;have bz:(st++[V1s (table+1)])[st.length]?=some (V1s (table+1)):=Yb;have fQ:FD E s (table+1) (st++[V1s (table+1)]):=hp.more hk hl (U12 _) ht λ j hj e9=>by
     by_cases yq:j<st.length
     rcases hp j hj yq with q|q
     exact .inl (q.keep hk)
     exact .inr (q.keep hk hl)
     have:j=st.length:=by simp at e9;omega
     subst this;exact .inl ⟨_,bz,rfl,rfl⟩
    have sL:=ho.keep hk hl;exact ih st.length (d+1) _ am d' st' (by unfold Vf;rw[U2i];omega) (V6k.put ⟨Yb,.inr (by unfold V2c;rw[bz];rfl)⟩ _ _ _ _) (fQ.put sL _ _ _) h
    cases h
def VFd(E:Vv)(s:Bs)(V:V1n):Prop:=∀d n st i e st',1<=d->n<=s.length->WF st->(∃r,Rk st r)->V d n st=.ok (i,e,st')->FD E s st.length st'
section
variable {E:Vv}(hE:V11 E){s:Bs}{V:V1n}(hR:VRk V)(hL:VLe s V)(hV:VFd E s V)
include hE hR hL hV
theorem Ojm(table n d:Nat)(hd:1<=d)(hn:n<=s.length)(st:Vc)(e:Nat)(st':Vc)(hw:WF st)(ht:table<st.length)(hp:FD E s (table+1) st)(hr:∃r,Rk st r)(ho:Own table st)(h:V1l E V s table n d st=.ok (e,st')):FD E s (table+1) st':=by
 unfold V1l at h
 split at h;cases h
 cases h
 rename_i ws e0 hk
 have bB:=((O15 hE hn).1 _ _ hk).2.1
 split at h;cases h
 cases h
 rename_i into d' st1 hy
 obtain⟨y1,y2,y3,y4,y5,y6,y7⟩:=Obt table table ws table d st into d' st1 hw (U12 _) (U12 _) ht hy hr ho;obtain⟨q1,q2⟩:=Oo2 table ws table d st into d' st1 ht ⟨ht,.inl rfl⟩ hp hy;simp only at h
 split at h
 rename_i dS
 split at h;cases h
 cases h
 rename_i i e2 st2 hv
 have v:=hR _ _ _ _ _ _ y3 hv y1;have b1:=byteAt_lt dS Yd;have b2:=V8 s (V7 s e0+1) Ya;have q3:=hV _ _ _ _ _ _ Ya b2.2 y3 y1 hv;have Jg:=v.lo;have FA:=v.hi
 split at h;cases h
 rename_i w a b _
 split at h;simp only[V9.ok.injEq,U17]at h;obtain⟨_,rfl⟩:=h;exact (q2.more v.keep Ya Ya (U12 _) q3).put (q1.keep v.keep Ya) _ _ _
 cases h
 cases h
theorem Omh(table d:Nat)(hd:1<=d):∀(f n:Nat)(st:Vc)(e:Nat)(st':Vc),n<=s.length->WF st->table<st.length->FD E s (table+1) st->(∃r,Rk st r)->Own table st->V29 E V s table d f n st=.ok (e,st')->FD E s (table+1) st':=by
 intro f
 induction f with
 |zero=>intro n st e st' _ _ _ _ _ _ h;simp[V29]at h
 |succ f ih =>
  intro n st e st' hn hw ht hp hr ho h;unfold V29 at h
  split at h;cases h
  cases h
  rename_i e1 st1 hy
  obtain⟨y1,y2,y3,y4,y5⟩:=O79 hR table table n d st e1 st1 hw (U12 _) ht hy hr ho;have q1:=Ojm hE hR hL hV table n d hd hn st e1 st1 hw ht hp hr ho hy;simp only at h
  split at h;exact J53
  split at h
  rename_i ic
  have b1:=byteAt_lt ic Yd;have b2:=V8 s (V7 s e1+1) Ya;exact ih _ st1 e st' b2.2 y3 Ya q1 y1 y2 h
  cases h
theorem Oh7(d n:Nat)(hd:1<=d)(hn:n<s.length)(st:Vc)(i e:Nat)(st':Vc)(hw:WF st)(hr:∃r,Rk st r)(h:V1h E V s d n st=.ok (i,e,st')):∀j,st.length<j->j<st'.length->Dot st' j\/Fin E s st.length st' j:=by
 unfold V1h at h
 split at h;cases h
 split at h
 refine Z139 ?_;intro fD;have aZ:∃r,Rk (st++[V16]) r:=by obtain⟨r,hr⟩:=hr;exact hr.app hw V16 (λ x hx=>by cases hx)
 have sL:Own st.length (st++[V16]):=(O2r st).app _ (λ x hx=>by cases hx);have fQ:FD E s (st.length+1) (st++[V16]):=λ j hj e9=>by simp at e9;omega
 have b2:=V8 s (n+1) Ya;simp only at h
 split at h;cases h
 cases h
 rename_i e1 st1 hx
 have q:FD E s (st.length+1) st1:=by
  split at hx;simp only[V9.ok.injEq,U17]at hx;obtain⟨_,rfl⟩:=hx;exact fQ
  exact Omh hE hR hL hV st.length d hd _ _ _ _ _ b2.2 fD Yb fQ aZ sL hx
 split at h
 rename_i h8
 simp only[V9.ok.injEq,U17]at h;obtain⟨rfl,_,rfl⟩:=h;have a9:st.length<st1.length:=by
  unfold kind8 at h8;cases hg:st1[st.length]? with
  |none=>rw[hg]at h8;simp at h8
  |some nd=>exact (U14.1 hg).1
 intro j hj e9;rw[U2i]at e9;rcases q j hj e9 with z|z
 obtain⟨nd,z1,z2⟩:=z;exact .inl ⟨nd,by rw[Of,U1c Ya];exact z1,z2⟩
 exact .inr ((z.mod ⟨a9,.inl rfl⟩ _).low Ya)
 cases h
 cases h
theorem Ojn(d b:Nat):∀(f n:Nat)(subs:List Nat)(st:Vc)(l:List Nat)(e:Nat)(st':Vc),n<=s.length->WF st->b<=st.length->FD E s b st->(∃r,Rk st r)->V1f V s d f n subs st=.ok (l,e,st')->FD E s b st'/\WF st'/\st.length<=st'.length:=by
 intro f
 induction f with
 |zero=>intro n subs st l e st' _ _ _ _ _ h;simp[V1f]at h
 |succ f ih =>
  intro n subs st l e st' hn hw hb hp hr h;unfold V1f at h
  split at h;simp only[V9.ok.injEq,U17]at h;obtain⟨_,_,rfl⟩:=h;exact⟨hp,hw,U12 _⟩
  split at h;cases h
  cases h
  rename_i i e1 st1 hv
  have v:=hR _ _ _ _ _ _ hw hv hr;have q:=hV _ _ _ _ _ _ Ya hn hw hr hv;have he:=((hL _ n st hn).1 _ _ _ hv).2;have Jg:=v.lo;have FA:=v.hi;have q2:=hp.more v.keep Ya hb (U12 _) q
  split at h;cases h
  split at h;cases h
  rename_i g hg
  have aW:=On hg he
  split at h;simp only[V9.ok.injEq,U17]at h;obtain⟨_,_,rfl⟩:=h;exact⟨q2,v.wf,Ya⟩
  split at h
  rename_i ic
  have b1:=byteAt_lt ic Yd
  split at h;cases h
  rename_i g2 cb
  have Jh:=On cb Ya;obtain⟨k1,k2,k3⟩:=ih _ _ st1 l e st' Jh.2 v.wf Ya q2 v.rk h;exact⟨k1,k2,Ya⟩
  cases h
theorem Ojo(d n:Nat)(hn:n<s.length)(st:Vc)(i e:Nat)(st':Vc)(hw:WF st)(hr:∃r,Rk st r)(h:V2a V s d n st=.ok (i,e,st')):∀j,st.length<=j->j+1<st'.length->Dot st' j\/Fin E s st.length st' j:=by
 unfold V2a at h
 split at h;cases h
 split at h;cases h
 rename_i g hg
 have aW:=On hg Ya
 split at h;cases h
 cases h
 rename_i subs e1 st1 hx
 obtain⟨q1,q2,q3⟩:=Ojn hE hR hL hV d st.length _ _ [] st subs e1 st1 aW.2 hw (U12 _) (λ j h1 h2=>by omega) hr hx
 split at h
 simp only[V9.ok.injEq,U17]at h;obtain⟨_,_,rfl⟩:=h;intro j hj e9;simp only[U1b,U1z]at e9;have hk:V2q st1.length st1 (st1++[V4e subs n (e1+1)]):=V2q.app _ _ _ (U12 _);rcases q1 j hj Ya with z|z
 exact .inl (z.keep hk)
 exact .inr (z.keep hk Yb)
 cases h
end
theorem Oh8{E:Vv}(hE:V11 E){s:Bs}{f d n:Nat}(hd:1<=d)(hn:n<=s.length){st:Vc}{i e:Nat}{st':Vc}(h:Vz E s f d n st=.ok (i,e,st'))(v:VR st i st'):Fin E s st.length st' i:=by
 have T:Two s s s 0 0:=⟨⟨[],.inl rfl,Yb⟩,⟨[],.inl rfl,Yb⟩,Ya,Ya⟩
 have aP:=((O14 hE s f) d n st hn).1 _ _ _ h;obtain⟨k,i2,st2,h1,h2,h3,h4⟩:=((Oev hE T f 258).resolve_right Ya) d n st.length st [] i e st' Ya hn (RS.nil st) (by simpa using h) Ya;simp only[U1v]at h1 h3;subst h1;have h5:V1g E s n 0=.ok (i2,e,st2):=O84 E s 258 d 1 n [] _ hd h3;obtain⟨nd,g1,g2⟩:=O6t s f d n st i e st' h;have hl:=h4.len;have FA:=v.hi;exact⟨st.length,i2,n,e,st2,nd,U12 _,Ya,Ya,h2,hn,h5,λ j y hy=>h4.at' j y hy,g1,g2⟩
theorem Oh9{E:Vv}(hE:V11 E)(s:Bs):∀f,VFd E s (Vz E s f):=by
 intro f
 induction f with
 |zero=>intro d n st i e st' _ _ _ _ h;simp[Vz]at h
 |succ f ih =>
  intro d n st i e st' hd hn hw hr h;have v:=O2c hE s (f+1) _ _ _ _ _ _ hw h hr;have kt:=Oh8 hE hd hn h v;have N3:=O2c hE s f;have N5:=O14 hE s f;have Jg:=v.lo;unfold Vz at h;simp only at h
  split at h;exact J156
  split at h
  rename_i wH
  have q:=Ojo hE N3 N5 ih d n (byteAt_lt wH Yd) st i e st' hw hr h;have hi:i+1=st'.length:=by
   unfold V2a at h
   split at h;cases h
   split at h;cases h
   split at h;cases h
   cases h
   split at h;simp only[V9.ok.injEq,U17]at h;obtain⟨rfl,_,rfl⟩:=h;simp
   cases h
  intro j hj e9;by_cases dY:j=i;subst dY;exact .inr kt
  exact q j hj Ya
  split at h
  rename_i lR
  have q:=Oh7 hE N3 N5 ih d n hd (byteAt_lt lR Yd) st i e st' hw hr h;have hi:i=st.length:=by
   unfold V1h at h
   split at h;cases h
   split at h
   simp only at h
   split at h;cases h
   cases h
   split at h;simp only[V9.ok.injEq,U17]at h;exact h.1.symm
   cases h
   cases h
  intro j hj e9;by_cases dY:j=i;subst dY;exact .inr kt
  exact q j Ya e9
  exact J156
theorem Ojp{E:Vv}(hE:V11 E){s:Bs}{n k i e:Nat}{st:Vc}(hn:n<=s.length)(h:V1g E s n k=.ok (i,e,st)):FD E s 0 st :=
 Oh9 hE s 258 _ n [] i e st Ya hn (λ i nd h=>by simp at h) ⟨λ _=>0,λ i nd h=>by simp at h⟩ h
