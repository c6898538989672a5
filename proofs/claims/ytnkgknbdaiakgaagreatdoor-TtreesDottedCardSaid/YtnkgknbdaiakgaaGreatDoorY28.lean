/- The proof's part 28. -/
import Derived.Test.YtnkgknbdaiakgaaGreatDoorY04
import Derived.Test.YtnkgknbdaiakgaaGreatDoorY26
import Derived.Test.YtnkgknbdaiakgaaGreatDoorY27
set_option maxHeartbeats 16000000
set_option linter.all false
namespace Go.Proofs.YtnkgknbdaiakgaaGreatDoor.Pl
inductive RV2 (b:Nat):Va (Nat×Nat×Ve)->Va (Nat×Nat×Ve)->Prop
 |bad (c p:Nat):RV2 b (.bad c p) (.bad c p)
 |ok (i e:Nat) (st1 st2:Ve):RS b st1 st2->RV2 b (.ok (b+i,e,st1)) (.ok (i,e,st2))
inductive RW2 (b:Nat):Va (Nat×Ve)->Va (Nat×Ve)->Prop
 |bad (c p:Nat):RW2 b (.bad c p) (.bad c p)
 |ok (e:Nat) (st1 st2:Ve):RS b st1 st2->RW2 b (.ok (e,st1)) (.ok (e,st2))
def VF(s:Bs)(b:Nat)(V:V2c):Prop:=∀d n st1 st2,n<=s.length->RS b st1 st2->V d n st1≠.non->RV2 b (V d n st1) (V d n st2)
theorem Oni(ws:List KW):V5t (KR 0 0) ws ws:=by
 induction ws with
 |nil=>exact .nil
 |cons w ws ih=>exact .cons ⟨rfl,w.2.1,w.2.2,Yb,Yb⟩ ih
theorem Oij(b table:Nat):∀(ws:List KW)(into d:Nat)(st1 st2:Ve),RS b st1 st2->V3j (b+table) ws (b+into) d st1≠.non ->(∀c p,V3j (b+table) ws (b+into) d st1=.bad c p->V3j table ws into d st2=.bad c p):=by
 intro ws
 induction ws with
 |nil=>intro into d st1 st2 _ h;simp[V3j]at h
 |cons v rest ih =>
  intro into d st1 st2 hr a8 c p h;obtain⟨w,u1,u2⟩:=v;have dD:=hr.sub into w;unfold V3j at h a8⊢;rcases dD with⟨h1,h2⟩|⟨h1,h2⟩|⟨i,h1,h2⟩
  rw[h1]at h;cases h
  rw[h1]at h a8;rw[h2];simp only at h a8⊢;cases rest with
  |nil=>cases h
  |cons y r2 =>
   simp only at h a8⊢
   split at h
   rename_i hd
   rw[U18 hd];cases h;rfl
   rename_i hd
   rw[U1b hd]at a8⊢
   split at h
   rename_i gl
   rw[U18 gl]at a8;simp only[U1g]at gl;have aX:=hr.kind8 into gl.1;rw[aX,hr.room gl.2];simp only[Bool.and_self,U2i];have hl:=hr.len;have cL:RS b (Vj (st1++[V1s (b+table+1)]) (b+into) w (u1,u2) (b+st2.length)) (Vj (st2++[V1s (table+1)]) into w (u1,u2) st2.length):=by
    have h3:RS b (st1++[V1s (b+table+1)]) (st2++[V1s (table+1)]):=hr.app (x:=V1s (b+table+1)) (y:=V1s (table+1)) ⟨rfl,rfl,rfl,rfl,rfl,(U1b (show ¬(V1s (table+1)).owner=0 from Nat.succ_ne_zero table)).symm ▸ (by show b+table+1=b+(table+1);omega)⟩;exact h3.put into w (u1,u2) (u1,u2) st2.length
   rw[hl]at h a8;exact ih st2.length (d+1) _ _ cL a8 c p h
   cases h
  rw[h1]at h a8;rw[h2];simp only at h a8⊢;cases rest with
  |nil=>cases h;rfl
  |cons y r2 =>
   simp only at h a8⊢;have ho:=hr.owner i;by_cases rZ:V2y st2 i=table+1
   have h0:V2y st1 (b+i)=b+table+1:=by rw[ho,rZ,U1b Ya];omega
   rw[U18 h0]at h a8;rw[U18 rZ];exact ih i (d+1) st1 st2 hr a8 c p h
   have h0:¬V2y st1 (b+i)=b+table+1:=by
    rw[ho];split;omega
    omega
   rw[U1b h0]at h;rw[U1b rZ];cases h;rfl
section
variable {E:V19}(hE:V1k E){s:Bs}{b:Nat}{V:V2c}(hL:VLe s V)(hV:VF s b V)
include hE hL hV
theorem Oec(table n d:Nat)(st1 st2:Ve)(hn:n<=s.length)(hr:RS b st1 st2)(a8:V1g E V s (b+table) n d st1≠.non):RW2 b (V1g E V s (b+table) n d st1) (V1g E V s table n d st2):=by
 unfold V1g at a8⊢;cases hk:V23 E s n with
 |non=>rw[hk]at a8;exact absurd rfl a8
 |bad c p=>exact .bad c p
 |ok r =>
  obtain⟨ws,e⟩:=r;have aQ:=(O1e hE hn).1 _ _ hk;have hb:=V8 s e aQ.2.1;rw[hk]at a8;simp only at a8⊢;cases hw:V3j (b+table) ws (b+table) d st1 with
  |non=>rw[hw]at a8;exact absurd rfl a8
  |bad c p =>
   rw[Oij b table ws table d st1 st2 hr (by rw[hw];simp) c p hw];exact .bad c p
  |ok r2 =>
   obtain⟨into,d',cg⟩:=r2;obtain⟨i2,cD,w1,w2,w3⟩:=O9c b 0 0 ws ws table table d st1 st2 cg into d' (Oni ws) hr hw;subst w1;rw[w2];rw[hw]at a8;simp only at a8⊢
   split
   rename_i eN
   rw[U18 eN]at a8;refine Z238 ?_;intro aa ay;have hv:=hV (d'+1) (V7 s (V7 s e+1)) cg cD ay.2 w3 (by intro e;rw[e]at a8;exact absurd rfl a8);revert a8;generalize V (d'+1) (V7 s (V7 s e+1)) cg=X at hv⊢;generalize V (d'+1) (V7 s (V7 s e+1)) cD=Y at hv⊢;intro a8;cases hv with
   |bad c p=>exact .bad c p
   |ok i e2 Cf Mu Cg =>
    simp only at a8⊢;cases aZ:ws.getLast? with
    |none=>rw[aZ]at a8;exact absurd rfl a8
    |some v =>
     obtain⟨w,a,b'⟩:=v;rw[aZ]at a8;simp only at a8⊢
     split at a8
     rename_i h8
     rw[U18 h8,Cg.kind8 i2 h8,U18 rfl];exact .ok e2 _ _ (Cg.put i2 w (a,b') (a,b') i)
     exact J45
   exact .bad 3 _
theorem Oga(table d:Nat):∀(f n:Nat)(st1 st2:Ve),n<=s.length->RS b st1 st2->V21 E V s (b+table) d f n st1≠.non->RW2 b (V21 E V s (b+table) d f n st1) (V21 E V s table d f n st2):=by
 intro f
 induction f with
 |zero=>intro n st1 st2 _ _ h;simp[V21]at h
 |succ f ih =>
  intro n st1 st2 hn hr a8;unfold V21 at a8⊢;have hp:=Oec hE hL hV table n d st1 st2 hn hr (by intro e;rw[e]at a8;exact absurd rfl a8);have aQ:=(O3v hE hL (b+table) n d st1 hn).1;revert a8;generalize V1g E V s (b+table) n d st1=X at hp aQ⊢;generalize V1g E V s table n d st2=Y at hp⊢;intro a8;cases hp with
  |bad c p=>exact .bad c p
  |ok e cg cD dT =>
   obtain⟨g1,g2⟩:=aQ _ _ rfl;have hb:=V8 s e g2;simp only at a8⊢
   split;exact .ok _ _ _ dT
   rename_i d6
   rw[U1b d6]at a8
   split
   rename_i eG
   rw[U18 eG]at a8;have aa:=byteAt_lt eG Yd;have ay:=V8 s (V7 s e+1) Ya;exact ih _ cg cD ay.2 dT a8
   exact .bad 3 _
theorem Ocl(d n:Nat)(st1 st2:Ve)(hn:n<s.length)(hr:RS b st1 st2)(a8:V1n E V s d n st1≠.non):RV2 b (V1n E V s d n st1) (V1n E V s d n st2):=by
 have hb:=V8 s (n+1) Ya;have hl:=hr.len;unfold V1n at a8⊢
 split;exact .bad 4 n
 rename_i hd
 rw[U1b hd]at a8
 split at a8
 rename_i aB
 rw[U18 aB,U18 (hr.room aB)];simp only at a8⊢;have aS:RS b (st1++[Vt]) (st2++[Vt]):=hr.app ⟨rfl,rfl,rfl,rfl,rfl,rfl⟩;have fP:(if V9 s (V7 s (n+1))=125 then Va.ok (V7 s (n+1),st1++[Vt]) else V21 E V s st1.length d (s.length+2) (V7 s (n+1)) (st1++[Vt]))≠.non ->
     RW2 b (if V9 s (V7 s (n+1))=125 then Va.ok (V7 s (n+1),st1++[Vt]) else V21 E V s st1.length d (s.length+2) (V7 s (n+1)) (st1++[Vt]))
      (if V9 s (V7 s (n+1))=125 then Va.ok (V7 s (n+1),st2++[Vt]) else V21 E V s st2.length d (s.length+2) (V7 s (n+1)) (st2++[Vt])):=by
  intro a8
  split;exact .ok _ _ _ aS
  rename_i d6
  rw[U1b d6]at a8;rw[hl]at a8⊢;exact Oga hE hL hV st2.length d (s.length+2) _ _ _ hb.2 aS a8
 revert fP a8;generalize (if V9 s (V7 s (n+1))=125 then Va.ok (V7 s (n+1),st1++[Vt]) else V21 E V s st1.length d (s.length+2) (V7 s (n+1)) (st1++[Vt]))=X;generalize (if V9 s (V7 s (n+1))=125 then Va.ok (V7 s (n+1),st2++[Vt]) else V21 E V s st2.length d (s.length+2) (V7 s (n+1)) (st2++[Vt]))=Y;intro a8 fP;have Ao:=fP (by intro e;rw[e]at a8;exact absurd rfl a8);cases Ao with
 |bad c p=>exact .bad c p
 |ok e cg cD dT =>
  simp only at a8⊢
  split at a8
  rename_i h8
  rw[U18 h8];rw[hl]at h8;rw[dT.kind8 st2.length h8,U18 rfl,hl];exact .ok _ _ _ _ (dT.mod st2.length (λ nd=>{ nd with sp:=((n:Int),((e+1:Nat):Int)) }) (λ nd=>{ nd with sp:=((n:Int),((e+1:Nat):Int)) }) (λ x y hs=>⟨hs.kind,hs.text,hs.keys,hs.spots,hs.subs,hs.own⟩))
  exact J45
 exact J45
omit hE
theorem Oed(d:Nat):∀(f n:Nat)(subs:List Nat)(st1 st2:Ve),n<=s.length->RS b st1 st2->V1h V s d f n (subs.map (b+·)) st1≠.non ->(∃c p,V1h V s d f n (subs.map (b+·)) st1=.bad c p/\V1h V s d f n subs st2=.bad c p)\/(∃l e cg cD,V1h V s d f n (subs.map (b+·)) st1=.ok (l.map (b+·),e,cg)/\V1h V s d f n subs st2=.ok (l,e,cD)/\RS b cg cD):=by
 intro f
 induction f with
 |zero=>intro n subs st1 st2 _ _ h;simp[V1h]at h
 |succ f ih =>
  intro n subs st1 st2 hn hr a8;unfold V1h at a8⊢;by_cases lx:V9 s n=93;rw[U18 lx,U18 lx];exact .inr ⟨subs,n,st1,st2,rfl,rfl,hr⟩
  rw[U1b lx]at a8;rw[U1b lx,U1b lx];have hv:=hV (d+1) n st1 st2 hn hr (by intro e;rw[e]at a8;exact absurd rfl a8);have aQ:=(hL (d+1) n st1 hn).1;revert a8;generalize V (d+1) n st1=X at hv aQ⊢;generalize V (d+1) n st2=Y at hv⊢;intro a8;cases hv with
  |bad c p=>exact .inl ⟨c,p,rfl,rfl⟩
  |ok i e cg cD dT =>
   obtain⟨g1,g2⟩:=aQ _ _ _ rfl;simp only[U1n]at a8⊢;have Cj:(subs++[i]).map (b+·)=subs.map (b+·)++[b+i]:=Yb
   by_cases h3:30000000<subs.length;rw[U18 h3]at a8;exact absurd rfl a8
   rw[U1b h3]at a8;rw[U1b h3,U1b h3];cases hg:Vy s e with
   |bad c p=>exact .inl ⟨c,p,rfl,rfl⟩
   |ok g =>
    obtain⟨g3,g4⟩:=Oo hg g2;rw[hg]at a8;simp only at a8⊢;by_cases h4:V9 s g=93;rw[U18 h4,U18 h4];exact .inr ⟨subs++[i],g,cg,cD,by rw[Cj],rfl,dT⟩
    rw[U1b h4]at a8;rw[U1b h4,U1b h4];by_cases eG:V9 s g=44
    rw[U18 eG]at a8;rw[U18 eG,U18 eG];have aa:=byteAt_lt eG Yd;cases cw:Vy s (g+1) with
    |bad c p=>exact .inl ⟨c,p,rfl,rfl⟩
    |ok g' =>
     obtain⟨g5,g6⟩:=Oo cw Ya;rw[cw]at a8;simp only at a8⊢;rw[<-Cj]at a8⊢;exact ih g' (subs++[i]) cg cD g6 dT a8
    rw[U1b eG,U1b eG];exact .inl ⟨3,g,rfl,rfl⟩
theorem Oee(d n:Nat)(st1 st2:Ve)(hn:n<s.length)(hr:RS b st1 st2)(a8:V2n V s d n st1≠.non):RV2 b (V2n V s d n st1) (V2n V s d n st2):=by
 unfold V2n at a8⊢
 split;exact .bad 4 n
 rename_i hd
 rw[U1b hd]at a8;cases hg:Vy s (n+1) with
 |bad c p=>exact .bad c p
 |ok g =>
  obtain⟨g1,g2⟩:=Oo hg Ya;rw[hg]at a8;simp only at a8⊢;rcases Oed hL hV d (s.length+2) g [] st1 st2 g2 hr (by intro e;rw[List.map_nil]at e;rw[e]at a8;exact absurd rfl a8) with⟨c,p,h1,h2⟩|⟨l,e,cg,cD,h1,h2,h3⟩
  rw[List.map_nil]at h1;rw[h1,h2];exact .bad c p
  rw[List.map_nil]at h1;rw[h1,h2];rw[h1]at a8;simp only at a8⊢
  split at a8
  rename_i aB
  rw[U18 aB,U18 (h3.room aB),h3.len];exact .ok _ _ _ _ (h3.app ⟨rfl,rfl,rfl,rfl,rfl,rfl⟩)
  exact J45
end
theorem Ocm{E:V19}(hE:V1k E)(s:Bs)(b:Nat):∀f,VF s b (Vv E s f):=by
 intro f
 induction f with
 |zero=>intro d n st1 st2 _ _ h;simp[Vv]at h
 |succ f ih =>
  intro d n st1 st2 hn hr a8;have hl:=hr.len;unfold Vv at a8⊢;simp only at a8⊢;by_cases h1:V9 s n=34\/V9 s n=39
  rw[U18 h1]at a8;rw[U18 h1,U18 h1];cases hs:E.str (s.drop n) with
  |non=>rw[hs]at a8;exact absurd rfl a8
  |bad c p=>exact .bad c _
  |ok v =>
   obtain⟨t,m⟩:=v;exact J157
  rw[U1b h1]at a8;rw[U1b h1,U1b h1];by_cases h2:V9 s n=91;rw[U18 h2]at a8;rw[U18 h2,U18 h2];exact Oee (O17 hE s f) ih d n st1 st2 (byteAt_lt h2 Yd) hr a8
  rw[U1b h2]at a8;rw[U1b h2,U1b h2];by_cases h3:V9 s n=123;rw[U18 h3]at a8;rw[U18 h3,U18 h3];exact Ocl hE (O17 hE s f) ih d n st1 st2 (byteAt_lt h3 Yd) hr a8
  rw[U1b h3]at a8;rw[U1b h3,U1b h3];cases hs:E.scal (s.drop n) with
  |non=>rw[hs]at a8;exact absurd rfl a8
  |bad c p=>exact .bad c n
  |ok v =>
   obtain⟨q,t,m⟩:=v;exact J157
theorem RS.any(st:Ve):RS st.length st []:=RS.nil st
theorem O6c{E:V19}(hE:V1k E){x s:Bs}{a d i:Nat}{nds st:Ve}(hx:Vv E x 258 d 0 []=.ok (i,x.length,nds))(hs:s.length<=20000000)(ha:∃r,Ol r/\s.drop a=x++r)(QD:a+x.length<=s.length)(f:Nat)(hf:0<f)(hd:259-f<=d)(hw:WF st)(hl:st.length<=a):∃st',Vv E s f d a st=.ok (st.length+i,a+x.length,st')/\RS st.length st' (nds.map λ x=>x)/\V8m st (st.length+i) (a+x.length) st':=by
 obtain⟨t1,t2⟩:=((V4z hE s hs f).resolve_right Ya) d a st hd hw hl Ya;have T:Two x x s 0 a:=⟨⟨[],.inl rfl,Yb⟩,ha,Ya,QD⟩
 obtain⟨q,i2,st2,h1,h2,h3,h4⟩:=((Ofx hE T 258 f).resolve_right Ya) d 0 0 [] [] i x.length nds hd Ya (RS.nil []) (by simpa using hx) Ya;rw[U1q]at h1 h2;subst h1 h2;have nz:=Ocm hE s st.length f d a st [] Ya (RS.nil st) t1;rw[U42]at h3;rw[h3]at nz;generalize hY:Vv E s f d a st=Y at nz t2;cases nz with
 |ok _ _ st1 _ EG =>
  refine⟨st1,rfl,?_,t2 _ _ _ rfl⟩;refine⟨by have:=EG.len;have:=h4.len;simp;omega,λ j y hy=>?_⟩;simp only[List.map_id']at hy;rcases h4.get j with⟨g1,g2⟩|⟨u,v,g1,g2,g3⟩
  rw[U1q]at g1;rw[g1]at hy;cases hy
  rw[U1q]at g1;rw[g1]at hy;cases hy;obtain⟨z,hz,ji⟩:=EG.at' j v g2;refine⟨z,hz,ji.kind.trans g3.kind.symm,ji.text.trans g3.text.symm,ji.keys.trans g3.keys.symm,ji.spots.trans g3.spots.symm,?_,?_⟩;rw[ji.subs,g3.subs];simp
  have:=g3.own;rw[ji.own,this]
  split <;> split <;> omega
def Rk(st:Ve)(r:Nat->Nat):Prop:=∀(i:Nat) nd,st[i]?=some nd->∀x∈nd.subs,r x<r i
def Own(b:Nat)(st:Ve):Prop:=∀(i:Nat) nd,b<=i->st[i]?=some nd->∀x∈nd.subs,b<=x
structure VR(st:Ve)(i:Nat)(st':Ve):Prop where
 wf:WF st'
 lo:st.length<=i
 hi:i<st'.length
 keep:V3g st.length st st'
 rk:∃r,Rk st' r
 own:Own st.length st'
def VRk(V:V2c):Prop:=∀d n st i e st',WF st->V d n st=.ok (i,e,st')->(∃r,Rk st r)->VR st i st'
theorem Ok9(r:Nat->Nat):∀n,∃K,∀i,i<n->r i<K:=by
 intro n
 induction n with
 |zero=>exact⟨0,λ i h=>by omega⟩
 |succ n ih =>
  obtain⟨K,h⟩:=ih;refine⟨K+r n+1,λ i hi=>?_⟩;by_cases fP:i<n;have:=h i fP;omega
  have:i=n:=Ya;subst this;omega
theorem Rk.app{st:Ve}{r:Nat->Nat}(h:Rk st r)(hw:WF st)(nd:Nd)(hn:∀x∈nd.subs,x<st.length):∃r',Rk (st++[nd]) r':=by
 obtain⟨K,hK⟩:=Ok9 r st.length;refine⟨λ j=>if j<st.length then r j else K,λ i x hx y hy=>?_⟩;by_cases hi:i<st.length;rw[U1d hi]at hx;have dG:=(hw i x hx).lt y hy;simp only[U18 hi,U18 dG];exact h i x hx y hy
 have h2:=(U16.1 hx).1;simp only[U1c,U25]at h2;have:i=st.length:=Ya;subst this;simp at hx;subst hx;have dG:=hn y hy;simp only[U18 dG,U1b (Nat.lt_irrefl _)];exact hK y dG
theorem Own.app{b:Nat}{st:Ve}(h:Own b st)(nd:Nd)(hn:∀x∈nd.subs,b<=x):Own b (st++[nd]):=by
 intro i x hb hx y hy;by_cases hi:i<st.length;rw[U1d hi]at hx;exact h i x hb hx y hy
 have h2:=(U16.1 hx).1;simp only[U1c,U25]at h2;have:i=st.length:=Ya;subst this;simp at hx;subst hx;exact hn y hy
theorem Own.mono{b:Nat}{st st':Ve}(h:Own b st){c:Nat}(hc:b<=c)(hk:V3g c st st')(ho:Own c st'):Own b st':=by
 intro i x hb hx y hy;by_cases hi:i<c;exact h i x hb ((hk i hi).symm.trans hx) y hy
 have:=ho i x Ya hx y hy;omega
theorem Rk.put{st:Ve}{r:Nat->Nat}(h:Rk st r)(c:Nat)(ho:Own c st)(t i:Nat)(w:Bs)(sp:Nat×Nat)(ht:t<c)(hi:c<=i)(az:∀(j:Nat) nd,j<c->st[j]?=some nd->∀x∈nd.subs,x<c):∃r',Rk (Vj st t w sp i) r':=by
 refine⟨λ j=>if j<c then r j+r i+1 else r j,λ j x hx y hy=>?_⟩;rw[O12]at hx;by_cases hj:t=j
 subst hj;rw[U18 rfl]at hx;cases hg:st[t]? with
 |none=>rw[hg]at hx;cases hx
 |some nd =>
  rw[hg]at hx;simp only[U29,U1f]at hx;subst hx;simp only[U18 ht];rcases U2s.1 (show y∈nd.subs++[i] from hy) with hy|hy
  have h1:=az t nd ht hg y hy;have h2:=h t nd hg y hy;simp only[U18 h1];omega
  simp at hy;subst hy;simp only[U1b (show ¬y<c by omega)];omega
 rw[U1b hj]at hx;have h2:=h j x hx y hy;by_cases IA:j<c;have h1:=az j x IA hx y hy;simp only[U18 IA,U18 h1];omega
 have h1:=ho j x Ya hx y hy;simp only[U1b IA,U1b (show ¬y<c by omega)];exact h2
theorem Own.put{b:Nat}{st:Ve}(h:Own b st)(t i:Nat)(w:Bs)(sp:Nat×Nat)(hi:b<=i):Own b (Vj st t w sp i):=by
 intro j x hb hx y hy;rw[O12]at hx;by_cases hj:t=j
 subst hj;rw[U18 rfl]at hx;cases hg:st[t]? with
 |none=>rw[hg]at hx;cases hx
 |some nd =>
  rw[hg]at hx;simp only[U29,U1f]at hx;subst hx;rcases U2s.1 (show y∈nd.subs++[i] from hy) with hy|hy
  exact h t nd hb hg y hy
  simp at hy;omega
 rw[U1b hj]at hx;exact h j x hb hx y hy
theorem O3q(st:Ve):Own st.length st:=λ i nd hb hx=>by have:=(U16.1 hx).1;omega
theorem Oi4(b table:Nat):∀(ws:List KW)(into d:Nat)(st:Ve)(aw d':Nat)(st':Ve),WF st->b<=table->table<=into->into<st.length->V3j table ws into d st=.ok (aw,d',st')->(∃r,Rk st r)->Own b st ->(∃r,Rk st' r)/\Own b st'/\WF st'/\table<=aw/\aw<st'.length/\st.length<=st'.length/\V3g table st st':=by
 intro ws
 induction ws with
 |nil=>intro into d st aw d' st' _ _ _ _ h;simp[V3j]at h
 |cons v rest ih =>
  intro into d st aw d' st' hw hb ht fP h hr ho;obtain⟨w,u1,u2⟩:=v;unfold V3j at h;cases hs:V16 st into w with
  |non=>rw[hs]at h;cases h
  |no =>
   rw[hs]at h;cases rest with
   |nil=>simp only[Va.ok.injEq,U19]at h;obtain⟨rfl,rfl,rfl⟩:=h;exact⟨hr,ho,hw,ht,fP,U12 _,V3g.refl _ _⟩
   |cons y r2 =>
    simp only at h
    split at h;cases h
    split at h
    obtain⟨r,hr⟩:=hr;obtain⟨nd,bT⟩:∃nd,st[into]?=some nd:=⟨_,U1h fP⟩
    have fX:WF (st++[V1s (table+1)]):=hw.app _ ⟨λ _=>⟨rfl,rfl⟩,List.Pairwise.nil,λ x hx=>(by cases hx),λ _=>⟨rfl,by show table+1<=st.length;omega⟩⟩;have yq:(st++[V1s (table+1)])[into]?=some nd:=by rw[U1d fP];exact bT
    have fj:WF (Vj (st++[V1s (table+1)]) into w (u1,u2) st.length):=fX.put into st.length w (u1,u2) nd yq (λ x hx=>(hw into nd bT).lt x hx) Yb;obtain⟨r1,aS⟩:=hr.app hw (V1s (table+1)) (λ x hx=>by cases hx);have Ap:Own b (st++[V1s (table+1)]):=ho.app _ (λ x hx=>by cases hx);have QE:Own st.length (st++[V1s (table+1)]):=(O3q st).app _ (λ x hx=>by cases hx);have cL:=aS.put st.length QE into st.length w (u1,u2) fP (U12 _) (λ j x hj hx y hy=>by
     rw[U1d hj]at hx;exact (hw j x hx).lt y hy)
    have ad:(Vj (st++[V1s (table+1)]) into w (u1,u2) st.length).length=st.length+1:=by unfold Vj;simp
    obtain⟨g1,g2,g3,g4,g5,g6,g7⟩:=ih st.length (d+1) _ aw d' st' fj hb Ya (by rw[ad];omega) h cL (Ap.put into st.length w (u1,u2) Ya);refine⟨g1,g2,g3,g4,g5,Ya,λ j hj=>?_⟩;rw[g7 j hj,O12,U1b Ya,U1d Ya]
    cases h
  |yes i =>
   rw[hs]at h;cases rest with
   |nil=>cases h
   |cons y r2 =>
    simp only at h
    split at h
    rename_i Mx
    refine Z286 ?_;intro dO;have My:table<=i:=by
     unfold V2y at Mx
     split at Mx
     rename_i nd bT
     have:=(hw i nd bT).own Ya;omega
     omega
    exact ih i (d+1) st aw d' st' hw hb My dO h hr ho
    cases h
section
variable {E:V19}{s:Bs}{V:V2c}(hV:VRk V)
include hV
theorem Oci(b table n d:Nat)(st:Ve)(e:Nat)(st':Ve)(hw:WF st)(hb:b<=table)(ht:table<st.length)(h:V1g E V s table n d st=.ok (e,st'))(hr:∃r,Rk st r)(ho:Own b st):(∃r,Rk st' r)/\Own b st'/\WF st'/\st.length<=st'.length/\V3g table st st':=by
 unfold V1g at h
 split at h;cases h
 cases h
 rename_i ws e0 _
 split at h;cases h
 cases h
 rename_i into d' st1 nr
 obtain⟨g1,g2,g3,g4,g5,g6,g7⟩:=Oi4 b table ws table d st into d' st1 hw hb (U12 _) ht nr hr ho;simp only at h
 split at h
 split at h;cases h
 cases h
 rename_i i e2 st2 hv
 have q:=hV _ _ _ _ _ _ g3 hv g1;obtain⟨r2,cL⟩:=q.rk;have jR:=q.own;have sY:=q.lo;have sZ:=q.hi
 split at h;cases h
 rename_i w a b' _
 split at h
 simp only[Va.ok.injEq,U19]at h;obtain⟨rfl,rfl⟩:=h;obtain⟨nd,bT⟩:∃nd,st1[into]?=some nd:=⟨_,U1h g5⟩
 have tX:st2[into]?=some nd:=(q.keep into g5).trans bT;have xH:Own b st2:=g2.mono Ya q.keep jR;refine⟨cL.put st1.length jR into i w (a,b') g5 q.lo (λ j x hj hx y hy=>?_),xH.put into i w (a,b') Ya,q.wf.put into i w (a,b') nd tX (λ x hx=>by have:=(g3 into nd bT).lt x hx;omega) q.hi,?_,λ j hj=>?_⟩;have:=(q.keep j hj).symm.trans hx;exact (g3 j x this).lt y hy;unfold Vj;rw[List.length_modify];omega
 rw[O12,U1b Ya,q.keep j Ya];exact g7 j hj
 cases h
 cases h
theorem On5(b table d:Nat)(hb:b<=table):∀(f n:Nat)(st:Ve)(e:Nat)(st':Ve),WF st->table<st.length->V21 E V s table d f n st=.ok (e,st')->(∃r,Rk st r)->Own b st ->(∃r,Rk st' r)/\Own b st'/\WF st'/\st.length<=st'.length/\V3g table st st':=by
 intro f
 induction f with
 |zero=>intro n st e st' _ _ h;simp[V21]at h
 |succ f ih =>
  intro n st e st' hw ht h hr ho;unfold V21 at h
  split at h;cases h
  cases h
  rename_i e1 st1 hp
  obtain⟨g1,g2,g3,g4,g5⟩:=Oci hV b table n d st e1 st1 hw hb ht hp hr ho;simp only at h
  split at h;simp only[Va.ok.injEq,U19]at h;obtain⟨rfl,rfl⟩:=h;exact⟨g1,g2,g3,g4,g5⟩
  split at h;obtain⟨k1,k2,k3,k4,k5⟩:=ih _ st1 e st' g3 Ya h g1 g2;exact⟨k1,k2,k3,Ya,g5.trans k5⟩
  cases h
theorem Oi5(d n:Nat)(st:Ve)(i e:Nat)(st':Ve)(hw:WF st)(h:V1n E V s d n st=.ok (i,e,st'))(hr:∃r,Rk st r):VR st i st':=by
 unfold V1n at h
 split at h;cases h
 split at h
 simp only at h;refine Z203 ?_;intro fX;obtain⟨r,hr⟩:=hr;have aS:=hr.app hw Vt (λ x hx=>by cases hx);have Ap:Own st.length (st++[Vt]):=(O3q st).app _ (λ x hx=>by cases hx);have key:∀e1 st1,(if V9 s (V7 s (n+1))=125 then Va.ok (V7 s (n+1),st++[Vt]) else V21 E V s st.length d (s.length+2) (V7 s (n+1)) (st++[Vt]))=.ok (e1,st1)->(∃r,Rk st1 r)/\Own st.length st1/\WF st1/\st.length<st1.length/\V3g st.length st st1:=by
  intro e1 st1 h
  split at h;simp only[Va.ok.injEq,U19]at h;obtain⟨rfl,rfl⟩:=h;exact⟨aS,Ap,fX,Yb,V3g.app _ _ _ (U12 _)⟩
  obtain⟨g1,g2,g3,g4,g5⟩:=On5 hV st.length st.length d (U12 _) _ _ _ _ _ fX Yb h aS Ap;exact⟨g1,g2,g3,by simp at g4;omega,(V3g.app _ _ _ (U12 _)).trans g5⟩
 split at h;cases h
 cases h
 rename_i e1 st1 hk
 obtain⟨⟨r2,g1⟩,g2,g3,g4,g5⟩:=key _ _ hk
 split at h
 simp only[Va.ok.injEq,U19]at h;obtain⟨rfl,rfl,rfl⟩:=h;have dD:∀(j:Nat) x,(st1.modify st.length λ nd=>{ nd with sp:=((n:Int),((e1+1:Nat):Int)) })[j]?=some x->∃y,st1[j]?=some y/\x.subs=y.subs/\x.kind=y.kind/\x.keys=y.keys/\x.spots=y.spots/\x.owner=y.owner:=by
  intro j x hx;rw[O10]at hx
  split at hx
  cases hg:st1[j]? with
  |none=>rw[hg]at hx;cases hx
  |some y=>rw[hg]at hx;simp only[U29,U1f]at hx;subst hx;exact⟨y,rfl,rfl,rfl,rfl,rfl,rfl⟩
  exact⟨x,hx,rfl,rfl,rfl,rfl,rfl⟩
 have ad:(st1.modify st.length λ nd=>{ nd with sp:=((n:Int),((e1+1:Nat):Int)) }).length=st1.length:=Yb;refine⟨λ j x hx=>?_,U12 _,by rw[ad];exact g4,λ j hj=>?_,⟨r2,λ j x hx y hy=>?_⟩,λ j x hb hx y hy=>?_⟩;obtain⟨z,hz,h1,h2,h3,h4,h5⟩:=dD j x hx;have q:=g3 j z hz;rw[ad];exact⟨λ hk=>by rw[h3,h4,h1];exact q.len (h2 ▸ hk),h1 ▸ q.up,λ y hy=>q.lt y (h1 ▸ hy),λ ho=>by rw[h2,h5];exact q.own (h5 ▸ ho)⟩;rw[O10,U1b Ya];exact g5 j hj;obtain⟨z,hz,vy,_⟩:=dD j x hx;exact g1 j z hz y (vy ▸ hy)
 obtain⟨z,hz,vy,_⟩:=dD j x hx;exact g2 j z hb hz y (vy ▸ hy)
 cases h
 cases h
theorem Oka(d b:Nat):∀(f n:Nat)(subs:List Nat)(st:Ve)(l:List Nat)(e:Nat)(st':Ve),WF st->b<=st.length->V1h V s d f n subs st=.ok (l,e,st')->(∃r,Rk st r)->Own b st->subs.Pairwise (· < ·)->(∀x∈subs,b<=x/\x<st.length) ->(∃r,Rk st' r)/\Own b st'/\WF st'/\st.length<=st'.length/\V3g st.length st st'/\l.Pairwise (· < ·)/\∀x∈l,b<=x/\x<st'.length:=by
 intro f
 induction f with
 |zero=>intro n subs st l e st' _ _ h;simp[V1h]at h
 |succ f ih =>
  intro n subs st l e st' hw hb h hr ho Mz dD;unfold V1h at h
  split at h;simp only[Va.ok.injEq,U19]at h;obtain⟨rfl,rfl,rfl⟩:=h;exact⟨hr,ho,hw,U12 _,V3g.refl _ _,Mz,dD⟩
  split at h;cases h
  cases h
  rename_i i e1 st1 hv
  have q:=hV _ _ _ _ _ _ hw hv hr;have cL:=q.rk;have jR:=q.own;have sY:=q.lo;have sZ:=q.hi;have MA:Own b st1:=ho.mono hb q.keep jR;have eM:∀x∈subs++[i],b<=x/\x<st1.length:=by
   intro x hx;rcases U2s.1 hx with hx|hx
   have:=dD x hx;omega
   simp at hx;omega
  have Ck:(subs++[i]).Pairwise (· < ·):=List.pairwise_append.2 ⟨Mz,List.pairwise_singleton _ _,λ x hx y hy=>by
   have:=dD x hx;simp at hy;omega⟩
  split at h;cases h
  split at h;cases h
  split at h;simp only[Va.ok.injEq,U19]at h;obtain⟨rfl,rfl,rfl⟩:=h;exact⟨cL,MA,q.wf,Ya,q.keep,Ck,eM⟩
  split at h
  split at h;cases h
  obtain⟨k1,k2,k3,k4,k5,k6,k7⟩:=ih _ _ st1 l e st' q.wf Ya h cL MA Ck eM;exact⟨k1,k2,k3,Ya,q.keep.trans (k5.mono Ya),k6,k7⟩
  cases h
theorem Okb(d n:Nat)(st:Ve)(i e:Nat)(st':Ve)(hw:WF st)(h:V2n V s d n st=.ok (i,e,st'))(hr:∃r,Rk st r):VR st i st':=by
 unfold V2n at h
 split at h;cases h
 split at h;cases h
 split at h;cases h
 cases h
 rename_i subs e1 st1 hl
 obtain⟨⟨r,g1⟩,g2,g3,g5,g6,g7,g4⟩:=Oka hV d st.length _ _ _ _ _ _ _ hw (U12 _) hl hr (O3q st) List.Pairwise.nil (λ x hx=>by cases hx)
 split at h;simp only[Va.ok.injEq,U19]at h;obtain⟨rfl,rfl,rfl⟩:=h;exact⟨g3.app _ ⟨λ hk=>(by cases hk),g7,λ x hx=>(by have:=(g4 x hx).2;omega),λ h=>absurd rfl h⟩,g5,Yb,g6.trans (V3g.app _ _ _ g5),g1.app g3 _ (λ x hx=>(g4 x hx).2),g2.app _ (λ x hx=>(g4 x hx).1)⟩
 cases h
end
theorem Oez{st:Ve}(hw:WF st)(hr:∃r,Rk st r)(k:Nat)(t:Bs)(a b:Nat)(hk:k≠8):VR st st.length (st++[V5w k t a b]):=by
 obtain⟨r,hr⟩:=hr;exact⟨hw.app _ ⟨λ h=>absurd h hk,List.Pairwise.nil,λ x hx=>(by cases hx),λ h=>absurd rfl h⟩,U12 _,Yb,V3g.app _ _ _ (U12 _),hr.app hw _ (λ x hx=>by cases hx),(O3q st).app _ (λ x hx=>by cases hx)⟩
theorem O6a{E:V19}(hE:V1k E)(s:Bs):∀f,VRk (Vv E s f):=by
 intro f
 induction f with
 |zero=>intro d n st i e st' _ h;simp[Vv]at h
 |succ f ih =>
  intro d n st i e st' hw h hr;unfold Vv at h;simp only at h
  split at h
  split at h;cases h
  cases h
  split at h;simp only[Va.ok.injEq,U19]at h;obtain⟨rfl,rfl,rfl⟩:=h;exact Oez hw hr _ _ _ _ Yd
  cases h
  split at h;exact Okb ih d n st i e st' hw h hr
  split at h;exact Oi5 ih d n st i e st' hw h hr
  split at h;cases h
  cases h
  rename_i k t m hs
  split at h;simp only[Va.ok.injEq,U19]at h;obtain⟨rfl,rfl,rfl⟩:=h;exact Oez hw hr _ _ _ _ (by have:=(hE.scalK _ _ _ _ hs).2.2;omega)
  cases h
theorem O8j(t:Bs):Ol (10::t) := .inr ⟨10,t,rfl,Yb,λ h=>by (cases h)⟩
structure Vch(E:V19):Prop where
 str:∀l t k,E.str l=.ok (t,k)->l[k-1]?≠some 10
 scal:∀l k t m,E.scal l=.ok (k,t,m)->l[m-1]?≠some 10
structure V6c(x s1 s2:Bs)(a1 a2:Nat):Prop where
 c1:∃t,s1.drop a1=x++10::t
 c2:∃t,s2.drop a2=x++10::t
namespace V6c
variable {x s1 s2:Bs}{a1 a2:Nat}
theorem symm(T:V6c x s1 s2 a1 a2):V6c x s2 s1 a2 a1:=⟨T.c2,T.c1⟩
theorem len1(T:V6c x s1 s2 a1 a2):a1+x.length<s1.length:=by
 obtain⟨t,h⟩:=T.c1;have:=U2b List.length h;rw[U15]at this;simp only[U1c,U17]at this;omega
theorem two(T:V6c x s1 s2 a1 a2):Two x s1 s2 a1 a2:=by
 obtain⟨t1,h1⟩:=T.c1;obtain⟨t2,h2⟩:=T.c2;exact⟨⟨_,O8j t1,h1⟩,⟨_,O8j t2,h2⟩,by have:=T.len1;omega,by have:=T.symm.len1;omega⟩
theorem d1(T:V6c x s1 s2 a1 a2){j:Nat}(hj:j<=x.length):∃t,s1.drop (a1+j)=x.drop j++10::t:=by
 obtain⟨t,h⟩:=T.c1;refine⟨t,?_⟩;rw[<-U27,h,U3c,show j-x.length=0 by omega];rfl
theorem g1(T:V6c x s1 s2 a1 a2){j:Nat}(hj:j<=x.length):s1[a1+j]?=(x++[10])[j]?:=by
 obtain⟨t,h⟩:=T.c1;rw[<-U2l,h];by_cases hl:j<x.length;rw[U1d hl,U1d hl]
 have:j=x.length:=Ya;subst this;simp
theorem get(T:V6c x s1 s2 a1 a2){j:Nat}(hj:j<=x.length):s2[a2+j]?=s1[a1+j]?:=by rw[T.g1 hj,T.symm.g1 hj]
theorem byte(T:V6c x s1 s2 a1 a2){j:Nat}(hj:j<=x.length):V9 s2 (a2+j)=V9 s1 (a1+j):=by unfold V9;rw[T.get hj]
theorem bl1(T:V6c x s1 s2 a1 a2){j:Nat}(hj:j<=x.length):V7 s1 (a1+j)=a1+(j+Pl.blanks (x.drop j))/\j+Pl.blanks (x.drop j)<=x.length:=by
 obtain⟨t,h⟩:=T.d1 hj;have aQ:=O34 (x.drop j);rw[U15]at aQ;have:∀(u t:Bs),Pl.blanks (u++10::t)=Pl.blanks u:=by
  intro u t;unfold Pl.blanks;congr 1
  induction u with
  |nil=>rfl
  |cons a u ih=>rw[U1l,U1o,U1o,ih]
 unfold V7;rw[h,this];exact⟨Ya,Ya⟩
theorem isF(T:V6c x s1 s2 a1 a2)(ae:Bs):∀(j m:Nat),isF s1 (a1+j) ae=.ok m->m<=a1+x.length+1->m=a1+(j+ae.length)/\Pl.isF s2 (a2+j) ae=.ok (a2+(j+ae.length)):=by
 induction ae with
 |nil =>
  intro j m h hm;simp only[Pl.isF,V35.ok.injEq]at h;exact⟨by simp only[U1t];omega,rfl⟩
 |cons w ws ih =>
  intro j m h hm;unfold Pl.isF at h⊢
  split at h
  rename_i hg
  have aa:=(U16.1 hg).1;have aQ:=((V5r s1 ws (a1+j+1) Ya).1 _ h).1;rw[T.get Ya,U18 hg];rw[U2a]at h⊢;obtain⟨h1,h2⟩:=ih (j+1) m h hm;refine⟨by simp only[U17];omega,?_⟩;rw[h2];simp only[U17];congr 1;omega
  cases h
theorem pre(T:V6c x s1 s2 a1 a2){j:Nat}(hj:j<=x.length)(p:Bs)(hp:∀c∈p,c≠10):Pl.pre (s2.drop (a2+j)) p=Pl.pre (s1.drop (a1+j)) p:=by
 obtain⟨t1,h1⟩:=T.d1 hj;obtain⟨t2,h2⟩:=T.symm.d1 hj;rw[h1,h2];generalize x.drop j=u
 induction p generalizing u with
 |nil=>cases u <;> rfl
 |cons a p ih =>
  cases u with
  |nil =>
   simp only[U23,Pl.pre];have:(10:UInt8)≠a:=λ e=>hp a Yb e.symm
   have h2:((10:UInt8)==a)=false:=by simpa using this
   rw[h2];rfl
  |cons c u =>
   simp only[U1l,Pl.pre];rw[ih (λ c hc=>hp c (U26 _ hc)) u]
end V6c
section
variable {E:V19}(hE:V1k E){x s1 s2:Bs}{a1 a2:Nat}(T:V6c x s1 s2 a1 a2)
include hE T
end
def Ow(c:UInt8):Prop:=c=9\/c=10\/c=13\/c=32\/c=35
theorem O8l(c:UInt8)(r:Bs)(h:¬Ow c):blanks (c::r)=0:=by
 unfold blanks;rw[U1o,U1b];rfl
 intro hb;apply h;unfold V2x at hb;simp only[U4h,U2w]at hb;rcases hb with hb|hb
 exact .inr (.inr (.inr (.inl (U20.1 hb))))
 exact .inl (U20.1 hb)
theorem Ogb{c:UInt8}(h:V2w c=true):¬Ow c/\c≠93/\c≠44/\c≠125:=by
 refine⟨λ hg=>?_,λ e=>?_,λ e=>?_,λ e=>?_⟩
 ·rcases hg with rfl|rfl|rfl|rfl|rfl <;> revert h <;> decide
 all_goals (subst e;revert h;decide)
theorem Ocn(c:UInt8)(h:V65 57 c=true):V2w c=true:=by
 unfold V65 at h;rw[U18 Yd]at h;simp only[U1g,U1x]at h;unfold V2w V3d;simp;omega
theorem Ogc(l:Bs)(k:Nat)(t:Bs)(m:Nat)(h:Vl l=.ok (k,t,m)):∃c r,l=c::r/\V2w c=true:=by
 cases l with
 |nil =>
  have h2:Vl []=.bad 3 0:=Yc;rw[h2]at h;cases h
 |cons c r =>
  refine⟨c,r,rfl,?_⟩;by_cases hc:V2w c=true;exact hc
  exfalso;have hd:Vw (c::r) V40=false:=by
   cases hf:Vw (c::r) V40 with
   |false=>rfl
   |true =>
    unfold V40 Vw at hf;simp only[U1g]at hf;exact absurd (Ocn c hf.1) hc
  have ht:Vw (c::r) V4a=false:=by
   cases hf:Vw (c::r) V4a with
   |false=>rfl
   |true =>
    unfold V4a Vw at hf;simp only[U1g]at hf;exact absurd (Ocn c hf.1) hc
  have hl:(Vh (c::r)).long=0:=by
   unfold Vh Vi;rw[hd,ht];rfl
  have hk:V3m (c::r)=[]:=by unfold V3m;rw[U1o,U1b hc]
  unfold Vl at h;rw[hl,U1b Ya,hk,O8h]at h;cases h
theorem O5h(T)(v:Bs)(f d root:Nat)(nds:Ve)(h:Vv (V29 T) v (f+1) d 0 []=.ok (root,v.length,nds)):∃c r,v=c::r/\¬Ow c/\c≠93/\c≠44/\c≠125:=by
 have hd:∀k,V9 v 0=k->k≠0->∃c r,v=c::r/\c.toNat=k:=by
  intro k hk h0;cases v with
  |nil=>exact absurd hk.symm h0
  |cons c r=>exact⟨c,r,rfl,hk⟩
 have Fa:∀k,V9 v 0=k->(k=34\/k=39\/k=91\/k=123)->∃c r,v=c::r/\¬Ow c/\c≠93/\c≠44/\c≠125:=by
  intro k hk h4;obtain⟨c,r,rfl,hc⟩:=hd k hk Ya;have e:c=34\/c=39\/c=91\/c=123:=by
   rcases h4 with h4|h4|h4|h4
   exact .inl (U20.1 (by rw[hc,h4];rfl));exact .inr (.inl (U20.1 (by rw[hc,h4];rfl)));exact .inr (.inr (.inl (U20.1 (by rw[hc,h4];rfl))))
   exact .inr (.inr (.inr (U20.1 (by rw[hc,h4];rfl))))
  refine⟨c,r,rfl,?_⟩;unfold Ow;rcases e with rfl|rfl|rfl|rfl <;> decide
 unfold Vv at h;simp only at h
 split at h
 rename_i h1
 rcases h1 with h1|h1
 exact Fa 34 h1 Yb
 exact Fa 39 h1 Yb
 split at h;rename_i h1;exact Fa 91 h1 Yb
 split at h;rename_i h1;exact Fa 123 h1 Yb
 split at h;cases h
 cases h
 rename_i k t m hs
 rw[U2j]at hs;obtain⟨c,r,rfl,hp⟩:=Ogc v k t m hs;exact⟨c,r,rfl,Ogb hp⟩
abbrev Ogd:=Bs×Bs×Bs
inductive V6p (E:V19):List Ogd->Nat->List Nat->Ve->Prop
 |nil (n:Nat) (st:Ve):V6p E [] n [] st
 | cons (a v b:Bs) (rest:List Ogd) (n root b0:Nat) (nds st:Ve) (l:List Nat) (h:Vv E v 258 2 0 []=.ok (root,v.length,nds))
     (hr:∀(j:Nat) y,nds[j]?=some y->∃x,st[b0+j]?=some x/\SN b0 x y) (hs:∃nd,st[b0+root]?=some nd/\nd.sp=(((n+a.length:Nat):Int),((n+a.length+v.length:Nat):Int)))
     (ht:V6p E rest (n+a.length+v.length+b.length+1) l st):V6p E ((a,v,b)::rest) n ((b0+root)::l) st
theorem V6p.keep{E:V19}{jZ:List Ogd}{n:Nat}{l:List Nat}{st st':Ve}(h:V6p E jZ n l st)(hk:∀(j:Nat) x,st[j]?=some x->st'[j]?=some x):V6p E jZ n l st':=by
 induction h with
 |nil=>exact .nil _ _
 |cons a v b rest n root b0 nds st l h hr hs _ ih =>
  exact .cons a v b rest n root b0 nds st' l h (λ j y hy=>by
   obtain⟨x,hx,q⟩:=hr j y hy;exact⟨x,hk _ _ hx,q⟩) (by
   obtain⟨nd,hx,q⟩:=hs;exact⟨nd,hk _ _ hx,q⟩) (ih hk)
theorem O15{s:Bs}{n:Nat}{c:UInt8}{r:Bs}(h:s.drop n=c::r):V9 s n=c.toNat:=by
 unfold V9;have:s[n]?=some c:=by
  have h2:=U2b (·[0]?) h
  simpa using h2
 rw[this]
def V2k(w:Bs):Bs:=if V5f w then w else V53 w
theorem Ocp{c:UInt8}(h:Vq c=true):c≠34/\c≠39/\c≠46/\¬Ow c:=by
 unfold Ow;refine⟨λ e=>?_,λ e=>?_,λ e=>?_,λ e=>?_⟩;subst e;revert h;decide;subst e;revert h;decide;subst e;revert h;decide
 rcases e with e|e|e|e|e <;> (subst e;revert h;decide)
theorem Ol0(c:UInt8):∃x r,V4p c=x::r/\x≠34:=by
 unfold V4p;by_cases dT:c=34;subst dT;exact⟨92,[34],Yd,Yd⟩
 repeat' split
 all_goals first|exact⟨_,_,rfl,Yd⟩|exact⟨_,_,rfl,dT⟩
theorem Onk(w:Bs)(c:UInt8)(r:Bs)(hc:c≠34):long (V2k w++c::r)=false:=by
 unfold V2k
 split
 rename_i h
 unfold V5f at h;simp only[U1g,U4l,U2h]at h;cases w with
 |nil=>cases h.1
 |cons a w =>
  have ha:=Ocp (h.2 a (List.mem_cons_self ..));unfold long
  split;rename_i e;simp only[U1l,U24]at e;exact absurd e.1 ha.1;rename_i e;simp only[U1l,U24]at e;exact absurd e.1 ha.2.1
  rfl
 unfold V53;cases w with
 |nil =>
  unfold long
  split;rename_i e;simp at e;exact absurd e.1 hc;rename_i e;simp at e
  rfl
 |cons a w =>
  obtain⟨x,q,e1,e2⟩:=Ol0 a;unfold long
  split;rename_i e;rw[U37,e1]at e;simp at e;exact absurd e.1 e2;rename_i e;simp at e
  rfl
theorem Oef(w:Bs)(hw:w.all Vq=true)(c:UInt8)(r:Bs)(hc:Vq c=false):V11 (w++c::r)=w.length:=by
 unfold V11
 induction w with
 |nil=>rw[U23,U1o,U1b (by rw[hc];simp)]
 |cons a w ih =>
  rw[List.all_cons,U1g]at hw;rw[U1l,U1o,U18 hw.1,U17,ih hw.2,U17]
theorem Of4(s:Bs)(n:Nat)(w:Bs)(c:UInt8)(r:Bs)(hd:s.drop n=V2k w++c::r)(hc:c≠34)(hb:Vq c=false):V3x (V29 Vd) s n=.ok (w,n+(V2k w).length):=by
 have hl:=Onk w c r hc;unfold V3x V3u;rw[hd,hl,U1b Yb];unfold V2k at hl⊢;cases hw:V5f w with
 |true =>
  rw[U18 rfl];unfold V5f at hw;simp only[U1g,U4l]at hw;rw[Oef w hw.2 c r hb];have:w.length≠0:=λ e=>by
   have:=U2p e;rw[this]at hw;cases hw.1
  rw[U1b this];simp
 |false =>
  rw[hw]at hl;simp only[U1v,U2c]at hl⊢;have h0:V11 (V53 w++c::r)=0:=by
   unfold V11 V53;rw[U1l,U1o,U1b Yd];rfl
  rw[h0,U18 rfl];show (match Vu Vd (V53 w++c::r) with|.non=>_|.bad c p=>_|.ok (t,k)=>_)=_;rw[Onj w (c::r) hl]
inductive V62 (E:V19)(t:Nat):List (Bs×Bs)->List Nat->Ve->Prop
 |nil (st:Ve):V62 E t [] [] st
 | cons (w v:Bs) (rest:List (Bs×Bs)) (root b0:Nat) (nds st:Ve) (l:List Nat) (h:Vv E v 258 2 0 []=.ok (root,v.length,nds)) (hb:t<b0)
     (hr:∀(j:Nat) y,nds[j]?=some y->∃x,st[b0+j]?=some x/\SN b0 x y) (ht:V62 E t rest l st):V62 E t ((w,v)::rest) ((b0+root)::l) st
theorem V62.keep{E:V19}{t:Nat}{jZ:List (Bs×Bs)}{l:List Nat}{st st':Ve}(h:V62 E t jZ l st)(hk:∀(j:Nat) x,t<j->st[j]?=some x->st'[j]?=some x):V62 E t jZ l st':=by
 induction h with
 |nil=>exact .nil _
 |cons w v rest root b0 nds st l h hb hr _ ih =>
  exact .cons w v rest root b0 nds st' l h hb (λ j y hy=>by
   obtain⟨x,hx,q⟩:=hr j y hy;exact⟨x,hk _ _ Ya hx,q⟩) (ih hk)
theorem O8n{s:Bs}{n:Nat}{c:UInt8}{r:Bs}(h:s.drop n=32::c::r)(hc:¬Ow c):V7 s n=n+1:=by
 unfold V7;rw[h];have:blanks (32::c::r)=1+blanks (c::r):=by unfold blanks;rw[U1o,U18 Yd];simp;omega
 rw[this,O8l c r hc]
theorem O1u{s:Bs}{n:Nat}{c:UInt8}{r:Bs}(h:s.drop n=c::r)(hc:¬Ow c):V7 s n=n:=by
 unfold V7;rw[h,O8l c r hc];rfl
section
variable (s:Bs)(hs:s.length<=20000000)
include hs
end
def Vb:List Bs->Bs
 |[]=>[]
 |w::rest=>V2k w++(if rest.isEmpty then [] else 46::Vb rest)
theorem O7p(w:Bs):∃c r,V2k w=c::r/\(Vq c=true\/c=34):=by
 unfold V2k
 split
 rename_i h
 unfold V5f at h;simp only[U1g,U4l,U2h]at h;cases w with
 |nil=>cases h.1
 |cons c r=>exact⟨c,r,rfl,.inl (h.2 c Yb)⟩
 exact⟨34,_,rfl,.inr rfl⟩
theorem Ol1{c:UInt8}(h:Vq c=true\/c=34):¬Ow c/\c≠91:=by
 rcases h with h|rfl
 refine⟨(Ocp h).2.2.2,λ e=>?_⟩;subst e;revert h;decide
 unfold Ow;decide
theorem O6d(ws:List Bs)(h:ws≠[]):∃c r,Vb ws=c::r/\¬Ow c/\c≠91:=by
 cases ws with
 |nil=>exact absurd rfl h
 |cons w rest =>
  obtain⟨c,r,e,hc⟩:=O7p w;refine⟨c,r++(if rest.isEmpty then [] else 46::Vb rest),?_,Ol1 hc⟩
  conv=>lhs;unfold Vb
  rw[e];rfl
theorem Ol2(ws:List Bs):ws.length<=(Vb ws).length+1:=by
 induction ws with
 |nil=>simp
 |cons w rest ih =>
  obtain⟨c,r,e,_⟩:=O7p w;have h1:1<=(V2k w).length:=by rw[e];simp
  unfold Vb;cases rest with
  |nil=>simp
  |cons w2 rest =>
   simp only[List.isEmpty_cons,U1v,U2c,U1c,U17]at ih⊢;omega
theorem O5i{s:Bs}{n:Nat}{c:UInt8}{r:Bs}(h:s.drop n=c::r):s[n]?=some c:=by
 have:s[n]?=(s.drop n)[0]?:=by rw[U2l];rfl
 rw[this,h];rfl
theorem Onl{s:Bs}{n:Nat}{c:UInt8}{r:Bs}(h:s.drop n=c::r):n<s.length:=(U16.1 (O5i h)).1
theorem O1k{s:Bs}{n:Nat}{c:UInt8}{r:Bs}(h:s.drop n=c::r):s.drop (n+1)=r:=by rw[<-U27,h];rfl
theorem Onm{s:Bs}{n:Nat}{a b:UInt8}{r:Bs}(h:s.drop n=a::b::r):isF s n [a,b]=.ok (n+2):=by
 simp only[isF];rw[U18 (O5i h),U18 (O5i (O1k h))]
theorem Of5{s:Bs}{n:Nat}{a:UInt8}{r:Bs}(h:s.drop n=a::r):isF s n [a]=.ok (n+1):=by
 simp only[isF];rw[U18 (O5i h)]
theorem closed_of{s:Bs}{n a:Nat}(h:Vs s (V7 s n)=a){c:UInt8}{r:Bs}(hd:s.drop a=c::r)(hc:c=10\/c=13/\∃r',r=10::r'):V1e s n=.ok (a+if c=10 then 1 else 2):=by
 unfold V1e;simp only;rw[h,U1b (Nat.ne_of_lt (Onl hd)),O15 hd];rcases hc with rfl|⟨rfl,r',rfl⟩
 rfl
 rw[U1b Yd,U18 Yd,Onm hd];rfl
