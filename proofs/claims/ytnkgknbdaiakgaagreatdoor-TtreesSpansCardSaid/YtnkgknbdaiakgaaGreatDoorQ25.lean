/- The proof's part 25. -/
import Derived.Test.YtnkgknbdaiakgaaGreatDoorQ24
set_option maxHeartbeats 16000000
set_option linter.all false
namespace Go.Proofs.YtnkgknbdaiakgaaGreatDoor.Pl
structure V4k(s1 s2:Bs)(k:Nat):Prop where
 dr:∀n,s2.drop (k+n)=s1.drop n
 len:s2.length=k+s1.length
namespace V4k
variable {s1 s2:Bs}{k:Nat}
theorem byte(A:V4k s1 s2 k)(n:Nat):Va s2 (k+n)=Va s1 n:=by
 unfold Va;have h:=A.dr n;have h1:s2[k+n]?=(s2.drop (k+n))[0]?:=by rw[U2y];rfl
 have h2:s1[n]?=(s1.drop n)[0]?:=by rw[U2y];rfl
 rw[h1,h2,h]
theorem blanks(A:V4k s1 s2 k)(n:Nat):V7 s2 (k+n)=k+V7 s1 n:=by
 unfold V7;rw[A.dr];omega
theorem comment(A:V4k s1 s2 k)(n:Nat):Vx s2 (k+n)=k+Vx s1 n:=by
 unfold Vx;rw[A.dr];omega
theorem gap(A:V4k s1 s2 k)(n:Nat):Vt s2 (k+n)=match Vt s1 n with
    |.ok g => .ok (k+g)
    |.bad c p => .bad c (k+p):=by
 unfold Vt;rw[A.dr];cases Pl.gap (s1.drop n) with
 |ok g=>simp only;congr 1;omega
 |bad c p=>simp only;congr 1;omega
end V4k
def shO{α : Type}(f : α -> α)(k:Nat):V9 α -> V9 α
 |.non => .non
 |.ok a => .ok (f a)
 |.bad c p => .bad c (k+p)
theorem Of3(E:Vv){s1 s2:Bs}{k:Nat}(A:V4k s1 s2 k)(n:Nat):word E s2 (k+n)=shO (λ r=>(r.1,k+r.2)) k (word E s1 n):=by
 unfold word V35;rw[A.dr]
 split;simp only[shO];congr 2
 split
 cases E.str (s1.drop n) with
 |non=>rfl
 |bad c p=>simp only[shO];congr 1;omega
 |ok r=>obtain⟨t,q⟩:=r;simp only[shO];congr 2;omega
 simp only[shO];congr 2;omega
def V7e(k:Nat)(w:KW):KW:=(w.1,k+w.2.1,k+w.2.2)
theorem Of4{E:Vv}(hE:V11 E){s1 s2:Bs}{k:Nat}(A:V4k s1 s2 k):∀(f1 f2 n:Nat)(acc:List KW),n<=s1.length->s1.length<n+f1->s1.length<n+f2 ->V3r E s2 f2 (k+n) (acc.map (V7e k))=shO (λ r=>(r.1.map (V7e k),k+r.2)) k (V3r E s1 f1 n acc):=by
 intro f1
 induction f1 with
 |zero=>intro f2 n acc h1 h2;omega
 |succ f1 ih =>
  intro f2 n acc hn h1 h2
  match f2,h2 with
  |0,h2=>omega
  |f2+1,h2 =>
  unfold V3r;rw[Of3 E A n];cases hw:word E s1 n with
  |non=>rfl
  |bad c p=>rfl
  |ok r =>
   obtain⟨t,e⟩:=r;have aP:=(word_le hE hn).1 _ _ hw;have hb:=V8 s1 e aP.2;simp only[shO];rw[A.blanks,A.byte]
   split
   rename_i hd
   have a9:=byteAt_lt hd Yd;have aA:=V8 s1 (V7 s1 e+1) Ya;rw[U28,A.blanks];have:=ih f2 (V7 s1 (V7 s1 e+1)) (acc++[(t,n,e)]) aA.2 Ya Ya;rw[U2x]at this;exact this
   simp only[U2x];rfl
theorem Of5{E:Vv}(hE:V11 E){s1 s2:Bs}{k:Nat}(A:V4k s1 s2 k)(n:Nat)(hn:n<=s1.length):V1q E s2 (k+n)=shO (λ r=>(r.1.map (V7e k),k+r.2)) k (V1q E s1 n) :=
 Of4 hE A (s1.length+2) (s2.length+2) n [] hn Ya (by have:=A.len;omega)
inductive RV (k:Nat):V9 (Nat×Nat×Vc)->V9 (Nat×Nat×Vc)->Prop
 |bad (c p:Nat):RV k (.bad c p) (.bad c (k+p))
 |ok (i e:Nat) (st1 st2:Vc):RS 0 st1 st2->RV k (.ok (i,e,st1)) (.ok (i,k+e,st2))
inductive RW (k:Nat):V9 (Nat×Vc)->V9 (Nat×Vc)->Prop
 |bad (c p:Nat):RW k (.bad c p) (.bad c (k+p))
 |ok (e:Nat) (st1 st2:Vc):RS 0 st1 st2->RW k (.ok (e,st1)) (.ok (k+e,st2))
def VA(s1:Bs)(k:Nat)(V1 V2:V1n):Prop:=∀d n st1 st2,n<=s1.length->RS 0 st1 st2->V1 d n st1≠.non->RV k (V1 d n st1) (V2 d (k+n) st2)
theorem Op3(k:Nat)(ws:List KW):V4a (KR 0 k) ws (ws.map (V7e k)):=by
 induction ws with
 |nil=>exact .nil
 |cons w ws ih=>exact .cons ⟨rfl,w.2.1,w.2.2,Yb,rfl⟩ ih
theorem Ogw(k table:Nat):∀(ws:List KW)(into d:Nat)(st1 st2:Vc),RS 0 st1 st2->V3d table ws into d st1≠.non ->(∀c p,V3d table ws into d st1=.bad c p->V3d table (ws.map (V7e k)) into d st2=.bad c (k+p)):=by
 intro ws
 induction ws with
 |nil=>intro into d st1 st2 _ h;simp[V3d]at h
 |cons v rest ih =>
  intro into d st1 st2 hr a8 c p h;obtain⟨w,u1,u2⟩:=v;rw[U3q];show V3d table ((w,k+u1,k+u2)::rest.map (V7e k)) into d st2=_;have cw:=hr.sub into w;simp only[U1v]at cw;unfold V3d at h a8⊢;rcases cw with⟨h1,h2⟩|⟨h1,h2⟩|⟨i,h1,h2⟩
  rw[h1]at h;cases h
  rw[h1]at h a8;rw[h2];simp only at h a8⊢;cases rest with
  |nil=>cases h
  |cons y r2 =>
   rw[U3q];simp only at h a8⊢
   split at h
   rename_i hd
   rw[U1a hd];cases h;rfl
   rename_i hd
   rw[U1c hd]at a8⊢
   split at h
   rename_i jR
   rw[U1a jR]at a8;simp only[U1h]at jR;have bh:=hr.kind8 into (by simpa using jR.1);rw[bh,hr.room jR.2];simp only[Bool.and_self,U2o];have hl:=hr.len;simp only[U1v]at hl;have d8:RS 0 (Vf (st1++[V1s (table+1)]) into w (u1,u2) st1.length) (Vf (st2++[V1s (table+1)]) into w (k+u1,k+u2) st2.length):=by
    have h3:RS 0 (st1++[V1s (table+1)]) (st2++[V1s (table+1)]):=hr.app (x:=V1s (table+1)) (y:=V1s (table+1)) ⟨rfl,rfl,rfl,rfl,rfl,((U1c (show ¬(V1s (table+1)).owner=0 from Nat.succ_ne_zero table)).trans (U1v (table+1))).symm⟩;have:=h3.put into w (u1,u2) (k+u1,k+u2) st2.length;simp only[U1v]at this;rw[hl];exact this
   rw[hl]at h d8 a8;have:=ih st2.length (d+1) _ _ d8 a8 c p h;rw[U3q]at this;exact this
   cases h
  rw[h1]at h a8;rw[h2];simp only at h a8⊢;cases rest with
  |nil=>cases h;rfl
  |cons y r2 =>
   rw[U3q];simp only[U1v]at h a8⊢;have ho:=hr.owner i;simp only[U1v]at ho;have kz:V2c st1 i=V2c st2 i:=by rw[ho];split <;> omega
   rw[kz]at h a8
   split at h
   rename_i AR
   rw[U1a AR]at a8⊢;have:=ih i (d+1) st1 st2 hr a8 c p h;rw[U3q]at this;exact this
   rename_i AR
   rw[U1c AR];cases h;rfl
theorem Ogx(k:Nat)(ws:List KW):(ws.map (V7e k)).getLast?=ws.getLast?.map (V7e k):=by
 rw[List.getLast?_map]
section
variable {E:Vv}(hE:V11 E){s1 s2:Bs}{k:Nat}(A:V4k s1 s2 k){V1 V2:V1n}(hL:VLe s1 V1)(hV:VA s1 k V1 V2)
include hE A hL hV
theorem Od7(table n d:Nat)(st1 st2:Vc)(hn:n<=s1.length)(hr:RS 0 st1 st2)(a8:V1l E V1 s1 table n d st1≠.non):RW k (V1l E V1 s1 table n d st1) (V1l E V2 s2 table (k+n) d st2):=by
 unfold V1l at a8⊢;rw[Of5 hE A n hn];cases hk:V1q E s1 n with
 |non=>rw[hk]at a8;exact absurd rfl a8
 |bad c p=>exact .bad c p
 |ok r =>
  obtain⟨ws,e⟩:=r;have aP:=(O15 hE hn).1 _ _ hk;have hb:=V8 s1 e aP.2.1;rw[hk]at a8;simp only[shO]at a8⊢;cases hw:V3d table ws table d st1 with
  |non=>rw[hw]at a8;exact absurd rfl a8
  |bad c p =>
   rw[Ogw k table ws table d st1 st2 hr (by rw[hw];simp) c p hw];exact .bad c p
  |ok r2 =>
   obtain⟨into,d',dW⟩:=r2;obtain⟨i2,eA,w1,w2,w3⟩:=Odw 0 0 k ws _ table table d st1 st2 dW into d' (Op3 k ws) hr (by simpa using hw);simp only[U1v]at w1;subst w1;rw[w2];rw[hw]at a8;simp only at a8⊢;rw[A.blanks,A.byte]
   split
   rename_i dS
   rw[U1a dS]at a8;have a9:=byteAt_lt dS Yd;have aA:=V8 s1 (V7 s1 e+1) Ya;rw[U28,A.blanks];have hv:=hV (d'+1) (V7 s1 (V7 s1 e+1)) dW eA aA.2 w3 (by intro e;rw[e]at a8;exact absurd rfl a8);revert a8;generalize V1 (d'+1) (V7 s1 (V7 s1 e+1)) dW=X at hv⊢;generalize V2 (d'+1) (k+V7 s1 (V7 s1 e+1)) eA=Y at hv⊢;intro a8;cases hv with
   |bad c p=>exact .bad c p
   |ok i e2 Fy Q' MV =>
    simp only at a8⊢;rw[Ogx];cases aW:ws.getLast? with
    |none=>rw[aW]at a8;exact absurd rfl a8
    |some v =>
     obtain⟨w,a,b⟩:=v;rw[aW]at a8;simp only[U25,V7e]at a8⊢
     split at a8
     rename_i h8
     rw[U1a h8,MV.kind8 into (by simpa using h8),U1a rfl];refine .ok e2 _ _ ?_;have:=MV.put into w (a,b) (k+a,k+b) i;exact J5
     exact absurd rfl a8
   exact .bad 3 _
theorem Of6(table d:Nat):∀(f1 f2 n:Nat)(st1 st2:Vc),n<=s1.length->s1.length<n+f2->RS 0 st1 st2->V29 E V1 s1 table d f1 n st1≠.non->RW k (V29 E V1 s1 table d f1 n st1) (V29 E V2 s2 table d f2 (k+n) st2):=by
 intro f1
 induction f1 with
 |zero=>intro f2 n st1 st2 _ _ _ h;simp[V29]at h
 |succ f1 ih =>
  intro f2 n st1 st2 hn hf hr a8
  match f2,hf with
  |0,hf=>omega
  |f2+1,hf =>
  unfold V29 at a8⊢;have hp:=Od7 hE A hL hV table n d st1 st2 hn hr (by intro e;rw[e]at a8;exact absurd rfl a8);have aP:=(O4x hE hL table n d st1 hn).1;revert a8;generalize V1l E V1 s1 table n d st1=X at hp aP⊢;generalize V1l E V2 s2 table (k+n) d st2=Y at hp⊢;intro a8;cases hp with
  |bad c p=>exact .bad c p
  |ok e dW eA lr =>
   obtain⟨g1,g2⟩:=aP _ _ rfl;have hb:=V8 s1 e g2;simp only at a8⊢;rw[A.blanks,A.byte]
   split;exact .ok _ _ _ lr
   rename_i eZ
   rw[U1c eZ]at a8
   split
   rename_i ic
   rw[U1a ic]at a8;have a9:=byteAt_lt ic Yd;have aA:=V8 s1 (V7 s1 e+1) Ya;rw[U28,A.blanks];exact ih f2 _ dW eA aA.2 Ya lr a8
   exact .bad 3 _
theorem Obi(d n:Nat)(st1 st2:Vc)(hn:n<s1.length)(hr:RS 0 st1 st2)(a8:V1h E V1 s1 d n st1≠.non):RV k (V1h E V1 s1 d n st1) (V1h E V2 s2 d (k+n) st2):=by
 have hb:=V8 s1 (n+1) Ya;have hl:=hr.len;rw[U1v]at hl;unfold V1h at a8⊢
 split;exact .bad 4 n
 rename_i hd
 rw[U1c hd]at a8
 split at a8
 rename_i bx
 rw[U1a bx,U1a (hr.room bx)];simp only at a8⊢;rw[U28,A.blanks,A.byte];have aZ:RS 0 (st1++[V16]) (st2++[V16]):=hr.app ⟨rfl,rfl,rfl,rfl,rfl,rfl⟩;have kB:(if Va s1 (V7 s1 (n+1))=125 then V9.ok (V7 s1 (n+1),st1++[V16]) else V29 E V1 s1 st1.length d (s1.length+2) (V7 s1 (n+1)) (st1++[V16]))≠.non ->
     RW k (if Va s1 (V7 s1 (n+1))=125 then V9.ok (V7 s1 (n+1),st1++[V16]) else V29 E V1 s1 st1.length d (s1.length+2) (V7 s1 (n+1)) (st1++[V16]))
      (if Va s1 (V7 s1 (n+1))=125 then V9.ok (k+V7 s1 (n+1),st2++[V16]) else V29 E V2 s2 st2.length d (s2.length+2) (k+V7 s1 (n+1)) (st2++[V16])):=by
  intro a8
  split;exact .ok _ _ _ aZ
  rename_i eZ
  rw[U1c eZ]at a8;rw[hl]at a8⊢;exact Of6 hE A hL hV st2.length d (s1.length+2) (s2.length+2) _ _ _ hb.2 (by have:=A.len;omega) aZ a8
 revert kB a8;generalize (if Va s1 (V7 s1 (n+1))=125 then V9.ok (V7 s1 (n+1),st1++[V16]) else V29 E V1 s1 st1.length d (s1.length+2) (V7 s1 (n+1)) (st1++[V16]))=X;generalize (if Va s1 (V7 s1 (n+1))=125 then V9.ok (k+V7 s1 (n+1),st2++[V16]) else V29 E V2 s2 st2.length d (s2.length+2) (k+V7 s1 (n+1)) (st2++[V16]))=Y;intro a8 kB;have Fz:=kB (by intro e;rw[e]at a8;exact absurd rfl a8);cases Fz with
 |bad c p=>exact .bad c p
 |ok e dW eA lr =>
  simp only at a8⊢
  split at a8
  rename_i h8
  rw[U1a h8];rw[hl]at h8;rw[lr.kind8 st2.length (by simpa using h8),U1a rfl,hl];refine .ok _ _ _ _ ?_;have:=lr.mod st2.length (λ nd=>{ nd with sp:=((n:Int),((e+1:Nat):Int)) }) (λ nd=>{ nd with sp:=(((k+n:Nat):Int),((k+e+1:Nat):Int)) }) (λ x y hs=>⟨hs.kind,hs.text,hs.keys,hs.spots,hs.subs,hs.own⟩);rw[U1v]at this;exact this
  exact absurd rfl a8
 exact absurd rfl a8
omit hE
theorem Od8(d:Nat):∀(f1 f2 n:Nat)(subs:List Nat)(st1 st2:Vc),n<=s1.length->s1.length<n+f2->RS 0 st1 st2->V1f V1 s1 d f1 n subs st1≠.non ->(∃c p,V1f V1 s1 d f1 n subs st1=.bad c p/\V1f V2 s2 d f2 (k+n) subs st2=.bad c (k+p))\/(∃l e dW eA,V1f V1 s1 d f1 n subs st1=.ok (l,e,dW)/\V1f V2 s2 d f2 (k+n) subs st2=.ok (l,k+e,eA)/\RS 0 dW eA):=by
 intro f1
 induction f1 with
 |zero=>intro f2 n subs st1 st2 _ _ _ h;simp[V1f]at h
 |succ f1 ih =>
  intro f2 n subs st1 st2 hn hf hr a8
  match f2,hf with
  |0,hf=>omega
  |f2+1,hf =>
  unfold V1f at a8⊢;rw[A.byte];by_cases uF:Va s1 n=93;rw[U1a uF,U1a uF];exact .inr ⟨subs,n,st1,st2,rfl,rfl,hr⟩
  rw[U1c uF]at a8;rw[U1c uF,U1c uF];have hv:=hV (d+1) n st1 st2 hn hr (by intro e;rw[e]at a8;exact absurd rfl a8);have aP:=(hL (d+1) n st1 hn).1;revert a8;generalize V1 (d+1) n st1=X at hv aP⊢;generalize V2 (d+1) (k+n) st2=Y at hv⊢;intro a8;cases hv with
  |bad c p=>exact .inl ⟨c,p,rfl,rfl⟩
  |ok i e dW eA lr =>
   obtain⟨g1,g2⟩:=aP _ _ _ rfl;simp only at a8⊢;by_cases h3:30000000<subs.length;rw[U1a h3]at a8;exact absurd rfl a8
   rw[U1c h3]at a8;rw[U1c h3,U1c h3,A.gap];cases hg:Vt s1 e with
   |bad c p=>exact .inl ⟨c,p,rfl,rfl⟩
   |ok g =>
    obtain⟨g3,g4⟩:=On hg g2;rw[hg]at a8;simp only at a8⊢;rw[A.byte];by_cases h4:Va s1 g=93;rw[U1a h4,U1a h4];exact .inr ⟨_,g,dW,eA,rfl,rfl,lr⟩
    rw[U1c h4]at a8;rw[U1c h4,U1c h4];by_cases ic:Va s1 g=44
    rw[U1a ic]at a8;rw[U1a ic,U1a ic];have a9:=byteAt_lt ic Yd;rw[U28,A.gap];cases cb:Vt s1 (g+1) with
    |bad c p=>exact .inl ⟨c,p,rfl,rfl⟩
    |ok g' =>
     obtain⟨g5,g6⟩:=On cb Ya;rw[cb]at a8;simp only at a8⊢;exact ih f2 g' (subs++[i]) dW eA g6 Ya lr a8
    rw[U1c ic,U1c ic];exact .inl ⟨3,g,rfl,rfl⟩
theorem Od9(d n:Nat)(st1 st2:Vc)(hn:n<s1.length)(hr:RS 0 st1 st2)(a8:V2a V1 s1 d n st1≠.non):RV k (V2a V1 s1 d n st1) (V2a V2 s2 d (k+n) st2):=by
 unfold V2a at a8⊢
 split;exact .bad 4 n
 rename_i hd
 rw[U1c hd]at a8;rw[U28,A.gap];cases hg:Vt s1 (n+1) with
 |bad c p=>exact .bad c p
 |ok g =>
  obtain⟨g1,g2⟩:=On hg Ya;rw[hg]at a8;simp only at a8⊢;have hl:=A.len;rcases Od8 A hL hV d (s1.length+2) (s2.length+2) g [] st1 st2 g2 Ya hr (by intro e;rw[e]at a8;exact absurd rfl a8) with⟨c,p,h1,h2⟩|⟨l,e,dW,eA,h1,h2,h3⟩
  rw[h1,h2];exact .bad c p
  rw[h1,h2];rw[h1]at a8;simp only at a8⊢
  split at a8
  rename_i bx
  rw[U1a bx,U1a (h3.room bx)];have km:=h3.len;rw[U1v]at km;rw[km];refine .ok _ _ _ _ (h3.app ⟨rfl,rfl,rfl,rfl,by simp[V4e],rfl⟩)
  exact absurd rfl a8
end
theorem Vgo{E:Vv}(hE:V11 E){s1 s2:Bs}{k:Nat}(A:V4k s1 s2 k):∀f,VA s1 k (Vz E s1 f) (Vz E s2 f):=by
 intro f
 induction f with
 |zero=>intro d n st1 st2 _ _ h;simp[Vz]at h
 |succ f ih =>
  intro d n st1 st2 hn hr a8;have hl:=hr.len;rw[U1v]at hl;unfold Vz at a8⊢;simp only at a8⊢;rw[A.byte,A.dr];by_cases h1:Va s1 n=34\/Va s1 n=39
  rw[U1a h1]at a8;rw[U1a h1,U1a h1];cases hs:E.str (s1.drop n) with
  |non=>rw[hs]at a8;exact absurd rfl a8
  |bad c p =>
   simp only;rw[show k+n+p=k+(n+p) by omega];exact .bad c _
  |ok v =>
   obtain⟨t,m⟩:=v;exact J154
  rw[U1c h1]at a8;rw[U1c h1,U1c h1];by_cases h2:Va s1 n=91;rw[U1a h2]at a8;rw[U1a h2,U1a h2];exact Od9 A (O14 hE s1 f) ih d n st1 st2 (byteAt_lt h2 Yd) hr a8
  rw[U1c h2]at a8;rw[U1c h2,U1c h2];by_cases h3:Va s1 n=123;rw[U1a h3]at a8;rw[U1a h3,U1a h3];exact Obi hE A (O14 hE s1 f) ih d n st1 st2 (byteAt_lt h3 Yd) hr a8
  rw[U1c h3]at a8;rw[U1c h3,U1c h3];cases hs:E.scal (s1.drop n) with
  |non=>rw[hs]at a8;exact absurd rfl a8
  |bad c p=>exact .bad c n
  |ok v =>
   obtain⟨q,t,m⟩:=v;exact J154
theorem Oda{E:Vv}(hE:V11 E){s1 s2:Bs}{k:Nat}(A:V4k s1 s2 k)(hs:s1.length<=20000000)(n q:Nat)(hn:n<=s1.length):RV k (V1g E s1 n q) (V1g E s2 (k+n) q) :=
 Vgo hE A 258 _ n [] [] hn (RS.nil []) (O1q hE s1 hs n q hn).1
inductive RV2 (b:Nat):V9 (Nat×Nat×Vc)->V9 (Nat×Nat×Vc)->Prop
 |bad (c p:Nat):RV2 b (.bad c p) (.bad c p)
 |ok (i e:Nat) (st1 st2:Vc):RS b st1 st2->RV2 b (.ok (b+i,e,st1)) (.ok (i,e,st2))
def VF(s:Bs)(b:Nat)(V:V1n):Prop:=∀d n st1 st2,n<=s.length->RS b st1 st2->V d n st1≠.non->RV2 b (V d n st1) (V d n st2)
section
variable {E:Vv}(hE:V11 E){s:Bs}{b:Nat}{V:V1n}(hL:VLe s V)(hV:VF s b V)
include hE hL hV
end
theorem RS.any(st:Vc):RS st.length st []:=RS.nil st
structure V8g(E:Vv)(s:Bs)(n e:Nat)(it:It):Prop where
 le:n<=e/\e<=s.length
 blank:it.kind=0->it.ws=[]/\e=n
 ws:it.kind≠0->it.ws≠[]
 pair:it.kind=1->(∃w,it.ws.getLast?=some w/\w.2.2<it.va)/\it.va<it.vb/\it.vb=e/\V1g E s it.va 0=.ok (it.root,it.vb,it.nds)/\V8y [] it.root it.vb it.nds
 other:it.kind≠1->it.va=0/\it.vb=0/\it.root=0/\it.nds=[]
 kind:it.kind<=3
 spans:∀x∈it.ws,x.2.1<=x.2.2/\x.2.2<=e
section
variable {E:Vv}(hE:V11 E)(s:Bs)(hs:s.length<=20000000)
include hE hs
theorem O82(kind n:Nat)(aY:Bs)(hk:kind=2\/kind=3)(hn:n+aY.length<=s.length):V3k E s kind n aY≠.non/\(∀c p,V3k E s kind n aY=.bad c p->p<=s.length/\c≠0)/\(∀e it,V3k E s kind n aY=.ok (e,it)->V8g E s n e it):=by
 have hb:=V8 s (n+aY.length) hn;obtain⟨k1,k2,k3⟩:=O15 hE hb.2;unfold V3k;cases ed:V1q E s (V7 s (n+aY.length)) with
 |non=>exact absurd ed k3
 |bad c p=>exact⟨Yb,λ c' p' h=>by (cases h;exact k2 _ _ ed),λ e it h=>by (cases h)⟩
 |ok r =>
  obtain⟨ws,e⟩:=r;obtain⟨h1,h2,h3,h4,h5⟩:=k1 _ _ ed;have aA:=V8 s e h2;obtain⟨i1,i2⟩:=V57 s aY (V7 s e) aA.2;simp only;cases hi:isF s (V7 s e) aY with
  |bad c p=>exact⟨Yb,λ c' p' h=>by (cases h;have:=i2 _ _ hi;exact⟨this.1,Ya⟩),λ e it h=>by (cases h)⟩
  |ok m =>
   obtain⟨i3,i4⟩:=i1 _ hi;refine⟨Yb,λ c' p' h=>by (cases h),λ e' it h=>?_⟩;cases h;exact⟨⟨Ya,i4⟩,λ h=>by (simp only at h;omega),λ _=>h3,λ h=>by (simp only at h;omega),λ _=>⟨rfl,rfl,rfl,rfl⟩,Yj,λ x hx=>by (have:=h4 x hx;omega)⟩
theorem Oja(n:Nat)(hn:n<=s.length):V55 E s n≠.non/\(∀c p,V55 E s n=.bad c p->p<=s.length/\c≠0)/\(∀e it,V55 E s n=.ok (e,it)->V8g E s n e it/\it.kind=1):=by
 obtain⟨k1,k2,k3⟩:=O15 hE hn;unfold V55;cases ed:V1q E s n with
 |non=>exact absurd ed k3
 |bad c p=>exact⟨Yb,λ c' p' h=>by (cases h;exact k2 _ _ ed),λ e it h=>by (cases h)⟩
 |ok r =>
  obtain⟨ws,e⟩:=r;obtain⟨h1,h2,h3,h4,h5⟩:=k1 _ _ ed;have aA:=V8 s e h2;obtain⟨i1,i2⟩:=V57 s [61] (V7 s e) aA.2;simp only;cases hi:isF s (V7 s e) [61] with
  |bad c p=>exact⟨Yb,λ c' p' h=>by (cases h;have:=i2 _ _ hi;exact⟨this.1,Ya⟩),λ e it h=>by (cases h)⟩
  |ok m =>
   obtain⟨i3,i4⟩:=i1 _ hi;simp only[U1d,U1q]at i3;have aV:=V8 s m i4;obtain⟨r1,r2,r3⟩:=O1q hE s hs (V7 s m) 0 aV.2;simp only;cases hr:V1g E s (V7 s m) 0 with
   |non=>exact absurd hr r1
   |bad c p=>exact⟨Yb,λ c' p' h=>by (cases h;exact r2 _ _ hr),λ e it h=>by (cases h)⟩
   |ok v =>
    obtain⟨root,e2,nds⟩:=v;obtain⟨r4,r5,r6⟩:=r3 _ _ _ hr;refine⟨Yb,λ c' p' h=>by (cases h),λ e' it h=>?_⟩;cases h;refine⟨⟨⟨Ya,r5⟩,λ h=>by (cases h),λ _=>h3,λ _=>⟨?_,r4,rfl,hr,r6⟩,λ h=>absurd rfl h,Yj,λ x hx=>by (have:=h4 x hx;omega)⟩,rfl⟩;cases hl:ws.getLast? with
    |none=>rw[U3z]at hl;exact absurd hl h3
    |some w =>
     rw[hl]at h5;simp only[U25,U1f]at h5;exact⟨w,rfl,Yj⟩
theorem Obk(n:Nat)(hn:n<=s.length):V3l E s n≠.non/\(∀c p,V3l E s n=.bad c p->p<=s.length/\c≠0)/\(∀e it,V3l E s n=.ok (e,it)->V8g E s n e it):=by
 unfold V3l
 split
 rename_i h
 have:=V1i _ _ h;rw[U16]at this;simp only[U1d,U1q]at this;exact O82 hE s hs 3 n [93,93] (.inr rfl) (by simp only[U1d,U1q];omega)
 split
 rename_i h
 have:=V1i _ _ h;rw[U16]at this;simp only[U1d,U1q]at this;exact O82 hE s hs 2 n [93] (.inl rfl) (by simp only[U1d,U1q];omega)
 split;refine⟨Yb,λ c p h=>by (cases h),λ e it h=>?_⟩;cases h;exact⟨⟨U12 _,hn⟩,λ _=>⟨rfl,rfl⟩,λ h=>absurd rfl h,λ h=>by (cases h),λ _=>⟨rfl,rfl,rfl,rfl⟩,Yb,λ x hx=>by (cases hx)⟩
 obtain⟨p1,p2,p3⟩:=Oja hE s hs n hn;exact⟨p1,p2,λ e it h=>(p3 e it h).1⟩
structure Vbo(E:Vv)(s:Bs)(n:Nat)(it:It):Prop where
 a:it.a=n
 lt:n<it.b
 le:it.b<=s.length
 fin:it.b=s.length\/Va s (it.b-1)=10
 ws:it.kind≠0->it.ws≠[]
 blank:it.kind=0->it.ws=[]
 pair:it.kind=1->(∃w,it.ws.getLast?=some w/\w.2.2<it.va)/\it.va<it.vb/\it.vb<=it.b/\V1g E s it.va 0=.ok (it.root,it.vb,it.nds)/\V8y [] it.root it.vb it.nds
 other:it.kind≠1->it.va=0/\it.vb=0/\it.root=0/\it.nds=[]
 kind:it.kind<=3
 spans:∀x∈it.ws,x.2.1<=x.2.2/\x.2.2<=s.length
theorem O74(n:Nat)(hn:n<s.length):V3v E s n≠.non/\(∀c p,V3v E s n=.bad c p->p<=s.length/\c≠0)/\(∀it,V3v E s n=.ok it->Vbo E s n it):=by
 have hb:=V8 s n Ya;obtain⟨b1,b2,b3⟩:=Obk hE s hs (V7 s n) hb.2;unfold V3v;cases dP:V3l E s (V7 s n) with
 |non=>exact absurd dP b1
 |bad c p=>exact⟨Yb,λ c' p' h=>by (cases h;exact b2 _ _ dP),λ it h=>by (cases h)⟩
 |ok r =>
  obtain⟨e,it⟩:=r;have q:=b3 _ _ dP;obtain⟨c1,c2⟩:=V5f s e q.le.2;simp only;cases hc:V25 s e with
  |bad c p=>exact⟨Yb,λ c' p' h=>by (cases h;exact c2 _ _ hc),λ it h=>by (cases h)⟩
  |ok m =>
   obtain⟨c3,c4,c5⟩:=c1 _ hc;have jB:=V8 s e q.le.2;have Fc:=V3i s (V7 s e) jB.2;have hq:=q.le;refine⟨Yb,λ c' p' h=>by (cases h),λ UI h=>?_⟩;cases h;refine⟨rfl,?_,c4,?_,q.ws,λ h=>(q.blank h).1,λ h=>?_,q.other,q.kind,λ x hx=>by (have:=q.spans x hx;omega)⟩;simp only;omega
   simp only;rcases c5 with h|h
   exact .inl h.1
   exact .inr h.2
   obtain⟨p1,p2,p3,p4,p5⟩:=q.pair h;exact⟨p1,p2,Yj,p4,p5⟩
end
section
variable {E:Vv}(hE:V11 E){s1 s2:Bs}{k:Nat}(A:V4k s1 s2 k)(hs:s1.length<=20000000)
theorem V4k.get{s1 s2:Bs}{k:Nat}(A:V4k s1 s2 k)(n:Nat):s2[k+n]?=s1[n]?:=by
 have h1:s2[k+n]?=(s2.drop (k+n))[0]?:=by rw[U2y];rfl
 have h2:s1[n]?=(s1.drop n)[0]?:=by rw[U2y];rfl
 rw[h1,h2,A.dr n]
inductive RB (k:Nat):V9 (Nat×It)->V9 (Nat×It)->Prop
 |bad (c p:Nat):RB k (.bad c p) (.bad c (k+p))
 |ok (e:Nat) (x y:It):y.kind=x.kind->V4a (KR 0 k) x.ws y.ws->(x.kind=1->y.va=k+x.va/\y.vb=k+x.vb)->y.root=x.root->RS 0 x.nds y.nds->RB k (.ok (e,x)) (.ok (k+e,y))
include hE A hs
end
def Rk(st:Vc)(r:Nat->Nat):Prop:=∀(i:Nat) nd,st[i]?=some nd->∀x∈nd.subs,r x<r i
def Own(b:Nat)(st:Vc):Prop:=∀(i:Nat) nd,b<=i->st[i]?=some nd->∀x∈nd.subs,b<=x
structure VR(st:Vc)(i:Nat)(st':Vc):Prop where
 wf:WF st'
 lo:st.length<=i
 hi:i<st'.length
 keep:V2q st.length st st'
 rk:∃r,Rk st' r
 own:Own st.length st'
def VRk(V:V1n):Prop:=∀d n st i e st',WF st->V d n st=.ok (i,e,st')->(∃r,Rk st r)->VR st i st'
theorem O78(r:Nat->Nat):∀n,∃K,∀i,i<n->r i<K:=by
 intro n
 induction n with
 |zero=>exact⟨0,λ i h=>by omega⟩
 |succ n ih =>
  obtain⟨K,h⟩:=ih;refine⟨K+r n+1,λ i hi=>?_⟩;by_cases kB:i<n;have:=h i kB;omega
  have:i=n:=Ya;subst this;omega
theorem Rk.app{st:Vc}{r:Nat->Nat}(h:Rk st r)(hw:WF st)(nd:Nd)(hn:∀x∈nd.subs,x<st.length):∃r',Rk (st++[nd]) r':=by
 obtain⟨K,hK⟩:=O78 r st.length;refine⟨λ j=>if j<st.length then r j else K,λ i x hx y hy=>?_⟩;by_cases hi:i<st.length;rw[U19 hi]at hx;have dQ:=(hw i x hx).lt y hy;simp only[U1a hi,U1a dQ];exact h i x hx y hy
 have h2:=(U14.1 hx).1;simp only[U1b,U1z]at h2;have:i=st.length:=Ya;subst this;simp at hx;subst hx;have dQ:=hn y hy;simp only[U1a dQ,U1c (Nat.lt_irrefl _)];exact hK y dQ
theorem Own.app{b:Nat}{st:Vc}(h:Own b st)(nd:Nd)(hn:∀x∈nd.subs,b<=x):Own b (st++[nd]):=by
 intro i x hb hx y hy;by_cases hi:i<st.length;rw[U19 hi]at hx;exact h i x hb hx y hy
 have h2:=(U14.1 hx).1;simp only[U1b,U1z]at h2;have:i=st.length:=Ya;subst this;simp at hx;subst hx;exact hn y hy
theorem Own.mono{b:Nat}{st st':Vc}(h:Own b st){c:Nat}(hc:b<=c)(hk:V2q c st st')(ho:Own c st'):Own b st':=by
 intro i x hb hx y hy;by_cases hi:i<c;exact h i x hb ((hk i hi).symm.trans hx) y hy
 have:=ho i x Ya hx y hy;omega
theorem Rk.put{st:Vc}{r:Nat->Nat}(h:Rk st r)(c:Nat)(ho:Own c st)(t i:Nat)(w:Bs)(sp:Nat×Nat)(ht:t<c)(hi:c<=i)(aB:∀(j:Nat) nd,j<c->st[j]?=some nd->∀x∈nd.subs,x<c):∃r',Rk (Vf st t w sp i) r':=by
 refine⟨λ j=>if j<c then r j+r i+1 else r j,λ j x hx y hy=>?_⟩;rw[Oj]at hx;by_cases hj:t=j
 subst hj;rw[U1a rfl]at hx;cases hg:st[t]? with
 |none=>rw[hg]at hx;cases hx
 |some nd =>
  rw[hg]at hx;simp only[U25,U1f]at hx;subst hx;simp only[U1a ht];rcases U29.1 (show y∈nd.subs++[i] from hy) with hy|hy
  have h1:=aB t nd ht hg y hy;have h2:=h t nd hg y hy;simp only[U1a h1];omega
  simp at hy;subst hy;simp only[U1c (show ¬y<c by omega)];omega
 rw[U1c hj]at hx;have h2:=h j x hx y hy;by_cases Jc:j<c;have h1:=aB j x Jc hx y hy;simp only[U1a Jc,U1a h1];omega
 have h1:=ho j x Ya hx y hy;simp only[U1c Jc,U1c (show ¬y<c by omega)];exact h2
theorem Own.put{b:Nat}{st:Vc}(h:Own b st)(t i:Nat)(w:Bs)(sp:Nat×Nat)(hi:b<=i):Own b (Vf st t w sp i):=by
 intro j x hb hx y hy;rw[Oj]at hx;by_cases hj:t=j
 subst hj;rw[U1a rfl]at hx;cases hg:st[t]? with
 |none=>rw[hg]at hx;cases hx
 |some nd =>
  rw[hg]at hx;simp only[U25,U1f]at hx;subst hx;rcases U29.1 (show y∈nd.subs++[i] from hy) with hy|hy
  exact h t nd hb hg y hy
  simp at hy;omega
 rw[U1c hj]at hx;exact h j x hb hx y hy
theorem O2r(st:Vc):Own st.length st:=λ i nd hb hx=>by have:=(U14.1 hx).1;omega
theorem Obt(b table:Nat):∀(ws:List KW)(into d:Nat)(st:Vc)(am d':Nat)(st':Vc),WF st->b<=table->table<=into->into<st.length->V3d table ws into d st=.ok (am,d',st')->(∃r,Rk st r)->Own b st ->(∃r,Rk st' r)/\Own b st'/\WF st'/\table<=am/\am<st'.length/\st.length<=st'.length/\V2q table st st':=by
 intro ws
 induction ws with
 |nil=>intro into d st am d' st' _ _ _ _ h;simp[V3d]at h
 |cons v rest ih =>
  intro into d st am d' st' hw hb ht kB h hr ho;obtain⟨w,u1,u2⟩:=v;unfold V3d at h;cases hs:V1a st into w with
  |non=>rw[hs]at h;cases h
  |no =>
   rw[hs]at h;cases rest with
   |nil=>simp only[V9.ok.injEq,U17]at h;obtain⟨rfl,rfl,rfl⟩:=h;exact⟨hr,ho,hw,ht,kB,U12 _,V2q.refl _ _⟩
   |cons y r2 =>
    simp only at h
    split at h;cases h
    split at h
    obtain⟨r,hr⟩:=hr;obtain⟨nd,aL⟩:∃nd,st[into]?=some nd:=⟨_,U1e kB⟩
    have fD:WF (st++[V1s (table+1)]):=hw.app _ ⟨λ _=>⟨rfl,rfl⟩,List.Pairwise.nil,λ x hx=>(by cases hx),λ _=>⟨rfl,by show table+1<=st.length;omega⟩⟩;have yU:(st++[V1s (table+1)])[into]?=some nd:=by rw[U19 kB];exact aL
    have fq:WF (Vf (st++[V1s (table+1)]) into w (u1,u2) st.length):=fD.put into st.length w (u1,u2) nd yU (λ x hx=>(hw into nd aL).lt x hx) Yb;obtain⟨r1,aZ⟩:=hr.app hw (V1s (table+1)) (λ x hx=>by cases hx);have sL:Own b (st++[V1s (table+1)]):=ho.app _ (λ x hx=>by cases hx);have R1:Own st.length (st++[V1s (table+1)]):=(O2r st).app _ (λ x hx=>by cases hx);have d8:=aZ.put st.length R1 into st.length w (u1,u2) kB (U12 _) (λ j x hj hx y hy=>by
     rw[U19 hj]at hx;exact (hw j x hx).lt y hy)
    have ap:(Vf (st++[V1s (table+1)]) into w (u1,u2) st.length).length=st.length+1:=by unfold Vf;simp
    obtain⟨g1,g2,g3,g4,g5,g6,g7⟩:=ih st.length (d+1) _ am d' st' fq hb Ya (by rw[ap];omega) h d8 (sL.put into st.length w (u1,u2) Ya);refine⟨g1,g2,g3,g4,g5,Ya,λ j hj=>?_⟩;rw[g7 j hj,Oj,U1c Ya,U19 Ya]
    cases h
  |yes i =>
   rw[hs]at h;cases rest with
   |nil=>cases h
   |cons y r2 =>
    simp only at h
    split at h
    rename_i MW
    refine Z283 ?_;intro dT;have MX:table<=i:=by
     unfold V2c at MW
     split at MW
     rename_i nd aL
     have:=(hw i nd aL).own Ya;omega
     omega
    exact ih i (d+1) st am d' st' hw hb MX dT h hr ho
    cases h
section
variable {E:Vv}{s:Bs}{V:V1n}(hV:VRk V)
include hV
theorem O79(b table n d:Nat)(st:Vc)(e:Nat)(st':Vc)(hw:WF st)(hb:b<=table)(ht:table<st.length)(h:V1l E V s table n d st=.ok (e,st'))(hr:∃r,Rk st r)(ho:Own b st):(∃r,Rk st' r)/\Own b st'/\WF st'/\st.length<=st'.length/\V2q table st st':=by
 unfold V1l at h
 split at h;cases h
 cases h
 rename_i ws e0 _
 split at h;cases h
 cases h
 rename_i into d' st1 uu
 obtain⟨g1,g2,g3,g4,g5,g6,g7⟩:=Obt b table ws table d st into d' st1 hw hb (U12 _) ht uu hr ho;simp only at h
 split at h
 split at h;cases h
 cases h
 rename_i i e2 st2 hv
 have q:=hV _ _ _ _ _ _ g3 hv g1;obtain⟨r2,d8⟩:=q.rk;have kz:=q.own;have vK:=q.lo;have Ax:=q.hi
 split at h;cases h
 rename_i w a b' _
 split at h
 simp only[V9.ok.injEq,U17]at h;obtain⟨rfl,rfl⟩:=h;obtain⟨nd,aL⟩:∃nd,st1[into]?=some nd:=⟨_,U1e g5⟩
 have uD:st2[into]?=some nd:=(q.keep into g5).trans aL;have yn:Own b st2:=g2.mono Ya q.keep kz;refine⟨d8.put st1.length kz into i w (a,b') g5 q.lo (λ j x hj hx y hy=>?_),yn.put into i w (a,b') Ya,q.wf.put into i w (a,b') nd uD (λ x hx=>by have:=(g3 into nd aL).lt x hx;omega) q.hi,?_,λ j hj=>?_⟩;have:=(q.keep j hj).symm.trans hx;exact (g3 j x this).lt y hy;unfold Vf;rw[U2i];omega
 rw[Oj,U1c Ya,q.keep j Ya];exact g7 j hj
 cases h
 cases h
theorem Omf(b table d:Nat)(hb:b<=table):∀(f n:Nat)(st:Vc)(e:Nat)(st':Vc),WF st->table<st.length->V29 E V s table d f n st=.ok (e,st')->(∃r,Rk st r)->Own b st ->(∃r,Rk st' r)/\Own b st'/\WF st'/\st.length<=st'.length/\V2q table st st':=by
 intro f
 induction f with
 |zero=>intro n st e st' _ _ h;simp[V29]at h
 |succ f ih =>
  intro n st e st' hw ht h hr ho;unfold V29 at h
  split at h;cases h
  cases h
  rename_i e1 st1 hp
  obtain⟨g1,g2,g3,g4,g5⟩:=O79 hV b table n d st e1 st1 hw hb ht hp hr ho;simp only at h
  split at h;simp only[V9.ok.injEq,U17]at h;obtain⟨rfl,rfl⟩:=h;exact⟨g1,g2,g3,g4,g5⟩
  split at h;obtain⟨k1,k2,k3,k4,k5⟩:=ih _ st1 e st' g3 Ya h g1 g2;exact⟨k1,k2,k3,Ya,g5.trans k5⟩
  cases h
theorem Oh3(d n:Nat)(st:Vc)(i e:Nat)(st':Vc)(hw:WF st)(h:V1h E V s d n st=.ok (i,e,st'))(hr:∃r,Rk st r):VR st i st':=by
 unfold V1h at h
 split at h;cases h
 split at h
 simp only at h;refine Z139 ?_;intro fD;obtain⟨r,hr⟩:=hr;have aZ:=hr.app hw V16 (λ x hx=>by cases hx);have sL:Own st.length (st++[V16]):=(O2r st).app _ (λ x hx=>by cases hx);have key:∀e1 st1,(if Va s (V7 s (n+1))=125 then V9.ok (V7 s (n+1),st++[V16]) else V29 E V s st.length d (s.length+2) (V7 s (n+1)) (st++[V16]))=.ok (e1,st1)->(∃r,Rk st1 r)/\Own st.length st1/\WF st1/\st.length<st1.length/\V2q st.length st st1:=by
  intro e1 st1 h
  split at h;simp only[V9.ok.injEq,U17]at h;obtain⟨rfl,rfl⟩:=h;exact⟨aZ,sL,fD,Yb,V2q.app _ _ _ (U12 _)⟩
  obtain⟨g1,g2,g3,g4,g5⟩:=Omf hV st.length st.length d (U12 _) _ _ _ _ _ fD Yb h aZ sL;exact⟨g1,g2,g3,by simp at g4;omega,(V2q.app _ _ _ (U12 _)).trans g5⟩
 split at h;cases h
 cases h
 rename_i e1 st1 hk
 obtain⟨⟨r2,g1⟩,g2,g3,g4,g5⟩:=key _ _ hk
 split at h
 simp only[V9.ok.injEq,U17]at h;obtain⟨rfl,rfl,rfl⟩:=h;have cw:∀(j:Nat) x,(st1.modify st.length λ nd=>{ nd with sp:=((n:Int),((e1+1:Nat):Int)) })[j]?=some x->∃y,st1[j]?=some y/\x.subs=y.subs/\x.kind=y.kind/\x.keys=y.keys/\x.spots=y.spots/\x.owner=y.owner:=by
  intro j x hx;rw[Of]at hx
  split at hx
  cases hg:st1[j]? with
  |none=>rw[hg]at hx;cases hx
  |some y=>rw[hg]at hx;simp only[U25,U1f]at hx;subst hx;exact⟨y,rfl,rfl,rfl,rfl,rfl,rfl⟩
  exact⟨x,hx,rfl,rfl,rfl,rfl,rfl⟩
 have ap:(st1.modify st.length λ nd=>{ nd with sp:=((n:Int),((e1+1:Nat):Int)) }).length=st1.length:=Yb;refine⟨λ j x hx=>?_,U12 _,by rw[ap];exact g4,λ j hj=>?_,⟨r2,λ j x hx y hy=>?_⟩,λ j x hb hx y hy=>?_⟩;obtain⟨z,hz,h1,h2,h3,h4,h5⟩:=cw j x hx;have q:=g3 j z hz;rw[ap];exact⟨λ hk=>by rw[h3,h4,h1];exact q.len (h2 ▸ hk),h1 ▸ q.up,λ y hy=>q.lt y (h1 ▸ hy),λ ho=>by rw[h2,h5];exact q.own (h5 ▸ ho)⟩;rw[Of,U1c Ya];exact g5 j hj;obtain⟨z,hz,Cn,_⟩:=cw j x hx;exact g1 j z hz y (Cn ▸ hy)
 obtain⟨z,hz,Cn,_⟩:=cw j x hx;exact g2 j z hb hz y (Cn ▸ hy)
 cases h
 cases h
theorem Ojj(d b:Nat):∀(f n:Nat)(subs:List Nat)(st:Vc)(l:List Nat)(e:Nat)(st':Vc),WF st->b<=st.length->V1f V s d f n subs st=.ok (l,e,st')->(∃r,Rk st r)->Own b st->subs.Pairwise (· < ·)->(∀x∈subs,b<=x/\x<st.length) ->(∃r,Rk st' r)/\Own b st'/\WF st'/\st.length<=st'.length/\V2q st.length st st'/\l.Pairwise (· < ·)/\∀x∈l,b<=x/\x<st'.length:=by
 intro f
 induction f with
 |zero=>intro n subs st l e st' _ _ h;simp[V1f]at h
 |succ f ih =>
  intro n subs st l e st' hw hb h hr ho MY cw;unfold V1f at h
  split at h;simp only[V9.ok.injEq,U17]at h;obtain⟨rfl,rfl,rfl⟩:=h;exact⟨hr,ho,hw,U12 _,V2q.refl _ _,MY,cw⟩
  split at h;cases h
  cases h
  rename_i i e1 st1 hv
  have q:=hV _ _ _ _ _ _ hw hv hr;have d8:=q.rk;have kz:=q.own;have vK:=q.lo;have Ax:=q.hi;have MZ:Own b st1:=ho.mono hb q.keep kz;have dX:∀x∈subs++[i],b<=x/\x<st1.length:=by
   intro x hx;rcases U29.1 hx with hx|hx
   have:=cw x hx;omega
   simp at hx;omega
  have CK:(subs++[i]).Pairwise (· < ·):=List.pairwise_append.2 ⟨MY,List.pairwise_singleton _ _,λ x hx y hy=>by
   have:=cw x hx;simp at hy;omega⟩
  split at h;cases h
  split at h;cases h
  split at h;simp only[V9.ok.injEq,U17]at h;obtain⟨rfl,rfl,rfl⟩:=h;exact⟨d8,MZ,q.wf,Ya,q.keep,CK,dX⟩
  split at h
  split at h;cases h
  obtain⟨k1,k2,k3,k4,k5,k6,k7⟩:=ih _ _ st1 l e st' q.wf Ya h d8 MZ CK dX;exact⟨k1,k2,k3,Ya,q.keep.trans (k5.mono Ya),k6,k7⟩
  cases h
theorem Ojk(d n:Nat)(st:Vc)(i e:Nat)(st':Vc)(hw:WF st)(h:V2a V s d n st=.ok (i,e,st'))(hr:∃r,Rk st r):VR st i st':=by
 unfold V2a at h
 split at h;cases h
 split at h;cases h
 split at h;cases h
 cases h
 rename_i subs e1 st1 hl
 obtain⟨⟨r,g1⟩,g2,g3,g5,g6,g7,g4⟩:=Ojj hV d st.length _ _ _ _ _ _ _ hw (U12 _) hl hr (O2r st) List.Pairwise.nil (λ x hx=>by cases hx)
 split at h;simp only[V9.ok.injEq,U17]at h;obtain⟨rfl,rfl,rfl⟩:=h;exact⟨g3.app _ ⟨λ hk=>(by cases hk),g7,λ x hx=>(by have:=(g4 x hx).2;omega),λ h=>absurd rfl h⟩,g5,Yb,g6.trans (V2q.app _ _ _ g5),g1.app g3 _ (λ x hx=>(g4 x hx).2),g2.app _ (λ x hx=>(g4 x hx).1)⟩
 cases h
end
theorem Oe1{st:Vc}(hw:WF st)(hr:∃r,Rk st r)(k:Nat)(t:Bs)(a b:Nat)(hk:k≠8):VR st st.length (st++[V4t k t a b]):=by
 obtain⟨r,hr⟩:=hr;exact⟨hw.app _ ⟨λ h=>absurd h hk,List.Pairwise.nil,λ x hx=>(by cases hx),λ h=>absurd rfl h⟩,U12 _,Yb,V2q.app _ _ _ (U12 _),hr.app hw _ (λ x hx=>by cases hx),(O2r st).app _ (λ x hx=>by cases hx)⟩
theorem O2c{E:Vv}(hE:V11 E)(s:Bs):∀f,VRk (Vz E s f):=by
 intro f
 induction f with
 |zero=>intro d n st i e st' _ h;simp[Vz]at h
 |succ f ih =>
  intro d n st i e st' hw h hr;unfold Vz at h;simp only at h
  split at h
  split at h;cases h
  cases h
  split at h;simp only[V9.ok.injEq,U17]at h;obtain⟨rfl,rfl,rfl⟩:=h;exact Oe1 hw hr _ _ _ _ Yd
  cases h
  split at h;exact Ojk ih d n st i e st' hw h hr
  split at h;exact Oh3 ih d n st i e st' hw h hr
  split at h;cases h
  cases h
  rename_i k t m hs
  split at h;simp only[V9.ok.injEq,U17]at h;obtain⟨rfl,rfl,rfl⟩:=h;exact Oe1 hw hr _ _ _ _ (by have:=(hE.scalK _ _ _ _ hs).2.2;omega)
  cases h
theorem O83(t:Bs):Op (10::t) := .inr ⟨10,t,rfl,Yb,λ h=>by (cases h)⟩
structure Vbq(E:Vv):Prop where
 str:∀l t k,E.str l=.ok (t,k)->l[k-1]?≠some 10
 scal:∀l k t m,E.scal l=.ok (k,t,m)->l[m-1]?≠some 10
structure V5p(x s1 s2:Bs)(a1 a2:Nat):Prop where
 c1:∃t,s1.drop a1=x++10::t
 c2:∃t,s2.drop a2=x++10::t
namespace V5p
variable {x s1 s2:Bs}{a1 a2:Nat}
theorem symm(T:V5p x s1 s2 a1 a2):V5p x s2 s1 a2 a1:=⟨T.c2,T.c1⟩
theorem len1(T:V5p x s1 s2 a1 a2):a1+x.length<s1.length:=by
 obtain⟨t,h⟩:=T.c1;have:=U2w List.length h;rw[U16]at this;simp only[U1b,U1d]at this;omega
theorem two(T:V5p x s1 s2 a1 a2):Two x s1 s2 a1 a2:=by
 obtain⟨t1,h1⟩:=T.c1;obtain⟨t2,h2⟩:=T.c2;exact⟨⟨_,O83 t1,h1⟩,⟨_,O83 t2,h2⟩,by have:=T.len1;omega,by have:=T.symm.len1;omega⟩
theorem d1(T:V5p x s1 s2 a1 a2){j:Nat}(hj:j<=x.length):∃t,s1.drop (a1+j)=x.drop j++10::t:=by
 obtain⟨t,h⟩:=T.c1;refine⟨t,?_⟩;rw[<-U2j,h,U3b,show j-x.length=0 by omega];rfl
theorem g1(T:V5p x s1 s2 a1 a2){j:Nat}(hj:j<=x.length):s1[a1+j]?=(x++[10])[j]?:=by
 obtain⟨t,h⟩:=T.c1;rw[<-U2y,h];by_cases hl:j<x.length;rw[U19 hl,U19 hl]
 have:j=x.length:=Ya;subst this;simp
theorem get(T:V5p x s1 s2 a1 a2){j:Nat}(hj:j<=x.length):s2[a2+j]?=s1[a1+j]?:=by rw[T.g1 hj,T.symm.g1 hj]
theorem byte(T:V5p x s1 s2 a1 a2){j:Nat}(hj:j<=x.length):Va s2 (a2+j)=Va s1 (a1+j):=by unfold Va;rw[T.get hj]
theorem bl1(T:V5p x s1 s2 a1 a2){j:Nat}(hj:j<=x.length):V7 s1 (a1+j)=a1+(j+Pl.blanks (x.drop j))/\j+Pl.blanks (x.drop j)<=x.length:=by
 obtain⟨t,h⟩:=T.d1 hj;have aP:=O2y (x.drop j);rw[U16]at aP;have:∀(u t:Bs),Pl.blanks (u++10::t)=Pl.blanks u:=by
  intro u t;unfold Pl.blanks;congr 1
  induction u with
  |nil=>rfl
  |cons a u ih=>rw[U1o,U1p,U1p,ih]
 unfold V7;rw[h,this];exact⟨Ya,Ya⟩
theorem isF(T:V5p x s1 s2 a1 a2)(ad:Bs):∀(j m:Nat),isF s1 (a1+j) ad=.ok m->m<=a1+x.length+1->m=a1+(j+ad.length)/\Pl.isF s2 (a2+j) ad=.ok (a2+(j+ad.length)):=by
 induction ad with
 |nil =>
  intro j m h hm;simp only[Pl.isF,V2x.ok.injEq]at h;exact⟨by simp only[U1q];omega,rfl⟩
 |cons w ws ih =>
  intro j m h hm;unfold Pl.isF at h⊢
  split at h
  rename_i hg
  have a9:=(U14.1 hg).1;have aP:=((V57 s1 ws (a1+j+1) Ya).1 _ h).1;rw[T.get Ya,U1a hg];rw[U28]at h⊢;obtain⟨h1,h2⟩:=ih (j+1) m h hm;refine⟨by simp only[U1d];omega,?_⟩;rw[h2];simp only[U1d];congr 1;omega
  cases h
theorem pre(T:V5p x s1 s2 a1 a2){j:Nat}(hj:j<=x.length)(p:Bs)(hp:∀c∈p,c≠10):Pl.pre (s2.drop (a2+j)) p=Pl.pre (s1.drop (a1+j)) p:=by
 obtain⟨t1,h1⟩:=T.d1 hj;obtain⟨t2,h2⟩:=T.symm.d1 hj;rw[h1,h2];generalize x.drop j=u
 induction p generalizing u with
 |nil=>cases u <;> rfl
 |cons a p ih =>
  cases u with
  |nil =>
   simp only[U2l,Pl.pre];have:(10:UInt8)≠a:=λ e=>hp a Yb e.symm
   have h2:((10:UInt8)==a)=false:=by simpa using this
   rw[h2];rfl
  |cons c u =>
   simp only[U1o,Pl.pre];rw[ih (λ c hc=>hp c (U24 _ hc)) u]
end V5p
section
variable {E:Vv}(hE:V11 E){x s1 s2:Bs}{a1 a2:Nat}(T:V5p x s1 s2 a1 a2)
include hE T
end
theorem Odb{E:Vv}{V:V1n}{s:Bs}(d n:Nat)(st:Vc)(i e:Nat)(st':Vc)(h:V1h E V s d n st=.ok (i,e,st')):∃nd,st'[i]?=some nd/\nd.sp=((n:Int),(e:Int)):=by
 unfold V1h at h
 split at h;cases h
 split at h
 simp only at h
 split at h;cases h
 cases h
 rename_i e1 st1 _
 split at h
 rename_i h8
 simp only[V9.ok.injEq,U17]at h;obtain⟨rfl,rfl,rfl⟩:=h;unfold kind8 at h8;cases hg:st1[st.length]? with
 |none=>rw[hg]at h8;simp at h8
 |some nd=>exact⟨_,by rw[Of,U1a rfl,hg];rfl,rfl⟩
 cases h
 cases h
theorem Of7{V:V1n}{s:Bs}(d n:Nat)(st:Vc)(i e:Nat)(st':Vc)(h:V2a V s d n st=.ok (i,e,st')):∃nd,st'[i]?=some nd/\nd.sp=((n:Int),(e:Int)):=by
 unfold V2a at h
 split at h;cases h
 split at h;cases h
 exact J142
theorem O6t{E:Vv}(s:Bs)(f d n:Nat)(st:Vc)(i e:Nat)(st':Vc)(h:Vz E s f d n st=.ok (i,e,st')):∃nd,st'[i]?=some nd/\nd.sp=((n:Int),(e:Int)):=by
 cases f with
 |zero=>simp[Vz]at h
 |succ f =>
  unfold Vz at h;simp only at h
  split at h;exact J142
  split at h;exact Of7 d n st i e st' h
  split at h;exact Odb d n st i e st' h
  exact J142
