/- The proof's part 26. -/
import Derived.Test.YtnkgknbdaiakgaaGreatDoorP21
set_option maxHeartbeats 16000000
set_option linter.all false
namespace Go.Proofs.YtnkgknbdaiakgaaGreatDoor.Pl
def Om(r:Bs):Prop:=r=[]\/∃c t,r=c::t/\(c=9\/c=10\/c=13\/c=32\/c=35\/c=44\/c=93\/c=125)/\(c=32->∀d t',t=d::t'->d.toNat<48\/57<d.toNat)
theorem O38{r:Bs}(h:Om r)(p:UInt8->Bool)(hp:∀c:UInt8,(c=9\/c=10\/c=13\/c=32\/c=35\/c=44\/c=93\/c=125)->p c=false)(u:Bs):(u++r).takeWhile p=u.takeWhile p:=by
 induction u with
 |nil =>
  rcases h with rfl|⟨c,t,rfl,hc,_⟩
  rfl
  rw[U1c,Uo,Ud (by rw[hp c hc];simp)];rfl
 |cons a u ih=>rw[Un,Uo,Uo,ih]
theorem Ox(u r:Bs)(k:Nat)(h:k<=u.length):(u++r).drop k=u.drop k++r:=by
 rw[U22,show k-u.length=0 by omega];rfl
theorem O43(f:Bs)(hf:∀w∈f,w=57\/w=45\/w=58)(u:Bs){r:Bs}(hr:Om r):Vv (u++r) f=Vv u f:=by
 induction f generalizing u with
 |nil=>unfold Vv;cases u <;> cases r <;> rfl
 |cons w f ih =>
  cases u with
  |nil =>
   rcases hr with rfl|⟨c,t,rfl,hc,_⟩
   rfl
   have hw:=hf w (by simp);have:V63 w c=false:=by
    rcases hw with rfl|rfl|rfl <;> rcases hc with rfl|rfl|rfl|rfl|rfl|rfl|rfl|rfl <;> decide
   rw[U1c];unfold Vv;rw[this,U3o]
  |cons c u =>
   rw[Un];unfold Vv;rw[ih (λ w hw=>hf w (U15 _ hw)) u]
theorem Oht(p:UInt8->Bool)(u:Bs){r:Bs}(hr:Om r)(hp:∀c:UInt8,(c=9\/c=10\/c=13\/c=32\/c=35\/c=44\/c=93\/c=125)->p c=false):Ve p (u++r)=Ve p u:=by
 cases u with
 |nil =>
  rcases hr with rfl|⟨c,t,rfl,hc,_⟩
  rfl
  exact hp c hc
 |cons c u=>rfl
theorem O62(u:Bs){r:Bs}(hr:Om r):Vi (u++r)=Vi u:=by
 unfold Vi;rw[O43 V4f (by decide) u hr]
 split
 rename_i h
 have hl:=V36 _ _ h;have h8:V4f.length=8:=rfl;rw[U1s (by omega),Ox u r 8 (by omega),Oht V2p _ hr (by rintro c (rfl|rfl|rfl|rfl|rfl|rfl|rfl|rfl) <;> decide)];cases hd:Ve V2p (u.drop 8) with
 |false=>rfl
 |true =>
  have h9:9<=u.length:=by
   cases hu:u.drop 8 with
   |nil=>rw[hu]at hd;cases hd
   |cons c v =>
    exact J53
  rw[Ox u r 9 h9,O38 hr O2 (by rintro c (rfl|rfl|rfl|rfl|rfl|rfl|rfl|rfl) <;> decide)]
 rfl
theorem Odn(u:Bs){r:Bs}(hr:Om r):V22 (u++r)=V22 u:=by
 cases u with
 |nil =>
  rcases hr with rfl|⟨c,t,rfl,hc,_⟩
  rfl
  rw[U1c];unfold V22;have h1:¬(c.toNat=90\/c.toNat=122):=by rcases hc with rfl|rfl|rfl|rfl|rfl|rfl|rfl|rfl <;> decide
  have h2:Vq c=false:=by rcases hc with rfl|rfl|rfl|rfl|rfl|rfl|rfl|rfl <;> decide
  simp only;rw[Ud h1,h2];rfl
 |cons c u =>
  rw[Un];unfold V22;simp only;rw[O43 V44 (by decide) u hr]
  split;rfl
  split
  rename_i h
  simp only[Uf]at h;have hl:=V36 _ _ h.2;have h5:V44.length=5:=rfl;rw[<-Un,U1s (by simp;omega)]
  rfl
theorem Ock(u:Bs){r:Bs}(hr:Om r):Vf (u++r)=Vf u:=by
 unfold Vf;rw[O43 V49 (by decide) u hr]
 split
 rename_i h
 have hl:=V36 _ _ h;have bD:V49.length=10:=rfl;rw[U1s (by omega),Ox u r 10 (by omega)];by_cases Ea:11<=u.length
 have hh:Ve V4a (u.drop 10++r)=Ve V4a (u.drop 10):=by
  cases hu:u.drop 10 with
  |nil =>
   have:=U1q List.length hu;rw[U3]at this;simp only[Ur]at this;omega
  |cons c v=>rfl
 rw[hh,Ox u r 11 Ea,O62 _ hr]
 split
 have hc:=V4q (u.drop 11);rw[U3]at hc;obtain⟨t,p,Bo⟩:∃t p,Vi (u.drop 11)=(t,p):=⟨_,_,rfl⟩
 rw[Bo]at hc⊢;simp only at hc⊢;rw[Ox u r _ (by omega),Odn _ hr]
 rfl
 have hu:u.drop 10=[]:=Ut (by omega);rw[hu,U1c];have h2:Ve V4a ([]:Bs)=false:=rfl;rw[h2];rcases hr with rfl|⟨c,t,rfl,hc,ht⟩
 rfl
 by_cases xc:c=32
 subst xc;have hd:(u++32::t).drop 11=t:=by
  rw[U22,Ut (by omega),show 11-u.length=1 by omega];rfl
 rw[hd];have hf:Vv t V4f=false:=by
  cases t with
  |nil=>rfl
  |cons d t' =>
   have:=ht rfl d t' rfl;unfold V4f Vv;have GU:V63 57 d=false:=by
    unfold V63;rw[Ua (by decide)];simp only[Bool.and_eq_false_iff,decide_eq_false_iff_not];omega
   rw[GU,U3o]
 have cX:Vi t=([],[]):=by unfold Vi;rw[hf];rfl
 rw[cX];rfl
 have:Ve V4a (c::t)=false:=by
  show V4a c=false;rcases hc with rfl|rfl|rfl|rfl|rfl|rfl|rfl|rfl <;> first|decide|exact absurd rfl xc
 rw[this];rfl
 rw[O62 _ hr]
theorem Ohu(u:Bs){r:Bs}(hr:Om r):V3f (u++r)=V3f u:=by
 unfold V3f;exact O38 hr V39 (by rintro c (rfl|rfl|rfl|rfl|rfl|rfl|rfl|rfl) <;> decide) u
theorem O44(u:Bs){r:Bs}(hr:Om r):Vd (u++r)=Vd u:=by
 unfold Vd;rw[Ock u hr,Ohu u hr,U1s (V55 u)]
def Loc{α : Type}(F:Bs->Va (α×Nat)):Prop:=∀x r1 r2 v k,Om r1->Om r2->F (x++r1) = .ok (v,k)->k<=x.length->F (x++r2) = .ok (v,k)
structure V10(E:Vz):Prop where
 strT:∀l,E.str l ≠ .non
 strK:∀l t k,E.str l = .ok (t,k)->1<=k/\k<=l.length
 strB:∀l c p,E.str l = .bad c p->p<=l.length/\c≠0
 strL:Loc E.str
 scalT:∀l,E.scal l ≠ .non
 scalK:∀l k t m,E.scal l = .ok (k,t,m)->1<=m/\m<=l.length/\k<7
 scalB:∀l c p,E.scal l = .bad c p->c≠0
 scalL:∀x r1 r2 k t m,Om r1->Om r2->E.scal (x++r1) = .ok (k,t,m)->m<=x.length->E.scal (x++r2) = .ok (k,t,m)
theorem Ofl{s:Bs}{n:Nat}(h:n<s.length):V9 s n=(s[n]).toNat:=by
 unfold V9;rw[Uh h]
theorem Oen:∀(f:Nat)(l:Bs),(∀k,V4y f l = .ok k->k<=l.length)/\(∀c p,V4y f l = .bad c p->p<=l.length/\c=3):=by
 intro f
 induction f with
 |zero=>intro l;exact⟨λ k h=>by simp[V4y]at h;omega,λ c p h=>by simp[V4y]at h⟩
 |succ f ih =>
  intro l;unfold V4y;cases hs:V1r l with
  |bad c p =>
   refine⟨λ k h=>by (simp at h),λ c' p' h=>?_⟩;cases h;unfold V1r at hs;simp only at hs
   split at hs <;> cases hs
   rename_i hh
   have:=U1q List.length hh;rw[U3]at this;simp at this;exact⟨by omega,rfl⟩
  |ok n =>
   have hn:=O4o l n hs;cases n with
   |zero=>exact⟨λ k h=>by (simp only[V2x.ok.injEq]at h;omega),λ c p h=>by (simp at h)⟩
   |succ n =>
    obtain⟨i1,i2⟩:=ih (l.drop (n+1));rw[U3]at i1 i2;simp only;cases hg:V4y f (l.drop (n+1)) with
    |ok k=>exact⟨λ k' h=>by (simp only[V2x.ok.injEq]at h;have:=i1 k hg;omega),λ c p h=>by (simp at h)⟩
    |bad c p =>
     refine⟨λ k h=>by (simp at h),λ c' p' h=>?_⟩;cases h;have:=i2 _ _ hg;exact⟨by omega,this.2⟩
theorem Oy{s:Bs}{n g:Nat}(h:Vt s n = .ok g)(hn:n<=s.length):n<=g/\g<=s.length:=by
 unfold Vt gap at h
 split at h;cases h
 rename_i k hk
 have:=(Oen _ _).1 _ hk;rw[U3]at this;exact J38
theorem O3m{s:Bs}{n c p:Nat}(h:Vt s n = .bad c p)(hn:n<=s.length):p<=s.length/\c≠0:=by
 unfold Vt gap at h
 split at h
 rename_i c' p' hk
 have:=(Oen _ _).2 _ _ hk;rw[U3]at this;cases h;exact⟨by omega,by omega⟩
 cases h
theorem O57(l:Bs)(h:long l=true):3<=l.length:=by
 unfold long at h
 split at h <;> simp_all
theorem word_le{E:Vz}(hE:V10 E){s:Bs}{n:Nat}(hn:n<=s.length):(∀t e,V3w E s n = .ok (t,e)->n<e/\e<=s.length)/\(∀c p,V3w E s n = .bad c p->p<=s.length/\c≠0)/\V3w E s n ≠ .non:=by
 unfold V3w
 split
 rename_i hl
 have:=O57 _ hl;rw[U3]at this;exact J74
 split
 rename_i hb
 cases hs:E.str (s.drop n) with
 |non=>exact absurd hs (hE.strT _)
 |bad c p =>
  have:=hE.strB _ _ _ hs;rw[U3]at this;exact⟨λ t e h=>by (simp at h),λ c' p' h=>by (cases h;exact⟨by omega,this.2⟩),by simp⟩
 |ok r =>
  obtain⟨t,k⟩:=r;have:=hE.strK _ _ _ hs;rw[U3]at this;exact J74
 rename_i hb
 have h2:V16 (s.drop n)<=(s.drop n).length:=Vg _ _;rw[U3]at h2;exact J74
theorem Omy{E:Vz}(hE:V10 E){s:Bs}:∀(f n:Nat)(acc:List KW),n<=s.length->s.length<n+f ->
    (∀ws e,V4c E s f n acc = .ok (ws,e)->n<e/\e<=s.length/\∃t,ws=acc++t/\t≠[]/\(∀x∈t,n<=x.2.1/\x.2.1<x.2.2/\x.2.2<=e)/\t.getLast?.map (·.2.2)=some e)/\(∀c p,V4c E s f n acc = .bad c p->p<=s.length/\c≠0)/\V4c E s f n acc ≠ .non:=by
 intro f
 induction f with
 |zero=>intro n acc h1 h2;omega
 |succ f ih =>
  intro n acc hn hf;obtain⟨w1,w2,w3⟩:=word_le hE hn;unfold V4c;cases hw:V3w E s n with
  |non=>exact absurd hw w3
  |bad c p=>exact⟨λ ws e h=>by (simp at h),λ c' p' h=>by (cases h;exact w2 _ _ hw),by simp⟩
  |ok r =>
   obtain⟨t,e0⟩:=r;obtain⟨h1,h2⟩:=w1 _ _ hw;have hb:=V8 s e0 h2;simp only
   split
   rename_i hd
   have aa:=byteAt_lt hd (by decide);have aA:=V8 s (V7 s e0+1) (by omega);obtain⟨i1,i2,i3⟩:=ih (V7 s (V7 s e0+1)) (acc++[(t,n,e0)]) (by omega) (by omega);refine⟨λ ws e h=>?_,i2,i3⟩;obtain⟨h3,h4,t',rfl,h5,h6,h7⟩:=i1 _ _ h;refine⟨by omega,h4,(t,n,e0)::t',by simp,by simp,?_,?_⟩
   intro x hx;rcases U1k.1 hx with rfl|hx
   exact⟨U2 _,h1,by simp only;omega⟩
   obtain⟨a1,a2,a3⟩:=h6 x hx;exact⟨by omega,a2,a3⟩
   cases t' with
   |nil=>exact absurd rfl h5
   |cons y l=>rw[List.getLast?_cons_cons];exact h7
   refine⟨λ ws e h=>?_,λ c p h=>by (simp at h),by simp⟩;simp only[Va.ok.injEq,U6]at h;obtain⟨rfl,rfl⟩:=h;refine⟨h1,h2,[(t,n,e0)],rfl,by simp,?_,rfl⟩;intro x hx;rw[U13]at hx;subst hx;exact⟨U2 _,h1,U2 _⟩
theorem O_s{E:Vz}(hE:V10 E){s:Bs}{n:Nat}(hn:n<=s.length) :
    (∀ws e,V1k E s n = .ok (ws,e)->n<e/\e<=s.length/\ws≠[]/\(∀x∈ws,n<=x.2.1/\x.2.1<x.2.2/\x.2.2<=e)/\ws.getLast?.map (·.2.2)=some e)/\(∀c p,V1k E s n = .bad c p->p<=s.length/\c≠0)/\V1k E s n ≠ .non:=by
 obtain⟨h1,h2,h3⟩:=Omy hE (s:=s) (s.length+2) n [] hn (by omega);refine⟨λ ws e h=>?_,h2,h3⟩;obtain⟨a,b,t,rfl,c,d,e'⟩:=h1 _ _ h;exact⟨a,b,c,d,e'⟩
def VLe(s:Bs)(V:V24):Prop:=∀d n st,n<=s.length->(∀i e st',V d n st = .ok (i,e,st')->n<e/\e<=s.length)/\(∀c p,V d n st = .bad c p->p<=s.length/\c≠0)
theorem Omz(table:Nat)(M:Nat):∀(ws:List KW)(into d:Nat)(st:Vc)(c p:Nat),V3m table ws into d st = .bad c p->(∀x∈ws,x.2.1<=M)->p<=M/\c≠0:=by
 intro ws
 induction ws with
 |nil=>intro into d st c p h;simp[V3m]at h
 |cons x rest ih =>
  intro into d st c p h hM;obtain⟨w,a,b⟩:=x;have ha:a<=M:=hM (w,a,b) (by simp);have hr:∀x∈rest,x.2.1<=M:=λ x hx=>hM x (U15 _ hx)
  unfold V3m at h
  split at h;cases h
  split at h;cases h;exact⟨ha,by decide⟩
  split at h;exact ih _ _ _ _ _ h hr
  cases h;exact⟨ha,by decide⟩
  split at h;cases h
  split at h;cases h;exact⟨ha,by decide⟩
  split at h;exact ih _ _ _ _ _ h hr
  cases h
theorem O58{E:Vz}(hE:V10 E){s:Bs}{V:V24}(hV:VLe s V)(table n d:Nat)(st:Vc)(hn:n<=s.length) :
    (∀e st',V1s E V s table n d st = .ok (e,st')->n<e/\e<=s.length)/\(∀c p,V1s E V s table n d st = .bad c p->p<=s.length/\c≠0):=by
 obtain⟨k1,k2,k3⟩:=O_s hE hn;unfold V1s;cases hk:V1k E s n with
 |non=>exact absurd hk k3
 |bad c p=>exact⟨λ e st' h=>by (simp at h),λ c' p' h=>by (cases h;exact k2 _ _ hk)⟩
 |ok r =>
  obtain⟨ws,e⟩:=r;obtain⟨h1,h2,h3,h4,h5⟩:=k1 _ _ hk;simp only;cases hw:V3m table ws table d st with
  |non=>exact⟨λ e st' h=>by (simp at h),λ c' p' h=>by (simp at h)⟩
  |bad c p=>exact⟨λ e st' h=>by (simp at h),λ c' p' h=>by (cases h;exact Omz table s.length ws _ _ _ _ _ hw (λ x hx=>by have:=h4 x hx;omega))⟩
  |ok r2 =>
   obtain⟨into,d',st'⟩:=r2;have hb:=V8 s e h2;simp only
   split
   rename_i eV
   have aa:=byteAt_lt eV (by decide);have aA:=V8 s (V7 s e+1) (by omega);obtain⟨v1,v2⟩:=hV (d'+1) (V7 s (V7 s e+1)) st' (by omega);cases hv:V (d'+1) (V7 s (V7 s e+1)) st' with
   |non=>exact⟨λ e st' h=>by (simp at h),λ c' p' h=>by (simp at h)⟩
   |bad c p=>exact⟨λ e st' h=>by (simp at h),λ c' p' h=>by (cases h;exact v2 _ _ hv)⟩
   |ok r3 =>
    obtain⟨i,e2,st2⟩:=r3;obtain⟨g1,g2⟩:=v1 _ _ _ hv;simp only
    split;exact⟨λ e st' h=>by (simp at h),λ c' p' h=>by (simp at h)⟩
    split;exact J76
    exact⟨λ e st' h=>by (simp at h),λ c' p' h=>by (simp at h)⟩
   exact J75
theorem O4l{E:Vz}(hE:V10 E){s:Bs}{V:V24}(hV:VLe s V)(table d:Nat):∀(f n:Nat)(st:Vc),n<=s.length ->
    (∀e st',V2g E V s table d f n st = .ok (e,st')->n<e/\e<s.length)/\(∀c p,V2g E V s table d f n st = .bad c p->p<=s.length/\c≠0):=by
 intro f
 induction f with
 |zero=>intro n st hn;exact⟨λ e st' h=>by (simp[V2g]at h),λ c' p' h=>by (simp[V2g]at h)⟩
 |succ f ih =>
  intro n st hn;obtain⟨p1,p2⟩:=O58 hE hV table n d st hn;unfold V2g;cases hp:V1s E V s table n d st with
  |non=>exact⟨λ e st' h=>by (simp at h),λ c' p' h=>by (simp at h)⟩
  |bad c p=>exact⟨λ e st' h=>by (simp at h),λ c' p' h=>by (cases h;exact p2 _ _ hp)⟩
  |ok r =>
   obtain⟨e,st1⟩:=r;obtain⟨h1,h2⟩:=p1 _ _ hp;have hb:=V8 s e h2;simp only
   split
   rename_i h3
   have:=byteAt_lt h3 (by decide);exact J76
   split
   rename_i h3
   have aa:=byteAt_lt h3 (by decide);have aA:=V8 s (V7 s e+1) (by omega);obtain⟨i1,i2⟩:=ih (V7 s (V7 s e+1)) st1 (by omega);exact⟨λ e' st' h=>by (have:=i1 _ _ h;omega),i2⟩
   exact J75
theorem Ohv{E:Vz}(hE:V10 E){s:Bs}{V:V24}(hV:VLe s V)(d n:Nat)(st:Vc)(hn:n<s.length) :
    (∀i e st',V1z E V s d n st = .ok (i,e,st')->n<e/\e<=s.length)/\(∀c p,V1z E V s d n st = .bad c p->p<=s.length/\c≠0):=by
 have hb:=V8 s (n+1) (by omega);unfold V1z
 split;exact J78
 split
 simp only
 split;exact J77
 rename_i c p hp
 refine⟨λ i e st' h=>by (simp at h),λ c' p' h=>?_⟩;cases h
 split at hp;cases hp
 exact (O4l hE hV _ _ _ _ _ hb.2).2 _ _ hp
 rename_i e1 st1 hp
 have:n<e1/\e1<s.length:=by
  split at hp
  rename_i h3
  have:=byteAt_lt h3 (by decide);cases hp;omega
  have:=(O4l hE hV _ _ _ _ _ hb.2).1 _ _ hp;omega
 split;exact J122
 exact J77
 exact J77
theorem O3n{s:Bs}{V:V24}(hV:VLe s V)(d:Nat):∀(f n:Nat)(subs:List Nat)(st:Vc),n<=s.length ->
    (∀l e st',V1h V s d f n subs st = .ok (l,e,st')->n<=e/\e<s.length)/\(∀c p,V1h V s d f n subs st = .bad c p->p<=s.length/\c≠0):=by
 intro f
 induction f with
 |zero=>intro n subs st hn;exact⟨λ l e st' h=>by (simp[V1h]at h),λ c' p' h=>by (simp[V1h]at h)⟩
 |succ f ih =>
  intro n subs st hn;unfold V1h
  split
  rename_i h3
  have:=byteAt_lt h3 (by decide);exact J122
  obtain⟨v1,v2⟩:=hV (d+1) n st hn;cases hv:V (d+1) n st with
  |non=>exact⟨λ l e st' h=>by (simp at h),λ c' p' h=>by (simp at h)⟩
  |bad c p=>exact⟨λ l e st' h=>by (simp at h),λ c' p' h=>by (cases h;exact v2 _ _ hv)⟩
  |ok r =>
   obtain⟨i,e,st1⟩:=r;obtain⟨h1,h2⟩:=v1 _ _ _ hv;simp only
   split;exact⟨λ l e st' h=>by (simp at h),λ c' p' h=>by (simp at h)⟩
   cases hg:Vt s e with
   |bad c p=>exact⟨λ l e st' h=>by (simp at h),λ c' p' h=>by (cases h;exact O3m hg h2)⟩
   |ok g =>
    obtain⟨g1,g2⟩:=Oy hg h2;simp only
    split
    rename_i h3
    have:=byteAt_lt h3 (by decide);exact J122
    split
    rename_i h3
    have aa:=byteAt_lt h3 (by decide);cases cP:Vt s (g+1) with
    |bad c p=>exact⟨λ l e st' h=>by (simp at h),λ c' p' h=>by (cases h;exact O3m cP (by omega))⟩
    |ok g' =>
     obtain⟨g3,g4⟩:=Oy cP (by omega);obtain⟨i1,i2⟩:=ih g' (subs++[i]) st1 g4;exact⟨λ l e st' h=>by (have:=i1 _ _ _ h;omega),i2⟩
    exact⟨λ l e st' h=>by (simp at h),λ c' p' h=>by (cases h;exact⟨g2,by decide⟩)⟩
theorem Ok8{s:Bs}{V:V24}(hV:VLe s V)(d n:Nat)(st:Vc)(hn:n<s.length) :
    (∀i e st',V2s V s d n st = .ok (i,e,st')->n<e/\e<=s.length)/\(∀c p,V2s V s d n st = .bad c p->p<=s.length/\c≠0):=by
 unfold V2s
 split;exact J78
 cases hg:Vt s (n+1) with
 |bad c p=>exact⟨λ l e st' h=>by (simp at h),λ c' p' h=>by (cases h;exact O3m hg (by omega))⟩
 |ok g =>
  obtain⟨g1,g2⟩:=Oy hg (by omega);obtain⟨l1,l2⟩:=O3n hV d (s.length+2) g [] st g2;simp only
  split;exact J77
  rename_i c p hp
  exact⟨λ i e st' h=>by (simp at h),λ c' p' h=>by (cases h;exact l2 _ _ hp)⟩
  rename_i subs e st1 hp
  have:=l1 _ _ _ hp
  split;exact J122
  exact J77
theorem O16{E:Vz}(hE:V10 E)(s:Bs):∀f,VLe s (V19 E s f):=by
 intro f
 induction f with
 |zero=>intro d n st hn;exact⟨λ i e st' h=>by (simp[V19]at h),λ c p h=>by (simp[V19]at h)⟩
 |succ f ih =>
  intro d n st hn;unfold V19;simp only
  split
  cases hs:E.str (s.drop n) with
  |non=>exact absurd hs (hE.strT _)
  |bad c p =>
   have:=hE.strB _ _ _ hs;rw[U3]at this;exact⟨λ i e st' h=>by (simp at h),λ c' p' h=>by (cases h;exact⟨by omega,this.2⟩)⟩
  |ok r =>
   obtain⟨t,m⟩:=r;have:=hE.strK _ _ _ hs;rw[U3]at this;simp only
   split;exact J122
   exact J77
  split
  rename_i h3
  exact Ok8 ih d n st (byteAt_lt h3 (by decide))
  split
  rename_i h3
  exact Ohv hE ih d n st (byteAt_lt h3 (by decide))
  cases hs:E.scal (s.drop n) with
  |non=>exact absurd hs (hE.scalT _)
  |bad c p=>exact⟨λ i e st' h=>by (simp at h),λ c' p' h=>by (cases h;exact⟨hn,hE.scalB _ _ _ hs⟩)⟩
  |ok r =>
   obtain⟨k,t,m⟩:=r;have:=hE.scalK _ _ _ _ hs;rw[U3]at this;simp only
   split;exact J122
   exact J77
structure Wn(N i:Nat)(nd:Nd):Prop where
 len:nd.kind=8->nd.keys.length=nd.subs.length/\nd.spots.length=nd.subs.length
 up:nd.subs.Pairwise (· < ·)
 lt:∀x∈nd.subs,x<N
 own:nd.owner≠0->nd.kind=8/\nd.owner<=i
def WF(st:Vc):Prop:=∀i nd,st[i]?=some nd->Wn st.length i nd
def V3d(b:Nat)(st st':Vc):Prop:=∀j,j<b->st'[j]?=st[j]?
theorem V3d.refl(b:Nat)(st:Vc):V3d b st st:=λ _ _=>rfl
theorem V3d.trans{b:Nat}{x y z:Vc}(h:V3d b x y)(k:V3d b y z):V3d b x z:=λ j hj=>(k j hj).trans (h j hj)
theorem V3d.mono{b b':Nat}{x y:Vc}(h:V3d b x y)(hb:b'<=b):V3d b' x y:=λ j hj=>h j (by omega)
theorem V3d.app(st t:Vc)(b:Nat)(hb:b<=st.length):V3d b st (st++t):=λ j hj=>U9 (by omega)
theorem O4m(l:List Nat)(N:Nat)(hu:l.Pairwise (· < ·))(hl:∀x∈l,x<N):l.length<=N:=by
 induction l generalizing N with
 |nil=>simp
 |cons a l ih =>
  have h1:=List.pairwise_cons.1 hu;have hm:∀(l:List Nat)(a N:Nat),(∀x∈l,a<x)->l.Pairwise (· < ·)->(∀x∈l,x<N)->a<N->l.length+a<N:=by
   intro l
   induction l with
   |nil=>intro a N _ _ _ h;simpa using h
   |cons b l ih =>
    intro a N h1 h2 h3 h4;have h5:=List.pairwise_cons.1 h2;have:=ih b N h5.1 h5.2 (λ x hx=>h3 x (U15 _ hx)) (h3 b (by simp));have:=h1 b (by simp);simp;omega
  have:=hm l a N h1.1 h1.2 (λ x hx=>hl x (U15 _ hx)) (hl a (by simp));simp;omega
theorem Wn.mono{N M i:Nat}{nd:Nd}(h:Wn N i nd)(hm:N<=M):Wn M i nd:=⟨h.len,h.up,λ x hx=>U4 (h.lt x hx) hm,h.own⟩
theorem WF.app{st:Vc}(h:WF st)(nd:Nd)(hn:Wn (st.length+1) st.length nd):WF (st++[nd]):=by
 intro i x hx;rw[Ug,U19];by_cases hi:i<st.length;rw[U9 hi]at hx;exact (h i x hx).mono (by omega)
 have h2:=(U7.1 hx).1;simp only[Ug,U19]at h2;have:i=st.length:=by omega
 subst this;simp at hx;subst hx;exact hn
theorem Oz(st:Vc)(t j:Nat)(f:Nd->Nd):(st.modify t f)[j]?=if t=j then st[j]?.map f else st[j]?:=by
 rw[U2n]
 split <;> simp_all
theorem O13(st:Vc)(t j i:Nat)(w:Bs)(sp:Nat×Nat):(Vo st t w sp i)[j]?=if t=j then st[j]?.map (λ nd=>Vy nd w sp i) else st[j]?:=by
 unfold Vo;rw[U2n]
 split <;> simp
theorem WF.put{st:Vc}(h:WF st)(t i:Nat)(w:Bs)(sp:Nat×Nat)(nd:Nd)(ht:st[t]?=some nd)(hi:∀x∈nd.subs,x<i)(hl:i<st.length):WF (Vo st t w sp i):=by
 intro j x hx;rw[O13]at hx;have ao:(Vo st t w sp i).length=st.length:=by unfold Vo;simp
 rw[ao]
 split at hx
 rename_i e
 subst e;rw[ht]at hx;simp only[U18,Uc]at hx;subst hx;have h0:=h t nd ht;refine⟨λ hk=>?_,?_,?_,h0.own⟩;have:=h0.len hk;simp only[Vy,Ug,U19];omega;exact J161
 exact J186
 exact h j x hx
theorem O59{st:Vc}(h:WF st)(hs:st.length<=20000000)(t:Nat)(nd:Nd)(ht:st[t]?=some nd)(hk:nd.kind=8):kind8 st t=true:=by
 have h0:=h t nd ht;have h1:=O4m _ _ h0.up h0.lt;have h2:=h0.len hk;unfold kind8;rw[ht];simp only[Uf,Ux,U1v];omega
theorem O21{st:Vc}(hs:st.length<=20000000):room st=true:=by unfold room;simpa using hs
theorem O3o{E:Vz}(hE:V10 E){s:Bs}:∀(f n:Nat)(acc ws:List KW)(e:Nat),n<=s.length->V4c E s f n acc = .ok (ws,e)->ws.length+n<=acc.length+e:=by
 intro f
 induction f with
 |zero=>intro n acc ws e _ h;simp[V4c]at h
 |succ f ih =>
  intro n acc ws e hn h;unfold V4c at h;cases hw:V3w E s n with
  |non=>rw[hw]at h;cases h
  |bad c p=>rw[hw]at h;cases h
  |ok r =>
   obtain⟨t,e0⟩:=r;obtain⟨h1,h2⟩:=(word_le hE hn).1 _ _ hw;have hb:=V8 s e0 h2;rw[hw]at h;simp only at h
   split at h
   rename_i hd
   have aa:=byteAt_lt hd (by decide);have aA:=V8 s (V7 s e0+1) (by omega);have:=ih _ _ _ _ aA.2 h;simp only[Ug,U19]at this;omega
   simp only[Va.ok.injEq,U6]at h;obtain⟨rfl,rfl⟩:=h;simp only[Ug,U19];omega
structure Vd2(table:Nat)(st:Vc)(d k:Nat)(into d':Nat)(st':Vc):Prop where
 wf:WF st'
 len:st'.length<=st.length+k
 ge:st.length<=st'.length
 keep:V3d table st st'
 tab:table<=into
 at':∃nd,st'[into]?=some nd/\nd.kind=8
 kind:∀(j:Nat) nd,st[j]?=some nd->∃nd',st'[j]?=some nd'/\nd'.kind=nd.kind/\nd'.owner=nd.owner
 dep:d<=d'
theorem Ooc(table:Nat):∀(ws:List KW)(into d:Nat)(st:Vc),ws≠[]->WF st->st.length+ws.length<=20000000->table<=into->(∃nd,st[into]?=some nd/\nd.kind=8) ->
    V3m table ws into d st ≠ .non/\∀ax d' st',V3m table ws into d st = .ok (ax,d',st')->Vd2 table st d (ws.length-1) ax d' st':=by
 intro ws
 induction ws with
 |nil=>intro into d st h;exact absurd rfl h
 |cons x rest ih =>
  intro into d st _ hw hs xB ⟨nd,bP,be⟩;obtain⟨w,a,b⟩:=x;have Bw:=hw into nd bP;have Lw:=Bw.len be;simp only[Ub]at hs;have dZ:V12 st into w = .no\/∃i,V12 st into w = .yes i/\i<st.length:=by
   unfold V12;rw[bP];simp only;cases hf:nd.keys.findIdx? (λ x=>x==w) with
   |none=>exact .inl rfl
   |some j =>
    right;have hj:=(List.findIdx?_eq_some_iff_findIdx_eq.1 hf).1;have pv:j<nd.subs.length:=by omega
    simp only;rw[Uh pv];have:=Bw.lt _ (U2v pv);simp only;rw[Ua this];exact⟨_,rfl,this⟩
  unfold V3m;rcases dZ with qZ|⟨i,GV,hi⟩
  rw[qZ];simp only;cases rest with
  |nil =>
   refine⟨by simp,λ ax d' st' h=>?_⟩;simp only[Va.ok.injEq,U6]at h;obtain⟨rfl,rfl,rfl⟩:=h;exact⟨hw,by simp,U2 _,V3d.refl _ _,xB,⟨nd,bP,be⟩,λ j nd h=>⟨nd,h,rfl,rfl⟩,U2 _⟩
  |cons y r2 =>
   simp only[Ub]at hs⊢
   split;exact J152
   rw[O59 hw (by omega) into nd bP be,O21 (by omega)];simp only[Bool.and_self,U1j];have aa:into<st.length:=(U7.1 bP).1;have fZ:WF (st++[V2b (table+1)]):=by
    refine hw.app _ ⟨λ _=>⟨rfl,rfl⟩,List.Pairwise.nil,λ x hx=>(by cases hx),λ _=>⟨rfl,?_⟩⟩;show table+1<=st.length;omega
   have xC:(st++[V2b (table+1)])[into]?=some nd:=by rw[U9 aa];exact bP
   have fh:WF (Vo (st++[V2b (table+1)]) into w (a,b) st.length):=fZ.put into st.length w (a,b) nd xC Bw.lt (by simp);have Bx:(Vo (st++[V2b (table+1)]) into w (a,b) st.length).length=st.length+1:=by unfold Vo;simp
   have bU:(Vo (st++[V2b (table+1)]) into w (a,b) st.length)[st.length]?=some (V2b (table+1)):=by
    rw[O13,Ud (by omega)];simp
   obtain⟨i1,i2⟩:=ih st.length (d+1) (Vo (st++[V2b (table+1)]) into w (a,b) st.length) (by simp) fh (by rw[Bx];simp only[Ub];omega) (by omega) ⟨_,bU,rfl⟩;refine⟨i1,λ ax d' st' h=>?_⟩;have q:=i2 _ _ _ h;have iH:V3d table st (Vo (st++[V2b (table+1)]) into w (a,b) st.length):=λ j hj=>by
    rw[O13,Ud (by omega),U9 (by omega)]
   refine⟨q.wf,?_,by have:=q.ge;omega,iH.trans q.keep,q.tab,q.at',λ j x hx=>?_,by have:=q.dep;omega⟩;have:=q.len;simp only[Ub]at this⊢;omega
   have hj:j<st.length:=(U7.1 hx).1;have:∃x1,(Vo (st++[V2b (table+1)]) into w (a,b) st.length)[j]?=some x1/\x1.kind=x.kind/\x1.owner=x.owner:=by
    rw[O13,U9 hj,hx]
    split;exact⟨_,rfl,rfl,rfl⟩
    exact⟨_,rfl,rfl,rfl⟩
   obtain⟨x1,e1,e2,e3⟩:=this;obtain⟨x2,f1,f2,f3⟩:=q.kind j x1 e1;exact⟨x2,f1,by rw[f2,e2],by rw[f3,e3]⟩
  rw[GV];simp only;cases rest with
  |nil=>exact⟨by simp,λ ax d' st' h=>by simp at h⟩
  |cons y r2 =>
   simp only[Ub]at hs⊢
   split
   rename_i ho
   have GX:=Uh hi;unfold V37 at ho;rw[GX]at ho;simp only at ho;have Ed:=(hw i _ GX).own (by omega);obtain⟨i1,i2⟩:=ih i (d+1) st (by simp) hw (by simp only[Ub];omega) (by omega) ⟨_,GX,Ed.1⟩;refine⟨i1,λ ax d' st' h=>?_⟩;have q:=i2 _ _ _ h;exact⟨q.wf,by have:=q.len;simp only[Ub]at this⊢;omega,q.ge,q.keep,q.tab,q.at',q.kind,by have:=q.dep;omega⟩
   exact J152
structure V8y(st:Vc)(i e:Nat)(st':Vc):Prop where
 wf:WF st'
 len:st'.length<=e
 lo:st.length<=i
 hi:i<st'.length
 keep:V3d st.length st st'
def V8e(s:Bs)(D:Nat)(V:V24):Prop:=∀d n st,D<=d->WF st->st.length<=n->n<=s.length->V d n st ≠ .non/\∀i e st',V d n st = .ok (i,e,st')->V8y st i e st'
theorem Ohw{E:Vz}(hE:V10 E){s:Bs}(hs:s.length<=20000000){V:V24}(hV:VLe s V){D:Nat}(hT:V8e s D V)(table n d:Nat)(st:Vc)(hD:D<=d+1)(hw:WF st)(hl:st.length<=n)(hn:n<=s.length)
    (ht:∃nd,st[table]?=some nd/\nd.kind=8) :
    V1s E V s table n d st ≠ .non/\∀e st',V1s E V s table n d st = .ok (e,st')->WF st'/\st'.length<=e/\st.length<=st'.length/\V3d table st st'/\∃nd,st'[table]?=some nd/\nd.kind=8:=by
 obtain⟨k1,k2,k3⟩:=O_s hE hn;unfold V1s;cases hk:V1k E s n with
 |non=>exact absurd hk k3
 |bad c p=>exact⟨by simp,λ e st' h=>by simp at h⟩
 |ok r =>
  obtain⟨ws,e⟩:=r;obtain⟨h1,h2,h3,h4,h5⟩:=k1 _ _ hk;have pi:=O3o hE _ _ _ _ _ hn hk;simp only[Ur]at pi;have eu:0<ws.length:=U2b.2 h3;obtain⟨w1,w2⟩:=Ooc table ws table d st h3 hw (by omega) (U2 _) ht;simp only;cases Lx:V3m table ws table d st with
  |non=>exact absurd Lx w1
  |bad c p=>exact⟨by simp,λ e st' h=>by simp at h⟩
  |ok r2 =>
   obtain⟨into,d',st1⟩:=r2;have q:=w2 _ _ _ Lx;have hb:=V8 s e h2;simp only
   split
   rename_i eV
   have aa:=byteAt_lt eV (by decide);have aA:=V8 s (V7 s e+1) (by omega);have zx:=q.len;have DO:=q.ge;have SX:=q.dep;obtain⟨v1,v2⟩:=hT (d'+1) (V7 s (V7 s e+1)) st1 (by omega) q.wf (by omega) (by omega);have aK:=hV (d'+1) (V7 s (V7 s e+1)) st1 (by omega);cases hv:V (d'+1) (V7 s (V7 s e+1)) st1 with
   |non=>exact absurd hv v1
   |bad c p=>exact⟨by simp,λ e st' h=>by simp at h⟩
   |ok r3 =>
    obtain⟨i,e2,st2⟩:=r3;have g:=v2 _ _ _ hv;have hg:=aK.1 _ _ _ hv;obtain⟨nd,bP,be⟩:=q.at';have eK:into<st1.length:=(U7.1 bP).1;have td:st2[into]?=some nd:=(g.keep into eK).trans bP;have fO:=g.len;have cP:=g.lo;have dQ:=g.hi;have h8:=O59 g.wf (by omega) into nd td be;simp only;cases aY:ws.getLast? with
    |none=>rw[U31]at aY;exact absurd aY h3
    |some kw =>
     obtain⟨w,a,b⟩:=kw;simp only;rw[h8,Ua rfl];refine⟨by simp,λ e' st' h=>?_⟩;simp only[Va.ok.injEq,U6]at h;obtain⟨rfl,rfl⟩:=h;have ao:(Vo st2 into w (a,b) i).length=st2.length:=by unfold Vo;simp
     have nY:=(q.wf into nd bP).lt;refine⟨g.wf.put into i w (a,b) nd td (λ x hx=>by have:=nY x hx;omega) dQ,by omega,by omega,?_,?_⟩;intro j hj;have:=q.tab;rw[O13,Ud (by omega),g.keep j (by omega)];exact q.keep j hj
     obtain⟨nt,zY,A0⟩:=ht;obtain⟨n1,e1,Ly,e3⟩:=q.kind table nt zY;have sO:table<st1.length:=(U7.1 e1).1;have e4:st2[table]?=some n1:=(g.keep table sO).trans e1;rw[O13,e4]
     split;exact⟨_,rfl,by show n1.kind=8;rw[Ly,A0]⟩
     exact⟨_,rfl,by rw[Ly,A0]⟩
   exact⟨by simp,λ e st' h=>by simp at h⟩
theorem Ok9{E:Vz}(hE:V10 E){s:Bs}(hs:s.length<=20000000){V:V24}(hV:VLe s V){D:Nat}(hT:V8e s D V)(table d:Nat)(hD:D<=d+1):∀(f n:Nat)(st:Vc),s.length<n+f->WF st->st.length<=n->n<=s.length->(∃nd,st[table]?=some nd/\nd.kind=8) ->
    V2g E V s table d f n st ≠ .non/\∀e st',V2g E V s table d f n st = .ok (e,st')->WF st'/\st'.length<=e/\st.length<=st'.length/\V3d table st st'/\∃nd,st'[table]?=some nd/\nd.kind=8:=by
 intro f
 induction f with
 |zero=>intro n st h1 _ _ h2;omega
 |succ f ih =>
  intro n st hf hw hl hn ht;obtain⟨p1,p2⟩:=Ohw hE hs hV hT table n d st hD hw hl hn ht;have pl:=(O58 hE hV table n d st hn).1;unfold V2g;cases hp:V1s E V s table n d st with
  |non=>exact absurd hp p1
  |bad c p=>exact⟨by simp,λ e st' h=>by simp at h⟩
  |ok r =>
   obtain⟨e,st1⟩:=r;obtain⟨h1,h2⟩:=pl _ _ hp;obtain⟨q1,q2,q3,q4,q5⟩:=p2 _ _ hp;have hb:=V8 s e h2;simp only
   split;refine⟨by simp,λ e' st' h=>?_⟩;simp only[Va.ok.injEq,U6]at h;obtain⟨rfl,rfl⟩:=h;exact⟨q1,by omega,q3,q4,q5⟩
   split
   rename_i h3
   have aa:=byteAt_lt h3 (by decide);have aA:=V8 s (V7 s e+1) (by omega);obtain⟨i1,i2⟩:=ih (V7 s (V7 s e+1)) st1 (by omega) q1 (by omega) aA.2 q5;refine⟨i1,λ e' st' h=>?_⟩;obtain⟨r1,r2,r3,r4,r5⟩:=i2 _ _ h;exact⟨r1,r2,by omega,q4.trans r4,r5⟩
   exact⟨by simp,λ e st' h=>by simp at h⟩
theorem Ofm{E:Vz}(hE:V10 E){s:Bs}(hs:s.length<=20000000){V:V24}(hV:VLe s V){D:Nat}(hT:V8e s D V)(d n:Nat)(st:Vc)(hD:D<=d+1)(hw:WF st)(hl:st.length<=n)(hn:n<s.length) :
    V1z E V s d n st ≠ .non/\∀i e st',V1z E V s d n st = .ok (i,e,st')->V8y st i e st':=by
 have hb:=V8 s (n+1) (by omega);refine Z203 ?_;intro fZ;have gj:(st++[V1f]).length=st.length+1:=by simp
 have ht:∃nd,(st++[V1f])[st.length]?=some nd/\nd.kind=8:=⟨V1f,by simp,rfl⟩
 obtain⟨t1,t2⟩:=Ok9 hE hs hV hT st.length d hD (s.length+2) (V7 s (n+1)) (st++[V1f]) (by omega) fZ (by omega) hb.2 ht;have tl:=(O4l hE hV st.length d (s.length+2) (V7 s (n+1)) (st++[V1f]) hb.2).1;unfold V1z
 split;exact J152
 rw[O21 (by omega),Ua rfl];simp only;obtain⟨Y,hY⟩:∃Y:Va (Nat×Vc),(if V9 s (V7 s (n+1))=125 then Va.ok (V7 s (n+1),st++[V1f]) else V2g E V s st.length d (s.length+2) (V7 s (n+1)) (st++[V1f]))=Y:=⟨_,rfl⟩
 rw[hY];have bH:Y ≠ .non/\∀e st',Y = .ok (e,st')->WF st'/\st'.length<=e+1/\st.length+1<=st'.length/\V3d st.length (st++[V1f]) st'/\(∃nd,st'[st.length]?=some nd/\nd.kind=8)/\e<s.length:=by
  split at hY
  rename_i h3
  have aa:=byteAt_lt h3 (by decide);subst hY;refine⟨by simp,λ e st' h=>?_⟩;simp only[Va.ok.injEq,U6]at h;obtain⟨rfl,rfl⟩:=h;exact⟨fZ,by omega,by omega,V3d.refl _ _,ht,aa⟩
  subst hY;refine⟨t1,λ e st' h=>?_⟩;obtain⟨a1,a2,a3,a4,a5⟩:=t2 _ _ h;exact⟨a1,by omega,by omega,a4,a5,(tl _ _ h).2⟩
 clear hY t1 t2 tl;cases Y with
 |non=>exact absurd rfl bH.1
 |bad c p=>exact⟨by simp,λ i e st' h=>by simp at h⟩
 |ok r =>
  obtain⟨e1,st1⟩:=r;obtain⟨a1,a2,a3,a4,⟨nd,a5,a6⟩,a7⟩:=bH.2 _ _ rfl;simp only;rw[O59 a1 (by omega) st.length nd a5 a6,Ua rfl];refine⟨by simp,λ i e st' h=>?_⟩;simp only[Va.ok.injEq,U6]at h;obtain⟨rfl,rfl,rfl⟩:=h;refine⟨?_,by simp;omega,U2 _,by simp;omega,?_⟩
  intro j x hx;rw[Oz]at hx;rw[List.length_modify]
  split at hx
  rename_i e
  subst e;rw[a5]at hx;simp at hx;subst hx;have h0:=a1 _ _ a5;exact⟨h0.len,h0.up,h0.lt,h0.own⟩
  exact a1 j x hx
  intro j hj;rw[Oz,Ud (by omega),a4 j hj,U9 hj]
theorem Ohx{s:Bs}(hs:s.length<=20000000){V:V24}(hV:VLe s V){D:Nat}(hT:V8e s D V)(d:Nat)(hD:D<=d+1):∀(f n:Nat)(subs:List Nat)(st:Vc),s.length<n+f->WF st->st.length<=n->n<=s.length->subs.Pairwise (· < ·)->(∀x∈subs,x<st.length) ->
    V1h V s d f n subs st ≠ .non/\∀l e st',V1h V s d f n subs st = .ok (l,e,st')->WF st'/\st'.length<=e/\st.length<=st'.length/\V3d st.length st st'/\l.Pairwise (· < ·)/\(∀x∈l,x<st'.length):=by
 intro f
 induction f with
 |zero=>intro n subs st h1 _ _ h2;omega
 |succ f ih =>
  intro n subs st hf hw hl hn hu aa;have nY:=O4m _ _ hu aa;unfold V1h
  split;refine⟨by simp,λ l e st' h=>?_⟩;simp only[Va.ok.injEq,U6]at h;obtain⟨rfl,rfl,rfl⟩:=h;exact⟨hw,hl,U2 _,V3d.refl _ _,hu,aa⟩
  obtain⟨v1,v2⟩:=hT (d+1) n st hD hw hl hn;have vl:=(hV (d+1) n st hn).1;cases hv:V (d+1) n st with
  |non=>exact absurd hv v1
  |bad c p=>exact⟨by simp,λ l e st' h=>by simp at h⟩
  |ok r =>
   obtain⟨i,e,st1⟩:=r;obtain⟨h1,h2⟩:=vl _ _ _ hv;have q:=v2 _ _ _ hv;have q1:=q.len;have q2:=q.lo;have q3:=q.hi;have Lz:(subs++[i]).Pairwise (· < ·):=by
    rw[List.pairwise_append];exact⟨hu,List.pairwise_singleton _ _,λ a ha b hb=>by rw[U13]at hb;have:=aa a ha;omega⟩
   have lq:∀x∈subs++[i],x<st1.length:=λ x hx=>by
    rcases U1t.1 hx with hx|hx
    have:=aa x hx;omega
    rw[U13]at hx;omega
   simp only;rw[Ud (by omega)];cases hg:Vt s e with
   |bad c p=>exact⟨by simp,λ l e st' h=>by simp at h⟩
   |ok g =>
    obtain⟨g1,g2⟩:=Oy hg h2;simp only
    split;refine⟨by simp,λ l e' st' h=>?_⟩;simp only[Va.ok.injEq,U6]at h;obtain⟨rfl,rfl,rfl⟩:=h;exact⟨q.wf,by omega,by omega,q.keep,Lz,lq⟩
    split
    rename_i h3
    have Pf:=byteAt_lt h3 (by decide);cases cP:Vt s (g+1) with
    |bad c p=>exact⟨by simp,λ l e st' h=>by simp at h⟩
    |ok g' =>
     obtain⟨g3,g4⟩:=Oy cP (by omega);obtain⟨i1,i2⟩:=ih g' (subs++[i]) st1 (by omega) q.wf (by omega) g4 Lz lq;refine⟨i1,λ l e' st' h=>?_⟩;obtain⟨r1,r2,r3,r4,r5,r6⟩:=i2 _ _ _ h;exact⟨r1,r2,by omega,q.keep.trans (r4.mono (by omega)),r5,r6⟩
    exact J79
theorem Ohy{s:Bs}(hs:s.length<=20000000){V:V24}(hV:VLe s V){D:Nat}(hT:V8e s D V)(d n:Nat)(st:Vc)(hD:D<=d+1)(hw:WF st)(hl:st.length<=n)(hn:n<s.length) :
    V2s V s d n st ≠ .non/\∀i e st',V2s V s d n st = .ok (i,e,st')->V8y st i e st':=by
 unfold V2s
 split;exact J152
 cases hg:Vt s (n+1) with
 |bad c p=>exact⟨by simp,λ l e st' h=>by simp at h⟩
 |ok g =>
  obtain⟨g1,g2⟩:=Oy hg (by omega);obtain⟨l1,l2⟩:=Ohx hs hV hT d hD (s.length+2) g [] st (by omega) hw (by omega) g2 List.Pairwise.nil (λ x hx=>by cases hx);have ll:=(O3n hV d (s.length+2) g [] st g2).1;simp only;cases hf:V1h V s d (s.length+2) g [] st with
  |non=>exact absurd hf l1
  |bad c p=>exact⟨by simp,λ l e st' h=>by simp at h⟩
  |ok r =>
   obtain⟨subs,e,st1⟩:=r;obtain⟨a1,a2,a3,a4,a5,a6⟩:=l2 _ _ _ hf;have:=ll _ _ _ hf;simp only;rw[O21 (by omega),Ua rfl];refine⟨by simp,λ i e' st' h=>?_⟩;simp only[Va.ok.injEq,U6]at h;obtain⟨rfl,rfl,rfl⟩:=h;refine⟨a1.app _ ⟨λ hk=>(by cases hk),a5,λ x hx=>by have:=a6 x hx;omega,λ hk=>absurd rfl hk⟩,by simp;omega,a3,by simp,a4.trans (V3d.app _ _ _ a3)⟩
theorem Ofn{E:Vz}(hE:V10 E)(s:Bs)(hs:s.length<=20000000):∀f,V8e s (259-f) (V19 E s f)\/f=0:=by
 intro f
 induction f with
 |zero=>exact .inr rfl
 |succ f ih =>
  left;intro d n st hD hw hl hn;unfold V19;simp only;have jQ:∀(d:Nat),259-(f+1)<=d->d<=256->V8e s (259-f) (V19 E s f)/\259-f<=d+1:=by
   intro d h1 h2;refine⟨ih.resolve_right (by omega),by omega⟩
  split
  cases kB:E.str (s.drop n) with
  |non=>exact absurd kB (hE.strT _)
  |bad c p=>exact⟨by simp,λ l e st' h=>by simp at h⟩
  |ok r =>
   obtain⟨t,m⟩:=r;have:=hE.strK _ _ _ kB;rw[U3]at this;simp only;rw[O21 (by omega),Ua rfl];refine⟨by simp,λ i e' st' h=>?_⟩;simp only[Va.ok.injEq,U6]at h;obtain⟨rfl,rfl,rfl⟩:=h;exact⟨hw.app _ ⟨λ hk=>(by cases hk),List.Pairwise.nil,λ x hx=>(by cases hx),λ hk=>absurd rfl hk⟩,by simp;omega,U2 _,by simp,V3d.app _ _ _ (U2 _)⟩
  split
  rename_i h3
  have aa:=byteAt_lt h3 (by decide);by_cases hd:256<d;unfold V2s;rw[Ua hd];exact J79
  obtain⟨j1,j2⟩:=jQ d hD (by omega);exact Ohy hs (O16 hE s f) j1 d n st j2 hw hl aa
  split
  rename_i h3
  have aa:=byteAt_lt h3 (by decide);by_cases hd:256<d;unfold V1z;rw[Ua hd];exact J79
  obtain⟨j1,j2⟩:=jQ d hD (by omega);exact Ofm hE hs (O16 hE s f) j1 d n st j2 hw hl aa
  cases kB:E.scal (s.drop n) with
  |non=>exact absurd kB (hE.scalT _)
  |bad c p=>exact⟨by simp,λ l e st' h=>by simp at h⟩
  |ok r =>
   obtain⟨k,t,m⟩:=r;have:=hE.scalK _ _ _ _ kB;rw[U3]at this;simp only;rw[O21 (by omega),Ua rfl];refine⟨by simp,λ i e' st' h=>?_⟩;simp only[Va.ok.injEq,U6]at h;obtain⟨rfl,rfl,rfl⟩:=h;exact⟨hw.app _ ⟨λ hk=>by (have cS:k=8:=hk;omega),List.Pairwise.nil,λ x hx=>(by cases hx),λ hk=>absurd rfl hk⟩,by simp;omega,U2 _,by simp,V3d.app _ _ _ (U2 _)⟩
theorem O2e{E:Vz}(hE:V10 E)(s:Bs)(hs:s.length<=20000000)(n k:Nat)(hn:n<=s.length) :
    V1l E s n k ≠ .non/\(∀c p,V1l E s n k = .bad c p->p<=s.length/\c≠0)/\(∀i e st,V1l E s n k = .ok (i,e,st)->n<e/\e<=s.length/\V8y [] i e st):=by
 have h0:WF ([]:Vc):=λ i nd h=>by simp at h
 obtain⟨h1,h2⟩:=(Ofn hE s hs 258).resolve_right (by decide) (min k 256+1) n [] (by omega) h0 (by simp) hn;obtain⟨h3,h4⟩:=O16 hE s 258 (min k 256+1) n [] hn;exact⟨h1,h4,λ i e st h=>⟨(h3 _ _ _ h).1,(h3 _ _ _ h).2,h2 _ _ _ h⟩⟩
structure Two(x s1 s2:Bs)(a1 a2:Nat):Prop where
 l1:∃r,Om r/\s1.drop a1=x++r
 l2:∃r,Om r/\s2.drop a2=x++r
 h1:a1+x.length<=s1.length
 h2:a2+x.length<=s2.length
theorem Ocl(p:UInt8->Bool)(u r:Bs)(h:((u++r).takeWhile p).length<u.length):(u++r).takeWhile p=u.takeWhile p:=by
 induction u with
 |nil=>simp at h
 |cons a u ih =>
  rw[Un,Uo]at h;exact J80
theorem O8h(p:UInt8->Bool)(u r:Bs)(h:(u.takeWhile p).length<u.length):(u++r).takeWhile p=u.takeWhile p:=by
 induction u with
 |nil=>simp at h
 |cons a u ih =>
  rw[Uo]at h;exact J80
theorem O29(p:UInt8->Bool)(u r r':Bs)(h:((u++r).takeWhile p).length<u.length):(u++r').takeWhile p=(u++r).takeWhile p:=by
 have h1:=Ocl p u r h;rw[h1]at h⊢;exact O8h p u r' h
inductive V53 {α β : Type}(R : α -> β -> Prop):List α -> List β -> Prop
 |nil:V53 R [] []
 |cons {a b l m}:R a b->V53 R l m->V53 R (a::l) (b::m)
theorem V53.app{α β : Type}{R : α -> β -> Prop}{l l':List α}{m m':List β}(h:V53 R l m)(h':V53 R l' m'):V53 R (l++l') (m++m'):=by
 induction h with
 |nil=>exact h'
 |cons a _ ih=>exact .cons a ih
theorem V53.len{α β : Type}{R : α -> β -> Prop}{l:List α}{m:List β}(h:V53 R l m):l.length=m.length:=by
 induction h with
 |nil=>rfl
 |cons a _ ih=>simp[ih]
theorem V53.last{α β : Type}{R : α -> β -> Prop}{l:List α}{m:List β}(h:V53 R l m):(l.getLast?=none/\m.getLast?=none)\/∃a b,l.getLast?=some a/\m.getLast?=some b/\R a b:=by
 induction h with
 |nil=>exact .inl ⟨rfl,rfl⟩
 |cons a t ih =>
  right;cases t with
  |nil=>exact⟨_,_,rfl,rfl,a⟩
  |cons b t =>
   rcases ih with ih|⟨x,y,h1,h2,h3⟩
   simp at ih
   exact⟨x,y,by rw[List.getLast?_cons_cons];exact h1,by rw[List.getLast?_cons_cons];exact h2,h3⟩
namespace Two
variable {x s1 s2:Bs}{a1 a2:Nat}
theorem symm(T:Two x s1 s2 a1 a2):Two x s2 s1 a2 a1:=⟨T.l2,T.l1,T.h2,T.h1⟩
theorem d1(T:Two x s1 s2 a1 a2){j:Nat}(hj:j<=x.length):∃r,Om r/\s1.drop (a1+j)=x.drop j++r:=by
 obtain⟨r,hr,he⟩:=T.l1;refine⟨r,hr,?_⟩;rw[<-U16,he,U22,show j-x.length=0 by omega];rfl
theorem d2(T:Two x s1 s2 a1 a2){j:Nat}(hj:j<=x.length):∃r,Om r/\s2.drop (a2+j)=x.drop j++r:=T.symm.d1 hj
theorem b1(T:Two x s1 s2 a1 a2){j:Nat}(hj:j<x.length):V9 s1 (a1+j)=(x[j]).toNat:=by
 obtain⟨r,_,he⟩:=T.l1;have:s1[a1+j]?=some x[j]:=by
  rw[<-U1f,he,U9 hj,Uh hj]
 unfold V9;rw[this]
theorem byte(T:Two x s1 s2 a1 a2){j:Nat}(hj:j<x.length):V9 s2 (a2+j)=V9 s1 (a1+j):=by rw[T.b1 hj,T.symm.b1 hj]
theorem blanks(T:Two x s1 s2 a1 a2){j k:Nat}(h:V7 s1 (a1+j)=a1+k)(hk:k<x.length):V7 s2 (a2+j)=a2+k/\j<=k:=by
 unfold V7 Pl.blanks at h⊢;have hj:j<=k:=by omega
 obtain⟨r,hr,he⟩:=T.d1 (j:=j) (by omega);obtain⟨r',eH,pK⟩:=T.d2 (j:=j) (by omega);rw[he]at h;rw[pK,O29 _ _ r r' (by rw[U3];omega)];omega
end Two
theorem Ofo(u r r':Bs)(h:comment (u++r)<u.length):comment (u++r')=comment (u++r):=by
 match u,h with
 |[],h=>simp at h
 |a::u,h =>
  rw[Un]at h⊢;rw[Un];by_cases ha:a=35;subst ha;simp only[comment]at h⊢;rw[O29 _ u r r' (by simp only[Ub]at h;omega)]
  unfold comment
  split;exact J163
  split;exact J163
  rfl
theorem O8i(u r r':Bs)(m:Nat)(h:V1r (u++r) = .ok m)(hm:m<u.length):V1r (u++r') = .ok m:=by
 have hc:=O31 ((u++r).drop (blanks (u++r)));have jn:blanks (u++r)+comment ((u++r).drop (blanks (u++r)))<=m:=by
  unfold V1r at h;simp only at h
  split at h <;> cases h <;> omega
 have hb:blanks (u++r')=blanks (u++r):=by
  unfold blanks;rw[O29 _ u r r' (by unfold blanks at jn;omega)]
 have hd:(u++r).drop (blanks (u++r))=u.drop (blanks (u++r))++r:=by
  rw[U22,show blanks (u++r)-u.length=0 by omega];rfl
 have LA:(u++r').drop (blanks (u++r))=u.drop (blanks (u++r))++r':=by
  rw[U22,show blanks (u++r)-u.length=0 by omega];rfl
 have jI:comment ((u++r').drop (blanks (u++r)))=comment ((u++r).drop (blanks (u++r))):=by
  rw[hd,LA];rw[hd]at jn;exact Ofo _ r r' (by rw[U3];omega)
 unfold V1r at h⊢;simp only at h⊢;rw[hb,jI];generalize blanks (u++r)+comment ((u++r).drop (blanks (u++r)))=q at h jn⊢;have e1:(u++r).drop q=u.drop q++r:=by rw[U22,show q-u.length=0 by omega];rfl
 have e2:(u++r').drop q=u.drop q++r':=by rw[U22,show q-u.length=0 by omega];rfl
 rw[e1]at h;rw[e2];have hl:(u.drop q).length=u.length-q:=U3;generalize u.drop q=w at h hl⊢
 match w,h,hl with
 |[],_,hl=>simp at hl;omega
 |[a],h,hl =>
  simp only[Ub,Ur]at hl;simp only[Un,U1c]at h⊢;by_cases bD:a=10;subst bD;simp only at h;exact J38
  by_cases eS:a=13
  subst eS
  split at h;exact J38;rename_i e;simp at e;cases h
  exact J84
  exact J83
 |a::b::w,h,hl =>
  simp only[Un]at h⊢;by_cases bD:a=10;subst bD;simpa using h
  by_cases eS:a=13
  subst eS;by_cases hb:b=10;subst hb;simpa using h
  split at h;rename_i e;simp only[U1a]at e;exact absurd e.2.1 hb;rename_i e;simp at e;cases h
  exact J84
  exact J83
theorem Ood:∀(N:Nat)(u r r':Bs)(k:Nat),u.length<=N->gap (u++r) = .ok k->k<u.length->gap (u++r') = .ok k:=by
 intro N
 induction N with
 |zero=>intro u r r' k h1 _ h2;omega
 |succ N ih =>
  intro u r r' k hN h hk;rw[O2m]at h;cases hs:V1r (u++r) with
  |bad c p=>rw[hs]at h;cases h
  |ok m =>
   rw[hs]at h;cases m with
   |zero =>
    simp only at h;cases h;rw[O2m,O8i u r r' 0 hs hk]
   |succ m =>
    simp only at h;cases hg:gap ((u++r).drop (m+1)) with
    |bad c p=>rw[hg]at h;cases h
    |ok q =>
     rw[hg]at h;simp only[V2x.ok.injEq]at h;have e1:(u++r).drop (m+1)=u.drop (m+1)++r:=by rw[U22,show m+1-u.length=0 by omega];rfl
     have e2:(u++r').drop (m+1)=u.drop (m+1)++r':=by rw[U22,show m+1-u.length=0 by omega];rfl
     rw[O2m,O8i u r r' (m+1) hs (by omega)];simp only;rw[e2,ih (u.drop (m+1)) r r' q (by rw[U3];omega) (by rw[<-e1];exact hg) (by rw[U3];omega)];simp only;rw[h]
theorem Two.gap{x s1 s2:Bs}{a1 a2:Nat}(T:Two x s1 s2 a1 a2){j k:Nat}(hj:j<=x.length)(h:Vt s1 (a1+j) = .ok (a1+k))(hk:k<x.length):Vt s2 (a2+j) = .ok (a2+k)/\j<=k:=by
 have aK:=Oy h (by have:=T.h1;omega);obtain⟨r,hr,he⟩:=T.d1 (j:=j) hj;obtain⟨r',eH,pK⟩:=T.d2 (j:=j) hj;refine⟨?_,by omega⟩;unfold Vt at h⊢;rw[he]at h;rw[pK];cases hg:Pl.gap (x.drop j++r) with
 |bad c p=>rw[hg]at h;cases h
 |ok q =>
  rw[hg]at h;simp only[V2x.ok.injEq]at h;rw[Ood _ (x.drop j) r r' q (U2 _) hg (by rw[U3];omega)];simp only;congr 1;omega
theorem O39(u:Bs){r:Bs}(h:Om r):long (u++r)=long u:=by
 rcases h with rfl|⟨c,t,rfl,hc,_⟩
 rw[U2g]
 have kP:c≠34/\c≠39:=by rcases hc with rfl|rfl|rfl|rfl|rfl|rfl|rfl|rfl <;> decide
 match u with
 |[]=>simp only[U1c];unfold long;split <;> simp_all
 |[a]=>simp only[Un,U1c];unfold long;split <;> simp_all
 |[a,b]=>simp only[Un,U1c];unfold long;split <;> simp_all
 |a::b::d::u =>
  simp only[Un];unfold long;by_cases h1:a=34/\b=34/\d=34;obtain⟨rfl,rfl,rfl⟩:=h1;rfl
  by_cases h2:a=39/\b=39/\d=39;obtain⟨rfl,rfl,rfl⟩:=h2;rfl
  split;rename_i e;simp only[U1a]at e;exact absurd ⟨e.1,e.2.1,e.2.2.1⟩ h1;rename_i e;simp only[U1a]at e;exact absurd ⟨e.1,e.2.1,e.2.2.1⟩ h2
  split;rename_i e;simp only[U1a]at e;exact absurd ⟨e.1,e.2.1,e.2.2.1⟩ h1;rename_i e;simp only[U1a]at e;exact absurd ⟨e.1,e.2.1,e.2.2.1⟩ h2
  rfl
theorem O8j(u:Bs){r:Bs}(h:Om r):V16 (u++r)=V16 u:=by
 unfold V16;rw[O38 h V2j (by rintro c (rfl|rfl|rfl|rfl|rfl|rfl|rfl|rfl) <;> decide)]
theorem Ocm{E:Vz}(hE:V10 E){x s1 s2:Bs}{a1 a2:Nat}(T:Two x s1 s2 a1 a2){j e:Nat}{t:Bs}(hj:j<=x.length)(h:V3w E s1 (a1+j) = .ok (t,e))(he:e<=a1+x.length) :
    ∃k,e=a1+k/\j<k/\V3w E s2 (a2+j) = .ok (t,a2+k):=by
 have aK:=(word_le hE (s:=s1) (n:=a1+j) (by have:=T.h1;omega)).1 _ _ h;obtain⟨k,rfl⟩:∃k,e=a1+k:=⟨e-a1,by omega⟩
 refine⟨k,rfl,by omega,?_⟩;obtain⟨r,hr,pL⟩:=T.d1 (j:=j) hj;obtain⟨r',eH,mM⟩:=T.d2 (j:=j) hj;unfold V3w V3r at h⊢;rw[pL,O39 _ hr,O8j _ hr]at h;rw[mM,O39 _ eH,O8j _ eH]
 split at h
 rename_i hl
 rw[Ua hl];simp only[Va.ok.injEq,U6]at h⊢;exact⟨h.1,by omega⟩
 rename_i hl
 rw[Ud hl]
 split at h
 rename_i hb
 rw[Ua hb];cases hs:E.str (x.drop j++r) with
 |non=>rw[hs]at h;cases h
 |bad c p=>rw[hs]at h;cases h
 |ok v =>
  obtain⟨t',q⟩:=v;rw[hs]at h;simp only[Va.ok.injEq,U6]at h;rw[hE.strL (x.drop j) r r' t' q hr eH hs (by rw[U3];omega)];simp only[Va.ok.injEq,U6];exact⟨h.1,by omega⟩
 rename_i hb
 rw[Ud hb];have aN:V16 (x.drop j)<=(x.drop j).length:=Vg _ _;simp only[Va.ok.injEq,U6]at h⊢;refine⟨?_,by omega⟩;rw[<-h.1,List.take_append,List.take_append,show V16 (x.drop j)-(x.drop j).length=0 by omega];simp
def KR(a1 a2:Nat)(v w:KW):Prop:=v.1=w.1/\∃p q,v.2=(a1+p,a1+q)/\w.2=(a2+p,a2+q)
theorem O5a{E:Vz}(hE:V10 E){x s1 s2:Bs}{a1 a2:Nat}(T:Two x s1 s2 a1 a2):∀(f1 f2 j e:Nat)(pM pN ws:List KW),j<=x.length->s2.length<a2+j+f2->V53 (KR a1 a2) pM pN ->
    V4c E s1 f1 (a1+j) pM = .ok (ws,e)->V7 s1 e<a1+x.length->∃k e9,e=a1+k/\j<k/\k<x.length/\V4c E s2 f2 (a2+j) pN = .ok (e9,a2+k)/\V53 (KR a1 a2) ws e9:=by
 intro f1
 induction f1 with
 |zero=>intro f2 j e pM pN ws _ _ _ h;simp[V4c]at h
 |succ f1 ih =>
  intro f2 j e pM pN ws hj hf dE h bY;have T1:=T.h1;have T2:=T.h2
  match f2,hf with
  |0,hf=>omega
  |f2+1,hf =>
  unfold V4c at h⊢;cases hw:V3w E s1 (a1+j) with
  |non=>rw[hw]at h;cases h
  |bad c p=>rw[hw]at h;cases h
  |ok r =>
   obtain⟨t,e0⟩:=r;have fZ:=(word_le hE (s:=s1) (n:=a1+j) (by omega)).1 _ _ hw;have hb:=V8 s1 e0 fZ.2;rw[hw]at h;simp only at h
   split at h
   rename_i hd
   have aa:=byteAt_lt hd (by decide);have aA:=V8 s1 (V7 s1 e0+1) (by omega);have jR:V7 s1 (V7 s1 e0+1)<=e/\e<=s1.length:=by
    have q:∀(f n:Nat)(acc ws:List KW)(e:Nat),n<=s1.length->V4c E s1 f n acc = .ok (ws,e)->n<=e/\e<=s1.length:=by
     intro f
     induction f with
     |zero=>intro n acc ws e _ h;simp[V4c]at h
     |succ f ih =>
      intro n acc ws e hn h;unfold V4c at h;cases hw:V3w E s1 n with
      |non=>rw[hw]at h;cases h
      |bad c p=>rw[hw]at h;cases h
      |ok r =>
       obtain⟨t,e0⟩:=r;obtain⟨h1,h2⟩:=(word_le hE hn).1 _ _ hw;have hb:=V8 s1 e0 h2;rw[hw]at h;simp only at h
       split at h
       rename_i hd
       have aa:=byteAt_lt hd (by decide);have aA:=V8 s1 (V7 s1 e0+1) (by omega);have:=ih _ _ _ _ aA.2 h;omega
       simp only[Va.ok.injEq,U6]at h;omega
    exact q _ _ _ _ _ aA.2 h
   have jb:=V8 s1 e jR.2;obtain⟨k,hk,ru,fh⟩:=Ocm hE T hj hw (by omega);rw[fh];simp only;subst hk;obtain⟨k1,bx⟩:∃k1,V7 s1 (a1+k)=a1+k1:=⟨V7 s1 (a1+k)-a1,by omega⟩
   rw[bx]at hd h aa hb aA jR;rw[U12]at h aA jR;refine Z244 ?_;intro k2 cb;rw[cb]at h aA jR;obtain⟨g1,g2⟩:=T.blanks bx (by omega);obtain⟨g3,g4⟩:=T.blanks cb (by omega);rw[g1,T.byte (by omega),Ua hd,U12,g3];have By:V53 (KR a1 a2) (pM++[(t,a1+j,a1+k)]) (pN++[(t,a2+j,a2+k)]):=by
    refine dE.app (.cons ⟨rfl,j,k,rfl,rfl⟩ .nil)
   obtain⟨k3,e9,e1,e2,e3,e4,e5⟩:=ih f2 k2 e _ _ ws (by omega) (by omega) By h bY;exact⟨k3,e9,e1,by omega,e3,e4,e5⟩
   rename_i hd
   simp only[Va.ok.injEq,U6]at h;obtain⟨rfl,rfl⟩:=h;obtain⟨k,hk,ru,fh⟩:=Ocm hE T hj hw (by omega);rw[fh];simp only;subst hk;obtain⟨k1,bx⟩:∃k1,V7 s1 (a1+k)=a1+k1:=⟨V7 s1 (a1+k)-a1,by omega⟩
   obtain⟨g1,g2⟩:=T.blanks bx (by omega);rw[bx]at hd;rw[g1,T.byte (by omega),Ud hd];exact⟨k,_,rfl,ru,by omega,rfl,dE.app (.cons ⟨rfl,j,k,rfl,rfl⟩ .nil)⟩
