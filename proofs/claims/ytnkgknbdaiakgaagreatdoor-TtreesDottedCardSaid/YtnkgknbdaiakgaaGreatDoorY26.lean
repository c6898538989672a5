/- The proof's part 26. -/
import Derived.Test.YtnkgknbdaiakgaaGreatDoorY22
import Derived.Test.YtnkgknbdaiakgaaGreatDoorY25
set_option maxHeartbeats 16000000
set_option linter.all false
namespace Go.Proofs.YtnkgknbdaiakgaaGreatDoor.Pl
def Ol(r:Bs):Prop:=r=[]\/∃c t,r=c::t/\(c=9\/c=10\/c=13\/c=32\/c=35\/c=44\/c=93\/c=125)/\(c=32->∀d t',t=d::t'->d.toNat<48\/57<d.toNat)
theorem O3f{r:Bs}(h:Ol r)(p:UInt8->Bool)(hp:∀c:UInt8,(c=9\/c=10\/c=13\/c=32\/c=35\/c=44\/c=93\/c=125)->p c=false)(u:Bs):(u++r).takeWhile p=u.takeWhile p:=by
 induction u with
 |nil =>
  rcases h with rfl|⟨c,t,rfl,hc,_⟩
  rfl
  rw[U23,U1o,U1b (by rw[hp c hc];simp)];rfl
 |cons a u ih=>rw[U1l,U1o,U1o,ih]
theorem Oz(u r:Bs)(k:Nat)(h:k<=u.length):(u++r).drop k=u.drop k++r:=by
 rw[U3c,show k-u.length=0 by omega];rfl
theorem O4e(f:Bs)(hf:∀w∈f,w=57\/w=45\/w=58)(u:Bs){r:Bs}(hr:Ol r):Vw (u++r) f=Vw u f:=by
 induction f generalizing u with
 |nil=>unfold Vw;cases u <;> cases r <;> rfl
 |cons w f ih =>
  cases u with
  |nil =>
   rcases hr with rfl|⟨c,t,rfl,hc,_⟩
   rfl
   have hw:=hf w Yb;have:V65 w c=false:=by
    rcases hw with rfl|rfl|rfl <;> rcases hc with rfl|rfl|rfl|rfl|rfl|rfl|rfl|rfl <;> decide
   rw[U23];unfold Vw;rw[this,U4w]
  |cons c u =>
   rw[U1l];unfold Vw;rw[ih (λ w hw=>hf w (U26 _ hw)) u]
theorem Ohf(p:UInt8->Bool)(u:Bs){r:Bs}(hr:Ol r)(hp:∀c:UInt8,(c=9\/c=10\/c=13\/c=32\/c=35\/c=44\/c=93\/c=125)->p c=false):Vg p (u++r)=Vg p u:=by
 cases u with
 |nil =>
  rcases hr with rfl|⟨c,t,rfl,hc,_⟩
  rfl
  exact hp c hc
 |cons c u=>rfl
theorem O63(u:Bs){r:Bs}(hr:Ol r):Vi (u++r)=Vi u:=by
 unfold Vi;rw[O4e V4a Yd u hr]
 split
 rename_i h
 have hl:=V3b _ _ h;have h8:V4a.length=8:=rfl;rw[U2q Ya,Oz u r 8 Ya,Ohf V2u _ hr (by rintro c (rfl|rfl|rfl|rfl|rfl|rfl|rfl|rfl) <;> decide)];cases hd:Vg V2u (u.drop 8) with
 |false=>rfl
 |true =>
  have h9:9<=u.length:=by
   cases hu:u.drop 8 with
   |nil=>rw[hu]at hd;cases hd
   |cons c v =>
    exact J17
  rw[Oz u r 9 h9,O3f hr O2 (by rintro c (rfl|rfl|rfl|rfl|rfl|rfl|rfl|rfl) <;> decide)]
 rfl
theorem Odz(u:Bs){r:Bs}(hr:Ol r):V28 (u++r)=V28 u:=by
 cases u with
 |nil =>
  rcases hr with rfl|⟨c,t,rfl,hc,_⟩
  rfl
  rw[U23];unfold V28;have h1:¬(c.toNat=90\/c.toNat=122):=by rcases hc with rfl|rfl|rfl|rfl|rfl|rfl|rfl|rfl <;> decide
  have h2:Vx c=false:=by rcases hc with rfl|rfl|rfl|rfl|rfl|rfl|rfl|rfl <;> decide
  simp only;rw[U1b h1,h2];rfl
 |cons c u =>
  rw[U1l];unfold V28;simp only;rw[O4e V4i Yd u hr]
  split;rfl
  split
  rename_i h
  simp only[U1g]at h;have hl:=V3b _ _ h.2;have h5:V4i.length=5:=rfl;rw[<-U1l,U2q Ye]
  rfl
theorem Obv(u:Bs){r:Bs}(hr:Ol r):Vh (u++r)=Vh u:=by
 unfold Vh;rw[O4e V40 Yd u hr]
 split
 ·rename_i h
  have hl:=V3b _ _ h;have de:V40.length=10:=rfl;rw[U2q Ya,Oz u r 10 Ya];by_cases EQ:11<=u.length
  ·have hh:Vg V4o (u.drop 10++r)=Vg V4o (u.drop 10):=by
    cases hu:u.drop 10 with
    |nil =>
     have:=U2b List.length hu;rw[U15]at this;simp only[U1t]at this;omega
    |cons c v=>rfl
   rw[hh,Oz u r 11 EQ,O63 _ hr]
   split
   have hc:=V4y (u.drop 11);rw[U15]at hc;obtain⟨t,p,BP⟩:∃t p,Vi (u.drop 11)=(t,p):=⟨_,_,rfl⟩
   rw[BP]at hc⊢;simp only at hc⊢;rw[Oz u r _ Ya,Odz _ hr]
   rfl
  have hu:u.drop 10=[]:=U1w Ya;rw[hu,U23];have h2:Vg V4o ([]:Bs)=false:=rfl;rw[h2];rcases hr with rfl|⟨c,t,rfl,hc,ht⟩
  rfl
  by_cases xK:c=32
  subst xK;have hd:(u++32::t).drop 11=t:=by
   rw[U3c,U1w Ya,show 11-u.length=1 by omega];rfl
  rw[hd];have hf:Vw t V4a=false:=by
   cases t with
   |nil=>rfl
   |cons d t' =>
    have:=ht rfl d t' rfl;unfold V4a Vw;have Ip:V65 57 d=false:=by
     unfold V65;rw[U18 Yd];simp only[Bool.and_eq_false_iff,decide_eq_false_iff_not];omega
    rw[Ip,U4w]
  have bN:Vi t=([],[]):=by unfold Vi;rw[hf];rfl
  rw[bN];rfl
  have:Vg V4o (c::t)=false:=by
   show V4o c=false;rcases hc with rfl|rfl|rfl|rfl|rfl|rfl|rfl|rfl <;> first|decide|exact absurd rfl xK
  rw[this];rfl
 rw[O63 _ hr]
theorem Ohg(u:Bs){r:Bs}(hr:Ol r):V3m (u++r)=V3m u:=by
 unfold V3m;exact O3f hr V2w (by rintro c (rfl|rfl|rfl|rfl|rfl|rfl|rfl|rfl) <;> decide) u
theorem O79(u:Bs){r:Bs}(hr:Ol r):Vl (u++r)=Vl u:=by
 unfold Vl;rw[Obv u hr,Ohg u hr,U2q (V5d u)]
def Loc{α : Type}(F:Bs->Va (α×Nat)):Prop:=∀x r1 r2 v k,Ol r1->Ol r2->F (x++r1)=.ok (v,k)->k<=x.length->F (x++r2)=.ok (v,k)
structure V1k(E:V19):Prop where
 strT:∀l,E.str l≠.non
 strK:∀l t k,E.str l=.ok (t,k)->1<=k/\k<=l.length
 strB:∀l c p,E.str l=.bad c p->p<=l.length/\c≠0
 strL:Loc E.str
 scalT:∀l,E.scal l≠.non
 scalK:∀l k t m,E.scal l=.ok (k,t,m)->1<=m/\m<=l.length/\k<7
 scalB:∀l c p,E.scal l=.bad c p->c≠0
 scalL:∀x r1 r2 k t m,Ol r1->Ol r2->E.scal (x++r1)=.ok (k,t,m)->m<=x.length->E.scal (x++r2)=.ok (k,t,m)
theorem Oew:∀(f:Nat)(l:Bs),(∀k,V55 f l=.ok k->k<=l.length)/\(∀c p,V55 f l=.bad c p->p<=l.length/\c=3):=by
 intro f
 induction f with
 |zero=>intro l;exact⟨λ k h=>by simp[V55]at h;omega,λ c p h=>by simp[V55]at h⟩
 |succ f ih =>
  intro l;unfold V55;cases hs:V1y l with
  |bad c p =>
   refine⟨λ k h=>by (simp at h),λ c' p' h=>?_⟩;cases h;unfold V1y at hs;simp only at hs
   split at hs <;> cases hs
   rename_i hh
   have:=U2b List.length hh;rw[U15]at this;simp at this;exact⟨Ya,rfl⟩
  |ok n =>
   have hn:=O52 l n hs;cases n with
   |zero=>exact⟨λ k h=>by (simp only[V35.ok.injEq]at h;omega),λ c p h=>by (simp at h)⟩
   |succ n =>
    obtain⟨i1,i2⟩:=ih (l.drop (n+1));rw[U15]at i1 i2;simp only;cases hg:V55 f (l.drop (n+1)) with
    |ok k=>exact⟨λ k' h=>by (simp only[V35.ok.injEq]at h;have:=i1 k hg;omega),λ c p h=>by (simp at h)⟩
    |bad c p =>
     refine⟨λ k h=>by (simp at h),λ c' p' h=>?_⟩;cases h;have:=i2 _ _ hg;exact⟨Ya,this.2⟩
theorem Oo{s:Bs}{n g:Nat}(h:Vy s n=.ok g)(hn:n<=s.length):n<=g/\g<=s.length:=by
 unfold Vy gap at h
 split at h;cases h
 rename_i k hk
 have:=(Oew _ _).1 _ hk;rw[U15]at this;exact J1
theorem O3u{s:Bs}{n c p:Nat}(h:Vy s n=.bad c p)(hn:n<=s.length):p<=s.length/\c≠0:=by
 unfold Vy gap at h
 split at h
 rename_i c' p' hk
 have:=(Oew _ _).2 _ _ hk;rw[U15]at this;cases h;exact⟨Ya,Ya⟩
 cases h
theorem O59(l:Bs)(h:long l=true):3<=l.length:=by
 unfold long at h
 split at h <;> simp_all
theorem word_le{E:V19}(hE:V1k E){s:Bs}{n:Nat}(hn:n<=s.length):(∀t e,V3x E s n=.ok (t,e)->n<e/\e<=s.length)/\(∀c p,V3x E s n=.bad c p->p<=s.length/\c≠0)/\V3x E s n≠.non:=by
 unfold V3x
 split
 rename_i hl
 have:=O59 _ hl;rw[U15]at this;exact J19
 split
 rename_i hb
 cases hs:E.str (s.drop n) with
 |non=>exact absurd hs (hE.strT _)
 |bad c p =>
  have:=hE.strB _ _ _ hs;rw[U15]at this;exact⟨λ t e h=>by (simp at h),λ c' p' h=>by (cases h;exact⟨Ya,this.2⟩),Yb⟩
 |ok r =>
  obtain⟨t,k⟩:=r;have:=hE.strK _ _ _ hs;rw[U15]at this;exact J19
 rename_i hb
 have h2:V11 (s.drop n)<=(s.drop n).length:=Vn _ _;rw[U15]at h2;exact J19
theorem Oms{E:V19}(hE:V1k E){s:Bs}:∀(f n:Nat)(acc:List KW),n<=s.length->s.length<n+f ->(∀ws e,V4c E s f n acc=.ok (ws,e)->n<e/\e<=s.length/\∃t,ws=acc++t/\t≠[]/\(∀x∈t,n<=x.2.1/\x.2.1<x.2.2/\x.2.2<=e)/\t.getLast?.map (·.2.2)=some e)/\(∀c p,V4c E s f n acc=.bad c p->p<=s.length/\c≠0)/\V4c E s f n acc≠.non:=by
 intro f
 induction f with
 |zero=>intro n acc h1 h2;omega
 |succ f ih =>
  intro n acc hn hf;obtain⟨w1,w2,w3⟩:=word_le hE hn;unfold V4c;cases hw:V3x E s n with
  |non=>exact absurd hw w3
  |bad c p=>exact⟨λ ws e h=>by (simp at h),λ c' p' h=>by (cases h;exact w2 _ _ hw),Yb⟩
  |ok r =>
   obtain⟨t,e0⟩:=r;obtain⟨h1,h2⟩:=w1 _ _ hw;have hb:=V8 s e0 h2;simp only
   split
   rename_i hd
   have aa:=byteAt_lt hd Yd;have ay:=V8 s (V7 s e0+1) Ya;obtain⟨i1,i2,i3⟩:=ih (V7 s (V7 s e0+1)) (acc++[(t,n,e0)]) Ya Ya;refine⟨λ ws e h=>?_,i2,i3⟩;obtain⟨h3,h4,t',rfl,h5,h6,h7⟩:=i1 _ _ h;refine⟨Ya,h4,(t,n,e0)::t',Yb,Yb,?_,?_⟩
   intro x hx;rcases U36.1 hx with rfl|hx
   exact⟨U12 _,h1,Yk⟩
   obtain⟨a1,a2,a3⟩:=h6 x hx;exact⟨Ya,a2,a3⟩
   cases t' with
   |nil=>exact absurd rfl h5
   |cons y l=>rw[List.getLast?_cons_cons];exact h7
   refine⟨λ ws e h=>?_,λ c p h=>by (simp at h),Yb⟩;simp only[Va.ok.injEq,U19]at h;obtain⟨rfl,rfl⟩:=h;refine⟨h1,h2,[(t,n,e0)],rfl,Yb,?_,rfl⟩;intro x hx;rw[U22]at hx;subst hx;exact⟨U12 _,h1,U12 _⟩
theorem O1e{E:V19}(hE:V1k E){s:Bs}{n:Nat}(hn:n<=s.length):(∀ws e,V23 E s n=.ok (ws,e)->n<e/\e<=s.length/\ws≠[]/\(∀x∈ws,n<=x.2.1/\x.2.1<x.2.2/\x.2.2<=e)/\ws.getLast?.map (·.2.2)=some e)/\(∀c p,V23 E s n=.bad c p->p<=s.length/\c≠0)/\V23 E s n≠.non:=by
 obtain⟨h1,h2,h3⟩:=Oms hE (s:=s) (s.length+2) n [] hn Ya;refine⟨λ ws e h=>?_,h2,h3⟩;obtain⟨a,b,t,rfl,c,d,e'⟩:=h1 _ _ h;exact⟨a,b,c,d,e'⟩
def VLe(s:Bs)(V:V2c):Prop:=∀d n st,n<=s.length->(∀i e st',V d n st=.ok (i,e,st')->n<e/\e<=s.length)/\(∀c p,V d n st=.bad c p->p<=s.length/\c≠0)
theorem Omt(table:Nat)(M:Nat):∀(ws:List KW)(into d:Nat)(st:Ve)(c p:Nat),V3j table ws into d st=.bad c p->(∀x∈ws,x.2.1<=M)->p<=M/\c≠0:=by
 intro ws
 induction ws with
 |nil=>intro into d st c p h;simp[V3j]at h
 |cons x rest ih =>
  intro into d st c p h hM;obtain⟨w,a,b⟩:=x;have ha:a<=M:=hM (w,a,b) Yb;have hr:∀x∈rest,x.2.1<=M:=λ x hx=>hM x (U26 _ hx)
  unfold V3j at h
  split at h;cases h
  split at h;cases h;exact⟨ha,Yd⟩
  split at h;exact ih _ _ _ _ _ h hr
  cases h;exact⟨ha,Yd⟩
  split at h;cases h
  split at h;cases h;exact⟨ha,Yd⟩
  split at h;exact ih _ _ _ _ _ h hr
  cases h
theorem O3v{E:V19}(hE:V1k E){s:Bs}{V:V2c}(hV:VLe s V)(table n d:Nat)(st:Ve)(hn:n<=s.length):(∀e st',V1g E V s table n d st=.ok (e,st')->n<e/\e<=s.length)/\(∀c p,V1g E V s table n d st=.bad c p->p<=s.length/\c≠0):=by
 obtain⟨k1,k2,k3⟩:=O1e hE hn;unfold V1g;cases hk:V23 E s n with
 |non=>exact absurd hk k3
 |bad c p=>exact⟨λ e st' h=>by (simp at h),λ c' p' h=>by (cases h;exact k2 _ _ hk)⟩
 |ok r =>
  obtain⟨ws,e⟩:=r;obtain⟨h1,h2,h3,h4,h5⟩:=k1 _ _ hk;simp only;cases hw:V3j table ws table d st with
  |non=>exact⟨λ e st' h=>by (simp at h),λ c' p' h=>by (simp at h)⟩
  |bad c p=>exact⟨λ e st' h=>by (simp at h),λ c' p' h=>by (cases h;exact Omt table s.length ws _ _ _ _ _ hw (λ x hx=>by have:=h4 x hx;omega))⟩
  |ok r2 =>
   obtain⟨into,d',st'⟩:=r2;have hb:=V8 s e h2;simp only
   split
   rename_i eN
   refine Z238 ?_;intro aa ay;obtain⟨v1,v2⟩:=hV (d'+1) (V7 s (V7 s e+1)) st' Ya;cases hv:V (d'+1) (V7 s (V7 s e+1)) st' with
   |non=>exact⟨λ e st' h=>by (simp at h),λ c' p' h=>by (simp at h)⟩
   |bad c p=>exact⟨λ e st' h=>by (simp at h),λ c' p' h=>by (cases h;exact v2 _ _ hv)⟩
   |ok r3 =>
    obtain⟨i,e2,st2⟩:=r3;obtain⟨g1,g2⟩:=v1 _ _ _ hv;simp only
    split;exact⟨λ e st' h=>by (simp at h),λ c' p' h=>by (simp at h)⟩
    split;exact J21
    exact⟨λ e st' h=>by (simp at h),λ c' p' h=>by (simp at h)⟩
   exact J20
theorem O4q{E:V19}(hE:V1k E){s:Bs}{V:V2c}(hV:VLe s V)(table d:Nat):∀(f n:Nat)(st:Ve),n<=s.length ->(∀e st',V21 E V s table d f n st=.ok (e,st')->n<e/\e<s.length)/\(∀c p,V21 E V s table d f n st=.bad c p->p<=s.length/\c≠0):=by
 intro f
 induction f with
 |zero=>intro n st hn;exact⟨λ e st' h=>by (simp[V21]at h),λ c' p' h=>by (simp[V21]at h)⟩
 |succ f ih =>
  intro n st hn;obtain⟨p1,p2⟩:=O3v hE hV table n d st hn;unfold V21;cases hp:V1g E V s table n d st with
  |non=>exact⟨λ e st' h=>by (simp at h),λ c' p' h=>by (simp at h)⟩
  |bad c p=>exact⟨λ e st' h=>by (simp at h),λ c' p' h=>by (cases h;exact p2 _ _ hp)⟩
  |ok r =>
   obtain⟨e,st1⟩:=r;obtain⟨h1,h2⟩:=p1 _ _ hp;have hb:=V8 s e h2;simp only
   split
   rename_i h3
   have:=byteAt_lt h3 Yd;exact J21
   split
   rename_i h3
   have aa:=byteAt_lt h3 Yd;have ay:=V8 s (V7 s e+1) Ya;obtain⟨i1,i2⟩:=ih (V7 s (V7 s e+1)) st1 Ya;exact⟨λ e' st' h=>by (have:=i1 _ _ h;omega),i2⟩
   exact J20
theorem Ohh{E:V19}(hE:V1k E){s:Bs}{V:V2c}(hV:VLe s V)(d n:Nat)(st:Ve)(hn:n<s.length):(∀i e st',V1n E V s d n st=.ok (i,e,st')->n<e/\e<=s.length)/\(∀c p,V1n E V s d n st=.bad c p->p<=s.length/\c≠0):=by
 have hb:=V8 s (n+1) Ya;unfold V1n
 split;exact J23
 split
 simp only
 split;exact J22
 rename_i c p hp
 refine⟨λ i e st' h=>by (simp at h),λ c' p' h=>?_⟩;cases h
 split at hp;cases hp
 exact (O4q hE hV _ _ _ _ _ hb.2).2 _ _ hp
 rename_i e1 st1 hp
 have:n<e1/\e1<s.length:=by
  split at hp
  rename_i h3
  have:=byteAt_lt h3 Yd;cases hp;omega
  have:=(O4q hE hV _ _ _ _ _ hb.2).1 _ _ hp;omega
 split;exact J120
 exact J22
 exact J22
theorem O3w{s:Bs}{V:V2c}(hV:VLe s V)(d:Nat):∀(f n:Nat)(subs:List Nat)(st:Ve),n<=s.length ->(∀l e st',V1h V s d f n subs st=.ok (l,e,st')->n<=e/\e<s.length)/\(∀c p,V1h V s d f n subs st=.bad c p->p<=s.length/\c≠0):=by
 intro f
 induction f with
 |zero=>intro n subs st hn;exact⟨λ l e st' h=>by (simp[V1h]at h),λ c' p' h=>by (simp[V1h]at h)⟩
 |succ f ih =>
  intro n subs st hn;unfold V1h
  split
  rename_i h3
  have:=byteAt_lt h3 Yd;exact J120
  obtain⟨v1,v2⟩:=hV (d+1) n st hn;cases hv:V (d+1) n st with
  |non=>exact⟨λ l e st' h=>by (simp at h),λ c' p' h=>by (simp at h)⟩
  |bad c p=>exact⟨λ l e st' h=>by (simp at h),λ c' p' h=>by (cases h;exact v2 _ _ hv)⟩
  |ok r =>
   obtain⟨i,e,st1⟩:=r;obtain⟨h1,h2⟩:=v1 _ _ _ hv;simp only
   split;exact⟨λ l e st' h=>by (simp at h),λ c' p' h=>by (simp at h)⟩
   cases hg:Vy s e with
   |bad c p=>exact⟨λ l e st' h=>by (simp at h),λ c' p' h=>by (cases h;exact O3u hg h2)⟩
   |ok g =>
    obtain⟨g1,g2⟩:=Oo hg h2;simp only
    split
    rename_i h3
    have:=byteAt_lt h3 Yd;exact J120
    split
    rename_i h3
    have aa:=byteAt_lt h3 Yd;cases cw:Vy s (g+1) with
    |bad c p=>exact⟨λ l e st' h=>by (simp at h),λ c' p' h=>by (cases h;exact O3u cw Ya)⟩
    |ok g' =>
     obtain⟨g3,g4⟩:=Oo cw Ya;obtain⟨i1,i2⟩:=ih g' (subs++[i]) st1 g4;exact⟨λ l e st' h=>by (have:=i1 _ _ _ h;omega),i2⟩
    exact⟨λ l e st' h=>by (simp at h),λ c' p' h=>by (cases h;exact⟨g2,Yd⟩)⟩
theorem Ojp{s:Bs}{V:V2c}(hV:VLe s V)(d n:Nat)(st:Ve)(hn:n<s.length):(∀i e st',V2n V s d n st=.ok (i,e,st')->n<e/\e<=s.length)/\(∀c p,V2n V s d n st=.bad c p->p<=s.length/\c≠0):=by
 unfold V2n
 split;exact J23
 cases hg:Vy s (n+1) with
 |bad c p=>exact⟨λ l e st' h=>by (simp at h),λ c' p' h=>by (cases h;exact O3u hg Ya)⟩
 |ok g =>
  obtain⟨g1,g2⟩:=Oo hg Ya;obtain⟨l1,l2⟩:=O3w hV d (s.length+2) g [] st g2;simp only
  split;exact J22
  rename_i c p hp
  exact⟨λ i e st' h=>by (simp at h),λ c' p' h=>by (cases h;exact l2 _ _ hp)⟩
  rename_i subs e st1 hp
  have:=l1 _ _ _ hp
  split;exact J120
  exact J22
theorem O17{E:V19}(hE:V1k E)(s:Bs):∀f,VLe s (Vv E s f):=by
 intro f
 induction f with
 |zero=>intro d n st hn;exact⟨λ i e st' h=>by (simp[Vv]at h),λ c p h=>by (simp[Vv]at h)⟩
 |succ f ih =>
  intro d n st hn;unfold Vv;simp only
  split
  cases hs:E.str (s.drop n) with
  |non=>exact absurd hs (hE.strT _)
  |bad c p =>
   have:=hE.strB _ _ _ hs;rw[U15]at this;exact⟨λ i e st' h=>by (simp at h),λ c' p' h=>by (cases h;exact⟨Ya,this.2⟩)⟩
  |ok r =>
   obtain⟨t,m⟩:=r;have:=hE.strK _ _ _ hs;rw[U15]at this;simp only
   split;exact J120
   exact J22
  split
  rename_i h3
  exact Ojp ih d n st (byteAt_lt h3 Yd)
  split
  rename_i h3
  exact Ohh hE ih d n st (byteAt_lt h3 Yd)
  cases hs:E.scal (s.drop n) with
  |non=>exact absurd hs (hE.scalT _)
  |bad c p=>exact⟨λ i e st' h=>by (simp at h),λ c' p' h=>by (cases h;exact⟨hn,hE.scalB _ _ _ hs⟩)⟩
  |ok r =>
   obtain⟨k,t,m⟩:=r;have:=hE.scalK _ _ _ _ hs;rw[U15]at this;simp only
   split;exact J120
   exact J22
structure Wn(N i:Nat)(nd:Nd):Prop where
 len:nd.kind=8->nd.keys.length=nd.subs.length/\nd.spots.length=nd.subs.length
 up:nd.subs.Pairwise (· < ·)
 lt:∀x∈nd.subs,x<N
 own:nd.owner≠0->nd.kind=8/\nd.owner<=i
def WF(st:Ve):Prop:=∀i nd,st[i]?=some nd->Wn st.length i nd
def V3g(b:Nat)(st st':Ve):Prop:=∀j,j<b->st'[j]?=st[j]?
theorem V3g.refl(b:Nat)(st:Ve):V3g b st st:=λ _ _=>rfl
theorem V3g.trans{b:Nat}{x y z:Ve}(h:V3g b x y)(k:V3g b y z):V3g b x z:=λ j hj=>(k j hj).trans (h j hj)
theorem V3g.mono{b b':Nat}{x y:Ve}(h:V3g b x y)(hb:b'<=b):V3g b' x y:=λ j hj=>h j Ya
theorem V3g.app(st t:Ve)(b:Nat)(hb:b<=st.length):V3g b st (st++t):=λ j hj=>U1d Ya
theorem O4r(l:List Nat)(N:Nat)(hu:l.Pairwise (· < ·))(hl:∀x∈l,x<N):l.length<=N:=by
 induction l generalizing N with
 |nil=>simp
 |cons a l ih =>
  have h1:=List.pairwise_cons.1 hu;have hm:∀(l:List Nat)(a N:Nat),(∀x∈l,a<x)->l.Pairwise (· < ·)->(∀x∈l,x<N)->a<N->l.length+a<N:=by
   intro l
   induction l with
   |nil=>intro a N _ _ _ h;simpa using h
   |cons b l ih =>
    intro a N h1 h2 h3 h4;have h5:=List.pairwise_cons.1 h2;have:=ih b N h5.1 h5.2 (λ x hx=>h3 x (U26 _ hx)) (h3 b Yb);have:=h1 b Yb;simp;omega
  have:=hm l a N h1.1 h1.2 (λ x hx=>hl x (U26 _ hx)) (hl a Yb);simp;omega
theorem Wn.mono{N M i:Nat}{nd:Nd}(h:Wn N i nd)(hm:N<=M):Wn M i nd:=⟨h.len,h.up,λ x hx=>U13 (h.lt x hx) hm,h.own⟩
theorem WF.app{st:Ve}(h:WF st)(nd:Nd)(hn:Wn (st.length+1) st.length nd):WF (st++[nd]):=by
 intro i x hx;rw[U1c,U25];by_cases hi:i<st.length;rw[U1d hi]at hx;exact (h i x hx).mono Ya
 have h2:=(U16.1 hx).1;simp only[U1c,U25]at h2;have:i=st.length:=Ya;subst this;simp at hx;subst hx;exact hn
theorem O10(st:Ve)(t j:Nat)(f:Nd->Nd):(st.modify t f)[j]?=if t=j then st[j]?.map f else st[j]?:=by
 rw[U3s]
 split <;> simp_all
theorem O12(st:Ve)(t j i:Nat)(w:Bs)(sp:Nat×Nat):(Vj st t w sp i)[j]?=if t=j then st[j]?.map (λ nd=>V12 nd w sp i) else st[j]?:=by
 unfold Vj;rw[U3s]
 split <;> simp
theorem WF.put{st:Ve}(h:WF st)(t i:Nat)(w:Bs)(sp:Nat×Nat)(nd:Nd)(ht:st[t]?=some nd)(hi:∀x∈nd.subs,x<i)(hl:i<st.length):WF (Vj st t w sp i):=by
 intro j x hx;rw[O12]at hx;have ad:(Vj st t w sp i).length=st.length:=by unfold Vj;simp
 rw[ad]
 split at hx
 rename_i e
 subst e;rw[ht]at hx;simp only[U29,U1f]at hx;subst hx;have h0:=h t nd ht;refine⟨λ hk=>?_,?_,?_,h0.own⟩;have:=h0.len hk;simp only[V12,U1c,U25];omega;exact J159
 exact J186
 exact h j x hx
theorem O2w{st:Ve}(h:WF st)(hs:st.length<=20000000)(t:Nat)(nd:Nd)(ht:st[t]?=some nd)(hk:nd.kind=8):kind8 st t=true:=by
 have h0:=h t nd ht;have h1:=O4r _ _ h0.up h0.lt;have h2:=h0.len hk;unfold kind8;rw[ht];simp only[U1g,U1x,U2w];omega
theorem O1p{st:Ve}(hs:st.length<=20000000):room st=true:=by unfold room;simpa using hs
theorem O3x{E:V19}(hE:V1k E){s:Bs}:∀(f n:Nat)(acc ws:List KW)(e:Nat),n<=s.length->V4c E s f n acc=.ok (ws,e)->ws.length+n<=acc.length+e:=by
 intro f
 induction f with
 |zero=>intro n acc ws e _ h;simp[V4c]at h
 |succ f ih =>
  intro n acc ws e hn h;unfold V4c at h;cases hw:V3x E s n with
  |non=>rw[hw]at h;cases h
  |bad c p=>rw[hw]at h;cases h
  |ok r =>
   obtain⟨t,e0⟩:=r;obtain⟨h1,h2⟩:=(word_le hE hn).1 _ _ hw;have hb:=V8 s e0 h2;rw[hw]at h;simp only at h
   split at h
   rename_i hd
   have aa:=byteAt_lt hd Yd;have ay:=V8 s (V7 s e0+1) Ya;have:=ih _ _ _ _ ay.2 h;simp only[U1c,U25]at this;omega
   simp only[Va.ok.injEq,U19]at h;obtain⟨rfl,rfl⟩:=h;simp only[U1c,U25];omega
structure Ve4(table:Nat)(st:Ve)(d k:Nat)(into d':Nat)(st':Ve):Prop where
 wf:WF st'
 len:st'.length<=st.length+k
 ge:st.length<=st'.length
 keep:V3g table st st'
 tab:table<=into
 at':∃nd,st'[into]?=some nd/\nd.kind=8
 kind:∀(j:Nat) nd,st[j]?=some nd->∃nd',st'[j]?=some nd'/\nd'.kind=nd.kind/\nd'.owner=nd.owner
 dep:d<=d'
theorem Oox(table:Nat):∀(ws:List KW)(into d:Nat)(st:Ve),ws≠[]->WF st->st.length+ws.length<=20000000->table<=into->(∃nd,st[into]?=some nd/\nd.kind=8) ->V3j table ws into d st≠.non/\∀aw d' st',V3j table ws into d st=.ok (aw,d',st')->Ve4 table st d (ws.length-1) aw d' st':=by
 intro ws
 induction ws with
 |nil=>intro into d st h;exact absurd rfl h
 |cons x rest ih =>
  intro into d st _ hw hs yp ⟨nd,bT,aX⟩;obtain⟨w,a,b⟩:=x;have Ca:=hw into nd bT;have Mo:=Ca.len aX;simp only[U17]at hs;have dD:V16 st into w=.no\/∃i,V16 st into w=.yes i/\i<st.length:=by
   unfold V16;rw[bT];simp only;cases hf:nd.keys.findIdx? (λ x=>x==w) with
   |none=>exact .inl rfl
   |some j =>
    right;have hj:=(List.findIdx?_eq_some_iff_findIdx_eq.1 hf).1;have pT:j<nd.subs.length:=Ya
    simp only;rw[U1h pT];have:=Ca.lt _ (U4a pT);simp only;rw[U18 this];exact⟨_,rfl,this⟩
  unfold V3j;rcases dD with mz|⟨i,Iq,hi⟩
  rw[mz];simp only;cases rest with
  |nil =>
   refine⟨Yb,λ aw d' st' h=>?_⟩;simp only[Va.ok.injEq,U19]at h;obtain⟨rfl,rfl,rfl⟩:=h;exact⟨hw,Yb,U12 _,V3g.refl _ _,yp,⟨nd,bT,aX⟩,λ j nd h=>⟨nd,h,rfl,rfl⟩,U12 _⟩
  |cons y r2 =>
   simp only[U17]at hs⊢
   split;exact J149
   rw[O2w hw Ya into nd bT aX,O1p Ya];simp only[Bool.and_self,U2i];have aa:into<st.length:=(U16.1 bT).1;have fX:WF (st++[V1s (table+1)]):=by
    refine hw.app _ ⟨λ _=>⟨rfl,rfl⟩,List.Pairwise.nil,λ x hx=>(by cases hx),λ _=>⟨rfl,?_⟩⟩;show table+1<=st.length;omega
   have yq:(st++[V1s (table+1)])[into]?=some nd:=by rw[U1d aa];exact bT
   have fj:WF (Vj (st++[V1s (table+1)]) into w (a,b) st.length):=fX.put into st.length w (a,b) nd yq Ca.lt Yb;have Cb:(Vj (st++[V1s (table+1)]) into w (a,b) st.length).length=st.length+1:=by unfold Vj;simp
   have bU:(Vj (st++[V1s (table+1)]) into w (a,b) st.length)[st.length]?=some (V1s (table+1)):=by
    rw[O12,U1b Ya];simp
   obtain⟨i1,i2⟩:=ih st.length (d+1) (Vj (st++[V1s (table+1)]) into w (a,b) st.length) Yb fj (by rw[Cb];simp only[U17];omega) Ya ⟨_,bU,rfl⟩;refine⟨i1,λ aw d' st' h=>?_⟩;have q:=i2 _ _ _ h;have iO:V3g table st (Vj (st++[V1s (table+1)]) into w (a,b) st.length):=λ j hj=>by
    rw[O12,U1b Ya,U1d Ya]
   refine⟨q.wf,?_,by have:=q.ge;omega,iO.trans q.keep,q.tab,q.at',λ j x hx=>?_,by have:=q.dep;omega⟩;have:=q.len;simp only[U17]at this⊢;omega
   have hj:j<st.length:=(U16.1 hx).1;have:∃x1,(Vj (st++[V1s (table+1)]) into w (a,b) st.length)[j]?=some x1/\x1.kind=x.kind/\x1.owner=x.owner:=by
    rw[O12,U1d hj,hx]
    split;exact⟨_,rfl,rfl,rfl⟩
    exact⟨_,rfl,rfl,rfl⟩
   obtain⟨x1,e1,e2,e3⟩:=this;obtain⟨x2,f1,f2,f3⟩:=q.kind j x1 e1;exact⟨x2,f1,by rw[f2,e2],by rw[f3,e3]⟩
  rw[Iq];simp only;cases rest with
  |nil=>exact⟨Yb,λ aw d' st' h=>by simp at h⟩
  |cons y r2 =>
   simp only[U17]at hs⊢
   split
   rename_i ho
   have Ir:=U1h hi;unfold V2y at ho;rw[Ir]at ho;simp only at ho;have F3:=(hw i _ Ir).own Ya;obtain⟨i1,i2⟩:=ih i (d+1) st Yb hw (by simp only[U17];omega) Ya ⟨_,Ir,F3.1⟩;refine⟨i1,λ aw d' st' h=>?_⟩;have q:=i2 _ _ _ h;exact⟨q.wf,by have:=q.len;simp only[U17]at this⊢;omega,q.ge,q.keep,q.tab,q.at',q.kind,by have:=q.dep;omega⟩
   exact J149
structure V8m(st:Ve)(i e:Nat)(st':Ve):Prop where
 wf:WF st'
 len:st'.length<=e
 lo:st.length<=i
 hi:i<st'.length
 keep:V3g st.length st st'
def V96(s:Bs)(D:Nat)(V:V2c):Prop:=∀d n st,D<=d->WF st->st.length<=n->n<=s.length->V d n st≠.non/\∀i e st',V d n st=.ok (i,e,st')->V8m st i e st'
theorem Ohi{E:V19}(hE:V1k E){s:Bs}(hs:s.length<=20000000){V:V2c}(hV:VLe s V){D:Nat}(hT:V96 s D V)(table n d:Nat)(st:Ve)(hD:D<=d+1)(hw:WF st)(hl:st.length<=n)(hn:n<=s.length)(ht:∃nd,st[table]?=some nd/\nd.kind=8):V1g E V s table n d st≠.non/\∀e st',V1g E V s table n d st=.ok (e,st')->WF st'/\st'.length<=e/\st.length<=st'.length/\V3g table st st'/\∃nd,st'[table]?=some nd/\nd.kind=8:=by
 obtain⟨k1,k2,k3⟩:=O1e hE hn;unfold V1g;cases hk:V23 E s n with
 |non=>exact absurd hk k3
 |bad c p=>exact⟨Yb,λ e st' h=>by simp at h⟩
 |ok r =>
  obtain⟨ws,e⟩:=r;obtain⟨h1,h2,h3,h4,h5⟩:=k1 _ _ hk;have lh:=O3x hE _ _ _ _ _ hn hk;simp only[U1t]at lh;have eQ:0<ws.length:=U30.2 h3;obtain⟨w1,w2⟩:=Oox table ws table d st h3 hw Ya (U12 _) ht;simp only;cases Mp:V3j table ws table d st with
  |non=>exact absurd Mp w1
  |bad c p=>exact⟨Yb,λ e st' h=>by simp at h⟩
  |ok r2 =>
   obtain⟨into,d',st1⟩:=r2;have q:=w2 _ _ _ Mp;have hb:=V8 s e h2;simp only
   split
   rename_i eN
   refine Z238 ?_;intro aa ay;have sY:=q.len;have sZ:=q.ge;have F4:=q.dep;obtain⟨v1,v2⟩:=hT (d'+1) (V7 s (V7 s e+1)) st1 Ya q.wf Ya Ya;have aQ:=hV (d'+1) (V7 s (V7 s e+1)) st1 Ya;cases hv:V (d'+1) (V7 s (V7 s e+1)) st1 with
   |non=>exact absurd hv v1
   |bad c p=>exact⟨Yb,λ e st' h=>by simp at h⟩
   |ok r3 =>
    obtain⟨i,e2,st2⟩:=r3;have g:=v2 _ _ _ hv;have hg:=aQ.1 _ _ _ hv;obtain⟨nd,bT,aX⟩:=q.at';have dO:into<st1.length:=(U16.1 bT).1;have tX:st2[into]?=some nd:=(g.keep into dO).trans bT;have fN:=g.len;have cw:=g.lo;have dN:=g.hi;have h8:=O2w g.wf Ya into nd tX aX;simp only;cases aZ:ws.getLast? with
    |none=>rw[U43]at aZ;exact absurd aZ h3
    |some kw =>
     obtain⟨w,a,b⟩:=kw;simp only;rw[h8,U18 rfl];refine⟨Yb,λ e' st' h=>?_⟩;simp only[Va.ok.injEq,U19]at h;obtain⟨rfl,rfl⟩:=h;have ad:(Vj st2 into w (a,b) i).length=st2.length:=by unfold Vj;simp
     have nw:=(q.wf into nd bT).lt;refine⟨g.wf.put into i w (a,b) nd tX (λ x hx=>by have:=nw x hx;omega) dN,Ya,Ya,?_,?_⟩;intro j hj;have:=q.tab;rw[O12,U1b Ya,g.keep j Ya];exact q.keep j hj
     obtain⟨nt,Ah,An⟩:=ht;obtain⟨n1,e1,Mq,e3⟩:=q.kind table nt Ah;have tC:table<st1.length:=(U16.1 e1).1;have e4:st2[table]?=some n1:=(g.keep table tC).trans e1;rw[O12,e4]
     split;exact⟨_,rfl,by show n1.kind=8;rw[Mq,An]⟩
     exact⟨_,rfl,by rw[Mq,An]⟩
   exact⟨Yb,λ e st' h=>by simp at h⟩
theorem Ojq{E:V19}(hE:V1k E){s:Bs}(hs:s.length<=20000000){V:V2c}(hV:VLe s V){D:Nat}(hT:V96 s D V)(table d:Nat)(hD:D<=d+1):∀(f n:Nat)(st:Ve),s.length<n+f->WF st->st.length<=n->n<=s.length->(∃nd,st[table]?=some nd/\nd.kind=8) ->V21 E V s table d f n st≠.non/\∀e st',V21 E V s table d f n st=.ok (e,st')->WF st'/\st'.length<=e/\st.length<=st'.length/\V3g table st st'/\∃nd,st'[table]?=some nd/\nd.kind=8:=by
 intro f
 induction f with
 |zero=>intro n st h1 _ _ h2;omega
 |succ f ih =>
  intro n st hf hw hl hn ht;obtain⟨p1,p2⟩:=Ohi hE hs hV hT table n d st hD hw hl hn ht;have pl:=(O3v hE hV table n d st hn).1;unfold V21;cases hp:V1g E V s table n d st with
  |non=>exact absurd hp p1
  |bad c p=>exact⟨Yb,λ e st' h=>by simp at h⟩
  |ok r =>
   obtain⟨e,st1⟩:=r;obtain⟨h1,h2⟩:=pl _ _ hp;obtain⟨q1,q2,q3,q4,q5⟩:=p2 _ _ hp;have hb:=V8 s e h2;simp only
   split;refine⟨Yb,λ e' st' h=>?_⟩;simp only[Va.ok.injEq,U19]at h;obtain⟨rfl,rfl⟩:=h;exact⟨q1,Ya,q3,q4,q5⟩
   split
   rename_i h3
   have aa:=byteAt_lt h3 Yd;have ay:=V8 s (V7 s e+1) Ya;obtain⟨i1,i2⟩:=ih (V7 s (V7 s e+1)) st1 Ya q1 Ya ay.2 q5;refine⟨i1,λ e' st' h=>?_⟩;obtain⟨r1,r2,r3,r4,r5⟩:=i2 _ _ h;exact⟨r1,r2,Ya,q4.trans r4,r5⟩
   exact⟨Yb,λ e st' h=>by simp at h⟩
theorem Ofu{E:V19}(hE:V1k E){s:Bs}(hs:s.length<=20000000){V:V2c}(hV:VLe s V){D:Nat}(hT:V96 s D V)(d n:Nat)(st:Ve)(hD:D<=d+1)(hw:WF st)(hl:st.length<=n)(hn:n<s.length):V1n E V s d n st≠.non/\∀i e st',V1n E V s d n st=.ok (i,e,st')->V8m st i e st':=by
 have hb:=V8 s (n+1) Ya;refine Z203 ?_;intro fX;have fg:(st++[Vt]).length=st.length+1:=Yb;have ht:∃nd,(st++[Vt])[st.length]?=some nd/\nd.kind=8:=⟨Vt,Yb,rfl⟩
 obtain⟨t1,t2⟩:=Ojq hE hs hV hT st.length d hD (s.length+2) (V7 s (n+1)) (st++[Vt]) Ya fX Ya hb.2 ht;have tl:=(O4q hE hV st.length d (s.length+2) (V7 s (n+1)) (st++[Vt]) hb.2).1;unfold V1n
 split;exact J149
 rw[O1p Ya,U18 rfl];simp only;obtain⟨Y,hY⟩:∃Y:Va (Nat×Ve),(if V9 s (V7 s (n+1))=125 then Va.ok (V7 s (n+1),st++[Vt]) else V21 E V s st.length d (s.length+2) (V7 s (n+1)) (st++[Vt]))=Y:=⟨_,rfl⟩
 rw[hY];have bH:Y≠.non/\∀e st',Y=.ok (e,st')->WF st'/\st'.length<=e+1/\st.length+1<=st'.length/\V3g st.length (st++[Vt]) st'/\(∃nd,st'[st.length]?=some nd/\nd.kind=8)/\e<s.length:=by
  split at hY
  rename_i h3
  have aa:=byteAt_lt h3 Yd;subst hY;refine⟨Yb,λ e st' h=>?_⟩;simp only[Va.ok.injEq,U19]at h;obtain⟨rfl,rfl⟩:=h;exact⟨fX,Ya,Ya,V3g.refl _ _,ht,aa⟩
  subst hY;refine⟨t1,λ e st' h=>?_⟩;obtain⟨a1,a2,a3,a4,a5⟩:=t2 _ _ h;exact⟨a1,Ya,Ya,a4,a5,(tl _ _ h).2⟩
 clear hY t1 t2 tl;cases Y with
 |non=>exact absurd rfl bH.1
 |bad c p=>exact⟨Yb,λ i e st' h=>by simp at h⟩
 |ok r =>
  obtain⟨e1,st1⟩:=r;obtain⟨a1,a2,a3,a4,⟨nd,a5,a6⟩,a7⟩:=bH.2 _ _ rfl;simp only;rw[O2w a1 Ya st.length nd a5 a6,U18 rfl];refine⟨Yb,λ i e st' h=>?_⟩;simp only[Va.ok.injEq,U19]at h;obtain⟨rfl,rfl,rfl⟩:=h;refine⟨?_,Ye,U12 _,Ye,?_⟩
  intro j x hx;rw[O10]at hx;rw[List.length_modify]
  split at hx
  rename_i e
  subst e;rw[a5]at hx;simp at hx;subst hx;have h0:=a1 _ _ a5;exact⟨h0.len,h0.up,h0.lt,h0.own⟩
  exact a1 j x hx
  intro j hj;rw[O10,U1b Ya,a4 j hj,U1d hj]
theorem Ohj{s:Bs}(hs:s.length<=20000000){V:V2c}(hV:VLe s V){D:Nat}(hT:V96 s D V)(d:Nat)(hD:D<=d+1):∀(f n:Nat)(subs:List Nat)(st:Ve),s.length<n+f->WF st->st.length<=n->n<=s.length->subs.Pairwise (· < ·)->(∀x∈subs,x<st.length) ->V1h V s d f n subs st≠.non/\∀l e st',V1h V s d f n subs st=.ok (l,e,st')->WF st'/\st'.length<=e/\st.length<=st'.length/\V3g st.length st st'/\l.Pairwise (· < ·)/\(∀x∈l,x<st'.length):=by
 intro f
 induction f with
 |zero=>intro n subs st h1 _ _ h2;omega
 |succ f ih =>
  intro n subs st hf hw hl hn hu aa;have nw:=O4r _ _ hu aa;unfold V1h
  split;refine⟨Yb,λ l e st' h=>?_⟩;simp only[Va.ok.injEq,U19]at h;obtain⟨rfl,rfl,rfl⟩:=h;exact⟨hw,hl,U12 _,V3g.refl _ _,hu,aa⟩
  obtain⟨v1,v2⟩:=hT (d+1) n st hD hw hl hn;have vl:=(hV (d+1) n st hn).1;cases hv:V (d+1) n st with
  |non=>exact absurd hv v1
  |bad c p=>exact⟨Yb,λ l e st' h=>by simp at h⟩
  |ok r =>
   obtain⟨i,e,st1⟩:=r;obtain⟨h1,h2⟩:=vl _ _ _ hv;have q:=v2 _ _ _ hv;have q1:=q.len;have q2:=q.lo;have q3:=q.hi;have Mr:(subs++[i]).Pairwise (· < ·):=by
    rw[List.pairwise_append];exact⟨hu,List.pairwise_singleton _ _,λ a ha b hb=>by rw[U22]at hb;have:=aa a ha;omega⟩
   have lw:∀x∈subs++[i],x<st1.length:=λ x hx=>by
    rcases U2s.1 hx with hx|hx
    have:=aa x hx;omega
    rw[U22]at hx;omega
   simp only;rw[U1b Ya];cases hg:Vy s e with
   |bad c p=>exact⟨Yb,λ l e st' h=>by simp at h⟩
   |ok g =>
    obtain⟨g1,g2⟩:=Oo hg h2;simp only
    split;refine⟨Yb,λ l e' st' h=>?_⟩;simp only[Va.ok.injEq,U19]at h;obtain⟨rfl,rfl,rfl⟩:=h;exact⟨q.wf,Ya,Ya,q.keep,Mr,lw⟩
    split
    rename_i h3
    have Is:=byteAt_lt h3 Yd;cases cw:Vy s (g+1) with
    |bad c p=>exact⟨Yb,λ l e st' h=>by simp at h⟩
    |ok g' =>
     obtain⟨g3,g4⟩:=Oo cw Ya;obtain⟨i1,i2⟩:=ih g' (subs++[i]) st1 Ya q.wf Ya g4 Mr lw;refine⟨i1,λ l e' st' h=>?_⟩;obtain⟨r1,r2,r3,r4,r5,r6⟩:=i2 _ _ _ h;exact⟨r1,r2,Ya,q.keep.trans (r4.mono Ya),r5,r6⟩
    exact J24
theorem Ohk{s:Bs}(hs:s.length<=20000000){V:V2c}(hV:VLe s V){D:Nat}(hT:V96 s D V)(d n:Nat)(st:Ve)(hD:D<=d+1)(hw:WF st)(hl:st.length<=n)(hn:n<s.length):V2n V s d n st≠.non/\∀i e st',V2n V s d n st=.ok (i,e,st')->V8m st i e st':=by
 unfold V2n
 split;exact J149
 cases hg:Vy s (n+1) with
 |bad c p=>exact⟨Yb,λ l e st' h=>by simp at h⟩
 |ok g =>
  obtain⟨g1,g2⟩:=Oo hg Ya;obtain⟨l1,l2⟩:=Ohj hs hV hT d hD (s.length+2) g [] st Ya hw Ya g2 List.Pairwise.nil (λ x hx=>by cases hx);have ll:=(O3w hV d (s.length+2) g [] st g2).1;simp only;cases hf:V1h V s d (s.length+2) g [] st with
  |non=>exact absurd hf l1
  |bad c p=>exact⟨Yb,λ l e st' h=>by simp at h⟩
  |ok r =>
   obtain⟨subs,e,st1⟩:=r;obtain⟨a1,a2,a3,a4,a5,a6⟩:=l2 _ _ _ hf;have:=ll _ _ _ hf;simp only;rw[O1p Ya,U18 rfl];refine⟨Yb,λ i e' st' h=>?_⟩;simp only[Va.ok.injEq,U19]at h;obtain⟨rfl,rfl,rfl⟩:=h;refine⟨a1.app _ ⟨λ hk=>(by cases hk),a5,λ x hx=>by have:=a6 x hx;omega,λ hk=>absurd rfl hk⟩,Ye,a3,Yb,a4.trans (V3g.app _ _ _ a3)⟩
theorem V4z{E:V19}(hE:V1k E)(s:Bs)(hs:s.length<=20000000):∀f,V96 s (259-f) (Vv E s f)\/f=0:=by
 intro f
 induction f with
 |zero=>exact .inr rfl
 |succ f ih =>
  left;intro d n st hD hw hl hn;unfold Vv;simp only;have jX:∀(d:Nat),259-(f+1)<=d->d<=256->V96 s (259-f) (Vv E s f)/\259-f<=d+1:=by
   intro d h1 h2;refine⟨ih.resolve_right Ya,Ya⟩
  split
  cases ji:E.str (s.drop n) with
  |non=>exact absurd ji (hE.strT _)
  |bad c p=>exact⟨Yb,λ l e st' h=>by simp at h⟩
  |ok r =>
   obtain⟨t,m⟩:=r;have:=hE.strK _ _ _ ji;rw[U15]at this;simp only;rw[O1p Ya,U18 rfl];refine⟨Yb,λ i e' st' h=>?_⟩;simp only[Va.ok.injEq,U19]at h;obtain⟨rfl,rfl,rfl⟩:=h;exact⟨hw.app _ ⟨λ hk=>(by cases hk),List.Pairwise.nil,λ x hx=>(by cases hx),λ hk=>absurd rfl hk⟩,Ye,U12 _,Yb,V3g.app _ _ _ (U12 _)⟩
  split
  rename_i h3
  have aa:=byteAt_lt h3 Yd;by_cases hd:256<d;unfold V2n;rw[U18 hd];exact J24
  obtain⟨j1,j2⟩:=jX d hD Ya;exact Ohk hs (O17 hE s f) j1 d n st j2 hw hl aa
  split
  rename_i h3
  have aa:=byteAt_lt h3 Yd;by_cases hd:256<d;unfold V1n;rw[U18 hd];exact J24
  obtain⟨j1,j2⟩:=jX d hD Ya;exact Ofu hE hs (O17 hE s f) j1 d n st j2 hw hl aa
  cases ji:E.scal (s.drop n) with
  |non=>exact absurd ji (hE.scalT _)
  |bad c p=>exact⟨Yb,λ l e st' h=>by simp at h⟩
  |ok r =>
   obtain⟨k,t,m⟩:=r;have:=hE.scalK _ _ _ _ ji;rw[U15]at this;simp only;rw[O1p Ya,U18 rfl];refine⟨Yb,λ i e' st' h=>?_⟩;simp only[Va.ok.injEq,U19]at h;obtain⟨rfl,rfl,rfl⟩:=h;exact⟨hw.app _ ⟨λ hk=>by (have gh:k=8:=hk;omega),List.Pairwise.nil,λ x hx=>(by cases hx),λ hk=>absurd rfl hk⟩,Ye,U12 _,Yb,V3g.app _ _ _ (U12 _)⟩
theorem V4k{E:V19}(hE:V1k E)(s:Bs)(hs:s.length<=20000000)(n k:Nat)(hn:n<=s.length):V1j E s n k≠.non/\(∀c p,V1j E s n k=.bad c p->p<=s.length/\c≠0)/\(∀i e st,V1j E s n k=.ok (i,e,st)->n<e/\e<=s.length/\V8m [] i e st):=by
 have h0:WF ([]:Ve):=λ i nd h=>by simp at h
 obtain⟨h1,h2⟩:=(V4z hE s hs 258).resolve_right Yd (min k 256+1) n [] Ya h0 Yb hn;obtain⟨h3,h4⟩:=O17 hE s 258 (min k 256+1) n [] hn;exact⟨h1,h4,λ i e st h=>⟨(h3 _ _ _ h).1,(h3 _ _ _ h).2,h2 _ _ _ h⟩⟩
structure Two(x s1 s2:Bs)(a1 a2:Nat):Prop where
 l1:∃r,Ol r/\s1.drop a1=x++r
 l2:∃r,Ol r/\s2.drop a2=x++r
 h1:a1+x.length<=s1.length
 h2:a2+x.length<=s2.length
theorem Obw(p:UInt8->Bool)(u r:Bs)(h:((u++r).takeWhile p).length<u.length):(u++r).takeWhile p=u.takeWhile p:=by
 induction u with
 |nil=>simp at h
 |cons a u ih =>
  rw[U1l,U1o]at h;exact J25
theorem O89(p:UInt8->Bool)(u r:Bs)(h:(u.takeWhile p).length<u.length):(u++r).takeWhile p=u.takeWhile p:=by
 induction u with
 |nil=>simp at h
 |cons a u ih =>
  rw[U1o]at h;exact J25
theorem O2g(p:UInt8->Bool)(u r r':Bs)(h:((u++r).takeWhile p).length<u.length):(u++r').takeWhile p=(u++r).takeWhile p:=by
 have h1:=Obw p u r h;rw[h1]at h⊢;exact O89 p u r' h
inductive V5t {α β : Type}(R : α -> β -> Prop):List α -> List β -> Prop
 |nil:V5t R [] []
 |cons {a b l m}:R a b->V5t R l m->V5t R (a::l) (b::m)
theorem V5t.app{α β : Type}{R : α -> β -> Prop}{l l':List α}{m m':List β}(h:V5t R l m)(h':V5t R l' m'):V5t R (l++l') (m++m'):=by
 induction h with
 |nil=>exact h'
 |cons a _ ih=>exact .cons a ih
theorem V5t.len{α β : Type}{R : α -> β -> Prop}{l:List α}{m:List β}(h:V5t R l m):l.length=m.length:=by
 induction h with
 |nil=>rfl
 |cons a _ ih=>simp[ih]
theorem V5t.last{α β : Type}{R : α -> β -> Prop}{l:List α}{m:List β}(h:V5t R l m):(l.getLast?=none/\m.getLast?=none)\/∃a b,l.getLast?=some a/\m.getLast?=some b/\R a b:=by
 induction h with
 |nil=>exact .inl ⟨rfl,rfl⟩
 |cons a t ih =>
  right;cases t with
  |nil=>exact⟨_,_,rfl,rfl,a⟩
  |cons b t =>
   rcases ih with ih|⟨x,y,h1,h2,h3⟩
   simp at ih
   exact⟨x,y,by rw[List.getLast?_cons_cons];exact h1,by rw[List.getLast?_cons_cons];exact h2,h3⟩
namespace Two
variable {x s1 s2:Bs}{a1 a2:Nat}
theorem symm(T:Two x s1 s2 a1 a2):Two x s2 s1 a2 a1:=⟨T.l2,T.l1,T.h2,T.h1⟩
theorem d1(T:Two x s1 s2 a1 a2){j:Nat}(hj:j<=x.length):∃r,Ol r/\s1.drop (a1+j)=x.drop j++r:=by
 obtain⟨r,hr,he⟩:=T.l1;refine⟨r,hr,?_⟩;rw[<-U27,he,U3c,show j-x.length=0 by omega];rfl
theorem d2(T:Two x s1 s2 a1 a2){j:Nat}(hj:j<=x.length):∃r,Ol r/\s2.drop (a2+j)=x.drop j++r:=T.symm.d1 hj
theorem b1(T:Two x s1 s2 a1 a2){j:Nat}(hj:j<x.length):V9 s1 (a1+j)=(x[j]).toNat:=by
 obtain⟨r,_,he⟩:=T.l1;have:s1[a1+j]?=some x[j]:=by
  rw[<-U2l,he,U1d hj,U1h hj]
 unfold V9;rw[this]
theorem byte(T:Two x s1 s2 a1 a2){j:Nat}(hj:j<x.length):V9 s2 (a2+j)=V9 s1 (a1+j):=by rw[T.b1 hj,T.symm.b1 hj]
theorem blanks(T:Two x s1 s2 a1 a2){j k:Nat}(h:V7 s1 (a1+j)=a1+k)(hk:k<x.length):V7 s2 (a2+j)=a2+k/\j<=k:=by
 unfold V7 Pl.blanks at h⊢;have hj:j<=k:=Ya
 obtain⟨r,hr,he⟩:=T.d1 (j:=j) Ya;obtain⟨r',eD,qh⟩:=T.d2 (j:=j) Ya;rw[he]at h;rw[qh,O2g _ _ r r' (by rw[U15];omega)];omega
end Two
theorem Ofv(u r r':Bs)(h:comment (u++r)<u.length):comment (u++r')=comment (u++r):=by
 match u,h with
 |[],h=>simp at h
 |a::u,h =>
  rw[U1l]at h⊢;rw[U1l];by_cases ha:a=35;subst ha;simp only[comment]at h⊢;rw[O2g _ u r r' (by simp only[U17]at h;omega)]
  unfold comment
  split;rename_i e;simp only[U24]at e;exact absurd e.1 ha
  split;rename_i e;simp only[U24]at e;exact absurd e.1 ha
  rfl
theorem O8a(u r r':Bs)(m:Nat)(h:V1y (u++r)=.ok m)(hm:m<u.length):V1y (u++r')=.ok m:=by
 have hc:=O51 ((u++r).drop (blanks (u++r)));have jw:blanks (u++r)+comment ((u++r).drop (blanks (u++r)))<=m:=by
  unfold V1y at h;simp only at h
  split at h <;> cases h <;> omega
 have hb:blanks (u++r')=blanks (u++r):=by
  unfold blanks;rw[O2g _ u r r' (by unfold blanks at jw;omega)]
 have hd:(u++r).drop (blanks (u++r))=u.drop (blanks (u++r))++r:=by
  rw[U3c,show blanks (u++r)-u.length=0 by omega];rfl
 have ye:(u++r').drop (blanks (u++r))=u.drop (blanks (u++r))++r':=by
  rw[U3c,show blanks (u++r)-u.length=0 by omega];rfl
 have jJ:comment ((u++r').drop (blanks (u++r)))=comment ((u++r).drop (blanks (u++r))):=by
  rw[hd,ye];rw[hd]at jw;exact Ofv _ r r' (by rw[U15];omega)
 unfold V1y at h⊢;simp only at h⊢;rw[hb,jJ];generalize blanks (u++r)+comment ((u++r).drop (blanks (u++r)))=q at h jw⊢;have e1:(u++r).drop q=u.drop q++r:=by rw[U3c,show q-u.length=0 by omega];rfl
 have e2:(u++r').drop q=u.drop q++r':=by rw[U3c,show q-u.length=0 by omega];rfl
 rw[e1]at h;rw[e2];have hl:(u.drop q).length=u.length-q:=U15;generalize u.drop q=w at h hl⊢
 match w,h,hl with
 |[],_,hl=>simp at hl;omega
 |[a],h,hl =>
  simp only[U17,U1t]at hl;simp only[U1l,U23]at h⊢;by_cases de:a=10;subst de;simp only at h;exact J1
  by_cases fC:a=13
  subst fC
  split at h;exact J1;rename_i e;simp at e;cases h
  exact J29
  exact J28
 |a::b::w,h,hl =>
  simp only[U1l]at h⊢;by_cases de:a=10;subst de;simpa using h
  by_cases fC:a=13
  subst fC;by_cases hb:b=10;subst hb;simpa using h
  split at h;rename_i e;simp only[U24]at e;exact absurd e.2.1 hb;rename_i e;simp at e;cases h
  exact J29
  exact J28
theorem Ooy:∀(N:Nat)(u r r':Bs)(k:Nat),u.length<=N->gap (u++r)=.ok k->k<u.length->gap (u++r')=.ok k:=by
 intro N
 induction N with
 |zero=>intro u r r' k h1 _ h2;omega
 |succ N ih =>
  intro u r r' k hN h hk;rw[O2v]at h;cases hs:V1y (u++r) with
  |bad c p=>rw[hs]at h;cases h
  |ok m =>
   rw[hs]at h;cases m with
   |zero =>
    simp only at h;cases h;rw[O2v,O8a u r r' 0 hs hk]
   |succ m =>
    simp only at h;cases hg:gap ((u++r).drop (m+1)) with
    |bad c p=>rw[hg]at h;cases h
    |ok q =>
     rw[hg]at h;simp only[V35.ok.injEq]at h;have e1:(u++r).drop (m+1)=u.drop (m+1)++r:=by rw[U3c,show m+1-u.length=0 by omega];rfl
     have e2:(u++r').drop (m+1)=u.drop (m+1)++r':=by rw[U3c,show m+1-u.length=0 by omega];rfl
     rw[O2v,O8a u r r' (m+1) hs Ya];simp only;rw[e2,ih (u.drop (m+1)) r r' q (by rw[U15];omega) (by rw[<-e1];exact hg) (by rw[U15];omega)];simp only;rw[h]
theorem Two.gap{x s1 s2:Bs}{a1 a2:Nat}(T:Two x s1 s2 a1 a2){j k:Nat}(hj:j<=x.length)(h:Vy s1 (a1+j)=.ok (a1+k))(hk:k<x.length):Vy s2 (a2+j)=.ok (a2+k)/\j<=k:=by
 have aQ:=Oo h (by have:=T.h1;omega);obtain⟨r,hr,he⟩:=T.d1 (j:=j) hj;obtain⟨r',eD,qh⟩:=T.d2 (j:=j) hj;refine⟨?_,Ya⟩;unfold Vy at h⊢;rw[he]at h;rw[qh];cases hg:Pl.gap (x.drop j++r) with
 |bad c p=>rw[hg]at h;cases h
 |ok q =>
  rw[hg]at h;simp only[V35.ok.injEq]at h;rw[Ooy _ (x.drop j) r r' q (U12 _) hg (by rw[U15];omega)];simp only;congr 1;omega
theorem O3g(u:Bs){r:Bs}(h:Ol r):long (u++r)=long u:=by
 rcases h with rfl|⟨c,t,rfl,hc,_⟩
 rw[U3k]
 have dT:c≠34/\c≠39:=by rcases hc with rfl|rfl|rfl|rfl|rfl|rfl|rfl|rfl <;> decide
 match u with
 |[]=>simp only[U23];unfold long;split <;> simp_all
 |[a]=>simp only[U1l,U23];unfold long;split <;> simp_all
 |[a,b]=>simp only[U1l,U23];unfold long;split <;> simp_all
 |a::b::d::u =>
  simp only[U1l];unfold long;by_cases h1:a=34/\b=34/\d=34;obtain⟨rfl,rfl,rfl⟩:=h1;rfl
  by_cases h2:a=39/\b=39/\d=39;obtain⟨rfl,rfl,rfl⟩:=h2;rfl
  split;rename_i e;simp only[U24]at e;exact absurd ⟨e.1,e.2.1,e.2.2.1⟩ h1;rename_i e;simp only[U24]at e;exact absurd ⟨e.1,e.2.1,e.2.2.1⟩ h2
  split;rename_i e;simp only[U24]at e;exact absurd ⟨e.1,e.2.1,e.2.2.1⟩ h1;rename_i e;simp only[U24]at e;exact absurd ⟨e.1,e.2.1,e.2.2.1⟩ h2
  rfl
theorem O8b(u:Bs){r:Bs}(h:Ol r):V11 (u++r)=V11 u:=by
 unfold V11;rw[O3f h Vq (by rintro c (rfl|rfl|rfl|rfl|rfl|rfl|rfl|rfl) <;> decide)]
theorem Obx{E:V19}(hE:V1k E){x s1 s2:Bs}{a1 a2:Nat}(T:Two x s1 s2 a1 a2){j e:Nat}{t:Bs}(hj:j<=x.length)(h:V3x E s1 (a1+j)=.ok (t,e))(he:e<=a1+x.length):∃k,e=a1+k/\j<k/\V3x E s2 (a2+j)=.ok (t,a2+k):=by
 have aQ:=(word_le hE (s:=s1) (n:=a1+j) (by have:=T.h1;omega)).1 _ _ h;obtain⟨k,rfl⟩:∃k,e=a1+k:=⟨e-a1,Ya⟩
 refine⟨k,rfl,Ya,?_⟩;obtain⟨r,hr,pW⟩:=T.d1 (j:=j) hj;obtain⟨r',eD,mP⟩:=T.d2 (j:=j) hj;unfold V3x V3u at h⊢;rw[pW,O3g _ hr,O8b _ hr]at h;rw[mP,O3g _ eD,O8b _ eD]
 split at h
 rename_i hl
 rw[U18 hl];simp only[Va.ok.injEq,U19]at h⊢;exact⟨h.1,Ya⟩
 rename_i hl
 rw[U1b hl]
 split at h
 rename_i hb
 rw[U18 hb];cases hs:E.str (x.drop j++r) with
 |non=>rw[hs]at h;cases h
 |bad c p=>rw[hs]at h;cases h
 |ok v =>
  obtain⟨t',q⟩:=v;rw[hs]at h;simp only[Va.ok.injEq,U19]at h;rw[hE.strL (x.drop j) r r' t' q hr eD hs (by rw[U15];omega)];simp only[Va.ok.injEq,U19];exact⟨h.1,Ya⟩
 rename_i hb
 rw[U1b hb];have aO:V11 (x.drop j)<=(x.drop j).length:=Vn _ _;simp only[Va.ok.injEq,U19]at h⊢;refine⟨?_,Ya⟩;rw[<-h.1,List.take_append,List.take_append,show V11 (x.drop j)-(x.drop j).length=0 by omega];simp
def KR(a1 a2:Nat)(v w:KW):Prop:=v.1=w.1/\∃p q,v.2=(a1+p,a1+q)/\w.2=(a2+p,a2+q)
theorem Ojr{E:V19}(hE:V1k E){x s1 s2:Bs}{a1 a2:Nat}(T:Two x s1 s2 a1 a2):∀(f1 f2 j e:Nat)(qi qj ws:List KW),j<=x.length->s2.length<a2+j+f2->V5t (KR a1 a2) qi qj ->V4c E s1 f1 (a1+j) qi=.ok (ws,e)->V7 s1 e<a1+x.length->∃k oq,e=a1+k/\j<k/\k<x.length/\V4c E s2 f2 (a2+j) qj=.ok (oq,a2+k)/\V5t (KR a1 a2) ws oq:=by
 intro f1
 induction f1 with
 |zero=>intro f2 j e qi qj ws _ _ _ h;simp[V4c]at h
 |succ f1 ih =>
  intro f2 j e qi qj ws hj hf dw h bD;have T1:=T.h1;have T2:=T.h2
  match f2,hf with
  |0,hf=>omega
  |f2+1,hf =>
  unfold V4c at h⊢;cases hw:V3x E s1 (a1+j) with
  |non=>rw[hw]at h;cases h
  |bad c p=>rw[hw]at h;cases h
  |ok r =>
   obtain⟨t,e0⟩:=r;have fX:=(word_le hE (s:=s1) (n:=a1+j) Ya).1 _ _ hw;have hb:=V8 s1 e0 fX.2;rw[hw]at h;simp only at h
   split at h
   rename_i hd
   have aa:=byteAt_lt hd Yd;have ay:=V8 s1 (V7 s1 e0+1) Ya;have tY:V7 s1 (V7 s1 e0+1)<=e/\e<=s1.length:=by
    have q:∀(f n:Nat)(acc ws:List KW)(e:Nat),n<=s1.length->V4c E s1 f n acc=.ok (ws,e)->n<=e/\e<=s1.length:=by
     intro f
     induction f with
     |zero=>intro n acc ws e _ h;simp[V4c]at h
     |succ f ih =>
      intro n acc ws e hn h;unfold V4c at h;cases hw:V3x E s1 n with
      |non=>rw[hw]at h;cases h
      |bad c p=>rw[hw]at h;cases h
      |ok r =>
       obtain⟨t,e0⟩:=r;obtain⟨h1,h2⟩:=(word_le hE hn).1 _ _ hw;have hb:=V8 s1 e0 h2;rw[hw]at h;simp only at h
       split at h
       rename_i hd
       have aa:=byteAt_lt hd Yd;have ay:=V8 s1 (V7 s1 e0+1) Ya;have:=ih _ _ _ _ ay.2 h;omega
       simp only[Va.ok.injEq,U19]at h;omega
    exact q _ _ _ _ _ ay.2 h
   have jj:=V8 s1 e tY.2;obtain⟨k,hk,rQ,fj⟩:=Obx hE T hj hw Ya;rw[fj];simp only;subst hk;obtain⟨k1,bx⟩:∃k1,V7 s1 (a1+k)=a1+k1:=⟨V7 s1 (a1+k)-a1,Ya⟩
   rw[bx]at hd h aa hb ay tY;rw[U2a]at h ay tY;refine Z247 ?_;intro k2 cd;rw[cd]at h ay tY;obtain⟨g1,g2⟩:=T.blanks bx Ya;obtain⟨g3,g4⟩:=T.blanks cd Ya;rw[g1,T.byte Ya,U18 hd,U2a,g3];have Cc:V5t (KR a1 a2) (qi++[(t,a1+j,a1+k)]) (qj++[(t,a2+j,a2+k)]):=by
    refine dw.app (.cons ⟨rfl,j,k,rfl,rfl⟩ .nil)
   obtain⟨k3,oq,e1,e2,e3,e4,e5⟩:=ih f2 k2 e _ _ ws Ya Ya Cc h bD;exact⟨k3,oq,e1,Ya,e3,e4,e5⟩
   rename_i hd
   simp only[Va.ok.injEq,U19]at h;obtain⟨rfl,rfl⟩:=h;obtain⟨k,hk,rQ,fj⟩:=Obx hE T hj hw Ya;rw[fj];simp only;subst hk;obtain⟨k1,bx⟩:∃k1,V7 s1 (a1+k)=a1+k1:=⟨V7 s1 (a1+k)-a1,Ya⟩
   obtain⟨g1,g2⟩:=T.blanks bx Ya;rw[bx]at hd;rw[g1,T.byte Ya,U1b hd];exact⟨k,_,rfl,rQ,Ya,rfl,dw.app (.cons ⟨rfl,j,k,rfl,rfl⟩ .nil)⟩
def isQ(q:UInt8):Prop:=q=34\/q=39
theorem Oht{r:Bs}(h:Ol r){q:UInt8}(hq:isQ q)(u:Bs):run q (u++r)=run q u:=by
 unfold run;rw[O3f h];rintro c hc;rcases hq with rfl|rfl <;> rcases hc with rfl|rfl|rfl|rfl|rfl|rfl|rfl|rfl <;> decide
theorem Og0(u r:Bs)(d:Nat)(h:d<=u.length):V1z (u++r) d=V1z u d:=by
 induction u generalizing d with
 |nil=>simp only[U1t,Nat.le_zero]at h;subst h;cases r <;> rfl
 |cons c u ih =>
  cases d with
  |zero=>rfl
  |succ d =>
   rw[U1l];unfold V1z;rw[ih d (by simpa using h)]
theorem O3i(u r:Bs)(p d:Nat)(h:p+d<=u.length):V1a (u++r) p d=V1a u p d:=by
 unfold V1a;rw[Oz u r p Ya,Og0 _ _ _ (by rw[U15];omega),U2q (by rw[U15];omega)]
theorem Oac(T)(w r r':Bs)(m:Nat)(t:Bs)(o:Bool)(h:V43 T (w++r)=.go m t o)(hm:m<=w.length):V43 T (w++r')=.go m t o:=by
 have h2:2<=m:=by
  unfold V43 V4b at h
  split at h
  rename_i x hx
  cases h
  split at hx;cases hx
  split at hx;cases hx;simp
  split at hx
  split at hx;cases hx;simp
  cases hx
  split at hx
  split at hx;cases hx;simp
  cases hx
  cases hx
  cases h
 match w,hm with
 |[],hm=>simp at hm;omega
 |[a],hm=>simp at hm;omega
 |a::b::w,hm =>
  unfold V43 at h⊢;have e0:∀r:Bs,(a::b::w++r).drop (0+1)=b::(w++r):=λ r=>rfl
  rw[V6v T _ 0 b (w++r) (e0 r)]at h;rw[V6v T _ 0 b (w++r') (e0 r')];cases hi:V3w T b 0 7 with
  |some k=>rw[hi]at h;exact h
  |none =>
   rw[hi]at h;simp only at h⊢
   split at h
   ·rename_i x hx
    cases h
    split at hx
    rename_i yr
    rw[U18 yr];cases hu:V1a (a::b::w++r) (0+2) 4 with
    |bad c p=>rw[hu]at hx;cases hx
    |ok n =>
     rw[hu]at hx;cases hx;simp only at hm;rw[O3i (a::b::w) r (0+2) 4 Ya]at hu;rw[O3i (a::b::w) r' (0+2) 4 Ya,hu]
    rename_i yr
    rw[U1b yr]
    split at hx
    rename_i Qw
    rw[U18 Qw];cases hu:V1a (a::b::w++r) (0+2) 8 with
    |bad c p=>rw[hu]at hx;cases hx
    |ok n =>
     rw[hu]at hx;cases hx;simp only at hm;rw[O3i (a::b::w) r (0+2) 8 Ya]at hu;rw[O3i (a::b::w) r' (0+2) 8 Ya,hu]
    cases hx
   cases h
theorem O64(T)(l:Bs)(p:Nat)(h:V43 T l=.bad p)(h0:0<l.length):p<=l.length:=by
 have vF:∀d c q,V1a l (0+2) d=.bad c q->2<=l.length->q<=l.length:=by
  intro d c q hu h2;unfold V1a at hu;have:=(V6f (l.drop (0+2)) d).2;rw[U15]at this
  split at hu;cases hu;omega
  split at hu <;> cases hu;omega
 unfold V43 V4b at h
 split at h;cases h
 rename_i c' p' hx
 cases h
 split at hx;cases hx;exact U12 _
 rename_i c r hd
 have:=U2b List.length hd;rw[U15]at this;simp only[U17]at this
 split at hx;cases hx
 split at hx
 split at hx;cases hx
 rename_i hu;cases hx;exact vF _ _ _ hu Ya
 split at hx
 split at hx;cases hx
 rename_i hu;cases hx;exact vF _ _ _ hu Ya
 cases hx;omega
theorem O3z(w r r':Bs)(m:Nat)(h:feed (w++r)=.ok m)(hw:w≠[])(hm:m<=w.length):feed (w++r')=.ok m:=by
 match w,hw with
 |[a],_ =>
  simp only[U1l,U23,U17,U1t]at h hm⊢;by_cases de:a=10;subst de;exact h
  by_cases fC:a=13
  subst fC;unfold feed at h
  split at h;rename_i e;simp at e;exact J1;cases h
  exact J29
  exact J179
 |a::b::w,_ =>
  simp only[U1l]at h⊢;by_cases de:a=10;subst de;exact h
  by_cases fC:a=13
  subst fC;by_cases hb:b=10;subst hb;exact h
  unfold feed at h
  split at h;rename_i e;simp at e;rename_i e;simp only[U24]at e;exact absurd e.2.1 hb;cases h
  exact J29
  exact J179
theorem Og1(w r r':Bs)(hw:w≠[]):V32 (w++r')=V32 (w++r):=by
 match w,hw with
 |a::w,_=>rfl
theorem O7b{q:UInt8}(hq:isQ q)(u:Bs){r:Bs}(h:Ol r):V3z q (u++r)=V3z q u:=by
 unfold V3z O2q;rw[Oht h hq]
theorem Og2{q:UInt8}(hq:isQ q)(w:Bs){r r':Bs}(hr:Ol r)(eD:Ol r')(hw:w≠[]):(∀x,V1m q (w++r)=some x->(∀m t o,x=.go m t o->m<=w.length->V1m q (w++r')=some x))/\(V1m q (w++r)=none->V1m q (w++r')=none):=by
 match w,hw with
 |c::w,_ =>
  rw[U1l,U1l];unfold V1m;simp only
  split;refine⟨λ x hx m t o he hm=>?_,λ h=>by cases h⟩;rw[<-hx,<-U1l,<-U1l,O7b hq _ hr,O7b hq _ eD]
  refine⟨λ x hx m t o he hm=>?_,λ hx=>?_⟩
  subst he
  split at hx;cases hx
  rename_i n hf
  cases hx;rw[<-U1l]at hf;rw[<-U1l,O3z (c::w) r r' (n+1) hf Yb hm];simp only;rw[<-U1l,U2q hm,U2q hm]
  cases hx
  split at hx
  rename_i hf
  rw[<-U1l]at hf;rw[<-U1l,O3z (c::w) r r' 0 hf Yb Yb];cases hx
  cases hx
theorem Ohu:∀(f:Nat)(first:Bool)(u r r':Bs)(m:Nat),O_v f first (u++r)=.ok m->m<u.length->u.length<f->O_v f first (u++r')=.ok m:=by
 intro f
 induction f with
 |zero=>intro first u r r' m _ _ h;omega
 |succ f ih =>
  intro first u r r' m h hm hf
  have hb:blanks (u++r)<=m:=by
   unfold O_v at h
   split at h;cases h;exact U12 _
   split at h;cases h
   split at h;cases h
   cases h;exact U12 _
   split at h;cases h
   exact J1
  have ay:blanks (u++r')=blanks (u++r):=by
   unfold blanks;rw[O2g _ u r r' (by unfold blanks at hb;omega)]
  unfold O_v at h⊢;rw[ay];rw[Oz u r _ Ya]at h;rw[Oz u r' _ Ya];generalize blanks (u++r)=b at h hb⊢;have hl:(u.drop b).length=u.length-b:=U15
  match hv:u.drop b,hl with
  |[],hl=>simp at hl;omega
  |c::v,hl =>
   rw[hv]at h;simp only[U1l]at h⊢;rw[<-U1l]at h⊢;cases fO:feed (c::v++r) with
   |bad k p=>rw[fO]at h;cases h
   |ok n =>
    rw[fO]at h;cases n with
    |zero =>
     rw[O3z (c::v) r r' 0 fO Yb Yb];exact h
    |succ n =>
     simp only at h;cases hg:O_v f false ((c::v++r).drop (n+1)) with
     |bad k p=>rw[hg]at h;cases h
     |ok k =>
      rw[hg]at h;simp only[V35.ok.injEq]at h;have aQ:n+1<=(c::v).length:=Ya
      rw[O3z (c::v) r r' (n+1) fO Yb aQ];simp only;rw[Oz _ _ _ aQ]at hg;rw[Oz _ _ _ aQ,ih false ((c::v).drop (n+1)) r r' k hg (by rw[U15];omega) (by rw[U15];omega)];simp only;rw[h]
theorem Og3(c:UInt8)(w r r':Bs)(m:Nat)(t:Bs)(o:Bool)(h:V4g (c::w++r)=.go m t o)(hm:m<(c::w).length):V4g (c::w++r')=.go m t o:=by
 unfold V4g V30 at h⊢;have e:∀r:Bs,(c::w++r).drop 1=w++r:=λ r=>rfl
 rw[e]at h;rw[e]
 split at h
 rename_i n hn
 split at hn;cases hn
 rename_i k hk
 cases hn;cases h;simp only[U17]at hm;have h1:O_v ((w++r).length+(w++r').length+1) true (w++r)=.ok k:=by
  rw[O5b _ ((w++r).length+1) true (w++r) Ya Ya];exact hk
 have h2:=Ohu _ true w r r' k h1 Ya (by simp only[U1c];omega);rw[O5b ((w++r').length+1) ((w++r).length+(w++r').length+1) true (w++r') Ya Ya,h2]
 cases h
def SL(step:Bs->Option SR):Prop:=∀w r r' m t o,Ol r->Ol r'->w≠[]->step (w++r)=some (.go m t o)->m<=w.length->(o=false->m<w.length)->step (w++r')=some (.go m t o)
theorem O7c(T)(long:Bool){q:UInt8}(hq:isQ q):SL (V1b T long q):=by
 intro w r r' m t o hr eD hw h hm ho;unfold V1b at h⊢
 split at h
 ·rename_i hl
  rw[U18 hl];obtain⟨c1,c2⟩:=Og2 hq w hr eD hw
  split at h
  rename_i nh
  rw[U18 nh];simp only[U1f]at h⊢;unfold V33 at h⊢;cases hc:V1m q (w++r) with
  |some x =>
   rw[hc]at h;simp only at h;rw[c1 x hc m t o h hm];exact h
  |none =>
   rw[hc]at h;rw[c2 hc,Og1 w r r' hw];exact h
  rename_i nh
  rw[U1b nh];simp only[U1f]at h⊢;unfold V3e at h⊢;cases hc:V1m q (w++r) with
  |some x =>
   rw[hc]at h;simp only at h;rw[c1 x hc m t o h hm];exact h
  |none =>
   rw[hc]at h;rw[c2 hc]
   match w,hw with
   |c::v,_ =>
    simp only[U1l]at h⊢;by_cases jd:(c.toNat==92)=true
    rw[U18 jd]at h;rw[U18 jd]
    match v with
    |[] =>
     exfalso;simp only[U23]at h;simp only[U17,U1t]at hm ho;have ad:1<=m/\o=false:=by
      split at h;have:=O37 _ _ _ _ _ h;exact⟨this.2.1,V61 _ _ _ _ _ h⟩
      split at h;have:=V5c _ _ _ _ Yb h;exact⟨this.2.1,this.2.2.2.1⟩
      have:=O37 _ _ _ _ _ h;exact⟨this.2.1,V61 _ _ _ _ _ h⟩
     have:=ho ad.2;omega
    |d::v =>
     simp only[U1l]at h⊢;by_cases hd:V5m d=true;rw[U18 hd]at h;rw[U18 hd];have ad:=V5c _ _ _ _ Yb h;exact Og3 c (d::v) r r' m t o h (ho ad.2.2.2.1)
     rw[U1b hd]at h;rw[U1b hd];exact Oac T (c::d::v) r r' m t o h hm
    rw[U1b jd]at h;rw[U1b jd];exact h
 rename_i hl
 rw[U1b hl]
 split at h
 rename_i nh
 rw[U18 nh]
 match w,hw with
 |c::v,_=>exact h
 rename_i nh
 rw[U1b nh]
 match w,hw with
 |c::v,_ =>
  simp only[U1l]at h⊢;unfold V3q at h⊢;simp only at h⊢;by_cases F7:(c.toNat==q.toNat)=true;rw[U18 F7]at h;rw[U18 F7];exact h
  rw[U1b F7]at h;rw[U1b F7];by_cases jd:(c.toNat==92)=true;rw[U18 jd]at h;rw[U18 jd];simp only[U1f]at h⊢;exact Oac T (c::v) r r' m t o h hm
  rw[U1b jd]at h;rw[U1b jd];exact h
theorem Ob3(T)(long:Bool)(q c:UInt8)(r:Bs):∃sr,V1b T long q (c::r)=some sr/\∀p,sr=.bad p->p<=(c::r).length:=by
 have hit:∀p,V32 (c::r)=.bad p->p<=(c::r).length:=by
  intro p h;unfold V32 at h;simp only at h
  split at h;cases h
  cases h;simp
 have Cd:∀x,V1m q (c::r)=some x->∀p,x=.bad p->p<=(c::r).length:=by
  intro x hx p he;subst he;unfold V1m at hx;simp only at hx
  split at hx
  simp only[U1f]at hx;unfold V3z at hx;simp only at hx
  split at hx <;> cases hx
  split at hx;cases hx
  cases hx
  rename_i k p' hf
  cases hx;have:=V4m _ _ _ hf;simp;omega
 unfold V1b
 split
 split
 refine⟨_,rfl,λ p h=>?_⟩;unfold V33 at h
 split at h;rename_i x hx;exact Cd x hx p h
 exact hit p h
 refine⟨_,rfl,λ p h=>?_⟩;unfold V3e at h
 split at h;rename_i x hx;exact Cd x hx p h
 simp only at h
 split at h
 split at h;exact O64 T _ p h Yb
 split at h
 unfold V4g V30 at h
 split at h;cases h
 rename_i k p' hx
 cases h
 split at hx
 rename_i k2 p2 hf
 cases hx;have aQ:∀(f:Nat)(b:Bool)(l:Bs)(k p:Nat),O_v f b l=.bad k p->p<=l.length:=by
  intro f
  induction f with
  |zero=>intro b l k p h;simp[O_v]at h
  |succ f ih =>
   intro b l k p h;have hb:=O34 l;unfold O_v at h
   split at h;cases h
   rename_i c r hd
   have hl:(c::r).length=l.length-blanks l:=by rw[<-hd,U15]
   simp only[U17]at hl
   split at h
   rename_i k' p' hf
   have:=V4m _ _ _ hf;exact J1
   split at h;exact J1
   cases h
   rename_i n hn
   have:=V47 _ _ hn
   split at h
   rename_i k' p' hf
   have:=ih _ _ _ _ hf;rw[U15]at this;simp only[U17]at this;cases h;simp only[U17]at *;omega
   cases h
 have:=aQ _ _ _ _ _ hf;rw[U15]at this;simp only[U17]at this⊢;omega
 cases hx
 exact O64 T _ p h Yb
 exact hit p h
 split
 refine⟨_,rfl,λ p h=>?_⟩;unfold V56 at h;simp only at h
 split at h;cases h
 exact hit p h
 unfold V3q;simp only
 split;exact⟨_,rfl,λ p h=>by cases h⟩
 split;exact⟨_,rfl,λ p h=>O64 T _ p h Yb⟩
 exact⟨_,rfl,λ p h=>hit p h⟩
theorem O65(T)(long:Bool)(q:UInt8)(l:Bs):∀(f n:Nat)(out:Bs),n<=l.length->l.length<n+f ->V2p (V1b T long q) l f n out≠.non/\(∀t k,V2p (V1b T long q) l f n out=.ok (t,k)->n<k/\k<=l.length)/\(∀c p,V2p (V1b T long q) l f n out=.bad c p->p<=l.length/\c=3):=by
 intro f
 induction f with
 |zero=>intro n out h1 h2;omega
 |succ f ih =>
  intro n out hn hf;unfold V2p
  split;exact⟨Yb,λ t k h=>by simp at h,λ c p h=>by cases h;exact⟨U12 _,rfl⟩⟩
  rename_i c r hd
  have ad:(c::r).length=l.length-n:=by rw[<-hd,U15]
  obtain⟨sr,h1,h2⟩:=Ob3 T long q c r;rw[h1];cases sr with
  |bad p =>
   have:=h2 p rfl;exact⟨Yb,λ t k h=>by simp at h,λ c p h=>by cases h;exact⟨Ya,rfl⟩⟩
  |go m t over =>
   have:=V46 T long q _ m t over h1;simp only[U17]at ad this;simp only
   split;exact⟨Yb,λ t k h=>by (simp only[Va.ok.injEq,U19]at h;omega),λ c p h=>by simp at h⟩
   obtain⟨i1,i2,i3⟩:=ih (n+m) (out++t) Ya Ya;exact⟨i1,λ t k h=>by (have:=i2 t k h;omega),i3⟩
theorem Oad{step:Bs->Option SR}(hS:SL step)(ad:∀l m t o,step l=some (.go m t o)->1<=m/\m<=l.length)(u r r':Bs)(hr:Ol r)(eD:Ol r'):∀(f f' n:Nat)(out t:Bs)(k:Nat),V2p step (u++r) f n out=.ok (t,k)->k<=u.length->u.length<n+f' ->V2p step (u++r') f' n out=.ok (t,k):=by
 intro f
 induction f with
 |zero=>intro f' n out t k h;simp[V2p]at h
 |succ f ih =>
  intro f' n out t k h hk hf;have az:n<k:=by
   exact J43
  match f',hf with
  |0,hf=>omega
  |f'+1,hf =>
  unfold V2p at h⊢;rw[Oz u r n Ya]at h;rw[Oz u r' n Ya];have hl:(u.drop n).length=u.length-n:=U15
  match hv:u.drop n,hl with
  |[],hl=>simp at hl;omega
  |c::v,hl =>
   rw[hv]at h;simp only[U1l]at h⊢;rw[<-U1l]at h⊢
   split at h;cases h
   cases h
   rename_i m t' over hs
   have hm:=ad _ _ _ _ hs
   split at h
   rename_i ho
   simp only[Va.ok.injEq,U19]at h;rw[hS (c::v) r r' m t' over hr eD Yb hs Ya (λ e=>by rw[ho]at e;cases e)];simp only;rw[U18 ho];simp only[Va.ok.injEq,U19];exact h
   rename_i ho
   have Ms:n+m<k:=by
    exact J43
   rw[hS (c::v) r r' m t' over hr eD Yb hs Ya (λ _=>by omega)];simp only;rw[U1b ho];exact ih f' (n+m) (out++t') t k h hk Ya
theorem O5e(T)(l:Bs):Vu T l≠.non/\(∀t k,Vu T l=.ok (t,k)->1<=k/\k<=l.length)/\(∀c p,Vu T l=.bad c p->p<=l.length/\c≠0):=by
 unfold Vu
 split;exact⟨Yb,λ t k h=>by simp at h,λ c p h=>by cases h;exact⟨U12 _,Yd⟩⟩
 rename_i c r
 split
 split
 rename_i hl
 have h3:=O59 _ hl;cases hf:feed ((c::r).drop 3) with
 |bad k p =>
  have:=V4m _ _ _ hf;refine⟨Yb,λ t k h=>by simp at h,λ c' p' h=>?_⟩;cases h;have h4:(c::r).drop 3≠[]:=by intro e;rw[e]at hf;simp[feed]at hf
  have h5:0<((c::r).drop 3).length:=U30.2 h4;rw[U15]at h5;exact⟨Ya,Ya⟩
 |ok m =>
  have:=V47 _ _ hf;rw[U15]at this;obtain⟨h1,h2,h4⟩:=O65 T true c (c::r) ((c::r).length+2) (3+m) [] Ya Ya;exact J44
 obtain⟨h1,h2,h4⟩:=O65 T false c (c::r) ((c::r).length+2) 1 [] Yb Ya;exact J44
 exact⟨Yb,λ t k h=>by simp at h,λ c' p h=>by cases h;exact⟨Yb,Yd⟩⟩
theorem O5u(T)(long:Bool)(q:UInt8):∀l m t o,V1b T long q l=some (.go m t o)->1<=m/\m<=l.length:=λ l m t o h=>(V46 T long q l m t o h).2
theorem Ok0(T):Loc (Vu T):=by
 intro u r r' t k hr eD h hk;have aH:=(O5e T (u++r)).2.1 t k h
 match u,hk with
 |[],hk=>simp at hk;omega
 |c::u,hk =>
  rw[U1l]at h⊢;unfold Vu at h⊢;simp only at h⊢
  split at h
  rename_i hq
  rw[U18 hq];have hQ:isQ c:=by
   simp only[U4h,U2w]at hq;rcases hq with e|e
   left;rw[<-U20];exact e
   right;rw[<-U20];exact e
  rw[<-U1l]at h⊢;rw[O3g (c::u) hr]at h;rw[O3g (c::u) eD]
  split at h
  rename_i hl
  rw[U18 hl];have h3:=O59 _ hl;rw[Oz (c::u) r 3 h3]at h;rw[Oz (c::u) r' 3 h3];cases hf:feed ((c::u).drop 3++r) with
  |bad k p=>rw[hf]at h;cases h
  |ok m =>
   rw[hf]at h;simp only at h;have Qx:=V47 _ _ hf;have dI:=(O65 T true c (c::u++r) ((c::u++r).length+2) (3+m) [] (by simp only[U1c,U15]at Qx⊢;omega) Ya).2.1 _ _ h;have a8:(c::u).drop 3≠[]:=by
    intro e;have:=U2b List.length e;rw[U15]at this;simp only[U1t]at this;omega
   rw[O3z _ r r' m hf a8 (by rw[U15];omega)];simp only;exact Oad (O7c T true hQ) (O5u T true c) (c::u) r r' hr eD _ _ _ _ t k h hk (by simp only[U1c];omega)
  rename_i hl
  rw[U1b hl];exact Oad (O7c T false hQ) (O5u T false c) (c::u) r r' hr eD _ _ _ _ t k h hk (by simp only[U1c];omega)
  cases h
structure SN(b:Nat)(x y:Nd):Prop where
 kind:x.kind=y.kind
 text:x.text=y.text
 keys:x.keys=y.keys
 spots:x.spots.length=y.spots.length
 subs:x.subs=y.subs.map (b+·)
 own:x.owner=if y.owner=0 then 0 else b+y.owner
structure RS(b:Nat)(st1 st2:Ve):Prop where
 len:st1.length=b+st2.length
 at':∀j y,st2[j]?=some y->∃x,st1[b+j]?=some x/\SN b x y
theorem RS.get{b:Nat}{st1 st2:Ve}(h:RS b st1 st2)(j:Nat):(st1[b+j]?=none/\st2[j]?=none)\/∃x y,st1[b+j]?=some x/\st2[j]?=some y/\SN b x y:=by
 cases hy:st2[j]? with
 |none =>
  left;refine⟨?_,rfl⟩;rw[List.getElem?_eq_none_iff]at hy⊢;have:=h.len;omega
 |some y =>
  obtain⟨x,hx,hs⟩:=h.at' j y hy;exact .inr ⟨x,y,hx,rfl,hs⟩
theorem RS.nil(st:Ve):RS st.length st []:=⟨Yb,λ j y h=>by simp at h⟩
theorem RS.app{b:Nat}{st1 st2:Ve}(h:RS b st1 st2){x y:Nd}(hs:SN b x y):RS b (st1++[x]) (st2++[y]):=by
 refine⟨by simp[h.len];omega,λ j z hz=>?_⟩;by_cases hj:j<st2.length;rw[U1d hj]at hz;obtain⟨x',hx,ji⟩:=h.at' j z hz;have:=h.len;exact⟨x',by rw[U1d Ya];exact hx,ji⟩
 have h2:=(U16.1 hz).1;simp only[U1c,U25]at h2;have:j=st2.length:=Ya;subst this;simp at hz;subst hz;exact⟨x,by rw[<-h.len];simp,hs⟩
theorem RS.mod{b:Nat}{st1 st2:Ve}(h:RS b st1 st2)(t:Nat)(f g:Nd->Nd)(AP:∀x y,SN b x y->SN b (f x) (g y)):RS b (st1.modify (b+t) f) (st2.modify t g):=by
 refine⟨by simp[h.len],λ j z hz=>?_⟩;rw[O10]at hz;rw[O10]
 split at hz
 rename_i e
 subst e;rw[U18 rfl];cases hy:st2[t]? with
 |none=>rw[hy]at hz;simp at hz
 |some y =>
  rw[hy]at hz;simp only[U29,U1f]at hz;subst hz;obtain⟨x,hx,hs⟩:=h.at' t y hy;rw[hx];exact⟨_,rfl,AP x y hs⟩
 rename_i e
 rw[U1b Ya];exact h.at' j z hz
theorem SN.put{b:Nat}{x y:Nd}(h:SN b x y)(w:Bs)(sp F8:Nat×Nat)(i:Nat):SN b (V12 x w sp (b+i)) (V12 y w F8 i) :=
 ⟨h.kind,h.text,by simp[V12,h.keys],by simp[V12,h.spots],by simp[V12,h.subs],h.own⟩
theorem RS.put{b:Nat}{st1 st2:Ve}(h:RS b st1 st2)(t:Nat)(w:Bs)(sp F8:Nat×Nat)(i:Nat):RS b (Vj st1 (b+t) w sp (b+i)) (Vj st2 t w F8 i) :=
 h.mod t _ _ λ _ _ hs=>hs.put w sp F8 i
theorem RS.kind8{b:Nat}{st1 st2:Ve}(h:RS b st1 st2)(t:Nat)(hk:kind8 st1 (b+t)=true):kind8 st2 t=true:=by
 unfold Pl.kind8 at hk⊢;have hl:=h.len;rcases h.get t with⟨h1,h2⟩|⟨x,y,h1,h2,hs⟩
 rw[h1]at hk;simp at hk
 rw[h1]at hk;rw[h2];simp only[U1g,U1x,U2w]at hk⊢;have e1:=hs.kind;have e2:=U2b List.length hs.keys;have e3:=hs.spots;have e4:=U2b List.length hs.subs;rw[U1n]at e4;omega
theorem RS.room{b:Nat}{st1 st2:Ve}(h:RS b st1 st2)(hk:room st1=true):room st2=true:=by
 unfold Pl.room at hk⊢;simp only[U1x]at hk⊢;have:=h.len;omega
theorem RS.sub{b:Nat}{st1 st2:Ve}(h:RS b st1 st2)(t:Nat)(w:Bs):(V16 st1 (b+t) w=.non/\V16 st2 t w=.non)\/(V16 st1 (b+t) w=.no/\V16 st2 t w=.no)\/∃i,V16 st1 (b+t) w=.yes (b+i)/\V16 st2 t w=.yes i:=by
 unfold V16;rcases h.get t with⟨h1,h2⟩|⟨x,y,h1,h2,hs⟩
 rw[h1,h2];exact .inl ⟨rfl,rfl⟩
 rw[h1,h2];simp only;rw[hs.keys];cases hf:y.keys.findIdx? (λ x=>x==w) with
 |none=>exact .inr (.inl ⟨rfl,rfl⟩)
 |some j =>
  simp only;rw[hs.subs,U1m];cases hj:y.subs[j]? with
  |none=>exact .inl ⟨rfl,rfl⟩
  |some i =>
   simp only[U29];have:=h.len;by_cases hi:i<st2.length;rw[U18 Ya,U18 hi];exact .inr (.inr ⟨i,rfl,rfl⟩)
   rw[U1b Ya,U1b hi];exact .inl ⟨rfl,rfl⟩
theorem RS.owner{b:Nat}{st1 st2:Ve}(h:RS b st1 st2)(i:Nat):V2y st1 (b+i)=if V2y st2 i=0 then 0 else b+V2y st2 i:=by
 unfold V2y;rcases h.get i with⟨h1,h2⟩|⟨x,y,h1,h2,hs⟩
 rw[h1,h2];simp
 rw[h1,h2];exact hs.own
theorem O9c(b a1 a2:Nat):∀(F9 oq:List KW)(table into d:Nat)(st1 st2 aV:Ve)(i1 d':Nat),V5t (KR a1 a2) F9 oq->RS b st1 st2->V3j (b+table) F9 (b+into) d st1=.ok (i1,d',aV) ->∃i2 cN,i1=b+i2/\V3j table oq into d st2=.ok (i2,d',cN)/\RS b aV cN:=by
 intro F9
 induction F9 with
 |nil=>intro oq table into d st1 st2 aV i1 d' _ _ h;simp[V3j]at h
 |cons v rest ih =>
  intro oq table into d st1 st2 aV i1 d' hk hr h;cases hk with
  |cons hv aF =>
   rename_i v2 Mt
   obtain⟨w,u1,u2⟩:=v;obtain⟨w',Qy,Qz⟩:=v2;obtain⟨hw,p,q,e1,e2⟩:=hv;simp only at hw;subst hw;unfold V3j at h⊢;rcases hr.sub into w with⟨h1,h2⟩|⟨h1,h2⟩|⟨i,h1,h2⟩
   rw[h1]at h;cases h
   rw[h1]at h;rw[h2];simp only at h⊢;cases aF with
   |nil =>
    simp only[Va.ok.injEq,U19]at h;obtain⟨rfl,rfl,rfl⟩:=h;exact⟨into,st2,rfl,rfl,hr⟩
   |cons hb hc =>
    simp only at h⊢
    split at h;cases h
    rename_i hd
    rw[U1b hd]
    split at h
    rename_i gl
    simp only[U1g]at gl;rw[hr.kind8 into gl.1,hr.room gl.2];simp only[Bool.and_self,U2i];have hl:=hr.len;have cL:RS b (Vj (st1++[V1s (b+table+1)]) (b+into) w (u1,u2) st1.length) (Vj (st2++[V1s (table+1)]) into w (Qy,Qz) st2.length):=by
     rw[hl];exact (hr.app (x:=V1s (b+table+1)) (y:=V1s (table+1)) ⟨rfl,rfl,rfl,rfl,rfl,((U1b (show ¬(V1s (table+1)).owner=0 from Nat.succ_ne_zero table)).trans (U2a b table 1).symm).symm⟩).put into w _ _ st2.length
    rw[hl]at h cL;exact ih _ table st2.length (d+1) _ _ aV i1 d' (.cons hb hc) cL h
    cases h
   rw[h1]at h;rw[h2];simp only at h⊢;cases aF with
   |nil=>cases h
   |cons hb hc =>
    simp only at h⊢;have ho:=hr.owner i
    split at h
    rename_i rZ
    rw[ho]at rZ
    split at rZ;omega
    rw[U18 Ya];exact ih _ table i (d+1) st1 st2 aV i1 d' (.cons hb hc) hr h
    cases h
def Vaf(x s1 s2:Bs)(a1 a2:Nat)(D:Nat)(V1 V2:V2c):Prop:=∀d j b st1 st2 i e aV,D<=d->j<=x.length->RS b st1 st2->V1 d (a1+j) st1=.ok (i,e,aV)->e<=a1+x.length ->
    ∃k i2 cN,e=a1+k/\i=b+i2/\V2 d (a2+j) st2=.ok (i2,a2+k,cN)/\RS b aV cN
section
variable {E:V19}(hE:V1k E){x s1 s2:Bs}{a1 a2:Nat}(T:Two x s1 s2 a1 a2){V1 V2:V2c}(hV:VLe s1 V1){D:Nat}(hS:Vaf x s1 s2 a1 a2 D V1 V2)
include hE T hV hS
theorem Oa7(b table j d:Nat)(hD:D<=d+1)(st1 st2 aV:Ve)(e:Nat)(hj:j<=x.length)(hr:RS b st1 st2)(jY:∀ws into d' st',V3j (b+table) ws (b+table) d st1=.ok (into,d',st')->d<=d')(h:V1g E V1 s1 (b+table) (a1+j) d st1=.ok (e,aV))(he:e<=a1+x.length):∃k cN,e=a1+k/\j<k/\V1g E V2 s2 table (a2+j) d st2=.ok (a2+k,cN)/\RS b aV cN:=by
 have T1:=T.h1;have T2:=T.h2;unfold V1g at h⊢;cases hk:V23 E s1 (a1+j) with
 |non=>rw[hk]at h;cases h
 |bad c p=>rw[hk]at h;cases h
 |ok r =>
  obtain⟨ws,e0⟩:=r;obtain⟨h1,h2,h3,_,_⟩:=(O1e hE (s:=s1) (n:=a1+j) Ya).1 _ _ hk;have hb:=V8 s1 e0 h2;rw[hk]at h;simp only at h;cases hw:V3j (b+table) ws (b+table) d st1 with
  |non=>rw[hw]at h;cases h
  |bad c p=>rw[hw]at h;cases h
  |ok r2 =>
   obtain⟨into,d',cg⟩:=r2;have qm:=jY _ _ _ _ hw;rw[hw]at h;simp only at h
   split at h
   rename_i eN
   have aa:=byteAt_lt eN Yd;have ay:=V8 s1 (V7 s1 e0+1) Ya;cases hv:V1 (d'+1) (V7 s1 (V7 s1 e0+1)) cg with
   |non=>rw[hv]at h;cases h
   |bad c p=>rw[hv]at h;cases h
   |ok r3 =>
    obtain⟨i,e2,cD⟩:=r3;have Ce:=(hV (d'+1) (V7 s1 (V7 s1 e0+1)) cg ay.2).1 _ _ _ hv;rw[hv]at h;simp only at h;have QA:e=e2:=by
     split at h;cases h
     split at h;simp only[Va.ok.injEq,U19]at h;exact h.1.symm
     cases h
    subst QA;obtain⟨k0,oq,g1,g2,g3,g4,g5⟩:=Ojr hE T (s1.length+2) (s2.length+2) j e0 [] [] ws hj Ya .nil hk Ya;subst g1;have BF:V23 E s2 (a2+j)=.ok (oq,a2+k0):=g4;rw[BF];refine Z248 ?_;intro k1 bx;rw[bx]at eN aa hb ay hv Ce;rw[U2a]at hv ay Ce;refine Z247 ?_;intro k2 cd;rw[cd]at hv ay Ce;obtain⟨q1,q2⟩:=T.blanks bx Ya;obtain⟨q3,q4⟩:=T.blanks cd Ya;obtain⟨i2,Cf,w1,w2,w3⟩:=O9c b a1 a2 ws oq table table d st1 st2 cg into d' g5 hr hw;subst w1;rw[w2];simp only;rw[q1,T.byte Ya,U18 eN,U2a,q3];obtain⟨k3,i3,Mu,v1,v2,v3,v4⟩:=hS (d'+1) k2 b cg Cf i e cD Ya Ya w3 hv he;rw[v3];simp only;rcases g5.last with⟨l1,l2⟩|⟨y,z,l1,l2,l3⟩
    rw[U43]at l1;exact absurd l1 h3
    obtain⟨wy,ya,yb⟩:=y;obtain⟨wz,za,zb⟩:=z;rw[l1]at h;rw[l2];have Iu:wy=wz:=l3.1;subst Iu;simp only at h⊢
    split at h
    rename_i h8
    rw[U18 (v4.kind8 i2 h8)];simp only[Va.ok.injEq,U19]at h;obtain⟨_,rfl⟩:=h;subst v1 v2;exact⟨k3,_,rfl,Ya,rfl,v4.put i2 wy _ _ i3⟩
    cases h
   cases h
theorem Ojs(b table d:Nat)(hD:D<=d+1)(jY:∀st ws into d' st',V3j (b+table) ws (b+table) d st=.ok (into,d',st')->d<=d'):∀(f1 f2 j:Nat)(st1 st2 aV:Ve)(e:Nat),j<=x.length->s2.length<a2+j+f2->RS b st1 st2 ->V21 E V1 s1 (b+table) d f1 (a1+j) st1=.ok (e,aV)->e<a1+x.length->∃k cN,e=a1+k/\j<k/\V21 E V2 s2 table d f2 (a2+j) st2=.ok (a2+k,cN)/\RS b aV cN:=by
 intro f1
 induction f1 with
 |zero=>intro f2 j st1 st2 aV e _ _ _ h;simp[V21]at h
 |succ f1 ih =>
  intro f2 j st1 st2 aV e hj hf hr h he;have T1:=T.h1;have T2:=T.h2
  match f2,hf with
  |0,hf=>omega
  |f2+1,hf =>
  unfold V21 at h⊢;cases hp:V1g E V1 s1 (b+table) (a1+j) d st1 with
  |non=>rw[hp]at h;cases h
  |bad c p=>rw[hp]at h;cases h
  |ok r =>
   obtain⟨e0,cg⟩:=r;have QB:=(O3v hE hV (b+table) (a1+j) d st1 Ya).1 _ _ hp;have hb:=V8 s1 e0 QB.2;rw[hp]at h;simp only at h
   split at h
   rename_i d6
   simp only[Va.ok.injEq,U19]at h;obtain⟨h,rfl⟩:=h;obtain⟨k0,cD,q1,q2,q3,q4⟩:=Oa7 hE T hV hS b table j d hD st1 st2 cg e0 hj hr (jY st1) hp Ya;subst q1;rw[q3];refine Z248 ?_;intro k1 bx;rw[bx]at d6 hb h;obtain⟨g1,g2⟩:=T.blanks bx Ya;rw[g1,T.byte Ya,U18 d6];exact⟨k1,cD,h.symm,Ya,rfl,q4⟩
   rename_i d6
   split at h
   rename_i eG
   have aa:=byteAt_lt eG Yd;have ay:=V8 s1 (V7 s1 e0+1) Ya;have od:=(O4q hE hV (b+table) d f1 _ cg ay.2).1 _ _ h;obtain⟨k0,cD,q1,q2,q3,q4⟩:=Oa7 hE T hV hS b table j d hD st1 st2 cg e0 hj hr (jY st1) hp Ya;subst q1;rw[q3];refine Z248 ?_;intro k1 bx;rw[bx]at d6 eG hb aa ay h od;rw[U2a]at ay h od;refine Z247 ?_;intro k2 cd;rw[cd]at h ay od;obtain⟨g1,g2⟩:=T.blanks bx Ya;obtain⟨g3,g4⟩:=T.blanks cd Ya;rw[g1,T.byte Ya,U1b d6,U18 eG,U2a,g3];obtain⟨k3,Cf,r1,r2,r3,r4⟩:=ih f2 k2 cg cD aV e Ya Ya q4 h he;exact⟨k3,Cf,r1,Ya,r3,r4⟩
   cases h
omit hE
theorem Ohl(b d:Nat)(hD:D<=d+1):∀(f1 f2 j:Nat)(subs:List Nat)(st1 st2 aV:Ve)(e:Nat)(l:List Nat),j<=x.length->s2.length<a2+j+f2->RS b st1 st2 ->V1h V1 s1 d f1 (a1+j) (subs.map (b+·)) st1=.ok (l,e,aV)->e<a1+x.length->∃k l2 cN,e=a1+k/\l=l2.map (b+·)/\V1h V2 s2 d f2 (a2+j) subs st2=.ok (l2,a2+k,cN)/\RS b aV cN:=by
 intro f1
 induction f1 with
 |zero=>intro f2 j subs st1 st2 aV e l _ _ _ h;simp[V1h]at h
 |succ f1 ih =>
  intro f2 j subs st1 st2 aV e l hj hf hr h he;have T1:=T.h1;have T2:=T.h2
  match f2,hf with
  |0,hf=>omega
  |f2+1,hf =>
  unfold V1h at h⊢
  split at h
  rename_i lx
  simp only[Va.ok.injEq,U19]at h;obtain⟨rfl,rfl,rfl⟩:=h;rw[T.byte Ya,U18 lx];exact⟨j,subs,st2,rfl,rfl,rfl,hr⟩
  rename_i lx
  cases hv:V1 (d+1) (a1+j) st1 with
  |non=>rw[hv]at h;cases h
  |bad c p=>rw[hv]at h;cases h
  |ok r =>
   obtain⟨i,e0,cg⟩:=r;have Ce:=(hV (d+1) (a1+j) st1 Ya).1 _ _ _ hv;rw[hv]at h;simp only[U1n]at h
   split at h;cases h
   rename_i h3
   cases hg:Vy s1 e0 with
   |bad c p=>rw[hg]at h;cases h
   |ok g =>
    have Iv:=Oo hg Ce.2;rw[hg]at h;simp only at h;have aQ:g<=e:=by
     split at h;exact J30
     split at h
     rename_i eG
     have aa:=byteAt_lt eG Yd;cases cw:Vy s1 (g+1) with
     |bad c p=>rw[cw]at h;cases h
     |ok g' =>
      have yt:=Oo cw Ya;rw[cw]at h;have:=(O3w hV d f1 g' _ cg yt.2).1 _ _ _ h;omega
     cases h
    obtain⟨k0,i2,cD,q1,q2,q3,q4⟩:=hS (d+1) j b st1 st2 i e0 cg hD hj hr hv Ya;subst q1 q2;obtain⟨kg,rfl⟩:∃kg,g=a1+kg:=⟨g-a1,Ya⟩
    obtain⟨g1,g2⟩:=T.gap Ya hg Ya;rw[T.byte Ya,U1b lx,q3];simp only;rw[U1b h3,g1];simp only;rw[T.byte Ya];have hm:subs.map (b+·)++[b+i2]=(subs++[i2]).map (b+·):=Yb;rw[hm]at h
    split at h
    rename_i h4
    rw[U18 h4];simp only[Va.ok.injEq,U19]at h;obtain⟨rfl,rfl,rfl⟩:=h;exact⟨kg,_,cD,rfl,rfl,rfl,q4⟩
    rename_i h4
    rw[U1b h4]
    split at h
    rename_i eG
    have aa:=byteAt_lt eG Yd;rw[U18 eG];cases cw:Vy s1 (a1+kg+1) with
    |bad c p=>rw[cw]at h;cases h
    |ok g' =>
     have yt:=Oo cw Ya;rw[cw]at h;have bX:=(O3w hV d f1 g' _ cg yt.2).1 _ _ _ h;obtain⟨Iw,rfl⟩:∃Iw,g'=a1+Iw:=⟨g'-a1,Ya⟩
     obtain⟨g3,g4⟩:=T.gap (j:=kg+1) Ya cw Ya;rw[U2a,g3];exact ih f2 Iw (subs++[i2]) cg cD aV e l Ya Ya q4 h he
    cases h
end
theorem Omu(table:Nat):∀(ws:List KW)(into d:Nat)(st:Ve)(aw d':Nat)(st':Ve),V3j table ws into d st=.ok (aw,d',st')->d<=d':=by
 intro ws
 induction ws with
 |nil=>intro into d st aw d' st' h;simp[V3j]at h
 |cons x rest ih =>
  intro into d st aw d' st' h;obtain⟨w,a,b⟩:=x;unfold V3j at h
  split at h;cases h
  split at h;cases h
  split at h;have:=ih _ _ _ _ _ _ h;omega
  cases h
  split at h;exact J30
  split at h;cases h
  split at h;have:=ih _ _ _ _ _ _ h;omega
  cases h
theorem Ofw{E:V19}(hE:V1k E){x s1 s2:Bs}{a1 a2:Nat}(T:Two x s1 s2 a1 a2){V1 V2:V2c}(hV:VLe s1 V1){D:Nat}(hS:Vaf x s1 s2 a1 a2 D V1 V2)(b d j:Nat)(hD:D<=d+1)(st1 st2 aV:Ve)(i e:Nat)(hj:j<x.length)(hr:RS b st1 st2)(h:V1n E V1 s1 d (a1+j) st1=.ok (i,e,aV))(he:e<=a1+x.length):∃k i2 cN,e=a1+k/\i=b+i2/\V1n E V2 s2 d (a2+j) st2=.ok (i2,a2+k,cN)/\RS b aV cN:=by
 have T1:=T.h1;have T2:=T.h2;have hb:=V8 s1 (a1+j+1) Ya;unfold V1n at h⊢
 split at h;cases h
 rename_i hd
 rw[U1b hd]
 split at h
 rename_i aB
 rw[U18 (hr.room aB)];simp only at h⊢;have hl:=hr.len;have aS:RS b (st1++[Vt]) (st2++[Vt]):=hr.app ⟨rfl,rfl,rfl,rfl,rfl,rfl⟩
 split at h;cases h
 cases h
 rename_i e1 cg hp
 split at h
 rename_i h8
 simp only[Va.ok.injEq,U19]at h;obtain⟨rfl,rfl,rfl⟩:=h;rw[hl]at h8;have fP:∃k1 cD,e1=a1+k1/\(if V9 s2 (V7 s2 (a2+j+1))=125 then Va.ok (V7 s2 (a2+j+1),st2++[Vt]) else V21 E V2 s2 st2.length d (s2.length+2) (V7 s2 (a2+j+1)) (st2++[Vt]))=.ok (a2+k1,cD)/\RS b cg cD:=by
  have aQ:V7 s1 (a1+j+1)<=e1:=by
   split at hp;simp only[Va.ok.injEq,U19]at hp;omega
   have:=(O4q hE hV st1.length d (s1.length+2) _ (st1++[Vt]) hb.2).1 _ _ hp;omega
  obtain⟨k0,dp⟩:∃k0,V7 s1 (a1+(j+1))=a1+k0:=⟨V7 s1 (a1+(j+1))-a1,by rw[U2a]at hb;omega⟩
  rw[U2a,dp]at hp aQ hb;obtain⟨g1,g2⟩:=T.blanks dp Ya;rw[U2a,g1,T.byte Ya]
  split at hp
  rename_i d6
  simp only[Va.ok.injEq,U19]at hp;obtain⟨hp,rfl⟩:=hp;rw[U18 d6];exact⟨k0,_,hp.symm,rfl,aS⟩
  rename_i d6
  rw[U1b d6];rw[hl]at hp;obtain⟨k1,cD,q1,q2,q3,q4⟩:=Ojs hE T hV hS b st2.length d hD (λ st ws into d' st' h=>Omu _ _ _ _ _ _ _ _ h) (s1.length+2) (s2.length+2) k0 _ _ cg e1 Ya Ya aS hp Ya;exact⟨k1,cD,q1,q3,q4⟩
 obtain⟨k1,cD,rfl,q2,q3⟩:=fP;rw[q2];simp only;rw[U18 (q3.kind8 _ h8)];refine⟨k1+1,st2.length,_,Ya,hl,by simp only[Va.ok.injEq,U19,true_and];exact⟨Ya,rfl⟩,?_⟩;rw[hl];exact q3.mod _ _ _ λ x y hs=>⟨hs.kind,hs.text,hs.keys,hs.spots,hs.subs,hs.own⟩
 cases h
 cases h
theorem Ohm{x s1 s2:Bs}{a1 a2:Nat}(T:Two x s1 s2 a1 a2){V1 V2:V2c}(hV:VLe s1 V1){D:Nat}(hS:Vaf x s1 s2 a1 a2 D V1 V2)(b d j:Nat)(hD:D<=d+1)(st1 st2 aV:Ve)(i e:Nat)(hj:j<x.length)(hr:RS b st1 st2)(h:V2n V1 s1 d (a1+j) st1=.ok (i,e,aV))(he:e<=a1+x.length):∃k i2 cN,e=a1+k/\i=b+i2/\V2n V2 s2 d (a2+j) st2=.ok (i2,a2+k,cN)/\RS b aV cN:=by
 have T1:=T.h1;have T2:=T.h2;unfold V2n at h⊢
 split at h;cases h
 rename_i hd
 rw[U1b hd];cases hg:Vy s1 (a1+j+1) with
 |bad c p=>rw[hg]at h;cases h
 |ok g =>
  have Iv:=Oo hg Ya;rw[hg]at h;simp only at h
  split at h;cases h
  cases h
  rename_i subs e1 cg hf
  have aQ:=(O3w hV d _ _ _ _ Iv.2).1 _ _ _ hf
  split at h
  rename_i aB
  simp only[Va.ok.injEq,U19]at h;obtain⟨rfl,rfl,rfl⟩:=h;obtain⟨kg,rfl⟩:∃kg,g=a1+kg:=⟨g-a1,Ya⟩
  rw[U2a]at hg;obtain⟨g1,g2⟩:=T.gap Ya hg Ya;rw[U2a,g1];simp only;obtain⟨k1,l2,cD,q1,q2,q3,q4⟩:=Ohl T hV hS b d hD (s1.length+2) (s2.length+2) kg [] st1 st2 cg e1 subs Ya Ya hr hf Ya;subst q1 q2;rw[q3];simp only;rw[U18 (q4.room aB)];refine⟨k1+1,cD.length,cD++[V5k l2 (a2+j) (a2+k1+1)],Ya,q4.len,by simp only[U2a],q4.app (y:=V5k l2 (a2+j) (a2+k1+1)) ⟨rfl,rfl,rfl,rfl,rfl,rfl⟩⟩
  cases h
theorem Ofx{E:V19}(hE:V1k E){x s1 s2:Bs}{a1 a2:Nat}(T:Two x s1 s2 a1 a2):∀f1 f2,Vaf x s1 s2 a1 a2 (259-f2) (Vv E s1 f1) (Vv E s2 f2)\/f2=0:=by
 intro f1
 induction f1 with
 |zero=>intro f2;left;intro d j b st1 st2 i e aV _ _ _ h;simp[Vv]at h
 |succ f1 ih =>
  intro f2;cases f2 with
  |zero=>exact .inr rfl
  |succ f2 =>
  left;intro d j b st1 st2 i e aV hD hj hr h he;have T1:=T.h1;have aQ:=((O17 hE s1 (f1+1)) d (a1+j) st1 Ya).1 _ _ _ h;have pT:j<x.length:=Ya
  obtain⟨r,aS,pW⟩:=T.d1 (j:=j) hj;obtain⟨r',cL,mP⟩:=T.d2 (j:=j) hj;unfold Vv at h⊢;simp only at h⊢;rw[T.byte pT,mP];rw[pW]at h;have jX:d<=256->Vaf x s1 s2 a1 a2 (259-f2) (Vv E s1 f1) (Vv E s2 f2)/\259-f2<=d+1:=λ h2=>⟨(ih f2).resolve_right Ya,Ya⟩
  split at h
  rename_i hc
  rw[U18 hc];cases hs:E.str (x.drop j++r) with
  |non=>rw[hs]at h;cases h
  |bad c p=>rw[hs]at h;cases h
  |ok v =>
   obtain⟨t,m⟩:=v;rw[hs]at h;simp only at h
   split at h
   rename_i aB
   simp only[Va.ok.injEq,U19]at h;obtain⟨rfl,rfl,rfl⟩:=h;rw[hE.strL (x.drop j) r r' t m aS cL hs (by rw[U15];omega)];simp only;rw[U18 (hr.room aB)];exact⟨j+m,st2.length,_,Ya,hr.len,by rw[U2a],hr.app (y:=V5w 3 t (a2+j) (a2+(j+m))) ⟨rfl,rfl,rfl,rfl,rfl,rfl⟩⟩
   cases h
  rename_i hc
  rw[U1b hc]
  split at h
  rename_i aE
  rw[U18 aE];have hd:d<=256:=by
   unfold V2n at h
   split at h;cases h
   omega
  obtain⟨i1,i2⟩:=jX hd;exact Ohm T (O17 hE s1 f1) i1 b d j i2 st1 st2 aV i e pT hr h he
  rename_i aE
  rw[U1b aE]
  split at h
  rename_i kC
  rw[U18 kC];have hd:d<=256:=by
   unfold V1n at h
   split at h;cases h
   omega
  obtain⟨i1,i2⟩:=jX hd;exact Ofw hE T (O17 hE s1 f1) i1 b d j i2 st1 st2 aV i e pT hr h he
  rename_i kC
  rw[U1b kC];cases hs:E.scal (x.drop j++r) with
  |non=>rw[hs]at h;cases h
  |bad c p=>rw[hs]at h;cases h
  |ok v =>
   obtain⟨q,t,m⟩:=v;rw[hs]at h;simp only at h
   split at h
   rename_i aB
   simp only[Va.ok.injEq,U19]at h;obtain⟨rfl,rfl,rfl⟩:=h;rw[hE.scalL (x.drop j) r r' q t m aS cL hs (by rw[U15];omega)];simp only;rw[U18 (hr.room aB)];exact⟨j+m,st2.length,_,Ya,hr.len,by rw[U2a],hr.app (y:=V5w q t (a2+j) (a2+(j+m))) ⟨rfl,rfl,rfl,rfl,rfl,rfl⟩⟩
   cases h
theorem Oc4{l:Bs}{c p:Nat}(h:V1i l=.bad c p):c=3\/c=8:=by
 have h3:∀r sign ds,V1t r sign ds=.bad c p->c=3\/c=8:=by
  exact J169
 unfold V1i at h
 split at h;exact h3 _ _ _ h
 exact h3 _ _ _ h
theorem Oc5{l:Bs}{c p:Nat}(h:V17 l=.bad c p):c=3\/c=7:=by
 unfold V17 at h
 split at h;cases h;exact .inl rfl
 split at h;cases h;exact .inr rfl
 simp only at h
 split at h;cases h
 split at h;cases h
 cases h;exact .inr rfl
theorem Oc6{l:Bs}{c p:Nat}(h:V25 l=.bad c p):c=3\/c=7:=by
 unfold V25 at h
 split at h;cases h
 simp only at h
 split at h;exact Oc5 h
 cases h;exact .inl rfl
theorem Oc7{l:Bs}{c p:Nat}(h:V1x l=.bad c p):c=3\/c=9:=by
 unfold V1x at h;simp only at h
 split at h;cases h;exact .inl rfl
 split at h;cases h
 cases h;exact .inr rfl
theorem Oe2{l:Bs}{c p:Nat}(h:V2l l=.bad c p):c≠0:=by
 unfold V2l at h
 split at h;cases h
 split at h;cases h
 rename_i hi
 split at h
 split at h;cases h
 rename_i hf
 cases h;have:=Oc6 hf;omega
 cases h;have:=Oc4 hi;omega
theorem Oe3{l t:Bs}{k:Nat}(h:V2l l=.ok (k,t)):k<7:=by
 unfold V2l at h
 split at h;cases h;decide
 split at h;cases h;decide
 split at h
 split at h;cases h;decide
 cases h
 cases h
theorem O8h:V2l []=.bad 3 0:=Yh
theorem O66(l:Bs):Vl l≠.non/\(∀k t m,Vl l=.ok (k,t,m)->1<=m/\m<=l.length/\k<7)/\(∀c p,Vl l=.bad c p->c≠0):=by
 unfold Vl
 split
 rename_i h
 cases hd:V1x (l.take (Vh l).long) with
 |ok x=>exact⟨Yb,λ k t m h=>by (cases h;exact⟨Ya,V5d l,Yd⟩),λ c p h=>(by cases h)⟩
 |bad c p =>
  have:=Oc7 hd;exact⟨Yb,λ k t m h=>(by cases h),λ c p h=>by (cases h;omega)⟩
 cases hp:V2l (V3m l) with
 |ok r =>
  obtain⟨k,x⟩:=r;refine⟨Yb,λ k t m h=>?_,λ c p h=>(by cases h)⟩;cases h;refine⟨?_,Vn _ _,Oe3 hp⟩;cases ht:V3m l with
  |nil=>rw[ht,O8h]at hp;cases hp
  |cons c t=>simp
 |bad c p =>
  have:=Oe2 hp;exact⟨Yb,λ k t m h=>(by cases h),λ c p h=>by (cases h;exact this)⟩
def V29(T:Nat->UInt8×UInt8):V19:=⟨Vu T,Vl⟩
theorem V3r(T):V1k (V29 T) where
 strT:=λ l=>(O5e T l).1
 strK:=λ l t k h=>(O5e T l).2.1 t k h
 strB:=λ l c p h=>(O5e T l).2.2 c p h
 strL:=Ok0 T
 scalT:=λ l=>(O66 l).1
 scalK:=λ l k t m h=>(O66 l).2.1 k t m h
 scalB:=λ l c p h=>(O66 l).2.2 c p h
 scalL:=λ u r r' k t m hr eD h _=>by
  show Vl (u++r')=_;rw[O79 u eD,<-O79 u hr];exact h
structure V50(s1 s2:Bs)(k:Nat):Prop where
 dr:∀n,s2.drop (k+n)=s1.drop n
 len:s2.length=k+s1.length
namespace V50
variable {s1 s2:Bs}{k:Nat}
theorem byte(A:V50 s1 s2 k)(n:Nat):V9 s2 (k+n)=V9 s1 n:=by
 unfold V9;have h:=A.dr n;have h1:s2[k+n]?=(s2.drop (k+n))[0]?:=by rw[U2l];rfl
 have h2:s1[n]?=(s1.drop n)[0]?:=by rw[U2l];rfl
 rw[h1,h2,h]
theorem blanks(A:V50 s1 s2 k)(n:Nat):V7 s2 (k+n)=k+V7 s1 n:=by
 unfold V7;rw[A.dr];omega
theorem comment(A:V50 s1 s2 k)(n:Nat):Vs s2 (k+n)=k+Vs s1 n:=by
 unfold Vs;rw[A.dr];omega
theorem gap(A:V50 s1 s2 k)(n:Nat):Vy s2 (k+n)=match Vy s1 n with
    |.ok g => .ok (k+g)
    |.bad c p => .bad c (k+p):=by
 unfold Vy;rw[A.dr];cases Pl.gap (s1.drop n) with
 |ok g=>simp only;congr 1;omega
 |bad c p=>simp only;congr 1;omega
end V50
def shO{α : Type}(f : α -> α)(k:Nat):Va α -> Va α
 |.non => .non
 |.ok a => .ok (f a)
 |.bad c p => .bad c (k+p)
theorem Og4(E:V19){s1 s2:Bs}{k:Nat}(A:V50 s1 s2 k)(n:Nat):V3x E s2 (k+n)=shO (λ r=>(r.1,k+r.2)) k (V3x E s1 n):=by
 unfold V3x V3u;rw[A.dr]
 split;simp only[shO];congr 2
 split
 cases E.str (s1.drop n) with
 |non=>rfl
 |bad c p=>simp only[shO];congr 1;omega
 |ok r=>obtain⟨t,q⟩:=r;simp only[shO];congr 2;omega
 simp only[shO];congr 2;omega
def V85(k:Nat)(w:KW):KW:=(w.1,k+w.2.1,k+w.2.2)
theorem Og5{E:V19}(hE:V1k E){s1 s2:Bs}{k:Nat}(A:V50 s1 s2 k):∀(f1 f2 n:Nat)(acc:List KW),n<=s1.length->s1.length<n+f1->s1.length<n+f2 ->V4c E s2 f2 (k+n) (acc.map (V85 k))=shO (λ r=>(r.1.map (V85 k),k+r.2)) k (V4c E s1 f1 n acc):=by
 intro f1
 induction f1 with
 |zero=>intro f2 n acc h1 h2;omega
 |succ f1 ih =>
  intro f2 n acc hn h1 h2
  match f2,h2 with
  |0,h2=>omega
  |f2+1,h2 =>
  unfold V4c;rw[Og4 E A n];cases hw:V3x E s1 n with
  |non=>rfl
  |bad c p=>rfl
  |ok r =>
   obtain⟨t,e⟩:=r;have aQ:=(word_le hE hn).1 _ _ hw;have hb:=V8 s1 e aQ.2;simp only[shO];rw[A.blanks,A.byte]
   split
   rename_i hd
   have aa:=byteAt_lt hd Yd;have ay:=V8 s1 (V7 s1 e+1) Ya;rw[U2a,A.blanks];have:=ih f2 (V7 s1 (V7 s1 e+1)) (acc++[(t,n,e)]) ay.2 Ya Ya;rw[U2o]at this;exact this
   simp only[U2o];rfl
theorem Og6{E:V19}(hE:V1k E){s1 s2:Bs}{k:Nat}(A:V50 s1 s2 k)(n:Nat)(hn:n<=s1.length):V23 E s2 (k+n)=shO (λ r=>(r.1.map (V85 k),k+r.2)) k (V23 E s1 n) :=
 Og5 hE A (s1.length+2) (s2.length+2) n [] hn Ya (by have:=A.len;omega)
inductive RV (k:Nat):Va (Nat×Nat×Ve)->Va (Nat×Nat×Ve)->Prop
 |bad (c p:Nat):RV k (.bad c p) (.bad c (k+p))
 |ok (i e:Nat) (st1 st2:Ve):RS 0 st1 st2->RV k (.ok (i,e,st1)) (.ok (i,k+e,st2))
inductive RW (k:Nat):Va (Nat×Ve)->Va (Nat×Ve)->Prop
 |bad (c p:Nat):RW k (.bad c p) (.bad c (k+p))
 |ok (e:Nat) (st1 st2:Ve):RS 0 st1 st2->RW k (.ok (e,st1)) (.ok (k+e,st2))
def VA(s1:Bs)(k:Nat)(V1 V2:V2c):Prop:=∀d n st1 st2,n<=s1.length->RS 0 st1 st2->V1 d n st1≠.non->RV k (V1 d n st1) (V2 d (k+n) st2)
theorem Opw(k:Nat)(ws:List KW):V5t (KR 0 k) ws (ws.map (V85 k)):=by
 induction ws with
 |nil=>exact .nil
 |cons w ws ih=>exact .cons ⟨rfl,w.2.1,w.2.2,Yb,rfl⟩ ih
theorem Ohv(k table:Nat):∀(ws:List KW)(into d:Nat)(st1 st2:Ve),RS 0 st1 st2->V3j table ws into d st1≠.non ->(∀c p,V3j table ws into d st1=.bad c p->V3j table (ws.map (V85 k)) into d st2=.bad c (k+p)):=by
 intro ws
 induction ws with
 |nil=>intro into d st1 st2 _ h;simp[V3j]at h
 |cons v rest ih =>
  intro into d st1 st2 hr a8 c p h;obtain⟨w,u1,u2⟩:=v;rw[U35];show V3j table ((w,k+u1,k+u2)::rest.map (V85 k)) into d st2=_;have dD:=hr.sub into w;simp only[U1q]at dD;unfold V3j at h a8⊢;rcases dD with⟨h1,h2⟩|⟨h1,h2⟩|⟨i,h1,h2⟩
  rw[h1]at h;cases h
  rw[h1]at h a8;rw[h2];simp only at h a8⊢;cases rest with
  |nil=>cases h
  |cons y r2 =>
   rw[U35];simp only at h a8⊢
   split at h
   rename_i hd
   rw[U18 hd];cases h;rfl
   rename_i hd
   rw[U1b hd]at a8⊢
   split at h
   rename_i gl
   rw[U18 gl]at a8;simp only[U1g]at gl;have aX:=hr.kind8 into (by simpa using gl.1);rw[aX,hr.room gl.2];simp only[Bool.and_self,U2i];have hl:=hr.len;simp only[U1q]at hl;have cL:RS 0 (Vj (st1++[V1s (table+1)]) into w (u1,u2) st1.length) (Vj (st2++[V1s (table+1)]) into w (k+u1,k+u2) st2.length):=by
    have h3:RS 0 (st1++[V1s (table+1)]) (st2++[V1s (table+1)]):=hr.app (x:=V1s (table+1)) (y:=V1s (table+1)) ⟨rfl,rfl,rfl,rfl,rfl,((U1b (show ¬(V1s (table+1)).owner=0 from Nat.succ_ne_zero table)).trans (U1q (table+1))).symm⟩;have:=h3.put into w (u1,u2) (k+u1,k+u2) st2.length;simp only[U1q]at this;rw[hl];exact this
   rw[hl]at h cL a8;have:=ih st2.length (d+1) _ _ cL a8 c p h;rw[U35]at this;exact this
   cases h
  rw[h1]at h a8;rw[h2];simp only at h a8⊢;cases rest with
  |nil=>cases h;rfl
  |cons y r2 =>
   rw[U35];simp only[U1q]at h a8⊢;have ho:=hr.owner i;simp only[U1q]at ho;have jR:V2y st1 i=V2y st2 i:=by rw[ho];split <;> omega
   rw[jR]at h a8
   split at h
   rename_i rZ
   rw[U18 rZ]at a8⊢;have:=ih i (d+1) st1 st2 hr a8 c p h;rw[U35]at this;exact this
   rename_i rZ
   rw[U1b rZ];cases h;rfl
theorem Ohw(k:Nat)(ws:List KW):(ws.map (V85 k)).getLast?=ws.getLast?.map (V85 k):=by
 rw[List.getLast?_map]
section
variable {E:V19}(hE:V1k E){s1 s2:Bs}{k:Nat}(A:V50 s1 s2 k){V1 V2:V2c}(hL:VLe s1 V1)(hV:VA s1 k V1 V2)
include hE A hL hV
theorem Oe4(table n d:Nat)(st1 st2:Ve)(hn:n<=s1.length)(hr:RS 0 st1 st2)(a8:V1g E V1 s1 table n d st1≠.non):RW k (V1g E V1 s1 table n d st1) (V1g E V2 s2 table (k+n) d st2):=by
 unfold V1g at a8⊢;rw[Og6 hE A n hn];cases hk:V23 E s1 n with
 |non=>rw[hk]at a8;exact absurd rfl a8
 |bad c p=>exact .bad c p
 |ok r =>
  obtain⟨ws,e⟩:=r;have aQ:=(O1e hE hn).1 _ _ hk;have hb:=V8 s1 e aQ.2.1;rw[hk]at a8;simp only[shO]at a8⊢;cases hw:V3j table ws table d st1 with
  |non=>rw[hw]at a8;exact absurd rfl a8
  |bad c p =>
   rw[Ohv k table ws table d st1 st2 hr (by rw[hw];simp) c p hw];exact .bad c p
  |ok r2 =>
   obtain⟨into,d',cg⟩:=r2;obtain⟨i2,cD,w1,w2,w3⟩:=O9c 0 0 k ws _ table table d st1 st2 cg into d' (Opw k ws) hr (by simpa using hw);simp only[U1q]at w1;subst w1;rw[w2];rw[hw]at a8;simp only at a8⊢;rw[A.blanks,A.byte]
   split
   rename_i eN
   rw[U18 eN]at a8;have aa:=byteAt_lt eN Yd;have ay:=V8 s1 (V7 s1 e+1) Ya;rw[U2a,A.blanks];have hv:=hV (d'+1) (V7 s1 (V7 s1 e+1)) cg cD ay.2 w3 (by intro e;rw[e]at a8;exact absurd rfl a8);revert a8;generalize V1 (d'+1) (V7 s1 (V7 s1 e+1)) cg=X at hv⊢;generalize V2 (d'+1) (k+V7 s1 (V7 s1 e+1)) cD=Y at hv⊢;intro a8;cases hv with
   |bad c p=>exact .bad c p
   |ok i e2 Cf Mu Cg =>
    simp only at a8⊢;rw[Ohw];cases aZ:ws.getLast? with
    |none=>rw[aZ]at a8;exact absurd rfl a8
    |some v =>
     obtain⟨w,a,b⟩:=v;rw[aZ]at a8;simp only[U29,V85]at a8⊢
     split at a8
     rename_i h8
     rw[U18 h8,Cg.kind8 into (by simpa using h8),U18 rfl];refine .ok e2 _ _ ?_;have:=Cg.put into w (a,b) (k+a,k+b) i;exact J4
     exact J45
   exact .bad 3 _
theorem Og7(table d:Nat):∀(f1 f2 n:Nat)(st1 st2:Ve),n<=s1.length->s1.length<n+f2->RS 0 st1 st2->V21 E V1 s1 table d f1 n st1≠.non->RW k (V21 E V1 s1 table d f1 n st1) (V21 E V2 s2 table d f2 (k+n) st2):=by
 intro f1
 induction f1 with
 |zero=>intro f2 n st1 st2 _ _ _ h;simp[V21]at h
 |succ f1 ih =>
  intro f2 n st1 st2 hn hf hr a8
  match f2,hf with
  |0,hf=>omega
  |f2+1,hf =>
  unfold V21 at a8⊢;have hp:=Oe4 hE A hL hV table n d st1 st2 hn hr (by intro e;rw[e]at a8;exact absurd rfl a8);have aQ:=(O3v hE hL table n d st1 hn).1;revert a8;generalize V1g E V1 s1 table n d st1=X at hp aQ⊢;generalize V1g E V2 s2 table (k+n) d st2=Y at hp⊢;intro a8;cases hp with
  |bad c p=>exact .bad c p
  |ok e cg cD dT =>
   obtain⟨g1,g2⟩:=aQ _ _ rfl;have hb:=V8 s1 e g2;simp only at a8⊢;rw[A.blanks,A.byte]
   split;exact .ok _ _ _ dT
   rename_i d6
   rw[U1b d6]at a8
   split
   rename_i eG
   rw[U18 eG]at a8;have aa:=byteAt_lt eG Yd;have ay:=V8 s1 (V7 s1 e+1) Ya;rw[U2a,A.blanks];exact ih f2 _ cg cD ay.2 Ya dT a8
   exact .bad 3 _
theorem Oc8(d n:Nat)(st1 st2:Ve)(hn:n<s1.length)(hr:RS 0 st1 st2)(a8:V1n E V1 s1 d n st1≠.non):RV k (V1n E V1 s1 d n st1) (V1n E V2 s2 d (k+n) st2):=by
 have hb:=V8 s1 (n+1) Ya;have hl:=hr.len;rw[U1q]at hl;unfold V1n at a8⊢
 split;exact .bad 4 n
 rename_i hd
 rw[U1b hd]at a8
 split at a8
 rename_i aB
 rw[U18 aB,U18 (hr.room aB)];simp only at a8⊢;rw[U2a,A.blanks,A.byte];have aS:RS 0 (st1++[Vt]) (st2++[Vt]):=hr.app ⟨rfl,rfl,rfl,rfl,rfl,rfl⟩;have fP:(if V9 s1 (V7 s1 (n+1))=125 then Va.ok (V7 s1 (n+1),st1++[Vt]) else V21 E V1 s1 st1.length d (s1.length+2) (V7 s1 (n+1)) (st1++[Vt]))≠.non ->
     RW k (if V9 s1 (V7 s1 (n+1))=125 then Va.ok (V7 s1 (n+1),st1++[Vt]) else V21 E V1 s1 st1.length d (s1.length+2) (V7 s1 (n+1)) (st1++[Vt]))
      (if V9 s1 (V7 s1 (n+1))=125 then Va.ok (k+V7 s1 (n+1),st2++[Vt]) else V21 E V2 s2 st2.length d (s2.length+2) (k+V7 s1 (n+1)) (st2++[Vt])):=by
  intro a8
  split;exact .ok _ _ _ aS
  rename_i d6
  rw[U1b d6]at a8;rw[hl]at a8⊢;exact Og7 hE A hL hV st2.length d (s1.length+2) (s2.length+2) _ _ _ hb.2 (by have:=A.len;omega) aS a8
 revert fP a8;generalize (if V9 s1 (V7 s1 (n+1))=125 then Va.ok (V7 s1 (n+1),st1++[Vt]) else V21 E V1 s1 st1.length d (s1.length+2) (V7 s1 (n+1)) (st1++[Vt]))=X;generalize (if V9 s1 (V7 s1 (n+1))=125 then Va.ok (k+V7 s1 (n+1),st2++[Vt]) else V21 E V2 s2 st2.length d (s2.length+2) (k+V7 s1 (n+1)) (st2++[Vt]))=Y;intro a8 fP;have Ao:=fP (by intro e;rw[e]at a8;exact absurd rfl a8);cases Ao with
 |bad c p=>exact .bad c p
 |ok e cg cD dT =>
  simp only at a8⊢
  split at a8
  rename_i h8
  rw[U18 h8];rw[hl]at h8;rw[dT.kind8 st2.length (by simpa using h8),U18 rfl,hl];refine .ok _ _ _ _ ?_;have:=dT.mod st2.length (λ nd=>{ nd with sp:=((n:Int),((e+1:Nat):Int)) }) (λ nd=>{ nd with sp:=(((k+n:Nat):Int),((k+e+1:Nat):Int)) }) (λ x y hs=>⟨hs.kind,hs.text,hs.keys,hs.spots,hs.subs,hs.own⟩);rw[U1q]at this;exact this
  exact J45
 exact J45
omit hE
theorem Oe5(d:Nat):∀(f1 f2 n:Nat)(subs:List Nat)(st1 st2:Ve),n<=s1.length->s1.length<n+f2->RS 0 st1 st2->V1h V1 s1 d f1 n subs st1≠.non ->(∃c p,V1h V1 s1 d f1 n subs st1=.bad c p/\V1h V2 s2 d f2 (k+n) subs st2=.bad c (k+p))\/(∃l e cg cD,V1h V1 s1 d f1 n subs st1=.ok (l,e,cg)/\V1h V2 s2 d f2 (k+n) subs st2=.ok (l,k+e,cD)/\RS 0 cg cD):=by
 intro f1
 induction f1 with
 |zero=>intro f2 n subs st1 st2 _ _ _ h;simp[V1h]at h
 |succ f1 ih =>
  intro f2 n subs st1 st2 hn hf hr a8
  match f2,hf with
  |0,hf=>omega
  |f2+1,hf =>
  unfold V1h at a8⊢;rw[A.byte];by_cases lx:V9 s1 n=93;rw[U18 lx,U18 lx];exact .inr ⟨subs,n,st1,st2,rfl,rfl,hr⟩
  rw[U1b lx]at a8;rw[U1b lx,U1b lx];have hv:=hV (d+1) n st1 st2 hn hr (by intro e;rw[e]at a8;exact absurd rfl a8);have aQ:=(hL (d+1) n st1 hn).1;revert a8;generalize V1 (d+1) n st1=X at hv aQ⊢;generalize V2 (d+1) (k+n) st2=Y at hv⊢;intro a8;cases hv with
  |bad c p=>exact .inl ⟨c,p,rfl,rfl⟩
  |ok i e cg cD dT =>
   obtain⟨g1,g2⟩:=aQ _ _ _ rfl;simp only at a8⊢;by_cases h3:30000000<subs.length;rw[U18 h3]at a8;exact absurd rfl a8
   rw[U1b h3]at a8;rw[U1b h3,U1b h3,A.gap];cases hg:Vy s1 e with
   |bad c p=>exact .inl ⟨c,p,rfl,rfl⟩
   |ok g =>
    obtain⟨g3,g4⟩:=Oo hg g2;rw[hg]at a8;simp only at a8⊢;rw[A.byte];by_cases h4:V9 s1 g=93;rw[U18 h4,U18 h4];exact .inr ⟨_,g,cg,cD,rfl,rfl,dT⟩
    rw[U1b h4]at a8;rw[U1b h4,U1b h4];by_cases eG:V9 s1 g=44
    rw[U18 eG]at a8;rw[U18 eG,U18 eG];have aa:=byteAt_lt eG Yd;rw[U2a,A.gap];cases cw:Vy s1 (g+1) with
    |bad c p=>exact .inl ⟨c,p,rfl,rfl⟩
    |ok g' =>
     obtain⟨g5,g6⟩:=Oo cw Ya;rw[cw]at a8;simp only at a8⊢;exact ih f2 g' (subs++[i]) cg cD g6 Ya dT a8
    rw[U1b eG,U1b eG];exact .inl ⟨3,g,rfl,rfl⟩
theorem Oe6(d n:Nat)(st1 st2:Ve)(hn:n<s1.length)(hr:RS 0 st1 st2)(a8:V2n V1 s1 d n st1≠.non):RV k (V2n V1 s1 d n st1) (V2n V2 s2 d (k+n) st2):=by
 unfold V2n at a8⊢
 split;exact .bad 4 n
 rename_i hd
 rw[U1b hd]at a8;rw[U2a,A.gap];cases hg:Vy s1 (n+1) with
 |bad c p=>exact .bad c p
 |ok g =>
  obtain⟨g1,g2⟩:=Oo hg Ya;rw[hg]at a8;simp only at a8⊢;have hl:=A.len;rcases Oe5 A hL hV d (s1.length+2) (s2.length+2) g [] st1 st2 g2 Ya hr (by intro e;rw[e]at a8;exact absurd rfl a8) with⟨c,p,h1,h2⟩|⟨l,e,cg,cD,h1,h2,h3⟩
  rw[h1,h2];exact .bad c p
  rw[h1,h2];rw[h1]at a8;simp only at a8⊢
  split at a8
  rename_i aB
  rw[U18 aB,U18 (h3.room aB)];have jL:=h3.len;rw[U1q]at jL;rw[jL];refine .ok _ _ _ _ (h3.app ⟨rfl,rfl,rfl,rfl,by simp[V5k],rfl⟩)
  exact J45
end
theorem Oc9{E:V19}(hE:V1k E){s1 s2:Bs}{k:Nat}(A:V50 s1 s2 k):∀f,VA s1 k (Vv E s1 f) (Vv E s2 f):=by
 intro f
 induction f with
 |zero=>intro d n st1 st2 _ _ h;simp[Vv]at h
 |succ f ih =>
  intro d n st1 st2 hn hr a8;have hl:=hr.len;rw[U1q]at hl;unfold Vv at a8⊢;simp only at a8⊢;rw[A.byte,A.dr];by_cases h1:V9 s1 n=34\/V9 s1 n=39
  rw[U18 h1]at a8;rw[U18 h1,U18 h1];cases hs:E.str (s1.drop n) with
  |non=>rw[hs]at a8;exact absurd rfl a8
  |bad c p =>
   simp only;rw[show k+n+p=k+(n+p) by omega];exact .bad c _
  |ok v =>
   obtain⟨t,m⟩:=v;exact J150
  rw[U1b h1]at a8;rw[U1b h1,U1b h1];by_cases h2:V9 s1 n=91;rw[U18 h2]at a8;rw[U18 h2,U18 h2];exact Oe6 A (O17 hE s1 f) ih d n st1 st2 (byteAt_lt h2 Yd) hr a8
  rw[U1b h2]at a8;rw[U1b h2,U1b h2];by_cases h3:V9 s1 n=123;rw[U18 h3]at a8;rw[U18 h3,U18 h3];exact Oc8 hE A (O17 hE s1 f) ih d n st1 st2 (byteAt_lt h3 Yd) hr a8
  rw[U1b h3]at a8;rw[U1b h3,U1b h3];cases hs:E.scal (s1.drop n) with
  |non=>rw[hs]at a8;exact absurd rfl a8
  |bad c p=>exact .bad c n
  |ok v =>
   obtain⟨q,t,m⟩:=v;exact J150
theorem Oe7{E:V19}(hE:V1k E){s1 s2:Bs}{k:Nat}(A:V50 s1 s2 k)(hs:s1.length<=20000000)(n q:Nat)(hn:n<=s1.length):RV k (V1j E s1 n q) (V1j E s2 (k+n) q) :=
 Oc9 hE A 258 _ n [] [] hn (RS.nil []) (V4k hE s1 hs n q hn).1
structure V97(E:V19)(s:Bs)(n e:Nat)(it:It):Prop where
 le:n<=e/\e<=s.length
 blank:it.kind=0->it.ws=[]/\e=n
 ws:it.kind≠0->it.ws≠[]
 pair:it.kind=1->(∃w,it.ws.getLast?=some w/\w.2.2<it.va)/\it.va<it.vb/\it.vb=e/\V1j E s it.va 0=.ok (it.root,it.vb,it.nds)/\V8m [] it.root it.vb it.nds
 other:it.kind≠1->it.va=0/\it.vb=0/\it.root=0/\it.nds=[]
 kind:it.kind<=3
 spans:∀x∈it.ws,x.2.1<=x.2.2/\x.2.2<=e
section
variable {E:V19}(hE:V1k E)(s:Bs)(hs:s.length<=20000000)
include hE hs
theorem O8i(kind n:Nat)(aT:Bs)(hk:kind=2\/kind=3)(hn:n+aT.length<=s.length):V3p E s kind n aT≠.non/\(∀c p,V3p E s kind n aT=.bad c p->p<=s.length/\c≠0)/\(∀e it,V3p E s kind n aT=.ok (e,it)->V97 E s n e it):=by
 have hb:=V8 s (n+aT.length) hn;obtain⟨k1,k2,k3⟩:=O1e hE hb.2;unfold V3p;cases gh:V23 E s (V7 s (n+aT.length)) with
 |non=>exact absurd gh k3
 |bad c p=>exact⟨Yb,λ c' p' h=>by (cases h;exact k2 _ _ gh),λ e it h=>by (cases h)⟩
 |ok r =>
  obtain⟨ws,e⟩:=r;obtain⟨h1,h2,h3,h4,h5⟩:=k1 _ _ gh;have ay:=V8 s e h2;obtain⟨i1,i2⟩:=V5r s aT (V7 s e) ay.2;simp only;cases hi:isF s (V7 s e) aT with
  |bad c p=>exact⟨Yb,λ c' p' h=>by (cases h;have:=i2 _ _ hi;exact⟨this.1,Ya⟩),λ e it h=>by (cases h)⟩
  |ok m =>
   obtain⟨i3,i4⟩:=i1 _ hi;refine⟨Yb,λ c' p' h=>by (cases h),λ e' it h=>?_⟩;cases h;exact⟨⟨Ya,i4⟩,λ h=>by (simp only at h;omega),λ _=>h3,λ h=>by (simp only at h;omega),λ _=>⟨rfl,rfl,rfl,rfl⟩,Yk,λ x hx=>by (have:=h4 x hx;omega)⟩
theorem Ok1(n:Nat)(hn:n<=s.length):V5p E s n≠.non/\(∀c p,V5p E s n=.bad c p->p<=s.length/\c≠0)/\(∀e it,V5p E s n=.ok (e,it)->V97 E s n e it/\it.kind=1):=by
 obtain⟨k1,k2,k3⟩:=O1e hE hn;unfold V5p;cases gh:V23 E s n with
 |non=>exact absurd gh k3
 |bad c p=>exact⟨Yb,λ c' p' h=>by (cases h;exact k2 _ _ gh),λ e it h=>by (cases h)⟩
 |ok r =>
  obtain⟨ws,e⟩:=r;obtain⟨h1,h2,h3,h4,h5⟩:=k1 _ _ gh;have ay:=V8 s e h2;obtain⟨i1,i2⟩:=V5r s [61] (V7 s e) ay.2;simp only;cases hi:isF s (V7 s e) [61] with
  |bad c p=>exact⟨Yb,λ c' p' h=>by (cases h;have:=i2 _ _ hi;exact⟨this.1,Ya⟩),λ e it h=>by (cases h)⟩
  |ok m =>
   obtain⟨i3,i4⟩:=i1 _ hi;simp only[U17,U1t]at i3;have aR:=V8 s m i4;obtain⟨r1,r2,r3⟩:=V4k hE s hs (V7 s m) 0 aR.2;simp only;cases hr:V1j E s (V7 s m) 0 with
   |non=>exact absurd hr r1
   |bad c p=>exact⟨Yb,λ c' p' h=>by (cases h;exact r2 _ _ hr),λ e it h=>by (cases h)⟩
   |ok v =>
    obtain⟨root,e2,nds⟩:=v;obtain⟨r4,r5,r6⟩:=r3 _ _ _ hr;refine⟨Yb,λ c' p' h=>by (cases h),λ e' it h=>?_⟩;cases h;refine⟨⟨⟨Ya,r5⟩,λ h=>by (cases h),λ _=>h3,λ _=>⟨?_,r4,rfl,hr,r6⟩,λ h=>absurd rfl h,Yk,λ x hx=>by (have:=h4 x hx;omega)⟩,rfl⟩;cases hl:ws.getLast? with
    |none=>rw[U43]at hl;exact absurd hl h3
    |some w =>
     rw[hl]at h5;simp only[U29,U1f]at h5;exact⟨w,rfl,Yk⟩
theorem Oca(n:Nat)(hn:n<=s.length):V3o E s n≠.non/\(∀c p,V3o E s n=.bad c p->p<=s.length/\c≠0)/\(∀e it,V3o E s n=.ok (e,it)->V97 E s n e it):=by
 unfold V3o
 split
 rename_i h
 have:=V1w _ _ h;rw[U15]at this;simp only[U17,U1t]at this;exact O8i hE s hs 3 n [93,93] (.inr rfl) (by simp only[U17,U1t];omega)
 split
 rename_i h
 have:=V1w _ _ h;rw[U15]at this;simp only[U17,U1t]at this;exact O8i hE s hs 2 n [93] (.inl rfl) (by simp only[U17,U1t];omega)
 split;refine⟨Yb,λ c p h=>by (cases h),λ e it h=>?_⟩;cases h;exact⟨⟨U12 _,hn⟩,λ _=>⟨rfl,rfl⟩,λ h=>absurd rfl h,λ h=>by (cases h),λ _=>⟨rfl,rfl,rfl,rfl⟩,Yb,λ x hx=>by (cases hx)⟩
 obtain⟨p1,p2,p3⟩:=Ok1 hE s hs n hn;exact⟨p1,p2,λ e it h=>(p3 e it h).1⟩
structure Vcg(E:V19)(s:Bs)(n:Nat)(it:It):Prop where
 a:it.a=n
 lt:n<it.b
 le:it.b<=s.length
 fin:it.b=s.length\/V9 s (it.b-1)=10
 ws:it.kind≠0->it.ws≠[]
 blank:it.kind=0->it.ws=[]
 pair:it.kind=1->(∃w,it.ws.getLast?=some w/\w.2.2<it.va)/\it.va<it.vb/\it.vb<=it.b/\V1j E s it.va 0=.ok (it.root,it.vb,it.nds)/\V8m [] it.root it.vb it.nds
 other:it.kind≠1->it.va=0/\it.vb=0/\it.root=0/\it.nds=[]
 kind:it.kind<=3
 spans:∀x∈it.ws,x.2.1<=x.2.2/\x.2.2<=s.length
theorem Ocb(n:Nat)(hn:n<s.length):V41 E s n≠.non/\(∀c p,V41 E s n=.bad c p->p<=s.length/\c≠0)/\(∀it,V41 E s n=.ok it->Vcg E s n it):=by
 have hb:=V8 s n Ya;obtain⟨b1,b2,b3⟩:=Oca hE s hs (V7 s n) hb.2;unfold V41;cases sb:V3o E s (V7 s n) with
 |non=>exact absurd sb b1
 |bad c p=>exact⟨Yb,λ c' p' h=>by (cases h;exact b2 _ _ sb),λ it h=>by (cases h)⟩
 |ok r =>
  obtain⟨e,it⟩:=r;have q:=b3 _ _ sb;obtain⟨c1,c2⟩:=V60 s e q.le.2;simp only;cases hc:V1e s e with
  |bad c p=>exact⟨Yb,λ c' p' h=>by (cases h;exact c2 _ _ hc),λ it h=>by (cases h)⟩
  |ok m =>
   obtain⟨c3,c4,c5⟩:=c1 _ hc;have jj:=V8 s e q.le.2;have EK:=V3y s (V7 s e) jj.2;have hq:=q.le;refine⟨Yb,λ c' p' h=>by (cases h),λ Uz h=>?_⟩;cases h;refine⟨rfl,?_,c4,?_,q.ws,λ h=>(q.blank h).1,λ h=>?_,q.other,q.kind,λ x hx=>by (have:=q.spans x hx;omega)⟩;simp only;omega
   simp only;rcases c5 with h|h
   exact .inl h.1
   exact .inr h.2
   obtain⟨p1,p2,p3,p4,p5⟩:=q.pair h;exact⟨p1,p2,Yk,p4,p5⟩
end
section
variable {E:V19}(hE:V1k E){s1 s2:Bs}{k:Nat}(A:V50 s1 s2 k)(hs:s1.length<=20000000)
theorem V50.get{s1 s2:Bs}{k:Nat}(A:V50 s1 s2 k)(n:Nat):s2[k+n]?=s1[n]?:=by
 have h1:s2[k+n]?=(s2.drop (k+n))[0]?:=by rw[U2l];rfl
 have h2:s1[n]?=(s1.drop n)[0]?:=by rw[U2l];rfl
 rw[h1,h2,A.dr n]
inductive RB (k:Nat):Va (Nat×It)->Va (Nat×It)->Prop
 |bad (c p:Nat):RB k (.bad c p) (.bad c (k+p))
 |ok (e:Nat) (x y:It):y.kind=x.kind->V5t (KR 0 k) x.ws y.ws->(x.kind=1->y.va=k+x.va/\y.vb=k+x.vb)->y.root=x.root->RS 0 x.nds y.nds->RB k (.ok (e,x)) (.ok (k+e,y))
include hE A hs
end
