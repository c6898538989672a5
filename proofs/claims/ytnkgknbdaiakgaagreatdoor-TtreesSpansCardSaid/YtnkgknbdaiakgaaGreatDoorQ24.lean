/- The proof's part 24. -/
import Derived.Test.YtnkgknbdaiakgaaGreatDoorQ20
import Derived.Test.YtnkgknbdaiakgaaGreatDoorQ23
set_option maxHeartbeats 16000000
set_option linter.all false
namespace Go.Proofs.YtnkgknbdaiakgaaGreatDoor.Pl
def Op(r:Bs):Prop:=r=[]\/∃c t,r=c::t/\(c=9\/c=10\/c=13\/c=32\/c=35\/c=44\/c=93\/c=125)/\(c=32->∀d t',t=d::t'->d.toNat<48\/57<d.toNat)
theorem O38{r:Bs}(h:Op r)(p:UInt8->Bool)(hp:∀c:UInt8,(c=9\/c=10\/c=13\/c=32\/c=35\/c=44\/c=93\/c=125)->p c=false)(u:Bs):(u++r).takeWhile p=u.takeWhile p:=by
 induction u with
 |nil =>
  rcases h with rfl|⟨c,t,rfl,hc,_⟩
  rfl
  rw[U2l,U1p,U1c (by rw[hp c hc];simp)];rfl
 |cons a u ih=>rw[U1o,U1p,U1p,ih]
theorem O_v(u r:Bs)(k:Nat)(h:k<=u.length):(u++r).drop k=u.drop k++r:=by
 rw[U3b,show k-u.length=0 by omega];rfl
theorem O45(f:Bs)(hf:∀w∈f,w=57\/w=45\/w=58)(u:Bs){r:Bs}(hr:Op r):Vw (u++r) f=Vw u f:=by
 induction f generalizing u with
 |nil=>unfold Vw;cases u <;> cases r <;> rfl
 |cons w f ih =>
  cases u with
  |nil =>
   rcases hr with rfl|⟨c,t,rfl,hc,_⟩
   rfl
   have hw:=hf w Yb;have:V60 w c=false:=by
    rcases hw with rfl|rfl|rfl <;> rcases hc with rfl|rfl|rfl|rfl|rfl|rfl|rfl|rfl <;> decide
   rw[U2l];unfold Vw;rw[this,U4l]
  |cons c u =>
   rw[U1o];unfold Vw;rw[ih (λ w hw=>hf w (U24 _ hw)) u]
theorem Ogg(p:UInt8->Bool)(u:Bs){r:Bs}(hr:Op r)(hp:∀c:UInt8,(c=9\/c=10\/c=13\/c=32\/c=35\/c=44\/c=93\/c=125)->p c=false):Vg p (u++r)=Vg p u:=by
 cases u with
 |nil =>
  rcases hr with rfl|⟨c,t,rfl,hc,_⟩
  rfl
  exact hp c hc
 |cons c u=>rfl
theorem O5n(u:Bs){r:Bs}(hr:Op r):Vl (u++r)=Vl u:=by
 unfold Vl;rw[O45 V4c Yd u hr]
 split
 rename_i h
 have hl:=V36 _ _ h;have h8:V4c.length=8:=rfl;rw[U2r Ya,O_v u r 8 Ya,Ogg V2m _ hr (by rintro c (rfl|rfl|rfl|rfl|rfl|rfl|rfl|rfl) <;> decide)];cases hd:Vg V2m (u.drop 8) with
 |false=>rfl
 |true =>
  have h9:9<=u.length:=by
   cases hu:u.drop 8 with
   |nil=>rw[hu]at hd;cases hd
   |cons c v =>
    exact J20
  rw[O_v u r 9 h9,O38 hr O2 (by rintro c (rfl|rfl|rfl|rfl|rfl|rfl|rfl|rfl) <;> decide)]
 rfl
theorem Od2(u:Bs){r:Bs}(hr:Op r):V23 (u++r)=V23 u:=by
 cases u with
 |nil =>
  rcases hr with rfl|⟨c,t,rfl,hc,_⟩
  rfl
  rw[U2l];unfold V23;have h1:¬(c.toNat=90\/c.toNat=122):=by rcases hc with rfl|rfl|rfl|rfl|rfl|rfl|rfl|rfl <;> decide
  have h2:Vq c=false:=by rcases hc with rfl|rfl|rfl|rfl|rfl|rfl|rfl|rfl <;> decide
  simp only;rw[U1c h1,h2];rfl
 |cons c u =>
  rw[U1o];unfold V23;simp only;rw[O45 V43 Yd u hr]
  split;rfl
  split
  rename_i h
  simp only[U1h]at h;have hl:=V36 _ _ h.2;have h5:V43.length=5:=rfl;rw[<-U1o,U2r Ye]
  rfl
theorem Ob6(u:Bs){r:Bs}(hr:Op r):Vh (u++r)=Vh u:=by
 unfold Vh;rw[O45 V47 Yd u hr]
 split
 ·rename_i h
  have hl:=V36 _ _ h;have da:V47.length=10:=rfl;rw[U2r Ya,O_v u r 10 Ya];by_cases Fk:11<=u.length
  ·have hh:Vg V48 (u.drop 10++r)=Vg V48 (u.drop 10):=by
    cases hu:u.drop 10 with
    |nil =>
     have:=U2w List.length hu;rw[U16]at this;simp only[U1q]at this;omega
    |cons c v=>rfl
   rw[hh,O_v u r 11 Fk,O5n _ hr]
   split
   have hc:=V4j (u.drop 11);rw[U16]at hc;obtain⟨t,p,Ci⟩:∃t p,Vl (u.drop 11)=(t,p):=⟨_,_,rfl⟩
   rw[Ci]at hc⊢;simp only at hc⊢;rw[O_v u r _ Ya,Od2 _ hr]
   rfl
  have hu:u.drop 10=[]:=U1t Ya;rw[hu,U2l];have h2:Vg V48 ([]:Bs)=false:=rfl;rw[h2];rcases hr with rfl|⟨c,t,rfl,hc,ht⟩
  rfl
  by_cases yr:c=32
  subst yr;have hd:(u++32::t).drop 11=t:=by
   rw[U3b,U1t Ya,show 11-u.length=1 by omega];rfl
  rw[hd];have hf:Vw t V4c=false:=by
   cases t with
   |nil=>rfl
   |cons d t' =>
    have:=ht rfl d t' rfl;unfold V4c Vw;have IY:V60 57 d=false:=by
     unfold V60;rw[U1a Yd];simp only[Bool.and_eq_false_iff,decide_eq_false_iff_not];omega
    rw[IY,U4l]
  have cA:Vl t=([],[]):=by unfold Vl;rw[hf];rfl
  rw[cA];rfl
  have:Vg V48 (c::t)=false:=by
   show V48 c=false;rcases hc with rfl|rfl|rfl|rfl|rfl|rfl|rfl|rfl <;> first|decide|exact absurd rfl yr
  rw[this];rfl
 rw[O5n _ hr]
theorem Ogh(u:Bs){r:Bs}(hr:Op r):V3e (u++r)=V3e u:=by
 unfold V3e;exact O38 hr V3a (by rintro c (rfl|rfl|rfl|rfl|rfl|rfl|rfl|rfl) <;> decide) u
theorem O6p(u:Bs){r:Bs}(hr:Op r):Ve (u++r)=Ve u:=by
 unfold Ve;rw[Ob6 u hr,Ogh u hr,U2r (V4z u)]
def Loc{α : Type}(F:Bs->V9 (α×Nat)):Prop:=∀x r1 r2 v k,Op r1->Op r2->F (x++r1)=.ok (v,k)->k<=x.length->F (x++r2)=.ok (v,k)
structure V11(E:Vv):Prop where
 strT:∀l,E.str l≠.non
 strK:∀l t k,E.str l=.ok (t,k)->1<=k/\k<=l.length
 strB:∀l c p,E.str l=.bad c p->p<=l.length/\c≠0
 strL:Loc E.str
 scalT:∀l,E.scal l≠.non
 scalK:∀l k t m,E.scal l=.ok (k,t,m)->1<=m/\m<=l.length/\k<7
 scalB:∀l c p,E.scal l=.bad c p->c≠0
 scalL:∀x r1 r2 k t m,Op r1->Op r2->E.scal (x++r1)=.ok (k,t,m)->m<=x.length->E.scal (x++r2)=.ok (k,t,m)
theorem Odv:∀(f:Nat)(l:Bs),(∀k,V4r f l=.ok k->k<=l.length)/\(∀c p,V4r f l=.bad c p->p<=l.length/\c=3):=by
 intro f
 induction f with
 |zero=>intro l;exact⟨λ k h=>by simp[V4r]at h;omega,λ c p h=>by simp[V4r]at h⟩
 |succ f ih =>
  intro l;unfold V4r;cases hs:V1x l with
  |bad c p =>
   refine⟨λ k h=>by (simp at h),λ c' p' h=>?_⟩;cases h;unfold V1x at hs;simp only at hs
   split at hs <;> cases hs
   rename_i hh
   have:=U2w List.length hh;rw[U16]at this;simp at this;exact⟨Ya,rfl⟩
  |ok n =>
   have hn:=O4r l n hs;cases n with
   |zero=>exact⟨λ k h=>by (simp only[V2x.ok.injEq]at h;omega),λ c p h=>by (simp at h)⟩
   |succ n =>
    obtain⟨i1,i2⟩:=ih (l.drop (n+1));rw[U16]at i1 i2;simp only;cases hg:V4r f (l.drop (n+1)) with
    |ok k=>exact⟨λ k' h=>by (simp only[V2x.ok.injEq]at h;have:=i1 k hg;omega),λ c p h=>by (simp at h)⟩
    |bad c p =>
     refine⟨λ k h=>by (simp at h),λ c' p' h=>?_⟩;cases h;have:=i2 _ _ hg;exact⟨Ya,this.2⟩
theorem On{s:Bs}{n g:Nat}(h:Vt s n=.ok g)(hn:n<=s.length):n<=g/\g<=s.length:=by
 unfold Vt gap at h
 split at h;cases h
 rename_i k hk
 have:=(Odv _ _).1 _ hk;rw[U16]at this;exact J1
theorem O3o{s:Bs}{n c p:Nat}(h:Vt s n=.bad c p)(hn:n<=s.length):p<=s.length/\c≠0:=by
 unfold Vt gap at h
 split at h
 rename_i c' p' hk
 have:=(Odv _ _).2 _ _ hk;rw[U16]at this;cases h;exact⟨Ya,Ya⟩
 cases h
theorem O4w(l:Bs)(h:long l=true):3<=l.length:=by
 unfold long at h
 split at h <;> simp_all
theorem word_le{E:Vv}(hE:V11 E){s:Bs}{n:Nat}(hn:n<=s.length):(∀t e,word E s n=.ok (t,e)->n<e/\e<=s.length)/\(∀c p,word E s n=.bad c p->p<=s.length/\c≠0)/\word E s n≠.non:=by
 unfold word
 split
 rename_i hl
 have:=O4w _ hl;rw[U16]at this;exact J22
 split
 rename_i hb
 cases hs:E.str (s.drop n) with
 |non=>exact absurd hs (hE.strT _)
 |bad c p =>
  have:=hE.strB _ _ _ hs;rw[U16]at this;exact⟨λ t e h=>by (simp at h),λ c' p' h=>by (cases h;exact⟨Ya,this.2⟩),Yb⟩
 |ok r =>
  obtain⟨t,k⟩:=r;have:=hE.strK _ _ _ hs;rw[U16]at this;exact J22
 rename_i hb
 have h2:Vs (s.drop n)<=(s.drop n).length:=Vj _ _;rw[U16]at h2;exact J22
theorem Oly{E:Vv}(hE:V11 E){s:Bs}:∀(f n:Nat)(acc:List KW),n<=s.length->s.length<n+f ->(∀ws e,V3r E s f n acc=.ok (ws,e)->n<e/\e<=s.length/\∃t,ws=acc++t/\t≠[]/\(∀x∈t,n<=x.2.1/\x.2.1<x.2.2/\x.2.2<=e)/\t.getLast?.map (·.2.2)=some e)/\(∀c p,V3r E s f n acc=.bad c p->p<=s.length/\c≠0)/\V3r E s f n acc≠.non:=by
 intro f
 induction f with
 |zero=>intro n acc h1 h2;omega
 |succ f ih =>
  intro n acc hn hf;obtain⟨w1,w2,w3⟩:=word_le hE hn;unfold V3r;cases hw:word E s n with
  |non=>exact absurd hw w3
  |bad c p=>exact⟨λ ws e h=>by (simp at h),λ c' p' h=>by (cases h;exact w2 _ _ hw),Yb⟩
  |ok r =>
   obtain⟨t,e0⟩:=r;obtain⟨h1,h2⟩:=w1 _ _ hw;have hb:=V8 s e0 h2;simp only
   split
   rename_i hd
   have a9:=byteAt_lt hd Yd;have aA:=V8 s (V7 s e0+1) Ya;obtain⟨i1,i2,i3⟩:=ih (V7 s (V7 s e0+1)) (acc++[(t,n,e0)]) Ya Ya;refine⟨λ ws e h=>?_,i2,i3⟩;obtain⟨h3,h4,t',rfl,h5,h6,h7⟩:=i1 _ _ h;refine⟨Ya,h4,(t,n,e0)::t',Yb,Yb,?_,?_⟩
   intro x hx;rcases U2s.1 hx with rfl|hx
   exact⟨U12 _,h1,Yj⟩
   obtain⟨a1,a2,a3⟩:=h6 x hx;exact⟨Ya,a2,a3⟩
   cases t' with
   |nil=>exact absurd rfl h5
   |cons y l=>rw[List.getLast?_cons_cons];exact h7
   refine⟨λ ws e h=>?_,λ c p h=>by (simp at h),Yb⟩;simp only[V9.ok.injEq,U17]at h;obtain⟨rfl,rfl⟩:=h;refine⟨h1,h2,[(t,n,e0)],rfl,Yb,?_,rfl⟩;intro x hx;rw[U20]at hx;subst hx;exact⟨U12 _,h1,U12 _⟩
theorem O15{E:Vv}(hE:V11 E){s:Bs}{n:Nat}(hn:n<=s.length):(∀ws e,V1q E s n=.ok (ws,e)->n<e/\e<=s.length/\ws≠[]/\(∀x∈ws,n<=x.2.1/\x.2.1<x.2.2/\x.2.2<=e)/\ws.getLast?.map (·.2.2)=some e)/\(∀c p,V1q E s n=.bad c p->p<=s.length/\c≠0)/\V1q E s n≠.non:=by
 obtain⟨h1,h2,h3⟩:=Oly hE (s:=s) (s.length+2) n [] hn Ya;refine⟨λ ws e h=>?_,h2,h3⟩;obtain⟨a,b,t,rfl,c,d,e'⟩:=h1 _ _ h;exact⟨a,b,c,d,e'⟩
def VLe(s:Bs)(V:V1n):Prop:=∀d n st,n<=s.length->(∀i e st',V d n st=.ok (i,e,st')->n<e/\e<=s.length)/\(∀c p,V d n st=.bad c p->p<=s.length/\c≠0)
theorem Olz(table:Nat)(M:Nat):∀(ws:List KW)(into d:Nat)(st:Vc)(c p:Nat),V3d table ws into d st=.bad c p->(∀x∈ws,x.2.1<=M)->p<=M/\c≠0:=by
 intro ws
 induction ws with
 |nil=>intro into d st c p h;simp[V3d]at h
 |cons x rest ih =>
  intro into d st c p h hM;obtain⟨w,a,b⟩:=x;have ha:a<=M:=hM (w,a,b) Yb;have hr:∀x∈rest,x.2.1<=M:=λ x hx=>hM x (U24 _ hx)
  unfold V3d at h
  split at h;cases h
  split at h;exact J23
  split at h;exact ih _ _ _ _ _ h hr
  exact J23
  split at h;cases h
  split at h;exact J23
  split at h;exact ih _ _ _ _ _ h hr
  cases h
theorem O4x{E:Vv}(hE:V11 E){s:Bs}{V:V1n}(hV:VLe s V)(table n d:Nat)(st:Vc)(hn:n<=s.length):(∀e st',V1l E V s table n d st=.ok (e,st')->n<e/\e<=s.length)/\(∀c p,V1l E V s table n d st=.bad c p->p<=s.length/\c≠0):=by
 obtain⟨k1,k2,k3⟩:=O15 hE hn;unfold V1l;cases hk:V1q E s n with
 |non=>exact absurd hk k3
 |bad c p=>exact⟨λ e st' h=>by (simp at h),λ c' p' h=>by (cases h;exact k2 _ _ hk)⟩
 |ok r =>
  obtain⟨ws,e⟩:=r;obtain⟨h1,h2,h3,h4,h5⟩:=k1 _ _ hk;simp only;cases hw:V3d table ws table d st with
  |non=>exact⟨λ e st' h=>by (simp at h),λ c' p' h=>by (simp at h)⟩
  |bad c p=>exact⟨λ e st' h=>by (simp at h),λ c' p' h=>by (cases h;exact Olz table s.length ws _ _ _ _ _ hw (λ x hx=>by have:=h4 x hx;omega))⟩
  |ok r2 =>
   obtain⟨into,d',st'⟩:=r2;have hb:=V8 s e h2;simp only
   split
   rename_i dS
   refine Z238 ?_;intro a9 aA;obtain⟨v1,v2⟩:=hV (d'+1) (V7 s (V7 s e+1)) st' Ya;cases hv:V (d'+1) (V7 s (V7 s e+1)) st' with
   |non=>exact⟨λ e st' h=>by (simp at h),λ c' p' h=>by (simp at h)⟩
   |bad c p=>exact⟨λ e st' h=>by (simp at h),λ c' p' h=>by (cases h;exact v2 _ _ hv)⟩
   |ok r3 =>
    obtain⟨i,e2,st2⟩:=r3;obtain⟨g1,g2⟩:=v1 _ _ _ hv;simp only
    split;exact⟨λ e st' h=>by (simp at h),λ c' p' h=>by (simp at h)⟩
    split;exact J25
    exact⟨λ e st' h=>by (simp at h),λ c' p' h=>by (simp at h)⟩
   exact J24
theorem O4f{E:Vv}(hE:V11 E){s:Bs}{V:V1n}(hV:VLe s V)(table d:Nat):∀(f n:Nat)(st:Vc),n<=s.length ->(∀e st',V29 E V s table d f n st=.ok (e,st')->n<e/\e<s.length)/\(∀c p,V29 E V s table d f n st=.bad c p->p<=s.length/\c≠0):=by
 intro f
 induction f with
 |zero=>intro n st hn;exact⟨λ e st' h=>by (simp[V29]at h),λ c' p' h=>by (simp[V29]at h)⟩
 |succ f ih =>
  intro n st hn;obtain⟨p1,p2⟩:=O4x hE hV table n d st hn;unfold V29;cases hp:V1l E V s table n d st with
  |non=>exact⟨λ e st' h=>by (simp at h),λ c' p' h=>by (simp at h)⟩
  |bad c p=>exact⟨λ e st' h=>by (simp at h),λ c' p' h=>by (cases h;exact p2 _ _ hp)⟩
  |ok r =>
   obtain⟨e,st1⟩:=r;obtain⟨h1,h2⟩:=p1 _ _ hp;have hb:=V8 s e h2;simp only
   split
   rename_i h3
   have:=byteAt_lt h3 Yd;exact J25
   split
   rename_i h3
   have a9:=byteAt_lt h3 Yd;have aA:=V8 s (V7 s e+1) Ya;obtain⟨i1,i2⟩:=ih (V7 s (V7 s e+1)) st1 Ya;exact⟨λ e' st' h=>by (have:=i1 _ _ h;omega),i2⟩
   exact J24
theorem Ogi{E:Vv}(hE:V11 E){s:Bs}{V:V1n}(hV:VLe s V)(d n:Nat)(st:Vc)(hn:n<s.length):(∀i e st',V1h E V s d n st=.ok (i,e,st')->n<e/\e<=s.length)/\(∀c p,V1h E V s d n st=.bad c p->p<=s.length/\c≠0):=by
 have hb:=V8 s (n+1) Ya;unfold V1h
 split;exact J27
 split
 simp only
 split;exact J26
 rename_i c p hp
 refine⟨λ i e st' h=>by (simp at h),λ c' p' h=>?_⟩;cases h
 split at hp;cases hp
 exact (O4f hE hV _ _ _ _ _ hb.2).2 _ _ hp
 rename_i e1 st1 hp
 have:n<e1/\e1<s.length:=by
  split at hp
  rename_i h3
  have:=byteAt_lt h3 Yd;cases hp;omega
  have:=(O4f hE hV _ _ _ _ _ hb.2).1 _ _ hp;omega
 split;exact J123
 exact J26
 exact J26
theorem O3p{s:Bs}{V:V1n}(hV:VLe s V)(d:Nat):∀(f n:Nat)(subs:List Nat)(st:Vc),n<=s.length ->(∀l e st',V1f V s d f n subs st=.ok (l,e,st')->n<=e/\e<s.length)/\(∀c p,V1f V s d f n subs st=.bad c p->p<=s.length/\c≠0):=by
 intro f
 induction f with
 |zero=>intro n subs st hn;exact⟨λ l e st' h=>by (simp[V1f]at h),λ c' p' h=>by (simp[V1f]at h)⟩
 |succ f ih =>
  intro n subs st hn;unfold V1f
  split
  rename_i h3
  have:=byteAt_lt h3 Yd;exact J123
  obtain⟨v1,v2⟩:=hV (d+1) n st hn;cases hv:V (d+1) n st with
  |non=>exact⟨λ l e st' h=>by (simp at h),λ c' p' h=>by (simp at h)⟩
  |bad c p=>exact⟨λ l e st' h=>by (simp at h),λ c' p' h=>by (cases h;exact v2 _ _ hv)⟩
  |ok r =>
   obtain⟨i,e,st1⟩:=r;obtain⟨h1,h2⟩:=v1 _ _ _ hv;simp only
   split;exact⟨λ l e st' h=>by (simp at h),λ c' p' h=>by (simp at h)⟩
   cases hg:Vt s e with
   |bad c p=>exact⟨λ l e st' h=>by (simp at h),λ c' p' h=>by (cases h;exact O3o hg h2)⟩
   |ok g =>
    obtain⟨g1,g2⟩:=On hg h2;simp only
    split
    rename_i h3
    have:=byteAt_lt h3 Yd;exact J123
    split
    rename_i h3
    have a9:=byteAt_lt h3 Yd;cases cb:Vt s (g+1) with
    |bad c p=>exact⟨λ l e st' h=>by (simp at h),λ c' p' h=>by (cases h;exact O3o cb Ya)⟩
    |ok g' =>
     obtain⟨g3,g4⟩:=On cb Ya;obtain⟨i1,i2⟩:=ih g' (subs++[i]) st1 g4;exact⟨λ l e st' h=>by (have:=i1 _ _ _ h;omega),i2⟩
    exact⟨λ l e st' h=>by (simp at h),λ c' p' h=>by (cases h;exact⟨g2,Yd⟩)⟩
theorem Oix{s:Bs}{V:V1n}(hV:VLe s V)(d n:Nat)(st:Vc)(hn:n<s.length):(∀i e st',V2a V s d n st=.ok (i,e,st')->n<e/\e<=s.length)/\(∀c p,V2a V s d n st=.bad c p->p<=s.length/\c≠0):=by
 unfold V2a
 split;exact J27
 cases hg:Vt s (n+1) with
 |bad c p=>exact⟨λ l e st' h=>by (simp at h),λ c' p' h=>by (cases h;exact O3o hg Ya)⟩
 |ok g =>
  obtain⟨g1,g2⟩:=On hg Ya;obtain⟨l1,l2⟩:=O3p hV d (s.length+2) g [] st g2;simp only
  split;exact J26
  rename_i c p hp
  exact⟨λ i e st' h=>by (simp at h),λ c' p' h=>by (cases h;exact l2 _ _ hp)⟩
  rename_i subs e st1 hp
  have:=l1 _ _ _ hp
  split;exact J123
  exact J26
theorem O14{E:Vv}(hE:V11 E)(s:Bs):∀f,VLe s (Vz E s f):=by
 intro f
 induction f with
 |zero=>intro d n st hn;exact⟨λ i e st' h=>by (simp[Vz]at h),λ c p h=>by (simp[Vz]at h)⟩
 |succ f ih =>
  intro d n st hn;unfold Vz;simp only
  split
  cases hs:E.str (s.drop n) with
  |non=>exact absurd hs (hE.strT _)
  |bad c p =>
   have:=hE.strB _ _ _ hs;rw[U16]at this;exact⟨λ i e st' h=>by (simp at h),λ c' p' h=>by (cases h;exact⟨Ya,this.2⟩)⟩
  |ok r =>
   obtain⟨t,m⟩:=r;have:=hE.strK _ _ _ hs;rw[U16]at this;simp only
   split;exact J123
   exact J26
  split
  rename_i h3
  exact Oix ih d n st (byteAt_lt h3 Yd)
  split
  rename_i h3
  exact Ogi hE ih d n st (byteAt_lt h3 Yd)
  cases hs:E.scal (s.drop n) with
  |non=>exact absurd hs (hE.scalT _)
  |bad c p=>exact⟨λ i e st' h=>by (simp at h),λ c' p' h=>by (cases h;exact⟨hn,hE.scalB _ _ _ hs⟩)⟩
  |ok r =>
   obtain⟨k,t,m⟩:=r;have:=hE.scalK _ _ _ _ hs;rw[U16]at this;simp only
   split;exact J123
   exact J26
structure Wn(N i:Nat)(nd:Nd):Prop where
 len:nd.kind=8->nd.keys.length=nd.subs.length/\nd.spots.length=nd.subs.length
 up:nd.subs.Pairwise (· < ·)
 lt:∀x∈nd.subs,x<N
 own:nd.owner≠0->nd.kind=8/\nd.owner<=i
def WF(st:Vc):Prop:=∀i nd,st[i]?=some nd->Wn st.length i nd
def V2q(b:Nat)(st st':Vc):Prop:=∀j,j<b->st'[j]?=st[j]?
theorem V2q.refl(b:Nat)(st:Vc):V2q b st st:=λ _ _=>rfl
theorem V2q.trans{b:Nat}{x y z:Vc}(h:V2q b x y)(k:V2q b y z):V2q b x z:=λ j hj=>(k j hj).trans (h j hj)
theorem V2q.mono{b b':Nat}{x y:Vc}(h:V2q b x y)(hb:b'<=b):V2q b' x y:=λ j hj=>h j Ya
theorem V2q.app(st t:Vc)(b:Nat)(hb:b<=st.length):V2q b st (st++t):=λ j hj=>U19 Ya
theorem O4g(l:List Nat)(N:Nat)(hu:l.Pairwise (· < ·))(hl:∀x∈l,x<N):l.length<=N:=by
 induction l generalizing N with
 |nil=>simp
 |cons a l ih =>
  have h1:=List.pairwise_cons.1 hu;have hm:∀(l:List Nat)(a N:Nat),(∀x∈l,a<x)->l.Pairwise (· < ·)->(∀x∈l,x<N)->a<N->l.length+a<N:=by
   intro l
   induction l with
   |nil=>intro a N _ _ _ h;simpa using h
   |cons b l ih =>
    intro a N h1 h2 h3 h4;have h5:=List.pairwise_cons.1 h2;have:=ih b N h5.1 h5.2 (λ x hx=>h3 x (U24 _ hx)) (h3 b Yb);have:=h1 b Yb;simp;omega
  have:=hm l a N h1.1 h1.2 (λ x hx=>hl x (U24 _ hx)) (hl a Yb);simp;omega
theorem Wn.mono{N M i:Nat}{nd:Nd}(h:Wn N i nd)(hm:N<=M):Wn M i nd:=⟨h.len,h.up,λ x hx=>U13 (h.lt x hx) hm,h.own⟩
theorem WF.app{st:Vc}(h:WF st)(nd:Nd)(hn:Wn (st.length+1) st.length nd):WF (st++[nd]):=by
 intro i x hx;rw[U1b,U1z];by_cases hi:i<st.length;rw[U19 hi]at hx;exact (h i x hx).mono Ya
 have h2:=(U14.1 hx).1;simp only[U1b,U1z]at h2;have:i=st.length:=Ya;subst this;simp at hx;subst hx;exact hn
theorem Of(st:Vc)(t j:Nat)(f:Nd->Nd):(st.modify t f)[j]?=if t=j then st[j]?.map f else st[j]?:=by
 rw[U3p]
 split <;> simp_all
theorem Oj(st:Vc)(t j i:Nat)(w:Bs)(sp:Nat×Nat):(Vf st t w sp i)[j]?=if t=j then st[j]?.map (λ nd=>V10 nd w sp i) else st[j]?:=by
 unfold Vf;rw[U3p]
 split <;> simp
theorem WF.put{st:Vc}(h:WF st)(t i:Nat)(w:Bs)(sp:Nat×Nat)(nd:Nd)(ht:st[t]?=some nd)(hi:∀x∈nd.subs,x<i)(hl:i<st.length):WF (Vf st t w sp i):=by
 intro j x hx;rw[Oj]at hx;have ap:(Vf st t w sp i).length=st.length:=by unfold Vf;simp
 rw[ap]
 split at hx
 rename_i e
 subst e;rw[ht]at hx;simp only[U25,U1f]at hx;subst hx;have h0:=h t nd ht;refine⟨λ hk=>?_,?_,?_,h0.own⟩;have:=h0.len hk;simp only[V10,U1b,U1z];omega;exact J164
 exact J190
 exact h j x hx
theorem O4y{st:Vc}(h:WF st)(hs:st.length<=20000000)(t:Nat)(nd:Nd)(ht:st[t]?=some nd)(hk:nd.kind=8):kind8 st t=true:=by
 have h0:=h t nd ht;have h1:=O4g _ _ h0.up h0.lt;have h2:=h0.len hk;unfold kind8;rw[ht];simp only[U1h,U1x,U2z];omega
theorem O1x{st:Vc}(hs:st.length<=20000000):room st=true:=by unfold room;simpa using hs
theorem O3q{E:Vv}(hE:V11 E){s:Bs}:∀(f n:Nat)(acc ws:List KW)(e:Nat),n<=s.length->V3r E s f n acc=.ok (ws,e)->ws.length+n<=acc.length+e:=by
 intro f
 induction f with
 |zero=>intro n acc ws e _ h;simp[V3r]at h
 |succ f ih =>
  intro n acc ws e hn h;unfold V3r at h;cases hw:word E s n with
  |non=>rw[hw]at h;cases h
  |bad c p=>rw[hw]at h;cases h
  |ok r =>
   obtain⟨t,e0⟩:=r;obtain⟨h1,h2⟩:=(word_le hE hn).1 _ _ hw;have hb:=V8 s e0 h2;rw[hw]at h;simp only at h
   split at h
   rename_i hd
   have a9:=byteAt_lt hd Yd;have aA:=V8 s (V7 s e0+1) Ya;have:=ih _ _ _ _ aA.2 h;simp only[U1b,U1z]at this;omega
   simp only[V9.ok.injEq,U17]at h;obtain⟨rfl,rfl⟩:=h;simp only[U1b,U1z];omega
structure Vd6(table:Nat)(st:Vc)(d k:Nat)(into d':Nat)(st':Vc):Prop where
 wf:WF st'
 len:st'.length<=st.length+k
 ge:st.length<=st'.length
 keep:V2q table st st'
 tab:table<=into
 at':∃nd,st'[into]?=some nd/\nd.kind=8
 kind:∀(j:Nat) nd,st[j]?=some nd->∃nd',st'[j]?=some nd'/\nd'.kind=nd.kind/\nd'.owner=nd.owner
 dep:d<=d'
theorem Ony(table:Nat):∀(ws:List KW)(into d:Nat)(st:Vc),ws≠[]->WF st->st.length+ws.length<=20000000->table<=into->(∃nd,st[into]?=some nd/\nd.kind=8) ->V3d table ws into d st≠.non/\∀am d' st',V3d table ws into d st=.ok (am,d',st')->Vd6 table st d (ws.length-1) am d' st':=by
 intro ws
 induction ws with
 |nil=>intro into d st h;exact absurd rfl h
 |cons x rest ih =>
  intro into d st _ hw hs yT ⟨nd,aL,bh⟩;obtain⟨w,a,b⟩:=x;have CF:=hw into nd aL;have MO:=CF.len bh;simp only[U1d]at hs;have cw:V1a st into w=.no\/∃i,V1a st into w=.yes i/\i<st.length:=by
   unfold V1a;rw[aL];simp only;cases hf:nd.keys.findIdx? (λ x=>x==w) with
   |none=>exact .inl rfl
   |some j =>
    right;have hj:=(List.findIdx?_eq_some_iff_findIdx_eq.1 hf).1;have qH:j<nd.subs.length:=Ya
    simp only;rw[U1e qH];have:=CF.lt _ (U43 qH);simp only;rw[U1a this];exact⟨_,rfl,this⟩
  unfold V3d;rcases cw with oF|⟨i,IZ,hi⟩
  rw[oF];simp only;cases rest with
  |nil =>
   refine⟨Yb,λ am d' st' h=>?_⟩;simp only[V9.ok.injEq,U17]at h;obtain⟨rfl,rfl,rfl⟩:=h;exact⟨hw,Yb,U12 _,V2q.refl _ _,yT,⟨nd,aL,bh⟩,λ j nd h=>⟨nd,h,rfl,rfl⟩,U12 _⟩
  |cons y r2 =>
   simp only[U1d]at hs⊢
   split;exact J155
   rw[O4y hw Ya into nd aL bh,O1x Ya];simp only[Bool.and_self,U2o];have a9:into<st.length:=(U14.1 aL).1;have fD:WF (st++[V1s (table+1)]):=by
    refine hw.app _ ⟨λ _=>⟨rfl,rfl⟩,List.Pairwise.nil,λ x hx=>(by cases hx),λ _=>⟨rfl,?_⟩⟩;show table+1<=st.length;omega
   have yU:(st++[V1s (table+1)])[into]?=some nd:=by rw[U19 a9];exact aL
   have fq:WF (Vf (st++[V1s (table+1)]) into w (a,b) st.length):=fD.put into st.length w (a,b) nd yU CF.lt Yb;have CG:(Vf (st++[V1s (table+1)]) into w (a,b) st.length).length=st.length+1:=by unfold Vf;simp
   have bz:(Vf (st++[V1s (table+1)]) into w (a,b) st.length)[st.length]?=some (V1s (table+1)):=by
    rw[Oj,U1c Ya];simp
   obtain⟨i1,i2⟩:=ih st.length (d+1) (Vf (st++[V1s (table+1)]) into w (a,b) st.length) Yb fq (by rw[CG];simp only[U1d];omega) Ya ⟨_,bz,rfl⟩;refine⟨i1,λ am d' st' h=>?_⟩;have q:=i2 _ _ _ h;have j0:V2q table st (Vf (st++[V1s (table+1)]) into w (a,b) st.length):=λ j hj=>by
    rw[Oj,U1c Ya,U19 Ya]
   refine⟨q.wf,?_,by have:=q.ge;omega,j0.trans q.keep,q.tab,q.at',λ j x hx=>?_,by have:=q.dep;omega⟩;have:=q.len;simp only[U1d]at this⊢;omega
   have hj:j<st.length:=(U14.1 hx).1;have:∃x1,(Vf (st++[V1s (table+1)]) into w (a,b) st.length)[j]?=some x1/\x1.kind=x.kind/\x1.owner=x.owner:=by
    rw[Oj,U19 hj,hx];exact J185
   obtain⟨x1,e1,e2,e3⟩:=this;obtain⟨x2,f1,f2,f3⟩:=q.kind j x1 e1;exact⟨x2,f1,by rw[f2,e2],by rw[f3,e3]⟩
  rw[IZ];simp only;cases rest with
  |nil=>exact⟨Yb,λ am d' st' h=>by simp at h⟩
  |cons y r2 =>
   simp only[U1d]at hs⊢
   split
   rename_i ho
   have I':=U1e hi;unfold V2c at ho;rw[I']at ho;simp only at ho;have Fv:=(hw i _ I').own Ya;obtain⟨i1,i2⟩:=ih i (d+1) st Yb hw (by simp only[U1d];omega) Ya ⟨_,I',Fv.1⟩;refine⟨i1,λ am d' st' h=>?_⟩;have q:=i2 _ _ _ h;exact⟨q.wf,by have:=q.len;simp only[U1d]at this⊢;omega,q.ge,q.keep,q.tab,q.at',q.kind,by have:=q.dep;omega⟩
   exact J155
structure V8y(st:Vc)(i e:Nat)(st':Vc):Prop where
 wf:WF st'
 len:st'.length<=e
 lo:st.length<=i
 hi:i<st'.length
 keep:V2q st.length st st'
def V8f(s:Bs)(D:Nat)(V:V1n):Prop:=∀d n st,D<=d->WF st->st.length<=n->n<=s.length->V d n st≠.non/\∀i e st',V d n st=.ok (i,e,st')->V8y st i e st'
theorem Ogj{E:Vv}(hE:V11 E){s:Bs}(hs:s.length<=20000000){V:V1n}(hV:VLe s V){D:Nat}(hT:V8f s D V)(table n d:Nat)(st:Vc)(hD:D<=d+1)(hw:WF st)(hl:st.length<=n)(hn:n<=s.length)(ht:∃nd,st[table]?=some nd/\nd.kind=8):V1l E V s table n d st≠.non/\∀e st',V1l E V s table n d st=.ok (e,st')->WF st'/\st'.length<=e/\st.length<=st'.length/\V2q table st st'/\∃nd,st'[table]?=some nd/\nd.kind=8:=by
 obtain⟨k1,k2,k3⟩:=O15 hE hn;unfold V1l;cases hk:V1q E s n with
 |non=>exact absurd hk k3
 |bad c p=>exact⟨Yb,λ e st' h=>by simp at h⟩
 |ok r =>
  obtain⟨ws,e⟩:=r;obtain⟨h1,h2,h3,h4,h5⟩:=k1 _ _ hk;have pY:=O3q hE _ _ _ _ _ hn hk;simp only[U1q]at pY;have eW:0<ws.length:=U3t.2 h3;obtain⟨w1,w2⟩:=Ony table ws table d st h3 hw Ya (U12 _) ht;simp only;cases MP:V3d table ws table d st with
  |non=>exact absurd MP w1
  |bad c p=>exact⟨Yb,λ e st' h=>by simp at h⟩
  |ok r2 =>
   obtain⟨into,d',st1⟩:=r2;have q:=w2 _ _ _ MP;have hb:=V8 s e h2;simp only
   split
   rename_i dS
   refine Z238 ?_;intro a9 aA;have vK:=q.len;have Ax:=q.ge;have MQ:=q.dep;obtain⟨v1,v2⟩:=hT (d'+1) (V7 s (V7 s e+1)) st1 Ya q.wf Ya Ya;have aP:=hV (d'+1) (V7 s (V7 s e+1)) st1 Ya;cases hv:V (d'+1) (V7 s (V7 s e+1)) st1 with
   |non=>exact absurd hv v1
   |bad c p=>exact⟨Yb,λ e st' h=>by simp at h⟩
   |ok r3 =>
    obtain⟨i,e2,st2⟩:=r3;have g:=v2 _ _ _ hv;have hg:=aP.1 _ _ _ hv;obtain⟨nd,aL,bh⟩:=q.at';have dT:into<st1.length:=(U14.1 aL).1;have uD:st2[into]?=some nd:=(g.keep into dT).trans aL;have fU:=g.len;have cb:=g.lo;have dp:=g.hi;have h8:=O4y g.wf Ya into nd uD bh;simp only;cases aW:ws.getLast? with
    |none=>rw[U3z]at aW;exact absurd aW h3
    |some kw =>
     obtain⟨w,a,b⟩:=kw;simp only;rw[h8,U1a rfl];refine⟨Yb,λ e' st' h=>?_⟩;simp only[V9.ok.injEq,U17]at h;obtain⟨rfl,rfl⟩:=h;have ap:(Vf st2 into w (a,b) i).length=st2.length:=by unfold Vf;simp
     have oa:=(q.wf into nd aL).lt;refine⟨g.wf.put into i w (a,b) nd uD (λ x hx=>by have:=oa x hx;omega) dp,Ya,Ya,?_,?_⟩;intro j hj;have:=q.tab;rw[Oj,U1c Ya,g.keep j Ya];exact q.keep j hj
     obtain⟨nt,uh,wB⟩:=ht;obtain⟨n1,e1,MR,e3⟩:=q.kind table nt uh;have tY:table<st1.length:=(U14.1 e1).1;have e4:st2[table]?=some n1:=(g.keep table tY).trans e1;rw[Oj,e4]
     split;exact⟨_,rfl,by show n1.kind=8;rw[MR,wB]⟩
     exact⟨_,rfl,by rw[MR,wB]⟩
   exact⟨Yb,λ e st' h=>by simp at h⟩
theorem Oiy{E:Vv}(hE:V11 E){s:Bs}(hs:s.length<=20000000){V:V1n}(hV:VLe s V){D:Nat}(hT:V8f s D V)(table d:Nat)(hD:D<=d+1):∀(f n:Nat)(st:Vc),s.length<n+f->WF st->st.length<=n->n<=s.length->(∃nd,st[table]?=some nd/\nd.kind=8) ->V29 E V s table d f n st≠.non/\∀e st',V29 E V s table d f n st=.ok (e,st')->WF st'/\st'.length<=e/\st.length<=st'.length/\V2q table st st'/\∃nd,st'[table]?=some nd/\nd.kind=8:=by
 intro f
 induction f with
 |zero=>intro n st h1 _ _ h2;omega
 |succ f ih =>
  intro n st hf hw hl hn ht;obtain⟨p1,p2⟩:=Ogj hE hs hV hT table n d st hD hw hl hn ht;have pl:=(O4x hE hV table n d st hn).1;unfold V29;cases hp:V1l E V s table n d st with
  |non=>exact absurd hp p1
  |bad c p=>exact⟨Yb,λ e st' h=>by simp at h⟩
  |ok r =>
   obtain⟨e,st1⟩:=r;obtain⟨h1,h2⟩:=pl _ _ hp;obtain⟨q1,q2,q3,q4,q5⟩:=p2 _ _ hp;have hb:=V8 s e h2;simp only
   split;refine⟨Yb,λ e' st' h=>?_⟩;simp only[V9.ok.injEq,U17]at h;obtain⟨rfl,rfl⟩:=h;exact⟨q1,Ya,q3,q4,q5⟩
   split
   rename_i h3
   have a9:=byteAt_lt h3 Yd;have aA:=V8 s (V7 s e+1) Ya;obtain⟨i1,i2⟩:=ih (V7 s (V7 s e+1)) st1 Ya q1 Ya aA.2 q5;refine⟨i1,λ e' st' h=>?_⟩;obtain⟨r1,r2,r3,r4,r5⟩:=i2 _ _ h;exact⟨r1,r2,Ya,q4.trans r4,r5⟩
   exact⟨Yb,λ e st' h=>by simp at h⟩
theorem Oer{E:Vv}(hE:V11 E){s:Bs}(hs:s.length<=20000000){V:V1n}(hV:VLe s V){D:Nat}(hT:V8f s D V)(d n:Nat)(st:Vc)(hD:D<=d+1)(hw:WF st)(hl:st.length<=n)(hn:n<s.length):V1h E V s d n st≠.non/\∀i e st',V1h E V s d n st=.ok (i,e,st')->V8y st i e st':=by
 have hb:=V8 s (n+1) Ya;refine Z139 ?_;intro fD;have gm:(st++[V16]).length=st.length+1:=Yb;have ht:∃nd,(st++[V16])[st.length]?=some nd/\nd.kind=8:=⟨V16,Yb,rfl⟩
 obtain⟨t1,t2⟩:=Oiy hE hs hV hT st.length d hD (s.length+2) (V7 s (n+1)) (st++[V16]) Ya fD Ya hb.2 ht;have tl:=(O4f hE hV st.length d (s.length+2) (V7 s (n+1)) (st++[V16]) hb.2).1;unfold V1h
 split;exact J155
 rw[O1x Ya,U1a rfl];simp only;obtain⟨Y,hY⟩:∃Y:V9 (Nat×Vc),(if Va s (V7 s (n+1))=125 then V9.ok (V7 s (n+1),st++[V16]) else V29 E V s st.length d (s.length+2) (V7 s (n+1)) (st++[V16]))=Y:=⟨_,rfl⟩
 rw[hY];have bP:Y≠.non/\∀e st',Y=.ok (e,st')->WF st'/\st'.length<=e+1/\st.length+1<=st'.length/\V2q st.length (st++[V16]) st'/\(∃nd,st'[st.length]?=some nd/\nd.kind=8)/\e<s.length:=by
  split at hY
  rename_i h3
  have a9:=byteAt_lt h3 Yd;subst hY;refine⟨Yb,λ e st' h=>?_⟩;simp only[V9.ok.injEq,U17]at h;obtain⟨rfl,rfl⟩:=h;exact⟨fD,Ya,Ya,V2q.refl _ _,ht,a9⟩
  subst hY;refine⟨t1,λ e st' h=>?_⟩;obtain⟨a1,a2,a3,a4,a5⟩:=t2 _ _ h;exact⟨a1,Ya,Ya,a4,a5,(tl _ _ h).2⟩
 clear hY t1 t2 tl;cases Y with
 |non=>exact absurd rfl bP.1
 |bad c p=>exact⟨Yb,λ i e st' h=>by simp at h⟩
 |ok r =>
  obtain⟨e1,st1⟩:=r;obtain⟨a1,a2,a3,a4,⟨nd,a5,a6⟩,a7⟩:=bP.2 _ _ rfl;simp only;rw[O4y a1 Ya st.length nd a5 a6,U1a rfl];refine⟨Yb,λ i e st' h=>?_⟩;simp only[V9.ok.injEq,U17]at h;obtain⟨rfl,rfl,rfl⟩:=h;refine⟨?_,Ye,U12 _,Ye,?_⟩
  intro j x hx;rw[Of]at hx;rw[U2i]
  split at hx
  rename_i e
  subst e;rw[a5]at hx;simp at hx;subst hx;have h0:=a1 _ _ a5;exact⟨h0.len,h0.up,h0.lt,h0.own⟩
  exact a1 j x hx
  intro j hj;rw[Of,U1c Ya,a4 j hj,U19 hj]
theorem Ogk{s:Bs}(hs:s.length<=20000000){V:V1n}(hV:VLe s V){D:Nat}(hT:V8f s D V)(d:Nat)(hD:D<=d+1):∀(f n:Nat)(subs:List Nat)(st:Vc),s.length<n+f->WF st->st.length<=n->n<=s.length->subs.Pairwise (· < ·)->(∀x∈subs,x<st.length) ->V1f V s d f n subs st≠.non/\∀l e st',V1f V s d f n subs st=.ok (l,e,st')->WF st'/\st'.length<=e/\st.length<=st'.length/\V2q st.length st st'/\l.Pairwise (· < ·)/\(∀x∈l,x<st'.length):=by
 intro f
 induction f with
 |zero=>intro n subs st h1 _ _ h2;omega
 |succ f ih =>
  intro n subs st hf hw hl hn hu a9;have oa:=O4g _ _ hu a9;unfold V1f
  split;refine⟨Yb,λ l e st' h=>?_⟩;simp only[V9.ok.injEq,U17]at h;obtain⟨rfl,rfl,rfl⟩:=h;exact⟨hw,hl,U12 _,V2q.refl _ _,hu,a9⟩
  obtain⟨v1,v2⟩:=hT (d+1) n st hD hw hl hn;have vl:=(hV (d+1) n st hn).1;cases hv:V (d+1) n st with
  |non=>exact absurd hv v1
  |bad c p=>exact⟨Yb,λ l e st' h=>by simp at h⟩
  |ok r =>
   obtain⟨i,e,st1⟩:=r;obtain⟨h1,h2⟩:=vl _ _ _ hv;have q:=v2 _ _ _ hv;have q1:=q.len;have q2:=q.lo;have q3:=q.hi;have MS:(subs++[i]).Pairwise (· < ·):=by
    rw[List.pairwise_append];exact⟨hu,List.pairwise_singleton _ _,λ a ha b hb=>by rw[U20]at hb;have:=a9 a ha;omega⟩
   have lP:∀x∈subs++[i],x<st1.length:=λ x hx=>by
    rcases U29.1 hx with hx|hx
    have:=a9 x hx;omega
    rw[U20]at hx;omega
   simp only;rw[U1c Ya];cases hg:Vt s e with
   |bad c p=>exact⟨Yb,λ l e st' h=>by simp at h⟩
   |ok g =>
    obtain⟨g1,g2⟩:=On hg h2;simp only
    split;refine⟨Yb,λ l e' st' h=>?_⟩;simp only[V9.ok.injEq,U17]at h;obtain⟨rfl,rfl,rfl⟩:=h;exact⟨q.wf,Ya,Ya,q.keep,MS,lP⟩
    split
    rename_i h3
    have QT:=byteAt_lt h3 Yd;cases cb:Vt s (g+1) with
    |bad c p=>exact⟨Yb,λ l e st' h=>by simp at h⟩
    |ok g' =>
     obtain⟨g3,g4⟩:=On cb Ya;obtain⟨i1,i2⟩:=ih g' (subs++[i]) st1 Ya q.wf Ya g4 MS lP;refine⟨i1,λ l e' st' h=>?_⟩;obtain⟨r1,r2,r3,r4,r5,r6⟩:=i2 _ _ _ h;exact⟨r1,r2,Ya,q.keep.trans (r4.mono Ya),r5,r6⟩
    exact J28
theorem Ogl{s:Bs}(hs:s.length<=20000000){V:V1n}(hV:VLe s V){D:Nat}(hT:V8f s D V)(d n:Nat)(st:Vc)(hD:D<=d+1)(hw:WF st)(hl:st.length<=n)(hn:n<s.length):V2a V s d n st≠.non/\∀i e st',V2a V s d n st=.ok (i,e,st')->V8y st i e st':=by
 unfold V2a
 split;exact J155
 cases hg:Vt s (n+1) with
 |bad c p=>exact⟨Yb,λ l e st' h=>by simp at h⟩
 |ok g =>
  obtain⟨g1,g2⟩:=On hg Ya;obtain⟨l1,l2⟩:=Ogk hs hV hT d hD (s.length+2) g [] st Ya hw Ya g2 List.Pairwise.nil (λ x hx=>by cases hx);have ll:=(O3p hV d (s.length+2) g [] st g2).1;simp only;cases hf:V1f V s d (s.length+2) g [] st with
  |non=>exact absurd hf l1
  |bad c p=>exact⟨Yb,λ l e st' h=>by simp at h⟩
  |ok r =>
   obtain⟨subs,e,st1⟩:=r;obtain⟨a1,a2,a3,a4,a5,a6⟩:=l2 _ _ _ hf;have:=ll _ _ _ hf;simp only;rw[O1x Ya,U1a rfl];refine⟨Yb,λ i e' st' h=>?_⟩;simp only[V9.ok.injEq,U17]at h;obtain⟨rfl,rfl,rfl⟩:=h;refine⟨a1.app _ ⟨λ hk=>(by cases hk),a5,λ x hx=>by have:=a6 x hx;omega,λ hk=>absurd rfl hk⟩,Ye,a3,Yb,a4.trans (V2q.app _ _ _ a3)⟩
theorem Oes{E:Vv}(hE:V11 E)(s:Bs)(hs:s.length<=20000000):∀f,V8f s (259-f) (Vz E s f)\/f=0:=by
 intro f
 induction f with
 |zero=>exact .inr rfl
 |succ f ih =>
  left;intro d n st hD hw hl hn;unfold Vz;simp only;have kJ:∀(d:Nat),259-(f+1)<=d->d<=256->V8f s (259-f) (Vz E s f)/\259-f<=d+1:=by
   intro d h1 h2;refine⟨ih.resolve_right Ya,Ya⟩
  split
  cases po:E.str (s.drop n) with
  |non=>exact absurd po (hE.strT _)
  |bad c p=>exact⟨Yb,λ l e st' h=>by simp at h⟩
  |ok r =>
   obtain⟨t,m⟩:=r;have:=hE.strK _ _ _ po;rw[U16]at this;simp only;rw[O1x Ya,U1a rfl];refine⟨Yb,λ i e' st' h=>?_⟩;simp only[V9.ok.injEq,U17]at h;obtain⟨rfl,rfl,rfl⟩:=h;exact⟨hw.app _ ⟨λ hk=>(by cases hk),List.Pairwise.nil,λ x hx=>(by cases hx),λ hk=>absurd rfl hk⟩,Ye,U12 _,Yb,V2q.app _ _ _ (U12 _)⟩
  split
  rename_i h3
  have a9:=byteAt_lt h3 Yd;by_cases hd:256<d;unfold V2a;rw[U1a hd];exact J28
  obtain⟨j1,j2⟩:=kJ d hD Ya;exact Ogl hs (O14 hE s f) j1 d n st j2 hw hl a9
  split
  rename_i h3
  have a9:=byteAt_lt h3 Yd;by_cases hd:256<d;unfold V1h;rw[U1a hd];exact J28
  obtain⟨j1,j2⟩:=kJ d hD Ya;exact Oer hE hs (O14 hE s f) j1 d n st j2 hw hl a9
  cases po:E.scal (s.drop n) with
  |non=>exact absurd po (hE.scalT _)
  |bad c p=>exact⟨Yb,λ l e st' h=>by simp at h⟩
  |ok r =>
   obtain⟨k,t,m⟩:=r;have:=hE.scalK _ _ _ _ po;rw[U16]at this;simp only;rw[O1x Ya,U1a rfl];refine⟨Yb,λ i e' st' h=>?_⟩;simp only[V9.ok.injEq,U17]at h;obtain⟨rfl,rfl,rfl⟩:=h;exact⟨hw.app _ ⟨λ hk=>by (have ed:k=8:=hk;omega),List.Pairwise.nil,λ x hx=>(by cases hx),λ hk=>absurd rfl hk⟩,Ye,U12 _,Yb,V2q.app _ _ _ (U12 _)⟩
theorem O1q{E:Vv}(hE:V11 E)(s:Bs)(hs:s.length<=20000000)(n k:Nat)(hn:n<=s.length):V1g E s n k≠.non/\(∀c p,V1g E s n k=.bad c p->p<=s.length/\c≠0)/\(∀i e st,V1g E s n k=.ok (i,e,st)->n<e/\e<=s.length/\V8y [] i e st):=by
 have h0:WF ([]:Vc):=λ i nd h=>by simp at h
 obtain⟨h1,h2⟩:=(Oes hE s hs 258).resolve_right Yd (min k 256+1) n [] Ya h0 Yb hn;obtain⟨h3,h4⟩:=O14 hE s 258 (min k 256+1) n [] hn;exact⟨h1,h4,λ i e st h=>⟨(h3 _ _ _ h).1,(h3 _ _ _ h).2,h2 _ _ _ h⟩⟩
structure Two(x s1 s2:Bs)(a1 a2:Nat):Prop where
 l1:∃r,Op r/\s1.drop a1=x++r
 l2:∃r,Op r/\s2.drop a2=x++r
 h1:a1+x.length<=s1.length
 h2:a2+x.length<=s2.length
theorem Ob7(p:UInt8->Bool)(u r:Bs)(h:((u++r).takeWhile p).length<u.length):(u++r).takeWhile p=u.takeWhile p:=by
 induction u with
 |nil=>simp at h
 |cons a u ih =>
  rw[U1o,U1p]at h;exact J29
theorem O7u(p:UInt8->Bool)(u r:Bs)(h:(u.takeWhile p).length<u.length):(u++r).takeWhile p=u.takeWhile p:=by
 induction u with
 |nil=>simp at h
 |cons a u ih =>
  rw[U1p]at h;exact J29
theorem O29(p:UInt8->Bool)(u r r':Bs)(h:((u++r).takeWhile p).length<u.length):(u++r').takeWhile p=(u++r).takeWhile p:=by
 have h1:=Ob7 p u r h;rw[h1]at h⊢;exact O7u p u r' h
inductive V4a {α β : Type}(R : α -> β -> Prop):List α -> List β -> Prop
 |nil:V4a R [] []
 |cons {a b l m}:R a b->V4a R l m->V4a R (a::l) (b::m)
theorem V4a.app{α β : Type}{R : α -> β -> Prop}{l l':List α}{m m':List β}(h:V4a R l m)(h':V4a R l' m'):V4a R (l++l') (m++m'):=by
 induction h with
 |nil=>exact h'
 |cons a _ ih=>exact .cons a ih
theorem V4a.len{α β : Type}{R : α -> β -> Prop}{l:List α}{m:List β}(h:V4a R l m):l.length=m.length:=by
 induction h with
 |nil=>rfl
 |cons a _ ih=>simp[ih]
theorem V4a.last{α β : Type}{R : α -> β -> Prop}{l:List α}{m:List β}(h:V4a R l m):(l.getLast?=none/\m.getLast?=none)\/∃a b,l.getLast?=some a/\m.getLast?=some b/\R a b:=by
 induction h with
 |nil=>exact .inl ⟨rfl,rfl⟩
 |cons a t ih =>
  right;cases t with
  |nil=>exact⟨_,_,rfl,rfl,a⟩
  |cons b t =>
   rcases ih with ih|⟨x,y,h1,h2,h3⟩
   simp at ih
   exact⟨x,y,by rw[List.getLast?_cons_cons];exact h1,by rw[List.getLast?_cons_cons];exact h2,h3⟩
namespace Two
variable {x s1 s2:Bs}{a1 a2:Nat}
theorem symm(T:Two x s1 s2 a1 a2):Two x s2 s1 a2 a1:=⟨T.l2,T.l1,T.h2,T.h1⟩
theorem d1(T:Two x s1 s2 a1 a2){j:Nat}(hj:j<=x.length):∃r,Op r/\s1.drop (a1+j)=x.drop j++r:=by
 obtain⟨r,hr,he⟩:=T.l1;refine⟨r,hr,?_⟩;rw[<-U2j,he,U3b,show j-x.length=0 by omega];rfl
theorem d2(T:Two x s1 s2 a1 a2){j:Nat}(hj:j<=x.length):∃r,Op r/\s2.drop (a2+j)=x.drop j++r:=T.symm.d1 hj
theorem b1(T:Two x s1 s2 a1 a2){j:Nat}(hj:j<x.length):Va s1 (a1+j)=(x[j]).toNat:=by
 obtain⟨r,_,he⟩:=T.l1;have:s1[a1+j]?=some x[j]:=by
  rw[<-U2y,he,U19 hj,U1e hj]
 unfold Va;rw[this]
theorem byte(T:Two x s1 s2 a1 a2){j:Nat}(hj:j<x.length):Va s2 (a2+j)=Va s1 (a1+j):=by rw[T.b1 hj,T.symm.b1 hj]
theorem blanks(T:Two x s1 s2 a1 a2){j k:Nat}(h:V7 s1 (a1+j)=a1+k)(hk:k<x.length):V7 s2 (a2+j)=a2+k/\j<=k:=by
 unfold V7 Pl.blanks at h⊢;have hj:j<=k:=Ya
 obtain⟨r,hr,he⟩:=T.d1 (j:=j) Ya;obtain⟨r',eM,qS⟩:=T.d2 (j:=j) Ya;rw[he]at h;rw[qS,O29 _ _ r r' (by rw[U16];omega)];omega
end Two
theorem Oet(u r r':Bs)(h:comment (u++r)<u.length):comment (u++r')=comment (u++r):=by
 match u,h with
 |[],h=>simp at h
 |a::u,h =>
  rw[U1o]at h⊢;rw[U1o];by_cases ha:a=35;subst ha;simp only[comment]at h⊢;rw[O29 _ u r r' (by simp only[U1d]at h;omega)]
  unfold comment
  split;rename_i e;simp only[U27]at e;exact absurd e.1 ha
  split;rename_i e;simp only[U27]at e;exact absurd e.1 ha
  rfl
theorem O7v(u r r':Bs)(m:Nat)(h:V1x (u++r)=.ok m)(hm:m<u.length):V1x (u++r')=.ok m:=by
 have hc:=O4q ((u++r).drop (blanks (u++r)));have jM:blanks (u++r)+comment ((u++r).drop (blanks (u++r)))<=m:=by
  unfold V1x at h;simp only at h
  split at h <;> cases h <;> omega
 have hb:blanks (u++r')=blanks (u++r):=by
  unfold blanks;rw[O29 _ u r r' (by unfold blanks at jM;omega)]
 have hd:(u++r).drop (blanks (u++r))=u.drop (blanks (u++r))++r:=by
  rw[U3b,show blanks (u++r)-u.length=0 by omega];rfl
 have MD:(u++r').drop (blanks (u++r))=u.drop (blanks (u++r))++r':=by
  rw[U3b,show blanks (u++r)-u.length=0 by omega];rfl
 have ke:comment ((u++r').drop (blanks (u++r)))=comment ((u++r).drop (blanks (u++r))):=by
  rw[hd,MD];rw[hd]at jM;exact Oet _ r r' (by rw[U16];omega)
 unfold V1x at h⊢;simp only at h⊢;rw[hb,ke];generalize blanks (u++r)+comment ((u++r).drop (blanks (u++r)))=q at h jM⊢;have e1:(u++r).drop q=u.drop q++r:=by rw[U3b,show q-u.length=0 by omega];rfl
 have e2:(u++r').drop q=u.drop q++r':=by rw[U3b,show q-u.length=0 by omega];rfl
 rw[e1]at h;rw[e2];have hl:(u.drop q).length=u.length-q:=U16;generalize u.drop q=w at h hl⊢
 match w,h,hl with
 |[],_,hl=>simp at hl;omega
 |[a],h,hl =>
  simp only[U1d,U1q]at hl;simp only[U1o,U2l]at h⊢;by_cases da:a=10;subst da;simp only at h;exact J1
  by_cases fF:a=13
  subst fF
  split at h;exact J1;rename_i e;simp at e;cases h
  exact J33
  exact J32
 |a::b::w,h,hl =>
  simp only[U1o]at h⊢;by_cases da:a=10;subst da;simpa using h
  by_cases fF:a=13
  subst fF;by_cases hb:b=10;subst hb;simpa using h
  split at h;rename_i e;simp only[U27]at e;exact absurd e.2.1 hb;rename_i e;simp at e;cases h
  exact J33
  exact J32
theorem Onz:∀(N:Nat)(u r r':Bs)(k:Nat),u.length<=N->gap (u++r)=.ok k->k<u.length->gap (u++r')=.ok k:=by
 intro N
 induction N with
 |zero=>intro u r r' k h1 _ h2;omega
 |succ N ih =>
  intro u r r' k hN h hk;rw[O2p]at h;cases hs:V1x (u++r) with
  |bad c p=>rw[hs]at h;cases h
  |ok m =>
   rw[hs]at h;cases m with
   |zero =>
    simp only at h;cases h;rw[O2p,O7v u r r' 0 hs hk]
   |succ m =>
    simp only at h;cases hg:gap ((u++r).drop (m+1)) with
    |bad c p=>rw[hg]at h;cases h
    |ok q =>
     rw[hg]at h;simp only[V2x.ok.injEq]at h;have e1:(u++r).drop (m+1)=u.drop (m+1)++r:=by rw[U3b,show m+1-u.length=0 by omega];rfl
     have e2:(u++r').drop (m+1)=u.drop (m+1)++r':=by rw[U3b,show m+1-u.length=0 by omega];rfl
     rw[O2p,O7v u r r' (m+1) hs Ya];simp only;rw[e2,ih (u.drop (m+1)) r r' q (by rw[U16];omega) (by rw[<-e1];exact hg) (by rw[U16];omega)];simp only;rw[h]
theorem Two.gap{x s1 s2:Bs}{a1 a2:Nat}(T:Two x s1 s2 a1 a2){j k:Nat}(hj:j<=x.length)(h:Vt s1 (a1+j)=.ok (a1+k))(hk:k<x.length):Vt s2 (a2+j)=.ok (a2+k)/\j<=k:=by
 have aP:=On h (by have:=T.h1;omega);obtain⟨r,hr,he⟩:=T.d1 (j:=j) hj;obtain⟨r',eM,qS⟩:=T.d2 (j:=j) hj;refine⟨?_,Ya⟩;unfold Vt at h⊢;rw[he]at h;rw[qS];cases hg:Pl.gap (x.drop j++r) with
 |bad c p=>rw[hg]at h;cases h
 |ok q =>
  rw[hg]at h;simp only[V2x.ok.injEq]at h;rw[Onz _ (x.drop j) r r' q (U12 _) hg (by rw[U16];omega)];simp only;congr 1;omega
theorem O39(u:Bs){r:Bs}(h:Op r):long (u++r)=long u:=by
 rcases h with rfl|⟨c,t,rfl,hc,_⟩
 rw[U3j]
 have lr:c≠34/\c≠39:=by rcases hc with rfl|rfl|rfl|rfl|rfl|rfl|rfl|rfl <;> decide
 match u with
 |[]=>simp only[U2l];unfold long;split <;> simp_all
 |[a]=>simp only[U1o,U2l];unfold long;split <;> simp_all
 |[a,b]=>simp only[U1o,U2l];unfold long;split <;> simp_all
 |a::b::d::u =>
  simp only[U1o];unfold long;by_cases h1:a=34/\b=34/\d=34;obtain⟨rfl,rfl,rfl⟩:=h1;rfl
  by_cases h2:a=39/\b=39/\d=39;obtain⟨rfl,rfl,rfl⟩:=h2;rfl
  split;rename_i e;simp only[U27]at e;exact absurd ⟨e.1,e.2.1,e.2.2.1⟩ h1;rename_i e;simp only[U27]at e;exact absurd ⟨e.1,e.2.1,e.2.2.1⟩ h2
  split;rename_i e;simp only[U27]at e;exact absurd ⟨e.1,e.2.1,e.2.2.1⟩ h1;rename_i e;simp only[U27]at e;exact absurd ⟨e.1,e.2.1,e.2.2.1⟩ h2
  rfl
theorem O7w(u:Bs){r:Bs}(h:Op r):Vs (u++r)=Vs u:=by
 unfold Vs;rw[O38 h V2h (by rintro c (rfl|rfl|rfl|rfl|rfl|rfl|rfl|rfl) <;> decide)]
theorem Ob8{E:Vv}(hE:V11 E){x s1 s2:Bs}{a1 a2:Nat}(T:Two x s1 s2 a1 a2){j e:Nat}{t:Bs}(hj:j<=x.length)(h:word E s1 (a1+j)=.ok (t,e))(he:e<=a1+x.length):∃k,e=a1+k/\j<k/\word E s2 (a2+j)=.ok (t,a2+k):=by
 have aP:=(word_le hE (s:=s1) (n:=a1+j) (by have:=T.h1;omega)).1 _ _ h;obtain⟨k,rfl⟩:∃k,e=a1+k:=⟨e-a1,Ya⟩
 refine⟨k,rfl,Ya,?_⟩;obtain⟨r,hr,qK⟩:=T.d1 (j:=j) hj;obtain⟨r',eM,nE⟩:=T.d2 (j:=j) hj;unfold word V35 at h⊢;rw[qK,O39 _ hr,O7w _ hr]at h;rw[nE,O39 _ eM,O7w _ eM]
 split at h
 rename_i hl
 rw[U1a hl];simp only[V9.ok.injEq,U17]at h⊢;exact⟨h.1,Ya⟩
 rename_i hl
 rw[U1c hl]
 split at h
 rename_i hb
 rw[U1a hb];cases hs:E.str (x.drop j++r) with
 |non=>rw[hs]at h;cases h
 |bad c p=>rw[hs]at h;cases h
 |ok v =>
  obtain⟨t',q⟩:=v;rw[hs]at h;simp only[V9.ok.injEq,U17]at h;rw[hE.strL (x.drop j) r r' t' q hr eM hs (by rw[U16];omega)];simp only[V9.ok.injEq,U17];exact⟨h.1,Ya⟩
 rename_i hb
 rw[U1c hb];have bv:Vs (x.drop j)<=(x.drop j).length:=Vj _ _;simp only[V9.ok.injEq,U17]at h⊢;refine⟨?_,Ya⟩;rw[<-h.1,List.take_append,List.take_append,show Vs (x.drop j)-(x.drop j).length=0 by omega];simp
def KR(a1 a2:Nat)(v w:KW):Prop:=v.1=w.1/\∃p q,v.2=(a1+p,a1+q)/\w.2=(a2+p,a2+q)
theorem Oiz{E:Vv}(hE:V11 E){x s1 s2:Bs}{a1 a2:Nat}(T:Two x s1 s2 a1 a2):∀(f1 f2 j e:Nat)(qT qU ws:List KW),j<=x.length->s2.length<a2+j+f2->V4a (KR a1 a2) qT qU ->V3r E s1 f1 (a1+j) qT=.ok (ws,e)->V7 s1 e<a1+x.length->∃k pp,e=a1+k/\j<k/\k<x.length/\V3r E s2 f2 (a2+j) qU=.ok (pp,a2+k)/\V4a (KR a1 a2) ws pp:=by
 intro f1
 induction f1 with
 |zero=>intro f2 j e qT qU ws _ _ _ h;simp[V3r]at h
 |succ f1 ih =>
  intro f2 j e qT qU ws hj hf dH h de;have T1:=T.h1;have T2:=T.h2
  match f2,hf with
  |0,hf=>omega
  |f2+1,hf =>
  unfold V3r at h⊢;cases hw:word E s1 (a1+j) with
  |non=>rw[hw]at h;cases h
  |bad c p=>rw[hw]at h;cases h
  |ok r =>
   obtain⟨t,e0⟩:=r;have fD:=(word_le hE (s:=s1) (n:=a1+j) Ya).1 _ _ hw;have hb:=V8 s1 e0 fD.2;rw[hw]at h;simp only at h
   split at h
   rename_i hd
   have a9:=byteAt_lt hd Yd;have aA:=V8 s1 (V7 s1 e0+1) Ya;have kt:V7 s1 (V7 s1 e0+1)<=e/\e<=s1.length:=by
    have q:∀(f n:Nat)(acc ws:List KW)(e:Nat),n<=s1.length->V3r E s1 f n acc=.ok (ws,e)->n<=e/\e<=s1.length:=by
     intro f
     induction f with
     |zero=>intro n acc ws e _ h;simp[V3r]at h
     |succ f ih =>
      intro n acc ws e hn h;unfold V3r at h;cases hw:word E s1 n with
      |non=>rw[hw]at h;cases h
      |bad c p=>rw[hw]at h;cases h
      |ok r =>
       obtain⟨t,e0⟩:=r;obtain⟨h1,h2⟩:=(word_le hE hn).1 _ _ hw;have hb:=V8 s1 e0 h2;rw[hw]at h;simp only at h
       split at h
       rename_i hd
       have a9:=byteAt_lt hd Yd;have aA:=V8 s1 (V7 s1 e0+1) Ya;have:=ih _ _ _ _ aA.2 h;omega
       simp only[V9.ok.injEq,U17]at h;omega
    exact q _ _ _ _ _ aA.2 h
   have jB:=V8 s1 e kt.2;obtain⟨k,hk,sG,fq⟩:=Ob8 hE T hj hw Ya;rw[fq];simp only;subst hk;obtain⟨k1,bB⟩:∃k1,V7 s1 (a1+k)=a1+k1:=⟨V7 s1 (a1+k)-a1,Ya⟩
   rw[bB]at hd h a9 hb aA kt;rw[U28]at h aA kt;refine Z246 ?_;intro k2 bX;rw[bX]at h aA kt;obtain⟨g1,g2⟩:=T.blanks bB Ya;obtain⟨g3,g4⟩:=T.blanks bX Ya;rw[g1,T.byte Ya,U1a hd,U28,g3];have CH:V4a (KR a1 a2) (qT++[(t,a1+j,a1+k)]) (qU++[(t,a2+j,a2+k)]):=by
    refine dH.app (.cons ⟨rfl,j,k,rfl,rfl⟩ .nil)
   obtain⟨k3,pp,e1,e2,e3,e4,e5⟩:=ih f2 k2 e _ _ ws Ya Ya CH h de;exact⟨k3,pp,e1,Ya,e3,e4,e5⟩
   rename_i hd
   simp only[V9.ok.injEq,U17]at h;obtain⟨rfl,rfl⟩:=h;obtain⟨k,hk,sG,fq⟩:=Ob8 hE T hj hw Ya;rw[fq];simp only;subst hk;obtain⟨k1,bB⟩:∃k1,V7 s1 (a1+k)=a1+k1:=⟨V7 s1 (a1+k)-a1,Ya⟩
   obtain⟨g1,g2⟩:=T.blanks bB Ya;rw[bB]at hd;rw[g1,T.byte Ya,U1c hd];exact⟨k,_,rfl,sG,Ya,rfl,dH.app (.cons ⟨rfl,j,k,rfl,rfl⟩ .nil)⟩
def isQ(q:UInt8):Prop:=q=34\/q=39
theorem Ogu{r:Bs}(h:Op r){q:UInt8}(hq:isQ q)(u:Bs):run q (u++r)=run q u:=by
 unfold run;rw[O38 h];rintro c hc;rcases hq with rfl|rfl <;> rcases hc with rfl|rfl|rfl|rfl|rfl|rfl|rfl|rfl <;> decide
theorem Oey(u r:Bs)(d:Nat)(h:d<=u.length):V1y (u++r) d=V1y u d:=by
 induction u generalizing d with
 |nil=>simp only[U1q,Nat.le_zero]at h;subst h;cases r <;> rfl
 |cons c u ih =>
  cases d with
  |zero=>rfl
  |succ d =>
   rw[U1o];unfold V1y;rw[ih d (by simpa using h)]
theorem O3b(u r:Bs)(p d:Nat)(h:p+d<=u.length):V19 (u++r) p d=V19 u p d:=by
 unfold V19;rw[O_v u r p Ya,Oey _ _ _ (by rw[U16];omega),U2r (by rw[U16];omega)]
theorem O5o(T)(w r r':Bs)(m:Nat)(t:Bs)(o:Bool)(h:V3m T (w++r)=.go m t o)(hm:m<=w.length):V3m T (w++r')=.go m t o:=by
 have h2:2<=m:=by
  unfold V3m V3w at h
  split at h
  rename_i x hx
  cases h
  split at hx;cases hx
  split at hx;cases hx;simp
  split at hx
  split at hx;cases hx;simp
  cases hx
  split at hx
  split at hx;cases hx;simp
  cases hx
  cases hx
  cases h
 match w,hm with
 |[],hm=>simp at hm;omega
 |[a],hm=>simp at hm;omega
 |a::b::w,hm =>
  unfold V3m at h⊢;have e0:∀r:Bs,(a::b::w++r).drop (0+1)=b::(w++r):=λ r=>rfl
  rw[V67 T _ 0 b (w++r) (e0 r)]at h;rw[V67 T _ 0 b (w++r') (e0 r')];cases hi:V3h T b 0 7 with
  |some k=>rw[hi]at h;exact h
  |none =>
   rw[hi]at h;simp only at h⊢
   split at h
   ·rename_i x hx
    cases h
    split at hx
    rename_i yV
    rw[U1a yV];cases hu:V19 (a::b::w++r) (0+2) 4 with
    |bad c p=>rw[hu]at hx;cases hx
    |ok n =>
     rw[hu]at hx;cases hx;simp only at hm;rw[O3b (a::b::w) r (0+2) 4 Ya]at hu;rw[O3b (a::b::w) r' (0+2) 4 Ya,hu]
    rename_i yV
    rw[U1c yV]
    split at hx
    rename_i QU
    rw[U1a QU];cases hu:V19 (a::b::w++r) (0+2) 8 with
    |bad c p=>rw[hu]at hx;cases hx
    |ok n =>
     rw[hu]at hx;cases hx;simp only at hm;rw[O3b (a::b::w) r (0+2) 8 Ya]at hu;rw[O3b (a::b::w) r' (0+2) 8 Ya,hu]
    cases hx
   cases h
theorem O5p(T)(l:Bs)(p:Nat)(h:V3m T l=.bad p)(h0:0<l.length):p<=l.length:=by
 have wC:∀d c q,V19 l (0+2) d=.bad c q->2<=l.length->q<=l.length:=by
  intro d c q hu h2;unfold V19 at hu;have:=(V5t (l.drop (0+2)) d).2;rw[U16]at this
  split at hu;cases hu;omega
  split at hu <;> cases hu;omega
 unfold V3m V3w at h
 split at h;cases h
 rename_i c' p' hx
 cases h
 split at hx;cases hx;exact U12 _
 rename_i c r hd
 have:=U2w List.length hd;rw[U16]at this;simp only[U1d]at this
 split at hx;cases hx
 split at hx
 split at hx;cases hx
 rename_i hu;cases hx;exact wC _ _ _ hu Ya
 split at hx
 split at hx;cases hx
 rename_i hu;cases hx;exact wC _ _ _ hu Ya
 cases hx;omega
theorem O3s(w r r':Bs)(m:Nat)(h:feed (w++r)=.ok m)(hw:w≠[])(hm:m<=w.length):feed (w++r')=.ok m:=by
 match w,hw with
 |[a],_ =>
  simp only[U1o,U2l,U1d,U1q]at h hm⊢;by_cases da:a=10;subst da;exact h
  by_cases fF:a=13
  subst fF;unfold feed at h
  split at h;rename_i e;simp at e;exact J1;cases h
  exact J33
  exact J183
 |a::b::w,_ =>
  simp only[U1o]at h⊢;by_cases da:a=10;subst da;exact h
  by_cases fF:a=13
  subst fF;by_cases hb:b=10;subst hb;exact h
  unfold feed at h
  split at h;rename_i e;simp at e;rename_i e;simp only[U27]at e;exact absurd e.2.1 hb;cases h
  exact J33
  exact J183
theorem Oez(w r r':Bs)(hw:w≠[]):V33 (w++r')=V33 (w++r):=by
 match w,hw with
 |a::w,_=>rfl
theorem O6r{q:UInt8}(hq:isQ q)(u:Bs){r:Bs}(h:Op r):V3j q (u++r)=V3j q u:=by
 unfold V3j O2i;rw[Ogu h hq]
theorem Of0{q:UInt8}(hq:isQ q)(w:Bs){r r':Bs}(hr:Op r)(eM:Op r')(hw:w≠[]):(∀x,V1k q (w++r)=some x->(∀m t o,x=.go m t o->m<=w.length->V1k q (w++r')=some x))/\(V1k q (w++r)=none->V1k q (w++r')=none):=by
 match w,hw with
 |c::w,_ =>
  rw[U1o,U1o];unfold V1k;simp only
  split;refine⟨λ x hx m t o he hm=>?_,λ h=>by cases h⟩;rw[<-hx,<-U1o,<-U1o,O6r hq _ hr,O6r hq _ eM]
  refine⟨λ x hx m t o he hm=>?_,λ hx=>?_⟩
  subst he
  split at hx;cases hx
  rename_i n hf
  cases hx;rw[<-U1o]at hf;rw[<-U1o,O3s (c::w) r r' (n+1) hf Yb hm];simp only;rw[<-U1o,U2r hm,U2r hm]
  cases hx
  split at hx
  rename_i hf
  rw[<-U1o]at hf;rw[<-U1o,O3s (c::w) r r' 0 hf Yb Yb];cases hx
  cases hx
theorem Ogv:∀(f:Nat)(first:Bool)(u r r':Bs)(m:Nat),Ox f first (u++r)=.ok m->m<u.length->u.length<f->Ox f first (u++r')=.ok m:=by
 intro f
 induction f with
 |zero=>intro first u r r' m _ _ h;omega
 |succ f ih =>
  intro first u r r' m h hm hf
  have hb:blanks (u++r)<=m:=by
   unfold Ox at h
   split at h;cases h;exact U12 _
   split at h;cases h
   split at h;cases h
   cases h;exact U12 _
   split at h;cases h
   exact J1
  have aA:blanks (u++r')=blanks (u++r):=by
   unfold blanks;rw[O29 _ u r r' (by unfold blanks at hb;omega)]
  unfold Ox at h⊢;rw[aA];rw[O_v u r _ Ya]at h;rw[O_v u r' _ Ya];generalize blanks (u++r)=b at h hb⊢;have hl:(u.drop b).length=u.length-b:=U16
  match hv:u.drop b,hl with
  |[],hl=>simp at hl;omega
  |c::v,hl =>
   rw[hv]at h;simp only[U1o]at h⊢;rw[<-U1o]at h⊢;cases iz:feed (c::v++r) with
   |bad k p=>rw[iz]at h;cases h
   |ok n =>
    rw[iz]at h;cases n with
    |zero =>
     rw[O3s (c::v) r r' 0 iz Yb Yb];exact h
    |succ n =>
     simp only at h;cases hg:Ox f false ((c::v++r).drop (n+1)) with
     |bad k p=>rw[hg]at h;cases h
     |ok k =>
      rw[hg]at h;simp only[V2x.ok.injEq]at h;have aP:n+1<=(c::v).length:=Ya
      rw[O3s (c::v) r r' (n+1) iz Yb aP];simp only;rw[O_v _ _ _ aP]at hg;rw[O_v _ _ _ aP,ih false ((c::v).drop (n+1)) r r' k hg (by rw[U16];omega) (by rw[U16];omega)];simp only;rw[h]
theorem Of1(c:UInt8)(w r r':Bs)(m:Nat)(t:Bs)(o:Bool)(h:V41 (c::w++r)=.go m t o)(hm:m<(c::w).length):V41 (c::w++r')=.go m t o:=by
 unfold V41 V2p at h⊢;have e:∀r:Bs,(c::w++r).drop 1=w++r:=λ r=>rfl
 rw[e]at h;rw[e]
 split at h
 rename_i n hn
 split at hn;cases hn
 rename_i k hk
 cases hn;cases h;simp only[U1d]at hm;have h1:Ox ((w++r).length+(w++r').length+1) true (w++r)=.ok k:=by
  rw[O50 _ ((w++r).length+1) true (w++r) Ya Ya];exact hk
 have h2:=Ogv _ true w r r' k h1 Ya (by simp only[U1b];omega);rw[O50 ((w++r').length+1) ((w++r).length+(w++r').length+1) true (w++r') Ya Ya,h2]
 cases h
def SL(step:Bs->Option SR):Prop:=∀w r r' m t o,Op r->Op r'->w≠[]->step (w++r)=some (.go m t o)->m<=w.length->(o=false->m<w.length)->step (w++r')=some (.go m t o)
theorem O6s(T)(long:Bool){q:UInt8}(hq:isQ q):SL (V15 T long q):=by
 intro w r r' m t o hr eM hw h hm ho;unfold V15 at h⊢
 split at h
 ·rename_i hl
  rw[U1a hl];obtain⟨c1,c2⟩:=Of0 hq w hr eM hw
  split at h
  rename_i kD
  rw[U1a kD];simp only[U1f]at h⊢;unfold V2u at h⊢;cases hc:V1k q (w++r) with
  |some x =>
   rw[hc]at h;simp only at h;rw[c1 x hc m t o h hm];exact h
  |none =>
   rw[hc]at h;rw[c2 hc,Oez w r r' hw];exact h
  rename_i kD
  rw[U1c kD];simp only[U1f]at h⊢;unfold V38 at h⊢;cases hc:V1k q (w++r) with
  |some x =>
   rw[hc]at h;simp only at h;rw[c1 x hc m t o h hm];exact h
  |none =>
   rw[hc]at h;rw[c2 hc]
   match w,hw with
   |c::v,_ =>
    simp only[U1o]at h⊢;by_cases j7:(c.toNat==92)=true
    rw[U1a j7]at h;rw[U1a j7]
    match v with
    |[] =>
     exfalso;simp only[U2l]at h;simp only[U1d,U1q]at hm ho;have ap:1<=m/\o=false:=by
      split at h;have:=O31 _ _ _ _ _ h;exact⟨this.2.1,V5g _ _ _ _ _ h⟩
      split at h;have:=V4y _ _ _ _ Yb h;exact⟨this.2.1,this.2.2.2.1⟩
      have:=O31 _ _ _ _ _ h;exact⟨this.2.1,V5g _ _ _ _ _ h⟩
     have:=ho ap.2;omega
    |d::v =>
     simp only[U1o]at h⊢;by_cases hd:V52 d=true;rw[U1a hd]at h;rw[U1a hd];have ap:=V4y _ _ _ _ Yb h;exact Of1 c (d::v) r r' m t o h (ho ap.2.2.2.1)
     rw[U1c hd]at h;rw[U1c hd];exact O5o T (c::d::v) r r' m t o h hm
    rw[U1c j7]at h;rw[U1c j7];exact h
 rename_i hl
 rw[U1c hl]
 split at h
 rename_i kD
 rw[U1a kD]
 match w,hw with
 |c::v,_=>exact h
 rename_i kD
 rw[U1c kD]
 match w,hw with
 |c::v,_ =>
  simp only[U1o]at h⊢;unfold V49 at h⊢;simp only at h⊢;by_cases uE:(c.toNat==q.toNat)=true;rw[U1a uE]at h;rw[U1a uE];exact h
  rw[U1c uE]at h;rw[U1c uE];by_cases j7:(c.toNat==92)=true;rw[U1a j7]at h;rw[U1a j7];simp only[U1f]at h⊢;exact O5o T (c::v) r r' m t o h hm
  rw[U1c j7]at h;rw[U1c j7];exact h
theorem Oae(T)(long:Bool)(q c:UInt8)(r:Bs):∃sr,V15 T long q (c::r)=some sr/\∀p,sr=.bad p->p<=(c::r).length:=by
 have hit:∀p,V33 (c::r)=.bad p->p<=(c::r).length:=by
  intro p h;unfold V33 at h;simp only at h
  split at h;cases h
  cases h;simp
 have CI:∀x,V1k q (c::r)=some x->∀p,x=.bad p->p<=(c::r).length:=by
  intro x hx p he;subst he;unfold V1k at hx;simp only at hx
  split at hx
  simp only[U1f]at hx;unfold V3j at hx;simp only at hx
  split at hx <;> cases hx
  split at hx;cases hx
  cases hx
  rename_i k p' hf
  cases hx;have:=V46 _ _ _ hf;simp;omega
 unfold V15
 split
 split
 refine⟨_,rfl,λ p h=>?_⟩;unfold V2u at h
 split at h;rename_i x hx;exact CI x hx p h
 exact hit p h
 refine⟨_,rfl,λ p h=>?_⟩;unfold V38 at h
 split at h;rename_i x hx;exact CI x hx p h
 simp only at h
 split at h
 split at h;exact O5p T _ p h Yb
 split at h
 unfold V41 V2p at h
 split at h;cases h
 rename_i k p' hx
 cases h
 split at hx
 rename_i k2 p2 hf
 cases hx;have aP:∀(f:Nat)(b:Bool)(l:Bs)(k p:Nat),Ox f b l=.bad k p->p<=l.length:=by
  intro f
  induction f with
  |zero=>intro b l k p h;simp[Ox]at h
  |succ f ih =>
   intro b l k p h;have hb:=O2y l;unfold Ox at h
   split at h;cases h
   rename_i c r hd
   have hl:(c::r).length=l.length-blanks l:=by rw[<-hd,U16]
   simp only[U1d]at hl
   split at h
   rename_i k' p' hf
   have:=V46 _ _ _ hf;exact J1
   split at h;exact J1
   cases h
   rename_i n hn
   have:=V3q _ _ hn
   split at h
   rename_i k' p' hf
   have:=ih _ _ _ _ hf;rw[U16]at this;simp only[U1d]at this;cases h;simp only[U1d]at *;omega
   cases h
 have:=aP _ _ _ _ _ hf;rw[U16]at this;simp only[U1d]at this⊢;omega
 cases hx
 exact O5p T _ p h Yb
 exact hit p h
 split
 refine⟨_,rfl,λ p h=>?_⟩;unfold V4s at h;simp only at h
 split at h;cases h
 exact hit p h
 unfold V49;simp only
 split;exact⟨_,rfl,λ p h=>by cases h⟩
 split;exact⟨_,rfl,λ p h=>O5p T _ p h Yb⟩
 exact⟨_,rfl,λ p h=>hit p h⟩
theorem O32(T)(long:Bool)(q:UInt8)(l:Bs):∀(f n:Nat)(out:Bs),n<=l.length->l.length<n+f ->V2i (V15 T long q) l f n out≠.non/\(∀t k,V2i (V15 T long q) l f n out=.ok (t,k)->n<k/\k<=l.length)/\(∀c p,V2i (V15 T long q) l f n out=.bad c p->p<=l.length/\c=3):=by
 intro f
 induction f with
 |zero=>intro n out h1 h2;omega
 |succ f ih =>
  intro n out hn hf;unfold V2i
  split;exact⟨Yb,λ t k h=>by simp at h,λ c p h=>by cases h;exact⟨U12 _,rfl⟩⟩
  rename_i c r hd
  have ap:(c::r).length=l.length-n:=by rw[<-hd,U16]
  obtain⟨sr,h1,h2⟩:=Oae T long q c r;rw[h1];cases sr with
  |bad p =>
   have:=h2 p rfl;exact⟨Yb,λ t k h=>by simp at h,λ c p h=>by cases h;exact⟨Ya,rfl⟩⟩
  |go m t over =>
   have:=V3p T long q _ m t over h1;simp only[U1d]at ap this;simp only
   split;exact⟨Yb,λ t k h=>by (simp only[V9.ok.injEq,U17]at h;omega),λ c p h=>by simp at h⟩
   obtain⟨i1,i2,i3⟩:=ih (n+m) (out++t) Ya Ya;exact⟨i1,λ t k h=>by (have:=i2 t k h;omega),i3⟩
theorem O9o{step:Bs->Option SR}(hS:SL step)(ap:∀l m t o,step l=some (.go m t o)->1<=m/\m<=l.length)(u r r':Bs)(hr:Op r)(eM:Op r'):∀(f f' n:Nat)(out t:Bs)(k:Nat),V2i step (u++r) f n out=.ok (t,k)->k<=u.length->u.length<n+f' ->V2i step (u++r') f' n out=.ok (t,k):=by
 intro f
 induction f with
 |zero=>intro f' n out t k h;simp[V2i]at h
 |succ f ih =>
  intro f' n out t k h hk hf;have aB:n<k:=by
   exact J47
  match f',hf with
  |0,hf=>omega
  |f'+1,hf =>
  unfold V2i at h⊢;rw[O_v u r n Ya]at h;rw[O_v u r' n Ya];have hl:(u.drop n).length=u.length-n:=U16
  match hv:u.drop n,hl with
  |[],hl=>simp at hl;omega
  |c::v,hl =>
   rw[hv]at h;simp only[U1o]at h⊢;rw[<-U1o]at h⊢
   split at h;cases h
   cases h
   rename_i m t' over hs
   have hm:=ap _ _ _ _ hs
   split at h
   rename_i ho
   simp only[V9.ok.injEq,U17]at h;rw[hS (c::v) r r' m t' over hr eM Yb hs Ya (λ e=>by rw[ho]at e;cases e)];simp only;rw[U1a ho];simp only[V9.ok.injEq,U17];exact h
   rename_i ho
   have MT:n+m<k:=by
    exact J47
   rw[hS (c::v) r r' m t' over hr eM Yb hs Ya (λ _=>by omega)];simp only;rw[U1c ho];exact ih f' (n+m) (out++t') t k h hk Ya
theorem O3t(T)(l:Bs):Vi T l≠.non/\(∀t k,Vi T l=.ok (t,k)->1<=k/\k<=l.length)/\(∀c p,Vi T l=.bad c p->p<=l.length/\c≠0):=by
 unfold Vi
 split;exact⟨Yb,λ t k h=>by simp at h,λ c p h=>by cases h;exact⟨U12 _,Yd⟩⟩
 rename_i c r
 split
 split
 rename_i hl
 have h3:=O4w _ hl;cases hf:feed ((c::r).drop 3) with
 |bad k p =>
  have:=V46 _ _ _ hf;refine⟨Yb,λ t k h=>by simp at h,λ c' p' h=>?_⟩;cases h;have h4:(c::r).drop 3≠[]:=by intro e;rw[e]at hf;simp[feed]at hf
  have h5:0<((c::r).drop 3).length:=U3t.2 h4;rw[U16]at h5;exact⟨Ya,Ya⟩
 |ok m =>
  have:=V3q _ _ hf;rw[U16]at this;obtain⟨h1,h2,h4⟩:=O32 T true c (c::r) ((c::r).length+2) (3+m) [] Ya Ya;exact J48
 obtain⟨h1,h2,h4⟩:=O32 T false c (c::r) ((c::r).length+2) 1 [] Yb Ya;exact J48
 exact⟨Yb,λ t k h=>by simp at h,λ c' p h=>by cases h;exact⟨Yb,Yd⟩⟩
theorem O35(T)(long:Bool)(q:UInt8):∀l m t o,V15 T long q l=some (.go m t o)->1<=m/\m<=l.length:=λ l m t o h=>(V3p T long q l m t o h).2
theorem Oj9(T):Loc (Vi T):=by
 intro u r r' t k hr eM h hk;have aT:=(O3t T (u++r)).2.1 t k h
 match u,hk with
 |[],hk=>simp at hk;omega
 |c::u,hk =>
  rw[U1o]at h⊢;unfold Vi at h⊢;simp only at h⊢
  split at h
  rename_i hq
  rw[U1a hq];have hQ:isQ c:=by
   simp only[Bool.or_eq_true,U2z]at hq;rcases hq with e|e
   left;rw[<-U2d];exact e
   right;rw[<-U2d];exact e
  rw[<-U1o]at h⊢;rw[O39 (c::u) hr]at h;rw[O39 (c::u) eM]
  split at h
  rename_i hl
  rw[U1a hl];have h3:=O4w _ hl;rw[O_v (c::u) r 3 h3]at h;rw[O_v (c::u) r' 3 h3];cases hf:feed ((c::u).drop 3++r) with
  |bad k p=>rw[hf]at h;cases h
  |ok m =>
   rw[hf]at h;simp only at h;have QV:=V3q _ _ hf;have dR:=(O32 T true c (c::u++r) ((c::u++r).length+2) (3+m) [] (by simp only[U1b,U16]at QV⊢;omega) Ya).2.1 _ _ h;have a8:(c::u).drop 3≠[]:=by
    intro e;have:=U2w List.length e;rw[U16]at this;simp only[U1q]at this;omega
   rw[O3s _ r r' m hf a8 (by rw[U16];omega)];simp only;exact O9o (O6s T true hQ) (O35 T true c) (c::u) r r' hr eM _ _ _ _ t k h hk (by simp only[U1b];omega)
  rename_i hl
  rw[U1c hl];exact O9o (O6s T false hQ) (O35 T false c) (c::u) r r' hr eM _ _ _ _ t k h hk (by simp only[U1b];omega)
  cases h
structure SN(b:Nat)(x y:Nd):Prop where
 kind:x.kind=y.kind
 text:x.text=y.text
 keys:x.keys=y.keys
 spots:x.spots.length=y.spots.length
 subs:x.subs=y.subs.map (b+·)
 own:x.owner=if y.owner=0 then 0 else b+y.owner
structure RS(b:Nat)(st1 st2:Vc):Prop where
 len:st1.length=b+st2.length
 at':∀j y,st2[j]?=some y->∃x,st1[b+j]?=some x/\SN b x y
theorem RS.get{b:Nat}{st1 st2:Vc}(h:RS b st1 st2)(j:Nat):(st1[b+j]?=none/\st2[j]?=none)\/∃x y,st1[b+j]?=some x/\st2[j]?=some y/\SN b x y:=by
 cases hy:st2[j]? with
 |none =>
  left;refine⟨?_,rfl⟩;rw[List.getElem?_eq_none_iff]at hy⊢;have:=h.len;omega
 |some y =>
  obtain⟨x,hx,hs⟩:=h.at' j y hy;exact .inr ⟨x,y,hx,rfl,hs⟩
theorem RS.nil(st:Vc):RS st.length st []:=⟨Yb,λ j y h=>by simp at h⟩
theorem RS.app{b:Nat}{st1 st2:Vc}(h:RS b st1 st2){x y:Nd}(hs:SN b x y):RS b (st1++[x]) (st2++[y]):=by
 refine⟨by simp[h.len];omega,λ j z hz=>?_⟩;by_cases hj:j<st2.length;rw[U19 hj]at hz;obtain⟨x',hx,po⟩:=h.at' j z hz;have:=h.len;exact⟨x',by rw[U19 Ya];exact hx,po⟩
 have h2:=(U14.1 hz).1;simp only[U1b,U1z]at h2;have:j=st2.length:=Ya;subst this;simp at hz;subst hz;exact⟨x,by rw[<-h.len];simp,hs⟩
theorem RS.mod{b:Nat}{st1 st2:Vc}(h:RS b st1 st2)(t:Nat)(f g:Nd->Nd)(Bj:∀x y,SN b x y->SN b (f x) (g y)):RS b (st1.modify (b+t) f) (st2.modify t g):=by
 refine⟨by simp[h.len],λ j z hz=>?_⟩;rw[Of]at hz;rw[Of]
 split at hz
 rename_i e
 subst e;rw[U1a rfl];cases hy:st2[t]? with
 |none=>rw[hy]at hz;simp at hz
 |some y =>
  rw[hy]at hz;simp only[U25,U1f]at hz;subst hz;obtain⟨x,hx,hs⟩:=h.at' t y hy;rw[hx];exact⟨_,rfl,Bj x y hs⟩
 rename_i e
 rw[U1c Ya];exact h.at' j z hz
theorem SN.put{b:Nat}{x y:Nd}(h:SN b x y)(w:Bs)(sp Fw:Nat×Nat)(i:Nat):SN b (V10 x w sp (b+i)) (V10 y w Fw i) :=
 ⟨h.kind,h.text,by simp[V10,h.keys],by simp[V10,h.spots],by simp[V10,h.subs],h.own⟩
theorem RS.put{b:Nat}{st1 st2:Vc}(h:RS b st1 st2)(t:Nat)(w:Bs)(sp Fw:Nat×Nat)(i:Nat):RS b (Vf st1 (b+t) w sp (b+i)) (Vf st2 t w Fw i) :=
 h.mod t _ _ λ _ _ hs=>hs.put w sp Fw i
theorem RS.kind8{b:Nat}{st1 st2:Vc}(h:RS b st1 st2)(t:Nat)(hk:kind8 st1 (b+t)=true):kind8 st2 t=true:=by
 unfold Pl.kind8 at hk⊢;have hl:=h.len;rcases h.get t with⟨h1,h2⟩|⟨x,y,h1,h2,hs⟩
 rw[h1]at hk;simp at hk
 rw[h1]at hk;rw[h2];simp only[U1h,U1x,U2z]at hk⊢;have e1:=hs.kind;have e2:=U2w List.length hs.keys;have e3:=hs.spots;have e4:=U2w List.length hs.subs;rw[U1j]at e4;omega
theorem RS.room{b:Nat}{st1 st2:Vc}(h:RS b st1 st2)(hk:room st1=true):room st2=true:=by
 unfold Pl.room at hk⊢;simp only[U1x]at hk⊢;have:=h.len;omega
theorem RS.sub{b:Nat}{st1 st2:Vc}(h:RS b st1 st2)(t:Nat)(w:Bs):(V1a st1 (b+t) w=.non/\V1a st2 t w=.non)\/(V1a st1 (b+t) w=.no/\V1a st2 t w=.no)\/∃i,V1a st1 (b+t) w=.yes (b+i)/\V1a st2 t w=.yes i:=by
 unfold V1a;rcases h.get t with⟨h1,h2⟩|⟨x,y,h1,h2,hs⟩
 rw[h1,h2];exact .inl ⟨rfl,rfl⟩
 rw[h1,h2];simp only;rw[hs.keys];cases hf:y.keys.findIdx? (λ x=>x==w) with
 |none=>exact .inr (.inl ⟨rfl,rfl⟩)
 |some j =>
  simp only;rw[hs.subs,U1m];cases hj:y.subs[j]? with
  |none=>exact .inl ⟨rfl,rfl⟩
  |some i =>
   simp only[U25];have:=h.len;by_cases hi:i<st2.length;rw[U1a Ya,U1a hi];exact .inr (.inr ⟨i,rfl,rfl⟩)
   rw[U1c Ya,U1c hi];exact .inl ⟨rfl,rfl⟩
theorem RS.owner{b:Nat}{st1 st2:Vc}(h:RS b st1 st2)(i:Nat):V2c st1 (b+i)=if V2c st2 i=0 then 0 else b+V2c st2 i:=by
 unfold V2c;rcases h.get i with⟨h1,h2⟩|⟨x,y,h1,h2,hs⟩
 rw[h1,h2];simp
 rw[h1,h2];exact hs.own
theorem Odw(b a1 a2:Nat):∀(Fx pp:List KW)(table into d:Nat)(st1 st2 bi:Vc)(i1 d':Nat),V4a (KR a1 a2) Fx pp->RS b st1 st2->V3d (b+table) Fx (b+into) d st1=.ok (i1,d',bi) ->∃i2 cV,i1=b+i2/\V3d table pp into d st2=.ok (i2,d',cV)/\RS b bi cV:=by
 intro Fx
 induction Fx with
 |nil=>intro pp table into d st1 st2 bi i1 d' _ _ h;simp[V3d]at h
 |cons v rest ih =>
  intro pp table into d st1 st2 bi i1 d' hk hr h;cases hk with
  |cons hv aG =>
   rename_i v2 MU
   obtain⟨w,u1,u2⟩:=v;obtain⟨w',QX,QY⟩:=v2;obtain⟨hw,p,q,e1,e2⟩:=hv;simp only at hw;subst hw;unfold V3d at h⊢;rcases hr.sub into w with⟨h1,h2⟩|⟨h1,h2⟩|⟨i,h1,h2⟩
   rw[h1]at h;cases h
   rw[h1]at h;rw[h2];simp only at h⊢;cases aG with
   |nil =>
    simp only[V9.ok.injEq,U17]at h;obtain⟨rfl,rfl,rfl⟩:=h;exact⟨into,st2,rfl,rfl,hr⟩
   |cons hb hc =>
    simp only at h⊢
    split at h;cases h
    rename_i hd
    rw[U1c hd]
    split at h
    rename_i jR
    simp only[U1h]at jR;rw[hr.kind8 into jR.1,hr.room jR.2];simp only[Bool.and_self,U2o];have hl:=hr.len;have d8:RS b (Vf (st1++[V1s (b+table+1)]) (b+into) w (u1,u2) st1.length) (Vf (st2++[V1s (table+1)]) into w (QX,QY) st2.length):=by
     rw[hl];exact (hr.app (x:=V1s (b+table+1)) (y:=V1s (table+1)) ⟨rfl,rfl,rfl,rfl,rfl,((U1c (show ¬(V1s (table+1)).owner=0 from Nat.succ_ne_zero table)).trans (U28 b table 1).symm).symm⟩).put into w _ _ st2.length
    rw[hl]at h d8;exact ih _ table st2.length (d+1) _ _ bi i1 d' (.cons hb hc) d8 h
    cases h
   rw[h1]at h;rw[h2];simp only at h⊢;cases aG with
   |nil=>cases h
   |cons hb hc =>
    simp only at h⊢;have ho:=hr.owner i
    split at h
    rename_i AR
    rw[ho]at AR
    split at AR;omega
    rw[U1a Ya];exact ih _ table i (d+1) st1 st2 bi i1 d' (.cons hb hc) hr h
    cases h
def V9o(x s1 s2:Bs)(a1 a2:Nat)(D:Nat)(V1 V2:V1n):Prop:=∀d j b st1 st2 i e bi,D<=d->j<=x.length->RS b st1 st2->V1 d (a1+j) st1=.ok (i,e,bi)->e<=a1+x.length ->
    ∃k i2 cV,e=a1+k/\i=b+i2/\V2 d (a2+j) st2=.ok (i2,a2+k,cV)/\RS b bi cV
section
variable {E:Vv}(hE:V11 E){x s1 s2:Bs}{a1 a2:Nat}(T:Two x s1 s2 a1 a2){V1 V2:V1n}(hV:VLe s1 V1){D:Nat}(hS:V9o x s1 s2 a1 a2 D V1 V2)
include hE T hV hS
theorem O9j(b table j d:Nat)(hD:D<=d+1)(st1 st2 bi:Vc)(e:Nat)(hj:j<=x.length)(hr:RS b st1 st2)(kK:∀ws into d' st',V3d (b+table) ws (b+table) d st1=.ok (into,d',st')->d<=d')(h:V1l E V1 s1 (b+table) (a1+j) d st1=.ok (e,bi))(he:e<=a1+x.length):∃k cV,e=a1+k/\j<k/\V1l E V2 s2 table (a2+j) d st2=.ok (a2+k,cV)/\RS b bi cV:=by
 have T1:=T.h1;have T2:=T.h2;unfold V1l at h⊢;cases hk:V1q E s1 (a1+j) with
 |non=>rw[hk]at h;cases h
 |bad c p=>rw[hk]at h;cases h
 |ok r =>
  obtain⟨ws,e0⟩:=r;obtain⟨h1,h2,h3,_,_⟩:=(O15 hE (s:=s1) (n:=a1+j) Ya).1 _ _ hk;have hb:=V8 s1 e0 h2;rw[hk]at h;simp only at h;cases hw:V3d (b+table) ws (b+table) d st1 with
  |non=>rw[hw]at h;cases h
  |bad c p=>rw[hw]at h;cases h
  |ok r2 =>
   obtain⟨into,d',dW⟩:=r2;have qV:=kK _ _ _ _ hw;rw[hw]at h;simp only at h
   split at h
   rename_i dS
   have a9:=byteAt_lt dS Yd;have aA:=V8 s1 (V7 s1 e0+1) Ya;cases hv:V1 (d'+1) (V7 s1 (V7 s1 e0+1)) dW with
   |non=>rw[hv]at h;cases h
   |bad c p=>rw[hv]at h;cases h
   |ok r3 =>
    obtain⟨i,e2,eA⟩:=r3;have CJ:=(hV (d'+1) (V7 s1 (V7 s1 e0+1)) dW aA.2).1 _ _ _ hv;rw[hv]at h;simp only at h;have QZ:e=e2:=by
     split at h;cases h
     split at h;simp only[V9.ok.injEq,U17]at h;exact h.1.symm
     cases h
    subst QZ;obtain⟨k0,pp,g1,g2,g3,g4,g5⟩:=Oiz hE T (s1.length+2) (s2.length+2) j e0 [] [] ws hj Ya .nil hk Ya;subst g1;have C8:V1q E s2 (a2+j)=.ok (pp,a2+k0):=g4;rw[C8];refine Z247 ?_;intro k1 bB;rw[bB]at dS a9 hb aA hv CJ;rw[U28]at hv aA CJ;refine Z246 ?_;intro k2 bX;rw[bX]at hv aA CJ;obtain⟨q1,q2⟩:=T.blanks bB Ya;obtain⟨q3,q4⟩:=T.blanks bX Ya;obtain⟨i2,Fy,w1,w2,w3⟩:=Odw b a1 a2 ws pp table table d st1 st2 dW into d' g5 hr hw;subst w1;rw[w2];simp only;rw[q1,T.byte Ya,U1a dS,U28,q3];obtain⟨k3,i3,Q',v1,v2,v3,v4⟩:=hS (d'+1) k2 b dW Fy i e eA Ya Ya w3 hv he;rw[v3];simp only;rcases g5.last with⟨l1,l2⟩|⟨y,z,l1,l2,l3⟩
    rw[U3z]at l1;exact absurd l1 h3
    obtain⟨wy,ya,yb⟩:=y;obtain⟨wz,za,zb⟩:=z;rw[l1]at h;rw[l2];have J0:wy=wz:=l3.1;subst J0;simp only at h⊢
    split at h
    rename_i h8
    rw[U1a (v4.kind8 i2 h8)];simp only[V9.ok.injEq,U17]at h;obtain⟨_,rfl⟩:=h;subst v1 v2;exact⟨k3,_,rfl,Ya,rfl,v4.put i2 wy _ _ i3⟩
    cases h
   cases h
theorem Oj0(b table d:Nat)(hD:D<=d+1)(kK:∀st ws into d' st',V3d (b+table) ws (b+table) d st=.ok (into,d',st')->d<=d'):∀(f1 f2 j:Nat)(st1 st2 bi:Vc)(e:Nat),j<=x.length->s2.length<a2+j+f2->RS b st1 st2 ->V29 E V1 s1 (b+table) d f1 (a1+j) st1=.ok (e,bi)->e<a1+x.length->∃k cV,e=a1+k/\j<k/\V29 E V2 s2 table d f2 (a2+j) st2=.ok (a2+k,cV)/\RS b bi cV:=by
 intro f1
 induction f1 with
 |zero=>intro f2 j st1 st2 bi e _ _ _ h;simp[V29]at h
 |succ f1 ih =>
  intro f2 j st1 st2 bi e hj hf hr h he;have T1:=T.h1;have T2:=T.h2
  match f2,hf with
  |0,hf=>omega
  |f2+1,hf =>
  unfold V29 at h⊢;cases hp:V1l E V1 s1 (b+table) (a1+j) d st1 with
  |non=>rw[hp]at h;cases h
  |bad c p=>rw[hp]at h;cases h
  |ok r =>
   obtain⟨e0,dW⟩:=r;have R0:=(O4x hE hV (b+table) (a1+j) d st1 Ya).1 _ _ hp;have hb:=V8 s1 e0 R0.2;rw[hp]at h;simp only at h
   split at h
   rename_i eZ
   simp only[V9.ok.injEq,U17]at h;obtain⟨h,rfl⟩:=h;obtain⟨k0,eA,q1,q2,q3,q4⟩:=O9j hE T hV hS b table j d hD st1 st2 dW e0 hj hr (kK st1) hp Ya;subst q1;rw[q3];refine Z247 ?_;intro k1 bB;rw[bB]at eZ hb h;obtain⟨g1,g2⟩:=T.blanks bB Ya;rw[g1,T.byte Ya,U1a eZ];exact⟨k1,eA,h.symm,Ya,rfl,q4⟩
   rename_i eZ
   split at h
   rename_i ic
   have a9:=byteAt_lt ic Yd;have aA:=V8 s1 (V7 s1 e0+1) Ya;have pd:=(O4f hE hV (b+table) d f1 _ dW aA.2).1 _ _ h;obtain⟨k0,eA,q1,q2,q3,q4⟩:=O9j hE T hV hS b table j d hD st1 st2 dW e0 hj hr (kK st1) hp Ya;subst q1;rw[q3];refine Z247 ?_;intro k1 bB;rw[bB]at eZ ic hb a9 aA h pd;rw[U28]at aA h pd;refine Z246 ?_;intro k2 bX;rw[bX]at h aA pd;obtain⟨g1,g2⟩:=T.blanks bB Ya;obtain⟨g3,g4⟩:=T.blanks bX Ya;rw[g1,T.byte Ya,U1c eZ,U1a ic,U28,g3];obtain⟨k3,Fy,r1,r2,r3,r4⟩:=ih f2 k2 dW eA bi e Ya Ya q4 h he;exact⟨k3,Fy,r1,Ya,r3,r4⟩
   cases h
omit hE
theorem Ogm(b d:Nat)(hD:D<=d+1):∀(f1 f2 j:Nat)(subs:List Nat)(st1 st2 bi:Vc)(e:Nat)(l:List Nat),j<=x.length->s2.length<a2+j+f2->RS b st1 st2 ->V1f V1 s1 d f1 (a1+j) (subs.map (b+·)) st1=.ok (l,e,bi)->e<a1+x.length->∃k l2 cV,e=a1+k/\l=l2.map (b+·)/\V1f V2 s2 d f2 (a2+j) subs st2=.ok (l2,a2+k,cV)/\RS b bi cV:=by
 intro f1
 induction f1 with
 |zero=>intro f2 j subs st1 st2 bi e l _ _ _ h;simp[V1f]at h
 |succ f1 ih =>
  intro f2 j subs st1 st2 bi e l hj hf hr h he;have T1:=T.h1;have T2:=T.h2
  match f2,hf with
  |0,hf=>omega
  |f2+1,hf =>
  unfold V1f at h⊢
  split at h
  rename_i uF
  simp only[V9.ok.injEq,U17]at h;obtain⟨rfl,rfl,rfl⟩:=h;rw[T.byte Ya,U1a uF];exact⟨j,subs,st2,rfl,rfl,rfl,hr⟩
  rename_i uF
  cases hv:V1 (d+1) (a1+j) st1 with
  |non=>rw[hv]at h;cases h
  |bad c p=>rw[hv]at h;cases h
  |ok r =>
   obtain⟨i,e0,dW⟩:=r;have CJ:=(hV (d+1) (a1+j) st1 Ya).1 _ _ _ hv;rw[hv]at h;simp only[U1j]at h
   split at h;cases h
   rename_i h3
   cases hg:Vt s1 e0 with
   |bad c p=>rw[hg]at h;cases h
   |ok g =>
    have Ja:=On hg CJ.2;rw[hg]at h;simp only at h;have aP:g<=e:=by
     split at h;exact J34
     split at h
     rename_i ic
     have a9:=byteAt_lt ic Yd;cases cb:Vt s1 (g+1) with
     |bad c p=>rw[cb]at h;cases h
     |ok g' =>
      have yW:=On cb Ya;rw[cb]at h;have:=(O3p hV d f1 g' _ dW yW.2).1 _ _ _ h;omega
     cases h
    obtain⟨k0,i2,eA,q1,q2,q3,q4⟩:=hS (d+1) j b st1 st2 i e0 dW hD hj hr hv Ya;subst q1 q2;obtain⟨kg,rfl⟩:∃kg,g=a1+kg:=⟨g-a1,Ya⟩
    obtain⟨g1,g2⟩:=T.gap Ya hg Ya;rw[T.byte Ya,U1c uF,q3];simp only;rw[U1c h3,g1];simp only;rw[T.byte Ya];have hm:subs.map (b+·)++[b+i2]=(subs++[i2]).map (b+·):=Yb;rw[hm]at h
    split at h
    rename_i h4
    rw[U1a h4];simp only[V9.ok.injEq,U17]at h;obtain⟨rfl,rfl,rfl⟩:=h;exact⟨kg,_,eA,rfl,rfl,rfl,q4⟩
    rename_i h4
    rw[U1c h4]
    split at h
    rename_i ic
    have a9:=byteAt_lt ic Yd;rw[U1a ic];cases cb:Vt s1 (a1+kg+1) with
    |bad c p=>rw[cb]at h;cases h
    |ok g' =>
     have yW:=On cb Ya;rw[cb]at h;have ca:=(O3p hV d f1 g' _ dW yW.2).1 _ _ _ h;obtain⟨Jb,rfl⟩:∃Jb,g'=a1+Jb:=⟨g'-a1,Ya⟩
     obtain⟨g3,g4⟩:=T.gap (j:=kg+1) Ya cb Ya;rw[U28,g3];exact ih f2 Jb (subs++[i2]) dW eA bi e l Ya Ya q4 h he
    cases h
end
theorem Om0(table:Nat):∀(ws:List KW)(into d:Nat)(st:Vc)(am d':Nat)(st':Vc),V3d table ws into d st=.ok (am,d',st')->d<=d':=by
 intro ws
 induction ws with
 |nil=>intro into d st am d' st' h;simp[V3d]at h
 |cons x rest ih =>
  intro into d st am d' st' h;obtain⟨w,a,b⟩:=x;unfold V3d at h
  split at h;cases h
  split at h;cases h
  split at h;have:=ih _ _ _ _ _ _ h;omega
  cases h
  split at h;exact J34
  split at h;cases h
  split at h;have:=ih _ _ _ _ _ _ h;omega
  cases h
theorem Oeu{E:Vv}(hE:V11 E){x s1 s2:Bs}{a1 a2:Nat}(T:Two x s1 s2 a1 a2){V1 V2:V1n}(hV:VLe s1 V1){D:Nat}(hS:V9o x s1 s2 a1 a2 D V1 V2)(b d j:Nat)(hD:D<=d+1)(st1 st2 bi:Vc)(i e:Nat)(hj:j<x.length)(hr:RS b st1 st2)(h:V1h E V1 s1 d (a1+j) st1=.ok (i,e,bi))(he:e<=a1+x.length):∃k i2 cV,e=a1+k/\i=b+i2/\V1h E V2 s2 d (a2+j) st2=.ok (i2,a2+k,cV)/\RS b bi cV:=by
 have T1:=T.h1;have T2:=T.h2;have hb:=V8 s1 (a1+j+1) Ya;unfold V1h at h⊢
 split at h;cases h
 rename_i hd
 rw[U1c hd]
 split at h
 rename_i bx
 rw[U1a (hr.room bx)];simp only at h⊢;have hl:=hr.len;have aZ:RS b (st1++[V16]) (st2++[V16]):=hr.app ⟨rfl,rfl,rfl,rfl,rfl,rfl⟩
 split at h;cases h
 cases h
 rename_i e1 dW hp
 split at h
 rename_i h8
 simp only[V9.ok.injEq,U17]at h;obtain⟨rfl,rfl,rfl⟩:=h;rw[hl]at h8;have kB:∃k1 eA,e1=a1+k1/\(if Va s2 (V7 s2 (a2+j+1))=125 then V9.ok (V7 s2 (a2+j+1),st2++[V16]) else V29 E V2 s2 st2.length d (s2.length+2) (V7 s2 (a2+j+1)) (st2++[V16]))=.ok (a2+k1,eA)/\RS b dW eA:=by
  have aP:V7 s1 (a1+j+1)<=e1:=by
   split at hp;simp only[V9.ok.injEq,U17]at hp;omega
   have:=(O4f hE hV st1.length d (s1.length+2) _ (st1++[V16]) hb.2).1 _ _ hp;omega
  obtain⟨k0,dB⟩:∃k0,V7 s1 (a1+(j+1))=a1+k0:=⟨V7 s1 (a1+(j+1))-a1,by rw[U28]at hb;omega⟩
  rw[U28,dB]at hp aP hb;obtain⟨g1,g2⟩:=T.blanks dB Ya;rw[U28,g1,T.byte Ya]
  split at hp
  rename_i eZ
  simp only[V9.ok.injEq,U17]at hp;obtain⟨hp,rfl⟩:=hp;rw[U1a eZ];exact⟨k0,_,hp.symm,rfl,aZ⟩
  rename_i eZ
  rw[U1c eZ];rw[hl]at hp;obtain⟨k1,eA,q1,q2,q3,q4⟩:=Oj0 hE T hV hS b st2.length d hD (λ st ws into d' st' h=>Om0 _ _ _ _ _ _ _ _ h) (s1.length+2) (s2.length+2) k0 _ _ dW e1 Ya Ya aZ hp Ya;exact⟨k1,eA,q1,q3,q4⟩
 obtain⟨k1,eA,rfl,q2,q3⟩:=kB;rw[q2];simp only;rw[U1a (q3.kind8 _ h8)];refine⟨k1+1,st2.length,_,Ya,hl,by simp only[V9.ok.injEq,U17,true_and];exact⟨Ya,rfl⟩,?_⟩;rw[hl];exact q3.mod _ _ _ λ x y hs=>⟨hs.kind,hs.text,hs.keys,hs.spots,hs.subs,hs.own⟩
 cases h
 cases h
theorem Ogn{x s1 s2:Bs}{a1 a2:Nat}(T:Two x s1 s2 a1 a2){V1 V2:V1n}(hV:VLe s1 V1){D:Nat}(hS:V9o x s1 s2 a1 a2 D V1 V2)(b d j:Nat)(hD:D<=d+1)(st1 st2 bi:Vc)(i e:Nat)(hj:j<x.length)(hr:RS b st1 st2)(h:V2a V1 s1 d (a1+j) st1=.ok (i,e,bi))(he:e<=a1+x.length):∃k i2 cV,e=a1+k/\i=b+i2/\V2a V2 s2 d (a2+j) st2=.ok (i2,a2+k,cV)/\RS b bi cV:=by
 have T1:=T.h1;have T2:=T.h2;unfold V2a at h⊢
 split at h;cases h
 rename_i hd
 rw[U1c hd];cases hg:Vt s1 (a1+j+1) with
 |bad c p=>rw[hg]at h;cases h
 |ok g =>
  have Ja:=On hg Ya;rw[hg]at h;simp only at h
  split at h;cases h
  cases h
  rename_i subs e1 dW hf
  have aP:=(O3p hV d _ _ _ _ Ja.2).1 _ _ _ hf
  split at h
  rename_i bx
  simp only[V9.ok.injEq,U17]at h;obtain⟨rfl,rfl,rfl⟩:=h;obtain⟨kg,rfl⟩:∃kg,g=a1+kg:=⟨g-a1,Ya⟩
  rw[U28]at hg;obtain⟨g1,g2⟩:=T.gap Ya hg Ya;rw[U28,g1];simp only;obtain⟨k1,l2,eA,q1,q2,q3,q4⟩:=Ogm T hV hS b d hD (s1.length+2) (s2.length+2) kg [] st1 st2 dW e1 subs Ya Ya hr hf Ya;subst q1 q2;rw[q3];simp only;rw[U1a (q4.room bx)];refine⟨k1+1,eA.length,eA++[V4e l2 (a2+j) (a2+k1+1)],Ya,q4.len,by simp only[U28],q4.app (y:=V4e l2 (a2+j) (a2+k1+1)) ⟨rfl,rfl,rfl,rfl,rfl,rfl⟩⟩
  cases h
theorem Oev{E:Vv}(hE:V11 E){x s1 s2:Bs}{a1 a2:Nat}(T:Two x s1 s2 a1 a2):∀f1 f2,V9o x s1 s2 a1 a2 (259-f2) (Vz E s1 f1) (Vz E s2 f2)\/f2=0:=by
 intro f1
 induction f1 with
 |zero=>intro f2;left;intro d j b st1 st2 i e bi _ _ _ h;simp[Vz]at h
 |succ f1 ih =>
  intro f2;cases f2 with
  |zero=>exact .inr rfl
  |succ f2 =>
  left;intro d j b st1 st2 i e bi hD hj hr h he;have T1:=T.h1;have aP:=((O14 hE s1 (f1+1)) d (a1+j) st1 Ya).1 _ _ _ h;have qH:j<x.length:=Ya
  obtain⟨r,aZ,qK⟩:=T.d1 (j:=j) hj;obtain⟨r',d8,nE⟩:=T.d2 (j:=j) hj;unfold Vz at h⊢;simp only at h⊢;rw[T.byte qH,nE];rw[qK]at h;have kJ:d<=256->V9o x s1 s2 a1 a2 (259-f2) (Vz E s1 f1) (Vz E s2 f2)/\259-f2<=d+1:=λ h2=>⟨(ih f2).resolve_right Ya,Ya⟩
  split at h
  rename_i hc
  rw[U1a hc];cases hs:E.str (x.drop j++r) with
  |non=>rw[hs]at h;cases h
  |bad c p=>rw[hs]at h;cases h
  |ok v =>
   obtain⟨t,m⟩:=v;rw[hs]at h;simp only at h
   split at h
   rename_i bx
   simp only[V9.ok.injEq,U17]at h;obtain⟨rfl,rfl,rfl⟩:=h;rw[hE.strL (x.drop j) r r' t m aZ d8 hs (by rw[U16];omega)];simp only;rw[U1a (hr.room bx)];exact⟨j+m,st2.length,_,Ya,hr.len,by rw[U28],hr.app (y:=V4t 3 t (a2+j) (a2+(j+m))) ⟨rfl,rfl,rfl,rfl,rfl,rfl⟩⟩
   cases h
  rename_i hc
  rw[U1c hc]
  split at h
  rename_i aF
  rw[U1a aF];have hd:d<=256:=by
   unfold V2a at h
   split at h;cases h
   omega
  obtain⟨i1,i2⟩:=kJ hd;exact Ogn T (O14 hE s1 f1) i1 b d j i2 st1 st2 bi i e qH hr h he
  rename_i aF
  rw[U1c aF]
  split at h
  rename_i lC
  rw[U1a lC];have hd:d<=256:=by
   unfold V1h at h
   split at h;cases h
   omega
  obtain⟨i1,i2⟩:=kJ hd;exact Oeu hE T (O14 hE s1 f1) i1 b d j i2 st1 st2 bi i e qH hr h he
  rename_i lC
  rw[U1c lC];cases hs:E.scal (x.drop j++r) with
  |non=>rw[hs]at h;cases h
  |bad c p=>rw[hs]at h;cases h
  |ok v =>
   obtain⟨q,t,m⟩:=v;rw[hs]at h;simp only at h
   split at h
   rename_i bx
   simp only[V9.ok.injEq,U17]at h;obtain⟨rfl,rfl,rfl⟩:=h;rw[hE.scalL (x.drop j) r r' q t m aZ d8 hs (by rw[U16];omega)];simp only;rw[U1a (hr.room bx)];exact⟨j+m,st2.length,_,Ya,hr.len,by rw[U28],hr.app (y:=V4t q t (a2+j) (a2+(j+m))) ⟨rfl,rfl,rfl,rfl,rfl,rfl⟩⟩
   cases h
theorem Obe{l:Bs}{c p:Nat}(h:V1d l=.bad c p):c=3\/c=8:=by
 have h3:∀r sign ds,V1t r sign ds=.bad c p->c=3\/c=8:=by
  exact J172
 unfold V1d at h
 split at h;exact h3 _ _ _ h
 exact h3 _ _ _ h
theorem Obf{l:Bs}{c p:Nat}(h:V18 l=.bad c p):c=3\/c=7:=by
 unfold V18 at h
 split at h;cases h;exact .inl rfl
 split at h;cases h;exact .inr rfl
 simp only at h
 split at h;cases h
 split at h;cases h
 cases h;exact .inr rfl
theorem Obg{l:Bs}{c p:Nat}(h:V21 l=.bad c p):c=3\/c=7:=by
 unfold V21 at h
 split at h;cases h
 simp only at h
 split at h;exact Obf h
 cases h;exact .inl rfl
theorem Obh{l:Bs}{c p:Nat}(h:V1w l=.bad c p):c=3\/c=9:=by
 unfold V1w at h;simp only at h
 split at h;cases h;exact .inl rfl
 split at h;cases h
 cases h;exact .inr rfl
theorem Od5{l:Bs}{c p:Nat}(h:V2j l=.bad c p):c≠0:=by
 unfold V2j at h
 split at h;cases h
 split at h;cases h
 rename_i hi
 split at h
 split at h;cases h
 rename_i hf
 cases h;have:=Obg hf;omega
 cases h;have:=Obe hi;omega
theorem Od6{l t:Bs}{k:Nat}(h:V2j l=.ok (k,t)):k<7:=by
 unfold V2j at h
 split at h;cases h;decide
 split at h;cases h;decide
 split at h
 split at h;cases h;decide
 cases h
 cases h
theorem Of2:V2j []=.bad 3 0:=Yi
theorem O5q(l:Bs):Ve l≠.non/\(∀k t m,Ve l=.ok (k,t,m)->1<=m/\m<=l.length/\k<7)/\(∀c p,Ve l=.bad c p->c≠0):=by
 unfold Ve
 split
 rename_i h
 cases hd:V1w (l.take (Vh l).long) with
 |ok x=>exact⟨Yb,λ k t m h=>by (cases h;exact⟨Ya,V4z l,Yd⟩),λ c p h=>(by cases h)⟩
 |bad c p =>
  have:=Obh hd;exact⟨Yb,λ k t m h=>(by cases h),λ c p h=>by (cases h;omega)⟩
 cases hp:V2j (V3e l) with
 |ok r =>
  obtain⟨k,x⟩:=r;refine⟨Yb,λ k t m h=>?_,λ c p h=>(by cases h)⟩;cases h;refine⟨?_,Vj _ _,Od6 hp⟩;cases ht:V3e l with
  |nil=>rw[ht,Of2]at hp;cases hp
  |cons c t=>simp
 |bad c p =>
  have:=Od5 hp;exact⟨Yb,λ k t m h=>(by cases h),λ c p h=>by (cases h;exact this)⟩
def Vbn(T:Nat->UInt8×UInt8):Vv:=⟨Vi T,Ve⟩
theorem V9b(T):V11 (Vbn T) where
 strT:=λ l=>(O3t T l).1
 strK:=λ l t k h=>(O3t T l).2.1 t k h
 strB:=λ l c p h=>(O3t T l).2.2 c p h
 strL:=Oj9 T
 scalT:=λ l=>(O5q l).1
 scalK:=λ l k t m h=>(O5q l).2.1 k t m h
 scalB:=λ l c p h=>(O5q l).2.2 c p h
 scalL:=λ u r r' k t m hr eM h _=>by
  show Ve (u++r')=_;rw[O6p u eM,<-O6p u hr];exact h
