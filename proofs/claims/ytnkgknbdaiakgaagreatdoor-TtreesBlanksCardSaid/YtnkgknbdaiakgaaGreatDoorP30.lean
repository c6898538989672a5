/- The proof's part 30. -/
import Derived.Test.YtnkgknbdaiakgaaGreatDoorP29
set_option maxHeartbeats 16000000
set_option linter.all false
namespace Go.Proofs.YtnkgknbdaiakgaaGreatDoor.Pl
theorem Okh{s:Bs}{n m:Nat}{p:Bs}(hn:n<=s.length)(h:isF s n p = .ok m):m=n+p.length:=((V4h s p n hn).1 m h).1
theorem Oac{E:Vz}(hE:V10 E){s:Bs}{n e:Nat}{it:It}(hn:n<=s.length)(h:V2d E s n = .ok (e,it)) :
    (pre (s.drop n) [91,91]=true/\it.kind=3/\∃ws e1,V1k E s (V7 s (n+2)) = .ok (ws,e1)/\e=V7 s e1+2) \/
    (pre (s.drop n) [91,91]=false/\pre (s.drop n) [91]=true/\it.kind=2/\∃ws e1,V1k E s (V7 s (n+1)) = .ok (ws,e1)/\e=V7 s e1+1) \/
    (pre (s.drop n) [91,91]=false/\pre (s.drop n) [91]=false/\V14 (s.drop n)=true/\it.kind=0) \/
    (pre (s.drop n) [91,91]=false/\pre (s.drop n) [91]=false/\V14 (s.drop n)=false/\it.kind=1/\∃ws e1 root nds,V1k E s n = .ok (ws,e1)/\V9 s (V7 s e1)=61/\V1l E s (V7 s (V7 s e1+1)) 0 = .ok (root,e,nds)):=by
 have hd:∀(kind:Nat)(az:Bs),n+az.length<=s.length->V2e E s kind n az = .ok (e,it)->it.kind=kind/\∃ws e1,V1k E s (V7 s (n+az.length)) = .ok (ws,e1)/\e=V7 s e1+az.length:=by
  intro kind az hl h;have hb:=V8 s (n+az.length) hl;unfold V2e at h;cases hk:V1k E s (V7 s (n+az.length)) with
  |non=>rw[hk]at h;cases h
  |bad c p=>rw[hk]at h;cases h
  |ok r =>
   obtain⟨ws,e1⟩:=r;have aK:=(O_s hE (s:=s) hb.2).1 _ _ hk;have aA:=V8 s e1 aK.2.1;rw[hk]at h;simp only at h;cases hi:isF s (V7 s e1) az with
   |bad c p=>rw[hi]at h;cases h
   |ok m =>
    rw[hi]at h;cases h;exact⟨rfl,ws,e1,rfl,Okh aA.2 hi⟩
 unfold V2d at h
 split at h
 rename_i h2
 have:=V18 _ _ h2;rw[U3]at this;simp only[Ub,Ur]at this;exact .inl ⟨h2,hd 3 [93,93] (by simp only[Ub,Ur];omega) h⟩
 rename_i h2
 split at h
 rename_i h1
 have:=V18 _ _ h1;rw[U3]at this;simp only[Ub,Ur]at this;exact .inr (.inl ⟨by simpa using h2,h1,hd 2 [93] (by simp only[Ub,Ur];omega) h⟩)
 rename_i h1
 split at h
 rename_i hb
 cases h;exact .inr (.inr (.inl ⟨by simpa using h2,by simpa using h1,hb,rfl⟩))
 rename_i hb
 refine .inr (.inr (.inr ⟨by simpa using h2,by simpa using h1,by simpa using hb,?_⟩));unfold V4b at h;cases hk:V1k E s n with
 |non=>rw[hk]at h;cases h
 |bad c p=>rw[hk]at h;cases h
 |ok r =>
  obtain⟨ws,e1⟩:=r;rw[hk]at h;simp only at h;cases hi:isF s (V7 s e1) [61] with
  |bad c p=>rw[hi]at h;cases h
  |ok m =>
   rw[hi]at h;simp only at h;refine Z253 ?_;intro hm;cases hr:V1l E s (V7 s m) 0 with
   |non=>rw[hr]at h;cases h
   |bad c p=>rw[hr]at h;cases h
   |ok v =>
    obtain⟨root,e2,nds⟩:=v;rw[hr]at h;cases h;refine⟨rfl,ws,e1,root,nds,rfl,by unfold V9;rw[hm.1];rfl,?_⟩;rw[<-hm.2];exact hr
section
variable {E:Vz}(hE:V10 E)(hN:V4v E){x s1 s2:Bs}{a1 a2:Nat}(T:V4t x s1 s2 a1 a2)
include hE hN T
theorem On4(hs:s1.length<=20000000){it:It}(h:V2h E s1 a1 = .ok it)(hb:it.b=a1+x.length+1):∃e bJ,V2d E s1 (V7 s1 a1) = .ok (e,bJ)/\e<=a1+x.length/\it.kind=bJ.kind:=by
 have l1:=T.len1;obtain⟨b1,b2⟩:=T.bl1 (j:=0) (by omega);simp only[U2z]at b1;unfold V2h at h;rw[b1]at h⊢;generalize 0+blanks (x.drop 0)=j at h b2⊢;obtain⟨o1,o2,o3⟩:=O3q hE s1 hs (a1+j) (by omega);cases cj:V2d E s1 (a1+j) with
 |non=>rw[cj]at h;cases h
 |bad c p=>rw[cj]at h;cases h
 |ok r =>
  obtain⟨e,bJ⟩:=r;have cJ:=o3 _ _ cj;have aK:=cJ.le;have cA:=O8m hE hN s1 (a1+j) e bJ (by omega) cj;rw[cj]at h;simp only at h;cases hc:V1b s1 e with
  |bad c p=>rw[hc]at h;cases h
  |ok m =>
   have cX:=(V4n s1 e aK.2).1 _ hc;rw[hc]at h;cases h;simp only at hb;refine⟨e,bJ,rfl,?_,rfl⟩;exact J147
end
structure Ctx(x s1 s2:Bs)(a1 a2:Nat):Prop where
 two:Two x s1 s2 a1 a2
 bl1:∀j,j<=x.length->V7 s1 (a1+j)=a1+(j+blanks (x.drop j))/\j+blanks (x.drop j)<=x.length
 bl2:∀j,j<=x.length->V7 s2 (a2+j)=a2+(j+blanks (x.drop j))/\j+blanks (x.drop j)<=x.length
 pre:∀j,j<=x.length->∀p:Bs,(∀c∈p,c≠10)->Pl.pre (s2.drop (a2+j)) p=Pl.pre (s1.drop (a1+j)) p
 bI:∀j,j<=x.length->V14 (s2.drop (a2+j))=V14 (s1.drop (a1+j))
 byte:∀j,j<=x.length->V9 s2 (a2+j)=V9 s1 (a1+j)
theorem V4t.ctx{x s1 s2:Bs}{a1 a2:Nat}(T:V4t x s1 s2 a1 a2):Ctx x s1 s2 a1 a2:=by
 refine⟨T.two,λ j h=>T.bl1 h,λ j h=>T.symm.bl1 h,λ j h p hp=>T.pre h p hp,λ j h=>?_,λ j h=>T.byte h⟩;obtain⟨t1,h1⟩:=T.d1 h;obtain⟨t2,h2⟩:=T.symm.d1 h;rw[h1,h2];cases x.drop j with
 |nil=>rfl
 |cons c u=>rfl
structure V9p(x s1 s2:Bs)(a1 a2:Nat):Prop where
 e1:s1.drop a1=x
 e2:s2.drop a2=x
 h1:a1<=s1.length
 h2:a2<=s2.length
theorem V9p.ctx{x s1 s2:Bs}{a1 a2:Nat}(T:V9p x s1 s2 a1 a2):Ctx x s1 s2 a1 a2:=by
 have l1:=U1q List.length T.e1;have l2:=U1q List.length T.e2;rw[U3]at l1 l2;have g1:=T.h1;have g2:=T.h2;have d1:∀j,s1.drop (a1+j)=x.drop j:=λ j=>by rw[<-U16,T.e1]
 have d2:∀j,s2.drop (a2+j)=x.drop j:=λ j=>by rw[<-U16,T.e2]
 have hb:∀j,j<=x.length->j+blanks (x.drop j)<=x.length:=by
  intro j hj;have:=Vg V2o (x.drop j);rw[U3]at this;unfold blanks;omega
 refine⟨⟨⟨[],.inl rfl,by rw[T.e1,U2g]⟩,⟨[],.inl rfl,by rw[T.e2,U2g]⟩,by omega,by omega⟩,λ j h=>⟨?_,hb j h⟩,λ j h=>⟨?_,hb j h⟩,λ j h p hp=>by rw[d1,d2],λ j h=>by rw[d1,d2],λ j h=>?_⟩;unfold V7;rw[d1];omega;unfold V7;rw[d2];omega
 unfold V9;rw[<-U1f,<-U1f,T.e1,T.e2]
section
variable {E:Vz}(hE:V10 E){x s1 s2:Bs}{a1 a2:Nat}(T:Ctx x s1 s2 a1 a2)
include hE T
theorem Oih{e:Nat}{bJ:It}(cj:V2d E s1 (V7 s1 a1) = .ok (e,bJ))(BE:e<=a1+x.length){g1 g2:Vb}(h:GS g1 g2){into root:Nat}{nds:Vc}{bT:Vb}(hw:V27 E s1 a1 g1 = .ok (into,root,nds,bT)) :
    ∃tj cp,V27 E s2 a2 g2 = .ok (into,root,tj,cp)/\RS 0 nds tj/\GS bT cp:=by
 have l1:=T.two.h1;have l2:=T.two.h2;obtain⟨b1,b2⟩:=T.bl1 0 (by omega);obtain⟨b3,b4⟩:=T.bl2 0 (by omega);simp only[U2z]at b1 b3;unfold V27 at hw⊢;rw[b1]at hw cj;rw[b3];generalize 0+blanks (x.drop 0)=j at hw cj b1 b2 b3 b4⊢;have fY:=T.pre _ b2 [91,91] (by decide);have jt:=T.pre _ b2 [91] (by decide);have H7:=T.bI _ b2;simp only at hw⊢;rw[fY,jt,H7];have key:∀(m:Nat)(ws:List KW)(e1:Nat),a1+j+m<=s1.length->V1k E s1 (V7 s1 (a1+j+m)) = .ok (ws,e1)->V7 s1 e1<a1+x.length ->
     ∃k e9,e1=a1+k/\k<x.length/\V1k E s2 (V7 s2 (a2+j+m)) = .ok (e9,a2+k)/\e9.map (·.1)=ws.map (·.1):=by
  intro m ws e1 hm hk bY;have hb:=V8 s1 (a1+j+m) hm;have aK:=(O_s hE (s:=s1) hb.2).1 _ _ hk;have aA:=V8 s1 e1 aK.2.1;obtain⟨c1,c2⟩:=T.bl1 (j+m) (by omega);obtain⟨c3,c4⟩:=T.bl2 (j+m) (by omega);rw[U12]at hk⊢;rw[c1]at hk;rw[c3];obtain⟨k,e9,g1,g2,g3,g4,g5⟩:=O5a hE T.two (s1.length+2) (s2.length+2) _ e1 [] [] ws c2 (by omega) .nil hk bY;exact⟨k,e9,g1,g3,g4,O5f g5⟩
 rcases Oac hE (by omega) cj with⟨q1,q2,ws,e1,q3,q4⟩|⟨q0,q1,q2,ws,e1,q3,q4⟩|⟨q0,q1,q2,q3⟩|⟨q0,q1,q2,q3,ws,e1,r0,n0,q4,q5,q6⟩
 have uL:=V18 _ _ q1;rw[U3]at uL;simp only[Ub,Ur]at uL;rw[(Ocy q1).2]at hw⊢;rw[q1]at hw⊢;simp only[U1j,U11,U1d]at hw⊢;obtain⟨k,e9,k1,k2,k3,k4⟩:=key 2 ws e1 (by omega) q3 (by omega);rw[q3]at hw;rw[k3];simp only[U1j]at hw⊢;cases hm:V2y g1 ws with
 |non=>rw[hm]at hw;cases hw
 |bad c p=>rw[hm]at hw;cases hw
 |ok g3 =>
  rw[hm]at hw;obtain⟨g4,h1,h2⟩:=Oie h k4 hm;exact J171
 have uL:=V18 _ _ q1;rw[U3]at uL;simp only[Ub,Ur]at uL;rw[Og3 q1]at hw⊢;rw[q0,q1]at hw⊢;simp only[U1j,U11,U1d]at hw⊢;obtain⟨k,e9,k1,k2,k3,k4⟩:=key 1 ws e1 (by omega) q3 (by omega);rw[q3]at hw;rw[k3];simp only[show ¬(1:Nat)=2 by decide,U1j,U1d]at hw⊢;cases hm:V2a g1 ws with
 |non=>rw[hm]at hw;cases hw
 |bad c p=>rw[hm]at hw;cases hw
 |ok g3 =>
  rw[hm]at hw;obtain⟨g4,h1,h2⟩:=Og6 h k4 hm;exact J171
 rw[q2]at hw⊢;simp only[U1j]at hw⊢;simp only[Va.ok.injEq,U6]at hw⊢;obtain⟨rfl,rfl,rfl,rfl⟩:=hw;exact⟨_,_,⟨rfl,rfl,rfl,rfl⟩,RS.nil [],h⟩
 rw[q2,q0,q1]at hw;rw[q2,q0,q1];simp only[U11,U1d,U2z]at hw⊢;have aa:=byteAt_lt q5 (by decide);have dk:=V8 s1 (V7 s1 e1+1) (by omega);have xF:=(O16 hE s1 258 _ _ [] dk.2).1 _ _ _ q6;have Pr:V7 s1 (a1+j)=a1+j:=by rw[<-b1,O3r]
 have vc:V7 s1 e1+1<=a1+x.length:=by omega
 have Hd:V1k E s1 (V7 s1 (a1+j+0)) = .ok (ws,e1):=by rw[U2z,Pr];exact q4
 obtain⟨k,e9,k1,k2,k3,k4⟩:=key 0 ws e1 (by omega) Hd (by omega);rw[U2z]at k3 Hd;rw[Hd]at hw;rw[k3];simp only[show ¬(0:Nat)=2 by decide,show ¬(0:Nat)=1 by decide,U1d]at hw⊢;cases hm:V2z g1 ws with
 |non=>rw[hm]at hw;cases hw
 |bad c p=>rw[hm]at hw;cases hw
 |ok r =>
  obtain⟨t,d,g3⟩:=r;rw[hm]at hw;obtain⟨g4,h1,h2⟩:=Oif h k4 hm;rw[h1];simp only at hw⊢;rw[Ua q5]at hw;subst k1;obtain⟨c1,c2⟩:=T.bl1 (k) (by omega);obtain⟨c3,c4⟩:=T.bl2 (k) (by omega);rw[c1]at hw q5 q6 dk vc;rw[c3];generalize k+blanks (x.drop k)=k' at hw q5 q6 dk vc c2⊢;have Ps:=T.byte _ c2;rw[Ua (Ps.trans q5)];have cS:k'<x.length:=by omega
  rw[U12]at hw q6 dk⊢;obtain⟨c5,c6⟩:=T.bl1 (k'+1) (by omega);obtain⟨c7,c8⟩:=T.bl2 (k'+1) (by omega);rw[c5]at hw q6;rw[c7];generalize k'+1+blanks (x.drop (k'+1))=Pt at hw q6 c6⊢;cases hr:V1l E s1 (a1+Pt) d with
  |non=>rw[hr]at hw;cases hw
  |bad c p=>rw[hr]at hw;cases hw
  |ok v =>
   obtain⟨cB,ve,xJ⟩:=v;have h0:=Oab (k0:=0) (U1p d) hr;rw[q6]at h0;simp only[Va.ok.injEq,U6]at h0;obtain⟨rfl,rfl,rfl⟩:=h0;obtain⟨q,st2,u1,u2,u3⟩:=Oa5 hE T.two c6 hr BE;rw[hr]at hw;rw[u2];simp only[Va.ok.injEq,U6]at hw⊢;obtain⟨rfl,rfl,rfl,rfl⟩:=hw;exact⟨_,_,⟨rfl,rfl,rfl,rfl⟩,u3,h2⟩
theorem Od1{it vd:It}(mF:V2h E s1 a1 = .ok it)(ei:V2h E s2 a2 = .ok vd)(hk:vd.kind=it.kind)(xK:vd.ws.map (·.1)=it.ws.map (·.1)){e:Nat}{bJ:It}(cj:V2d E s1 (V7 s1 a1) = .ok (e,bJ))(BE:e<=a1+x.length)
    {g1 g2 bT:Vb} (h:GS g1 g2) {b:Nat} (hi:V23 E s1 a1 g1 = .ok (b,bT)):∃cp,V23 E s2 a2 g2 = .ok (vd.b,cp)/\GS bT cp/\cp.its.length=g2.its.length+1/\b=it.b:=by
 unfold V23 at hi⊢;cases hw:V27 E s1 a1 g1 with
 |non=>rw[hw]at hi;cases hi
 |bad c p=>rw[hw]at hi;cases hi
 |ok r =>
  obtain⟨into,root,nds,g3⟩:=r;rw[hw,mF]at hi;simp only at hi;obtain⟨tj,g4,w1,w2,w3⟩:=Oih hE T cj BE h hw;rw[w1,ei];simp only;have w4:g4.its=g2.its:=(O2z w1).1.1;rw[hk]
  split at hi
  rename_i k0
  rw[Ua k0];exact J162
  rename_i k0
  rw[Ud k0]
  split at hi
  rename_i k1
  rw[Ua k1];rcases O3c xK with⟨l1,l2⟩|⟨w,a,b,a',b',l1,l2⟩
  rw[l1]at hi;cases hi
  rw[l1]at hi;rw[l2];simp only at hi⊢
  split at hi
  rename_i hk
  simp only[Uf]at hk;have w5:=w3.graft w2;rw[Ua (by rw[Oig w2 hk.1.1,w5.g8 hk.1.2,w5.rm hk.2];rfl)];simp only[Va.ok.injEq,U6]at hi⊢;obtain⟨hb,rfl⟩:=hi;refine⟨_,⟨U2d,rfl⟩,⟨?_,w5.srt,w5.sec,w5.dep,w5.many⟩,by simp[V1c,w4],hb.symm⟩;have:=w5.nds.put into w (a,b) (a',b') (root+g4.nds.length);rw[Uu,Uu,w3.len]at this;show RS 0 (Vo (V1c g3 nds).nds into w (a,b) (root+g3.nds.length)) (Vo (V1c g4 tj).nds into w (a',b') (root+g4.nds.length));rw[w3.len];exact this
  cases hi
  rename_i k1
  rw[Ud k1];exact J162
end
theorem O8n{E:Vz}{s:Bs}{n b:Nat}{g g':Vb}(h:V23 E s n g = .ok (b,g')):∃it,V2h E s n = .ok it/\it.b=b:=by
 unfold V23 at h
 split at h;cases h
 cases h
 split at h;cases h
 cases h
 rename_i it hi
 refine⟨it,hi,?_⟩
 split at h;exact J92
 split at h
 split at h;cases h
 simp only at h
 split at h;exact J92
 cases h
 exact J92
theorem O5h{E:Vz}(hE:V10 E)(hN:V4v E){x s1 s2:Bs}{a1 a2:Nat}(T:V4t x s1 s2 a1 a2)(hs:s1.length<=20000000){g1 g2 bT:Vb}(h:GS g1 g2)(hi:V23 E s1 a1 g1 = .ok (a1+x.length+1,bT)) :
    ∃cp,V23 E s2 a2 g2 = .ok (a2+x.length+1,cp)/\GS bT cp/\cp.its.length=g2.its.length+1:=by
 obtain⟨it,i1,i2⟩:=O8n hi;obtain⟨e,bJ,cj,BE,_⟩:=On4 hE hN T hs i1 i2;obtain⟨vd,j1,j2,_⟩:=Oi8 hE T hN it hs i1 i2;obtain⟨q,r1,r2⟩:=j2.b;obtain⟨cp,k1,k2,k3,_⟩:=Od1 hE T.ctx i1 j1 j2.kind (O5f j2.ws) cj BE h hi;exact⟨cp,by rw[k1,show vd.b=a2+x.length+1 by omega],k2,k3⟩
theorem Od2{E:Vz}(hE:V10 E){x s1 s2:Bs}{a1 a2:Nat}(T:V9p x s1 s2 a1 a2)(hx:x≠[])(hs:s1.length<=20000000){g1 g2 bT:Vb}(h:GS g1 g2)(hi:V23 E s1 a1 g1 = .ok (s1.length,bT)) :
    ∃cp,V23 E s2 a2 g2 = .ok (s2.length,cp)/\GS bT cp/\cp.its.length=g2.its.length+1:=by
 have l1:=U1q List.length T.e1;have l2:=U1q List.length T.e2;rw[U3]at l1 l2;have BC:=U2b.2 hx;have g1:=T.h1;have g2:=T.h2;obtain⟨it,i1,i2⟩:=O8n hi;have A1:V3y x s1 a1:=⟨λ m=>by rw[<-U16,T.e1],by omega⟩
 have A2:V3y x s2 a2:=⟨λ m=>by rw[<-U16,T.e2],by omega⟩
 have h1:=O76 hE A1 (by omega) 0 (by omega);have h2:=O76 hE A2 (by omega) 0 (by omega);rw[U2z]at h1 h2;rw[i1]at h1;cases h0:V2h E x 0 with
 |non=>rw[h0]at h1;cases h1
 |bad c p=>rw[h0]at h1;cases h1
 |ok y =>
  rw[h0]at h1 h2;cases h1 with
  |ok _ _ q1 =>
   generalize di:V2h E s2 a2=Y at h2;cases h2 with
   |ok _ vd q2 =>
    have cJ:=(O1m hE s1 hs a1 (by omega)).2.2 it i1;have cj:∃e bJ,V2d E s1 (V7 s1 a1) = .ok (e,bJ)/\e<=s1.length:=by
     have hb:=V8 s1 a1 g1;unfold V2h at i1;cases fP:V2d E s1 (V7 s1 a1) with
     |non=>rw[fP]at i1;cases i1
     |bad c p=>rw[fP]at i1;cases i1
     |ok r =>
      obtain⟨e,bJ⟩:=r;exact⟨e,bJ,rfl,((O3q hE s1 hs _ hb.2).2.2 e bJ fP).le.2⟩
    obtain⟨e,bJ,cj,T7⟩:=cj;obtain⟨cp,k1,k2,k3,k4⟩:=Od1 hE T.ctx i1 di (by rw[q2.kind,q1.kind]) (by rw[O5f q2.ws,O5f q1.ws]) cj (by omega) h hi;have b1:=q1.b;have b2:=q2.b;exact⟨cp,by rw[k1,show vd.b=s2.length by omega],k2,k3⟩
theorem Oer(st:Vc):RS 0 st st:=⟨by simp,λ j y h=>⟨y,by rw[Uu];exact h,rfl,rfl,rfl,rfl,by simp,by split <;> simp_all⟩⟩
theorem Oki{a b c:Vc}(h:RS 0 a b)(k:RS 0 b c):RS 0 a c:=by
 have h1:=h.len;have k1:=k.len;refine⟨by omega,λ j z hz=>?_⟩;obtain⟨y,hy,q⟩:=k.at' j z hz;rw[Uu]at hy;obtain⟨x,hx,p⟩:=h.at' j y hy;refine⟨x,hx,p.kind.trans q.kind,p.text.trans q.text,p.keys.trans q.keys,p.spots.trans q.spots,?_,?_⟩;rw[p.subs,q.subs];simp
 have e3:y.owner=z.owner:=by rw[q.own];split <;> simp_all
 have e4:x.owner=y.owner:=by rw[p.own];split <;> simp_all
 rw[e4,e3];split <;> simp_all
theorem GS.refl(g:Vb):GS g g:=⟨Oer _,rfl,rfl,rfl,rfl⟩
theorem GS.trans{a b c:Vb}(h:GS a b)(k:GS b c):GS a c:=⟨Oki h.nds k.nds,k.srt.trans h.srt,k.sec.trans h.sec,k.dep.trans h.dep,k.many.trans h.many⟩
theorem GS.ok{g1 g2:Vb}(h:GS g1 g2)(hk:V6t g1=true)(hl:g2.its.length<=30000000):V6t g2=true:=by
 unfold V6t at hk⊢;rw[h.len,h.many,h.dep];simp only[Uf,Ux]at hk⊢;exact⟨hk.1,hl⟩
theorem O67{E:Vz}{s:Bs}{n b:Nat}{g g':Vb}(h:V23 E s n g = .ok (b,g')):∃it,V2h E s n = .ok it/\it.b=b/\it.a=n/\g'.its=g.its++[it]:=by
 unfold V23 at h
 split at h;cases h
 cases h
 rename_i hw
 have h0:=(O2z hw).1.1
 split at h;cases h
 cases h
 rename_i it hi
 have ha:it.a=n:=by
  unfold V2h at hi
  split at hi;cases hi
  cases hi
  split at hi;cases hi
  simp only[Va.ok.injEq]at hi;rw[<-hi]
 refine⟨it,hi,?_⟩
 split at h;exact J93
 split at h
 split at h;cases h
 simp only at h
 split at h;simp only[Va.ok.injEq,U6]at h;rw[<-h.2];exact⟨h.1,ha,by simp[h0,V1c]⟩
 cases h
 exact J93
inductive Run (E:Vz)(s:Bs):Nat->Vb->List It->Vb->Prop
 |nil (n:Nat) (g:Vb):s.length<=n->Run E s n g [] g
 |cons (n:Nat) (g:Vb) (it:It) (g1:Vb) (l:List It) (G:Vb):n<s.length->V6t g=true->V23 E s n g = .ok (it.b,g1)->V2h E s n = .ok it->it.a=n->Run E s it.b g1 l G->Run E s n g (it::l) G
theorem Oii{E:Vz}{s:Bs}:∀(f n:Nat)(g G:Vb),grownF E s f n g = .ok G->∃l,Run E s n g l G/\G.its=g.its++l:=by
 intro f
 induction f with
 |zero=>intro n g G h;simp[grownF]at h
 |succ f ih =>
  intro n g G h;unfold grownF at h
  split at h
  rename_i hn
  split at h
  rename_i cJ
  split at h;cases h
  cases h
  rename_i e g1 hi
  obtain⟨l,h1,h2⟩:=ih e g1 G h;obtain⟨it,i1,rfl,i3,i4⟩:=O67 hi;exact⟨it::l,.cons n g it g1 l G hn cJ hi i1 i3 h1,by rw[h2,i4];simp⟩
  cases h
  rename_i hn
  simp only[Va.ok.injEq]at h;subst h;exact⟨[],.nil n g (by omega),by simp⟩
inductive Stp (E:Vz)(s:Bs):Nat->Vb->Nat->Vb->Prop
 |refl (n:Nat) (g:Vb):Stp E s n g n g
 |step (n:Nat) (g:Vb) (e:Nat) (g1:Vb) (m:Nat) (G:Vb):n<s.length->n<e->V6t g=true->V23 E s n g = .ok (e,g1)->Stp E s e g1 m G->Stp E s n g m G
theorem Stp.trans{E:Vz}{s:Bs}{a b c:Nat}{g1 g2 g3:Vb}(h:Stp E s a g1 b g2)(k:Stp E s b g2 c g3):Stp E s a g1 c g3:=by
 induction h with
 |refl=>exact k
 |step n g e g1 m G h1 h2 h3 h4 _ ih=>exact .step n g e g1 _ _ h1 h2 h3 h4 (ih k)
theorem Stp.grown{E:Vz}{s:Bs}{n m:Nat}{g G:Vb}(h:Stp E s n g m G)(hm:m=s.length):∀f,s.length<n+f->grownF E s f n g = .ok G:=by
 induction h with
 |refl n g =>
  intro f hf;cases f with
  |zero=>omega
  |succ f=>unfold grownF;rw[Ud (by omega)]
 |step n g e g1 m G h1 h2 h3 h4 _ ih =>
  intro f hf;cases f with
  |zero=>omega
  |succ f =>
   unfold grownF;rw[Ua h1,Ua h3,h4];exact ih hm f (by omega)
theorem Od3{s:Bs}{n b:Nat}(hn:n<b)(h:V9 s (b-1)=10):∃x,s.drop n=x++10::s.drop b/\x.length=b-1-n/\(s.drop n).take (b-n)=x++[10]:=by
 have aa:=byteAt_lt h (by decide);have hg:=O5e h;have h1:(s.drop n)[b-1-n]?=some 10:=by rw[U1f,show n+(b-1-n)=b-1 by omega];exact hg
 have:=Oct (s.drop n) (b-1-n) 10 h1;rw[U16,show n+(b-1-n+1)=b by omega]at this;have hl:((s.drop n).take (b-1-n)).length=b-1-n:=by rw[U17,U3];omega
 generalize (s.drop n).take (b-1-n)=x at this hl;refine⟨x,this,hl,?_⟩;rw[this,List.take_append,U24 (by omega),show b-n-x.length=1 by omega];rfl
theorem On5{E:Vz}(hE:V10 E)(hN:V4v E){s:Bs}(hs:s.length<=20000000){n:Nat}{g:Vb}{l:List It}{G:Vb}(h:Run E s n g l G):∀(it:It)(g2:Vb),it∈l->GS g g2->g2.its.length<=n->∃g3,Stp E (s.take it.b) n g2 it.b g3/\it.b<=s.length:=by
 induction h with
 |nil=>intro it g2 h;cases h
 |cons n g bJ g1 l G hn cJ hi hit ha hr ih =>
  intro it g2 hm hg hl;have q:=(O1m hE s hs n hn).2.2 bJ hit;have q1:=q.lt;have q2:=q.le;have np:=hg.ok cJ (by omega);by_cases bY:it.b=s.length
  -- the whole text
  rw[bY,U24 (U2 _)];have key:∀{n:Nat}{g:Vb}{l:List It}{G:Vb},Run E s n g l G->it∈l->∀g2,GS g g2->g2.its.length<=n->∃g3,Stp E s n g2 s.length g3:=by
   intro n g l G h
   induction h with
   |nil=>intro h;cases h
   |cons n g bJ g1 l G hn cJ hi hit ha hr ih =>
    intro hm g2 hg hl;have q:=(O1m hE s hs n hn).2.2 bJ hit;have q1:=q.lt;have np:=hg.ok cJ (by omega);by_cases bD:V9 s (bJ.b-1)=10
    obtain⟨x,c1,c2,_⟩:=Od3 q1 bD;have T:V4t x s s n n:=⟨⟨_,c1⟩,⟨_,c1⟩⟩
    obtain⟨g4,k1,k2,k3⟩:=O5h hE hN T hs hg (by rw[c2,show n+(bJ.b-1-n)+1=bJ.b by omega];exact hi);rw[c2,show n+(bJ.b-1-n)+1=bJ.b by omega]at k1;rcases U1k.1 hm with rfl|hm
    exact⟨g4,.step n g2 _ g4 _ _ hn q1 np k1 (by rw[bY];exact .refl _ _)⟩
    obtain⟨g5,s5⟩:=ih hm g4 k2 (by omega);exact⟨g5,.step n g2 _ g4 _ _ hn q1 np k1 s5⟩
    have jR:=q.fin.resolve_right bD;have T:V9p (s.drop n) s s n n:=⟨rfl,rfl,by omega,by omega⟩
    obtain⟨g4,k1,k2,k3⟩:=Od2 hE T (by intro e;have:=U1q List.length e;rw[U3]at this;simp at this;omega) hs hg (by rw[<-jR];exact hi);exact⟨g4,.step n g2 _ g4 _ _ hn (by omega) np k1 (.refl _ _)⟩
  obtain⟨g3,h3⟩:=key (.cons n g bJ g1 l G hn cJ hi hit ha hr) hm g2 hg hl;exact⟨g3,h3,U2 _⟩
  -- a line's end
  have aN:it.b<=s.length/\bJ.b<=it.b:=by
   rcases U1k.1 hm with rfl|hm
   exact⟨q2,U2 _⟩
   have:∀{n:Nat}{g:Vb}{l:List It}{G:Vb},Run E s n g l G->it∈l->n<=it.b/\it.b<=s.length:=by
    intro n g l G h
    induction h with
    |nil=>intro h;cases h
    |cons n g bJ g1 l G hn cJ hi hit ha hr ih =>
     intro hm;have q:=(O1m hE s hs n hn).2.2 bJ hit;rcases U1k.1 hm with rfl|hm
     exact⟨Nat.le_of_lt q.lt,q.le⟩
     have:=ih hm;have:=q.lt;omega
   have:=this hr hm;omega
  have bD:V9 s (bJ.b-1)=10:=q.fin.resolve_left (by omega);obtain⟨x,c1,c2,_⟩:=Od3 q1 bD;have BF:(s.take it.b).drop n=x++10::(s.take it.b).drop bJ.b:=by
   have e1:(s.take it.b).drop n=(s.drop n).take (it.b-n):=by rw[List.drop_take]
   have e2:(s.take it.b).drop bJ.b=(s.drop bJ.b).take (it.b-bJ.b):=by rw[List.drop_take]
   rw[e1,e2,c1];rw[List.take_append,c2,U24 (by rw[c2];omega),show it.b-n-(bJ.b-1-n)=(it.b-bJ.b)+1 by omega,U2q]
  have T:V4t x s (s.take it.b) n n:=⟨⟨_,c1⟩,⟨_,BF⟩⟩
  obtain⟨g4,k1,k2,k3⟩:=O5h hE hN T hs hg (by rw[c2,show n+(bJ.b-1-n)+1=bJ.b by omega];exact hi);rw[c2,show n+(bJ.b-1-n)+1=bJ.b by omega]at k1;have aa:n<(s.take it.b).length:=by rw[U17];omega
  rcases U1k.1 hm with rfl|hm
  exact⟨g4,.step n g2 _ g4 _ _ aa q1 np k1 (.refl _ _),aN.1⟩
  obtain⟨g5,s5,s6⟩:=ih it g4 hm k2 (by omega);exact⟨g5,.step n g2 _ g4 _ _ aa q1 np k1 s5,s6⟩
def V4r:List Bs:=[[],[10],[35,32,91,120,93,13,10],[32,9],[32,32,35,32,97,32,61,32,49,10,10]]
def V3l(s:Bs)(gs:Nat->Bs):Nat->List It->Bs
 |_,[]=>[]
 |i,it::r=>gs i++((s.drop it.a).take (it.b-it.a)++V3l s gs (i+1) r)
theorem Og7(E:Vz)(u:Bs)(hu:u=[]\/u=[35,32,91,120,93,13]\/u=[32,32,35,32,97,32,61,32,49])(g:Vb) :
    V23 E (u++[10]) 0 g = .ok (u.length+1,{ g with its:=g.its++[⟨0,0,u.length+1,[],0,0,0,[]⟩],ns:=g.ns++[-1] }):=by
 rcases hu with rfl|rfl|rfl <;> rfl
section
variable {E:Vz}(hE:V10 E)(hN:V4v E)
include hE hN
theorem O41{s2:Bs}{m:Nat}{u r:Bs}(hu:u=[]\/u=[35,32,91,120,93,13]\/u=[32,32,35,32,97,32,61,32,49])(hd:s2.drop m=u++10::r){g g2:Vb}(h:GS g g2)(cJ:V6t g=true)(hl:g2.its.length<=m)(dC:s2.length<=20000000) :
    ∃g3,Stp E s2 m g2 (m+u.length+1) g3/\GS g g3/\g3.its.length<=m+u.length+1/\s2.drop (m+u.length+1)=r:=by
 have ao:=U1q List.length hd;rw[U3]at ao;simp only[Ug,Ub]at ao;have T8:u.length<=9:=by rcases hu with rfl|rfl|rfl <;> decide
 have T:V4t u (u++[10]) s2 0 m:=⟨⟨[],rfl⟩,⟨r,hd⟩⟩
 obtain⟨g3,k1,k2,k3⟩:=O5h hE hN T (by simp;omega) (GS.refl g2) (by rw[Uu];exact Og7 E u hu g2);refine⟨g3,.step m g2 _ g3 _ _ (by omega) (by omega) (h.ok cJ (by omega)) k1 (.refl _ _),h.trans ⟨k2.nds,k2.srt,k2.sec,k2.dep,k2.many⟩,by omega,?_⟩;rw[U12,<-U16,hd,U22,Ut (by omega),show u.length+1-u.length=1 by omega];rfl
theorem On6{s2:Bs}{m:Nat}{γ r:Bs}(hγ : γ ∈ V4r)(hd:s2.drop m = γ ++ r){g g2:Vb}(h:GS g g2)(cJ:V6t g=true)(hl:g2.its.length<=m)(dC:s2.length<=20000000) :
    ∃m' g3 p,Stp E s2 m g2 m' g3/\GS g g3/\g3.its.length<=m'/\s2.drop m'=p++r/\(p=[]\/p=[32,9]):=by
 simp only[V4r,U1k,List.not_mem_nil,or_false]at hγ;rcases hγ with rfl|rfl|rfl|rfl|rfl
 exact⟨m,g2,[],.refl _ _,h,hl,hd,.inl rfl⟩;obtain⟨g3,a1,a2,a3,a4⟩:=O41 hE hN (u:=[]) (r:=r) (.inl rfl) hd h cJ hl dC;exact⟨_,g3,[],a1,a2,a3,a4,.inl rfl⟩;obtain⟨g3,a1,a2,a3,a4⟩:=O41 hE hN (u:=[35,32,91,120,93,13]) (r:=r) (.inr (.inl rfl)) hd h cJ hl dC;exact⟨_,g3,[],a1,a2,a3,a4,.inl rfl⟩;exact⟨m,g2,[32,9],.refl _ _,h,hl,hd,.inr rfl⟩
 obtain⟨g3,a1,a2,a3,a4⟩:=O41 hE hN (u:=[32,32,35,32,97,32,61,32,49]) (r:=10::r) (.inr (.inr rfl)) hd h cJ hl dC;obtain⟨g4,b1,b2,b3,b4⟩:=O41 hE hN (u:=[]) (r:=r) (.inl rfl) a4 a2 cJ a3 dC;exact⟨_,g4,[],a1.trans b1,b2,b3,b4,.inl rfl⟩
end
theorem O8o{E:Vz}{s:Bs}{n:Nat}{c:UInt8}{r:Bs}(hd:s.drop n=c::r)(hb:V2o c=true){g g':Vb}{e:Nat}(h:V23 E s (n+1) g = .ok (e,g')) :
    ∃xL,V23 E s n g = .ok (e,xL)/\GS g' xL/\xL.its.length=g'.its.length:=by
 have ky:s.drop (n+1)=r:=by rw[<-U16,hd];rfl
 have aN:V7 s n=V7 s (n+1):=by
  unfold V7 blanks;rw[hd,ky,Uo,Ua hb,Ub];omega
 have hw:V27 E s n g=V27 E s (n+1) g:=by unfold V27;rw[aN]
 obtain⟨it,hi,i2,i3,_⟩:=O67 h;have ei:V2h E s n = .ok { it with a:=n }:=by
  unfold V2h at hi⊢;rw[aN]
  split at hi;cases hi
  cases hi
  split at hi;cases hi
  simp only[Va.ok.injEq]at hi;rw[<-hi]
 unfold V23 at h⊢;rw[hw];cases h1:V27 E s (n+1) g with
 |non=>rw[h1]at h;cases h
 |bad c p=>rw[h1]at h;cases h
 |ok r =>
  obtain⟨into,root,nds,g1⟩:=r;rw[h1]at h;simp only at h⊢;rw[hi]at h;rw[ei];simp only at h⊢
  split at h
  rename_i k0
  rw[Ua k0];exact J94
  rename_i k0
  rw[Ud k0]
  split at h
  ·rename_i k1
   rw[Ua k1]
   split at h;cases h
   rename_i w a b h3
   try simp only at h
   split at h
   rename_i k2
   rw[Ua k2];exact J94
   cases h
  rename_i k1
  rw[Ud k1];exact J94
theorem O8p{E:Vz}{s:Bs}{n:Nat}{p r:Bs}(hp:p=[]\/p=[32,9])(hd:s.drop n=p++r){g g':Vb}{e:Nat}(h:V23 E s (n+p.length) g = .ok (e,g')) :
    ∃xL,V23 E s n g = .ok (e,xL)/\GS g' xL/\xL.its.length=g'.its.length:=by
 rcases hp with rfl|rfl
 exact⟨g',h,GS.refl _,rfl⟩
 obtain⟨g1,a1,a2,a3⟩:=O8o (n:=n+1) (c:=9) (r:=r) (by rw[<-U16,hd];rfl) rfl h;obtain⟨g2,b1,b2,b3⟩:=O8o (n:=n) (c:=32) (r:=9::r) hd rfl a1;exact⟨g2,b1,a2.trans b2,by omega⟩
theorem On7{E:Vz}(hE:V10 E)(hN:V4v E){s s2:Bs}(hs:s.length<=20000000)(dC:s2.length<=20000000)(gs:Nat->Bs)(bZ:∀i,gs i∈V4r){n:Nat}{g:Vb}{l:List It}{G:Vb}(h:Run E s n g l G) :
    ∀(i m:Nat)(g2:Vb),GS g g2->g2.its.length<=m->m<=s2.length->s2.drop m=V3l s gs i l->∃G2,Stp E s2 m g2 s2.length G2/\GS G G2:=by
 induction h with
 |nil n g hn =>
  intro i m g2 hg hl hm hd;have:=U1q List.length hd;rw[U3]at this;simp only[V3l,Ur]at this;rw[show m=s2.length by omega];exact⟨g2,.refl _ _,hg⟩
 |cons n g it g1 l G hn cJ hi hit ha hr ih =>
  intro i m g2 hg hl hm hd;have q:=(O1m hE s hs n hn).2.2 it hit;have q1:=q.lt;have q2:=q.le;rw[V3l,ha]at hd;obtain⟨m',g3,p,s1,h1,h2,h3,h4⟩:=On6 hE hN (bZ i) hd hg cJ hl dC;have uL:p.length<=2:=by rcases h4 with rfl|rfl <;> decide
  have A4:=U1q List.length h3;rw[U3]at A4;simp only[Ug]at A4;have rC:s2.drop (m'+p.length)=(s.drop n).take (it.b-n)++V3l s gs (i+1) l:=by
   rw[<-U16,h3,List.drop_left]
  by_cases bD:V9 s (it.b-1)=10
  obtain⟨x,c1,c2,c3⟩:=Od3 q1 bD;rw[c3]at rC A4;simp only[Ug,Ub,Ur]at A4;have T:V4t x s s2 n (m'+p.length):=⟨⟨_,c1⟩,⟨V3l s gs (i+1) l,by rw[rC];simp⟩⟩
  obtain⟨g4,k1,k2,k3⟩:=O5h hE hN T hs h1 (by rw[c2,show n+(it.b-1-n)+1=it.b by omega];exact hi);obtain⟨g5,u1,u2,u3⟩:=O8p h4 h3 k1;obtain⟨G2,v1,v2⟩:=ih (i+1) (m'+p.length+x.length+1) g5 (k2.trans u2) (by omega) (by omega) (by
   rw[U12,<-U16,rC,U22,Ut (by simp)];simp)
  exact⟨G2,s1.trans (.step m' g3 _ g5 _ _ (by omega) (by omega) (h1.ok cJ (by omega)) u1 v1),v2⟩
  have jR:=q.fin.resolve_right bD;cases hr with
  |cons _ _ _ _ _ _ h'=>omega
  |nil _ _ _ =>
   have hx:(s.drop n).take (it.b-n)=s.drop n:=U24 (by rw[U3];omega);rw[hx,V3l,U2g]at rC;rw[hx]at A4;rw[U3]at A4;have T:V9p (s.drop n) s s2 n (m'+p.length):=⟨rfl,rC,by omega,by omega⟩
   obtain⟨g4,k1,k2,k3⟩:=Od2 hE T (by intro e;have:=U1q List.length e;rw[U3]at this;simp at this;omega) hs h1 (by rw[<-jR];exact hi);obtain⟨g5,u1,u2,u3⟩:=O8p h4 h3 k1;exact⟨g5,s1.trans (.step m' g3 _ g5 _ _ (by omega) (by omega) (h1.ok cJ (by omega)) u1 (.refl _ _)),k2.trans u2⟩
theorem Og8{E:Vz}(hE:V10 E)(hN:V4v E){s:Bs}(hs:s.length<=20000000){G:Vb}(h:V11 E s = .ok G) :
    (∀it∈G.its,it.b<=s.length/\it.a<=it.b/\∃g',V11 E (s.take it.b) = .ok g') /\
    ∀gs,(∀i,gs i∈V4r)->(V3l s gs 0 G.its).length<=20000000->∃G2,V11 E (V3l s gs 0 G.its) = .ok G2/\RS 0 G.nds G2.nds:=by
 obtain⟨l,hr,hl⟩:=Oii _ _ _ _ h;rw[show V4w.its=[] from rfl,U1c]at hl;rw[hl];refine⟨λ it hm=>?_,λ gs bZ ho=>?_⟩
 obtain⟨g3,h1,h2⟩:=On5 hE hN hs hr it V4w hm (GS.refl _) (U2 _);have yZ:∀{n:Nat}{g:Vb}{l:List It}{G:Vb},Run E s n g l G->it∈l->it.a<=it.b:=by
  intro n g l G h
  induction h with
  |nil=>intro h;cases h
  |cons n g bJ g1 l G hn cJ hi hit ha hr ih =>
   intro hm;rcases U1k.1 hm with rfl|hm
   have:=((O1m hE s hs n hn).2.2 it hit).lt;omega
   exact ih hm
 have ht:it.b=(s.take it.b).length:=by rw[U17];omega
 exact⟨h2,yZ hr hm,g3,h1.grown ht _ (by omega)⟩
 obtain⟨G2,h1,h2⟩:=On7 hE hN hs ho gs bZ hr 0 0 V4w (GS.refl _) (U2 _) (U1p _) rfl;exact⟨G2,h1.grown rfl _ (by omega),h2.nds⟩
def Pu(st:Vc):Prop:=∀(i j:Nat) nd nd' (u:Nat),st[i]?=some nd->st[j]?=some nd'->u∈nd.subs->u∈nd'.subs->i=j
def Fr(st:Vc)(u:Nat):Prop:=∀(i:Nat) nd,st[i]?=some nd->u ∉ nd.subs
theorem O6q{st:Vc}{nd x:Nd}{i:Nat}(h:(st++[nd])[i]?=some x):st[i]?=some x/\i<st.length\/i=st.length/\x=nd:=by
 by_cases hi:i<st.length;rw[U9 hi]at h;exact .inl ⟨h,hi⟩
 have h2:=(U7.1 h).1;simp only[Ug,U19]at h2;have:i=st.length:=by omega
 subst this;simp at h;exact .inr ⟨rfl,h.symm⟩
theorem Pu.app{st:Vc}(h:Pu st){nd:Nd}(hn:∀u∈nd.subs,Fr st u):Pu (st++[nd]):=by
 intro i j x y u hx hy h1 h2;rcases O6q hx with⟨a,_⟩|⟨a,rfl⟩
 rcases O6q hy with⟨b,_⟩|⟨b,rfl⟩
 exact h i j x y u a b h1 h2
 exact absurd h1 (hn u h2 i x a)
 rcases O6q hy with⟨b,_⟩|⟨b,rfl⟩
 exact absurd h2 (hn u h1 j y b)
 omega
theorem Fr.app{st:Vc}{u:Nat}(h:Fr st u){nd:Nd}(hn:u ∉ nd.subs):Fr (st++[nd]) u:=by
 intro i x hx;rcases O6q hx with⟨a,_⟩|⟨a,rfl⟩
 exact h i x a
 exact hn
theorem O69{st:Vc}(h:WF st){u:Nat}(hu:st.length<=u):Fr st u:=λ i nd hi hm=>by have:=(h i nd hi).lt u hm;omega
theorem Pu.put{st:Vc}(h:Pu st){i:Nat}(hi:Fr st i)(t:Nat)(w:Bs)(sp:Nat×Nat):Pu (Vo st t w sp i):=by
 have key:∀(j:Nat) y u,(Vo st t w sp i)[j]?=some y->u∈y.subs->∃nd,st[j]?=some nd/\(u∈nd.subs\/u=i/\j=t):=by
  intro j y u hy hu;rw[O13]at hy
  split at hy
  rename_i e
  cases hs:st[j]? with
  |none=>rw[hs]at hy;cases hy
  |some nd =>
   rw[hs]at hy;simp only[U18,Uc]at hy;subst hy;simp only[Vy,U1t,U13]at hu;exact⟨nd,rfl,hu.imp id λ h=>⟨h,e.symm⟩⟩
  exact⟨y,hy,.inl hu⟩
 intro a b x y u hx hy h1 h2;obtain⟨n1,p1,q1⟩:=key a x u hx h1;obtain⟨n2,p2,q2⟩:=key b y u hy h2;rcases q1 with q1|⟨rfl,rfl⟩
 rcases q2 with q2|⟨rfl,rfl⟩
 exact h a b n1 n2 u p1 p2 q1 q2
 exact absurd q1 (hi a n1 p1)
 rcases q2 with q2|⟨_,rfl⟩
 exact absurd q2 (hi b n2 p2)
 rfl
theorem Fr.put{st:Vc}{u:Nat}(h:Fr st u){i:Nat}(hi:u≠i)(t:Nat)(w:Bs)(sp:Nat×Nat):Fr (Vo st t w sp i) u:=by
 intro j y hy hu;rw[O13]at hy
 split at hy
 cases hs:st[j]? with
 |none=>rw[hs]at hy;cases hy
 |some nd =>
  rw[hs]at hy;simp only[U18,Uc]at hy;subst hy;simp only[Vy,U1t,U13]at hu;exact hu.elim (h j nd hs) hi
 exact h j y hy hu
theorem O9h{st:Vc}{t:Nat}{f:Nd->Nd}(hf:∀nd,(f nd).subs=nd.subs){j:Nat}{y:Nd}(h:(st.modify t f)[j]?=some y):∃nd,st[j]?=some nd/\y.subs=nd.subs:=by
 rw[Oz]at h
 split at h
 cases hs:st[j]? with
 |none=>rw[hs]at h;cases h
 |some nd =>
  rw[hs]at h;simp only[U18,Uc]at h;subst h;exact⟨nd,rfl,hf nd⟩
 exact⟨y,h,rfl⟩
theorem Pu.same{st:Vc}(h:Pu st)(t:Nat)(f:Nd->Nd)(hf:∀nd,(f nd).subs=nd.subs):Pu (st.modify t f):=by
 intro a b x y u hx hy h1 h2;obtain⟨n1,p1,q1⟩:=O9h hf hx;obtain⟨n2,p2,q2⟩:=O9h hf hy;exact h a b n1 n2 u p1 p2 (q1 ▸ h1) (q2 ▸ h2)
theorem Fr.same{st:Vc}{u:Nat}(h:Fr st u)(t:Nat)(f:Nd->Nd)(hf:∀nd,(f nd).subs=nd.subs):Fr (st.modify t f) u:=by
 intro j y hy hu;obtain⟨nd,p,q⟩:=O9h hf hy;exact h j nd p (q ▸ hu)
structure Nw(st st':Vc):Prop where
 pu:Pu st'
 fr:∀u,u<st.length->Fr st u->Fr st' u
 le:st.length<=st'.length
theorem Nw.trans{a b c:Vc}(h:Nw a b)(k:Nw b c):Nw a c:=⟨k.pu,λ u hu hf=>k.fr u (U4 hu h.le) (h.fr u hu hf),Uj h.le k.le⟩
theorem Oog(table:Nat):∀(ws:List KW)(into d:Nat)(st:Vc)(ax d':Nat)(st':Vc),WF st->table<=into->into<st.length->Pu st->V3m table ws into d st = .ok (ax,d',st')->Nw st st':=by
 intro ws
 induction ws with
 |nil=>intro into d st ax d' st' _ _ _ _ h;simp[V3m]at h
 |cons x rest ih =>
  intro into d st ax d' st' hw ht hi hp h;obtain⟨w,a,b⟩:=x;unfold V3m at h;cases hs:V12 st into w with
  |non=>rw[hs]at h;cases h
  |yes i =>
   rw[hs]at h;cases rest with
   |nil=>cases h
   |cons y rest =>
    simp only at h
    split at h
    rename_i ho
    have LJ:table<=i/\i<st.length:=by
     refine Z280 ?_;intro aa;refine⟨?_,aa⟩;unfold V37 at ho;rw[Uh aa]at ho;have:=(hw i _ (Uh aa)).own (by simp only at ho;omega);simp only at ho;omega
    exact ih i (d+1) st ax d' st' hw LJ.1 LJ.2 hp h
    cases h
  |no =>
   rw[hs]at h;cases rest with
   |nil =>
    simp only[Va.ok.injEq,U6]at h;obtain⟨_,_,rfl⟩:=h;exact⟨hp,λ u _ hf=>hf,U2 _⟩
   |cons y rest =>
    simp only at h
    split at h;cases h
    split at h
    obtain⟨nd,bP⟩:∃nd,st[into]?=some nd:=⟨_,Uh hi⟩
    have tp:=O69 hw (U2 st.length);have fZ:WF (st++[V2b (table+1)]):=hw.app _ ⟨λ _=>⟨rfl,rfl⟩,List.Pairwise.nil,λ x hx=>by (cases hx),λ _=>⟨rfl,by show table+1<=_;omega⟩⟩;have fh:WF (Vo (st++[V2b (table+1)]) into w (a,b) st.length):=fZ.put into _ w (a,b) nd (by rw[U9 hi];exact bP) (λ x hx=>(hw into nd bP).lt x hx) (by simp);have eA:(Vo (st++[V2b (table+1)]) into w (a,b) st.length).length=st.length+1:=by unfold Vo;simp
    have jt:Pu (Vo (st++[V2b (table+1)]) into w (a,b) st.length):=(hp.app (λ u hu=>by cases hu)).put (tp.app (by intro h;cases h)) _ _ _;have q:=ih st.length (d+1) _ ax d' st' fh (by omega) (by rw[eA];omega) jt h;exact⟨q.pu,λ u hu hf=>q.fr u (by rw[eA];omega) ((hf.app (by intro h;cases h)).put (by omega) _ _ _),by have:=q.le;rw[eA]at this;omega⟩
    cases h
def VPu(V:V24):Prop:=∀d n st i e st',WF st->Pu st->(∃r,Rk st r)->V d n st = .ok (i,e,st')->Nw st st'/\Fr st' i
section
variable {E:Vz}{s:Bs}{V:V24}(hR:VRk V)(hV:VPu V)
include hR hV
theorem Okm(table n d:Nat)(st:Vc)(e:Nat)(st':Vc)(hw:WF st)(ht:table<st.length)(hp:Pu st)(hr:∃r,Rk st r)(ho:Own table st)(h:V1s E V s table n d st = .ok (e,st')):Nw st st':=by
 unfold V1s at h
 split at h;cases h
 cases h
 rename_i ws e0 hk
 split at h;cases h
 cases h
 rename_i into d' st1 hy
 obtain⟨y1,y2,y3,y4,y5,y6,y7⟩:=Oij table table ws table d st into d' st1 hw (U2 _) (U2 _) ht hy hr ho;have q1:=Oog table ws table d st into d' st1 hw (U2 _) ht hp hy;simp only at h
 split at h
 split at h;cases h
 cases h
 rename_i i e2 st2 hv
 have v:=hR _ _ _ _ _ _ y3 hv y1;obtain⟨q2,q3⟩:=hV _ _ _ _ _ _ y3 q1.pu y1 hv
 split at h;cases h
 rename_i w a b _
 split at h;simp only[Va.ok.injEq,U6]at h;obtain⟨_,rfl⟩:=h;have T9:=v.lo;have aK:=q1.le;have hq:=q1.trans q2;exact⟨q2.pu.put q3 _ _ _,λ u hu hf=>(hq.fr u hu hf).put (by omega) _ _ _,by have:=hq.le;unfold Vo;simp;exact this⟩
 cases h
 cases h
theorem On9(table d:Nat):∀(f n:Nat)(st:Vc)(e:Nat)(st':Vc),WF st->table<st.length->Pu st->(∃r,Rk st r)->Own table st->V2g E V s table d f n st = .ok (e,st')->Nw st st':=by
 intro f
 induction f with
 |zero=>intro n st e st' _ _ _ _ _ h;simp[V2g]at h
 |succ f ih =>
  intro n st e st' hw ht hp hr ho h;unfold V2g at h
  split at h;cases h
  cases h
  rename_i e1 st1 hy
  obtain⟨y1,y2,y3,y4,y5⟩:=Od4 hR table table n d st e1 st1 hw (U2 _) ht hy hr ho;have q1:=Okm hR hV table n d st e1 st1 hw ht hp hr ho hy;simp only at h
  split at h;simp only[Va.ok.injEq,U6]at h;obtain⟨_,rfl⟩:=h;exact q1
  split at h;exact q1.trans (ih _ st1 e st' y3 (by omega) q1.pu y1 y2 h)
  cases h
theorem Oil(d n:Nat)(st:Vc)(i e:Nat)(st':Vc)(hw:WF st)(hp:Pu st)(hr:∃r,Rk st r)(h:V1z E V s d n st = .ok (i,e,st')):Nw st st'/\Fr st' i:=by
 unfold V1z at h
 split at h;cases h
 split at h
 refine Z203 ?_;intro fZ;have fY:Pu (st++[V1f]):=hp.app (λ u hu=>by cases hu);have tp:Fr (st++[V1f]) st.length:=(O69 hw (U2 _)).app (by intro h;cases h);have aU:∃r,Rk (st++[V1f]) r:=by obtain⟨r,hr⟩:=hr;exact hr.app hw V1f (λ x hx=>by cases hx)
 have rB:Own st.length (st++[V1f]):=(O3f st).app _ (λ x hx=>by cases hx);simp only at h
 split at h;cases h
 cases h
 rename_i e1 st1 hx
 have q:Nw (st++[V1f]) st1:=by
  split at hx;simp only[Va.ok.injEq,U6]at hx;obtain⟨_,rfl⟩:=hx;exact⟨fY,λ u _ hf=>hf,U2 _⟩
  exact On9 hR hV st.length d _ _ _ _ _ fZ (by simp) fY aU rB hx
 split at h;simp only[Va.ok.injEq,U6]at h;obtain⟨rfl,_,rfl⟩:=h;have hl:=q.le;simp only[Ug,U19]at hl;exact⟨⟨q.pu.same _ _ (λ _=>rfl),λ u hu hf=>((q.fr u (by simp;omega) (hf.app (by intro h;cases h)))).same _ _ (λ _=>rfl),by simp;omega⟩,(q.fr _ (by simp) tp).same _ _ (λ _=>rfl)⟩
 cases h
 cases h
theorem Okn(d b:Nat):∀(f n:Nat)(subs:List Nat)(st:Vc)(l:List Nat)(e:Nat)(st':Vc),WF st->b<=st.length->Pu st->(∃r,Rk st r)->(∀x∈subs,b<=x/\x<st.length/\Fr st x)->V1h V s d f n subs st = .ok (l,e,st') ->
    Nw st st'/\WF st'/\(∃r,Rk st' r)/\∀x∈l,b<=x/\x<st'.length/\Fr st' x:=by
 intro f
 induction f with
 |zero=>intro n subs st l e st' _ _ _ _ _ h;simp[V1h]at h
 |succ f ih =>
  intro n subs st l e st' hw hb hp hr hs h;unfold V1h at h
  split at h;simp only[Va.ok.injEq,U6]at h;obtain⟨rfl,_,rfl⟩:=h;exact⟨⟨hp,λ u _ hf=>hf,U2 _⟩,hw,hr,hs⟩
  split at h;cases h
  cases h
  rename_i i e1 st1 hv
  have v:=hR _ _ _ _ _ _ hw hv hr;obtain⟨q1,q2⟩:=hV _ _ _ _ _ _ hw hp hr hv;have Ta:=v.lo;have Pv:=v.hi;have dC:∀x∈subs++[i],b<=x/\x<st1.length/\Fr st1 x:=by
   intro x hx;rcases U1t.1 hx with hx|hx
   obtain⟨h1,h2,h3⟩:=hs x hx;exact⟨h1,by have:=q1.le;omega,q1.fr x h2 h3⟩
   rw[U13]at hx;subst hx;exact⟨by omega,Pv,q2⟩
  split at h;cases h
  split at h;cases h
  split at h;simp only[Va.ok.injEq,U6]at h;obtain⟨rfl,_,rfl⟩:=h;exact⟨q1,v.wf,v.rk,dC⟩
  split at h
  split at h;cases h
  obtain⟨k1,k2,k3,k4⟩:=ih _ _ st1 l e st' v.wf (by have:=q1.le;omega) q1.pu v.rk dC h;exact⟨q1.trans k1,k2,k3,k4⟩
  cases h
theorem Oko(d n:Nat)(st:Vc)(i e:Nat)(st':Vc)(hw:WF st)(hp:Pu st)(hr:∃r,Rk st r)(h:V2s V s d n st = .ok (i,e,st')):Nw st st'/\Fr st' i:=by
 unfold V2s at h
 split at h;cases h
 split at h;cases h
 split at h;cases h
 cases h
 rename_i subs e1 st1 hx
 obtain⟨q1,q2,q3,q4⟩:=Okn hR hV d st.length _ _ [] st subs e1 st1 hw (U2 _) hp hr (λ x hx=>by cases hx) hx
 split at h
 simp only[Va.ok.injEq,U6]at h;obtain⟨rfl,_,rfl⟩:=h;refine⟨⟨q1.pu.app (λ u hu=>(q4 u hu).2.2),λ u hu hf=>(q1.fr u hu hf).app (λ hm=>?_),by have:=q1.le;simp;omega⟩,(O69 q2 (U2 _)).app (λ hm=>?_)⟩;have:=(q4 u hm).1;omega
 have:=(q4 _ hm).2.1;omega
 cases h
end
theorem Ona{st:Vc}(hw:WF st)(hp:Pu st)(k:Nat)(t:Bs)(a b:Nat):Nw st (st++[V5k k t a b])/\Fr (st++[V5k k t a b]) st.length :=
 ⟨⟨hp.app (λ u hu=>by cases hu),λ u _ hf=>hf.app (by intro h;cases h),by simp⟩,(O69 hw (U2 _)).app (by intro h;cases h)⟩
theorem Oim{E:Vz}(hE:V10 E)(s:Bs):∀f,VPu (V19 E s f):=by
 intro f
 induction f with
 |zero=>intro d n st i e st' _ _ _ h;simp[V19]at h
 |succ f ih =>
  intro d n st i e st' hw hp hr h;unfold V19 at h;simp only at h
  split at h;exact J166
  split at h;exact Oko (O68 hE s f) ih d n st i e st' hw hp hr h
  split at h;exact Oil (O68 hE s f) ih d n st i e st' hw hp hr h
  exact J166
theorem Okp{E:Vz}(hE:V10 E){s:Bs}{n k i e:Nat}{st:Vc}(h:V1l E s n k = .ok (i,e,st)):Pu st/\Fr st i/\∃r,Rk st r:=by
 have h0:WF ([]:Vc):=λ i nd h=>by simp at h
 have hp:Pu ([]:Vc):=λ i j nd nd' u h=>by simp at h
 have hr:∃r,Rk ([]:Vc) r:=⟨λ _=>0,λ i nd h=>by simp at h⟩
 obtain⟨q1,q2⟩:=Oim hE s 258 _ n [] i e st h0 hp hr h;exact⟨q1.pu,q2,(O68 hE s 258 _ n [] i e st h0 h hr).rk⟩
structure GP(nds:Vc):Prop where
 pu:Pu nds
 fr:Fr nds 0
 rk:∃r,Rk nds r
def SS(a b:Vc):Prop:=∀j:Nat,a[j]?.map (·.subs)=b[j]?.map (·.subs)
theorem SS.get{a b:Vc}(h:SS a b){j:Nat}{y:Nd}(hy:b[j]?=some y):∃x,a[j]?=some x/\x.subs=y.subs:=by
 have:=h j;rw[hy]at this;cases hx:a[j]? with
 |none=>rw[hx]at this;cases this
 |some x=>rw[hx]at this;exact⟨x,rfl,by simpa using this⟩
theorem GP.same{a b:Vc}(h:GP a)(k:SS a b):GP b:=by
 refine⟨λ i j x y u hx hy h1 h2=>?_,λ i x hx hu=>?_,?_⟩;obtain⟨x',p1,q1⟩:=k.get hx;obtain⟨y',p2,q2⟩:=k.get hy;exact h.pu i j x' y' u p1 p2 (q1 ▸ h1) (q2 ▸ h2);obtain⟨x',p1,q1⟩:=k.get hx;exact h.fr i x' p1 (q1 ▸ hu)
 obtain⟨r,hr⟩:=h.rk;exact⟨r,λ i x hx u hu=>by obtain⟨x',p1,q1⟩:=k.get hx;exact hr i x' p1 u (q1 ▸ hu)⟩
theorem GP.add{nds:Vc}(h:GP nds)(hw:WF nds)(k:Nat){t:Nat}(ht:t<nds.length)(w:Bs)(sp:Nat×Nat):GP (Vo (nds++[V1t k]) t w sp nds.length):=by
 have hf:=O69 hw (U2 nds.length);obtain⟨r,hr⟩:=h.rk;obtain⟨r1,aU⟩:=hr.app hw (V1t k) (λ x hx=>by cases hx);refine⟨(h.pu.app (λ u hu=>by cases hu)).put (hf.app (by intro h;cases h)) _ _ _,(h.fr.app (by intro h;cases h)).put (by omega) _ _ _,?_⟩;exact aU.put nds.length ((O3f nds).app _ (λ x hx=>by cases hx)) t nds.length w sp ht (U2 _) (λ j x hj hx y hy=>by
  rw[U9 hj]at hx;exact (hw j x hx).lt y hy)
theorem Vh4(nds:Vc)(t i:Nat)(w:Bs)(sp:Nat×Nat):SS (Vo nds t w sp i) (nds.modify t λ nd=>{ nd with subs:=nd.subs++[i] }):=by
 intro j;rw[O13,Oz]
 split;cases nds[j]? <;> rfl
 rfl
theorem GP.graft{nds n2:Vc}(h:GP nds)(hw:WF nds)(fh:WF n2)(jt:Pu n2){root:Nat}(dt:Fr n2 root)(d9:∃r,Rk n2 r){into:Nat}(hi:into<nds.length)(w:Bs)(sp:Nat×Nat) :
    GP (Vo (nds++n2.map λ nd=>{ nd with subs:=nd.subs.map (· + nds.length),owner:=0 }) into w sp (root+nds.length)):=by
 have hg:∀(j:Nat) x,(nds++n2.map λ nd=>{ nd with subs:=nd.subs.map (· + nds.length),owner:=0 })[j]?=some x->(j<nds.length/\nds[j]?=some x)\/(nds.length<=j/\∃y,n2[j-nds.length]?=some y/\x.subs=y.subs.map (· + nds.length)):=by
  intro j x hx;by_cases hj:j<nds.length;rw[U9 hj]at hx;exact .inl ⟨hj,hx⟩
  rw[U14 (by omega),Uq]at hx;cases hy:n2[j-nds.length]? with
  |none=>rw[hy]at hx;cases hx
  |some y =>
   rw[hy]at hx;simp only[U18,Uc]at hx;subst hx;exact .inr ⟨by omega,y,rfl,rfl⟩
 have Pw:Pu (nds++n2.map λ nd=>{ nd with subs:=nd.subs.map (· + nds.length),owner:=0 }):=by
  intro i j x y u hx hy h1 h2;rcases hg i x hx with⟨a1,a2⟩|⟨a1,x',a2,a3⟩
  rcases hg j y hy with⟨b1,b2⟩|⟨b1,y',b2,b3⟩
  exact h.pu i j x y u a2 b2 h1 h2
  exfalso;have:=(hw i x a2).lt u h1;rw[b3]at h2;obtain⟨v,_,rfl⟩:=U30.1 h2;omega
  rcases hg j y hy with⟨b1,b2⟩|⟨b1,y',b2,b3⟩
  exfalso;have:=(hw j y b2).lt u h2;rw[a3]at h1;obtain⟨v,_,rfl⟩:=U30.1 h1;omega
  rw[a3]at h1;rw[b3]at h2;obtain⟨v,hv,rfl⟩:=U30.1 h1;obtain⟨v',DQ,e⟩:=U30.1 h2;have:v'=v:=by omega
  subst this;have:=jt _ _ x' y' v' a2 b2 hv DQ;omega
 have tp:∀u,u<nds.length->Fr nds u->Fr (nds++n2.map λ nd=>{ nd with subs:=nd.subs.map (· + nds.length),owner:=0 }) u:=by
  intro u hu hf i x hx hm;rcases hg i x hx with⟨a1,a2⟩|⟨a1,x',a2,a3⟩
  exact hf i x a2 hm
  rw[a3]at hm;obtain⟨v,_,rfl⟩:=U30.1 hm;omega
 have xM:Fr (nds++n2.map λ nd=>{ nd with subs:=nd.subs.map (· + nds.length),owner:=0 }) (root+nds.length):=by
  intro i x hx hm;rcases hg i x hx with⟨a1,a2⟩|⟨a1,x',a2,a3⟩
  have:=(hw i x a2).lt _ hm;omega
  rw[a3]at hm;obtain⟨v,hv,e⟩:=U30.1 hm;have:v=root:=by omega
  subst this;exact dt _ x' a2 hv
 refine⟨Pw.put xM _ _ _,(tp 0 (by omega) h.fr).put (by omega) _ _ _,?_⟩;obtain⟨r,hr⟩:=h.rk;obtain⟨r2,d9⟩:=d9;have jM:Rk (nds++n2.map λ nd=>{ nd with subs:=nd.subs.map (· + nds.length),owner:=0 }) (λ j=>if j<nds.length then r j else r2 (j-nds.length)):=by
  intro i x hx u hu;rcases hg i x hx with⟨a1,a2⟩|⟨a1,x',a2,a3⟩
  have:=(hw i x a2).lt u hu;simp only[Ua a1,Ua this];exact hr i x a2 u hu
  rw[a3]at hu;obtain⟨v,hv,rfl⟩:=U30.1 hu;simp only[Ud (show ¬i<nds.length by omega),Ud (show ¬v+nds.length<nds.length by omega),U2w];exact d9 _ x' a2 v hv
 refine jM.put nds.length (λ i x hb hx u hu=>?_) into _ w sp hi (by omega) (λ j x hj hx y hy=>?_)
 rcases hg i x hx with⟨a1,a2⟩|⟨a1,x',a2,a3⟩
 omega
 rw[a3]at hu;obtain⟨v,_,rfl⟩:=U30.1 hu;omega
 rcases hg j x hx with⟨a1,a2⟩|⟨a1,_⟩
 exact (hw j x a2).lt y hy
 omega
theorem Oet{g:Vb}(h:GI g)(hp:GP g.nds){t:Nat}(ht:Tb g t){d:Nat}{w:Bs}{a b:Nat}{s:Nat×Nat}{over:Nat->Ov}{n d':Nat}{g':Vb}(he:V1n g t d w a b s over = .ok (n,d',g')):GP g'.nds:=by
 unfold V1n at he
 split at he;cases he
 exact J95
 split at he;cases he
 split at he;simp only[Va.ok.injEq,U6]at he;rw[<-he.2.2];exact hp.add h.wf 8 (h.lt ht) w (a,b)
 cases he
theorem Oin(s:Nat×Nat)(pP:s.1=1\/s.1=2\/s.1=3)(over:Vb->Nat->Nat->Ov)(ho:∀g d i,GI g->i<g.nds.length->over g d i ≠ .non/\∀n d',over g d i = .go n d'->Tb g n/\d'<=d+2) :
    ∀(ws:List KW)(t d:Nat)(g:Vb)(t' d':Nat)(g':Vb),GI g->Tb g t->g.nds.length+ws.length<=20000000->GP g.nds->V20 s over ws t d g = .ok (t',d',g')->GP g'.nds:=by
 intro ws
 induction ws with
 |nil=>intro t d g t' d' g' _ _ _ hp he;simp only[V20,Va.ok.injEq,U6]at he;rw[<-he.2.2];exact hp
 |cons x rest ih =>
  intro t d g t' d' g' h ht hl hp he;obtain⟨w,a,b⟩:=x;simp only[Ub]at hl;unfold V20 at he;cases a9:V1n g t d w a b s (over g d) with
  |non=>rw[a9]at he;cases he
  |bad c p=>rw[a9]at he;cases he
  |ok r =>
   obtain⟨n,d2,g2⟩:=r;rw[a9]at he;obtain⟨q1,q2,q3,_⟩:=(O7n h (by omega) ht d w a b s pP (over g d) (λ i hi=>ho g d i h hi)).2 _ _ _ a9;exact ih n d2 g2 t' d' g' q1 q2 (by omega) (Oet h hp ht a9) he
theorem Okq{g g':Vb}(h:GI g)(hp:GP g.nds){k:List KW}(hk:k≠[])(hl:g.nds.length+k.length+1<=20000000)(he:V2a g k = .ok g'):GP g'.nds:=by
 refine Z242 ?_;intro hd;unfold V2a at he
 split at he;cases he
 cases he
 rename_i t d g1 hw
 refine Z131 ?_;intro ho q1 q2 fY
 split at he;cases he
 split at he;cases he
 cases he
 rename_i n d2 g2 hs
 simp only[Va.ok.injEq]at he;rw[<-he];show GP g2.nds;exact Oet q1 fY q2 hs
theorem Oeu{g:Vb}(hw:WF g.nds)(hp:GP g.nds){x:Nat}(hx:x<g.nds.length)(d:Nat):GP (V3g g x d).nds:=(hp.add hw 8 hx [] (0,0)).same (Vh4 _ _ _ _ _)
theorem Onb{g g':Vb}(h:GI g)(hp:GP g.nds){k:List KW}(hk:k≠[])(hl:g.nds.length+k.length+2<=20000000)(he:V2y g k = .ok g'):GP g'.nds:=by
 refine Z242 ?_;intro hd;unfold V2y at he
 split at he;cases he
 cases he
 rename_i t d g1 hw
 refine Z131 ?_;intro ho q1 q2 fY
 split at he;cases he
 rename_i w a b cA
 split at he;cases he
 split at he
 rename_i h4
 split at he;cases he
 split at he;simp only[Va.ok.injEq]at he;rw[<-he];obtain⟨nd,l,h1,_⟩:=q1.lst _ h4;exact Oeu q1.wf fY (U7.1 h1).1 d
 cases he
 cases he
 split at he;cases he
 split at he;simp only[Va.ok.injEq]at he;rw[<-he];obtain⟨u1,_,_,_,u6⟩:=q1.grow q2 7 (4,0) w (a,b) (by simp) (λ h=>by simp at h);exact Oeu u1.wf (fY.add q1.wf 7 (q1.lt q2) w (a,b)) (by rw[u6];omega) d
 cases he
theorem Onc{g g':Vb}(h:GI g)(hp:GP g.nds){k:List KW}(hk:k≠[])(hl:g.nds.length+k.length<=20000000){t d:Nat}(he:V2z g k = .ok (t,d,g')):GP g'.nds:=by
 refine Z242 ?_;intro hd;unfold V2z at he
 split at he;cases he
 cases he
 rename_i t' d' g1 hw
 have fY:=Oin (3,g.many) (.inr (.inr rfl)) V1j (λ g d i _ _=>Oa8 d i) k.dropLast _ _ g t' d' g1 h h.sec (by omega) hp hw
 split at he;cases he
 split at he;cases he
 cases he
 simp only[Va.ok.injEq,U6]at he;rw[<-he.2.2];exact fY
