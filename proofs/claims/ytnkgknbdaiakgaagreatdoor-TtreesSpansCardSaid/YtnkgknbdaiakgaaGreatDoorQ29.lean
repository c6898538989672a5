/- The proof's part 29. -/
import Derived.Test.YtnkgknbdaiakgaaGreatDoorQ26
set_option maxHeartbeats 16000000
set_option linter.all false
namespace Go.Proofs.YtnkgknbdaiakgaaGreatDoor.Pl
theorem O9x{g:Vb}{t d:Nat}{w:Bs}{a b:Nat}{s:Nat×Nat}{over:Nat->Ov}{c p:Nat}(h:V1p g t d w a b s over=.bad c p):p=a/\c≠0:=by
 unfold V1p at h
 split at h;cases h
 split at h;cases h
 cases h;exact⟨rfl,Yd⟩
 cases h
 split at h;cases h;exact⟨rfl,Yd⟩
 split at h;cases h
 cases h
theorem Okd{M:Nat}(s:Nat×Nat)(over:Vb->Nat->Nat->Ov):∀(ws:List KW)(t d:Nat)(g:Vb)(c p:Nat),(∀x∈ws,x.2.1<=M)->V24 s over ws t d g=.bad c p->p<=M/\c≠0:=by
 intro ws
 induction ws with
 |nil=>intro t d g c p _ h;simp[V24]at h
 |cons x rest ih =>
  intro t d g c p hM h;obtain⟨w,a,b⟩:=x;unfold V24 at h;cases hs:V1p g t d w a b s (over g d) with
  |non=>rw[hs]at h;cases h
  |bad c' p' =>
   rw[hs]at h;cases h;obtain⟨h1,h2⟩:=O9x hs;exact⟨by rw[h1];exact hM (w,a,b) Yb,h2⟩
  |ok r =>
   obtain⟨n,d2,g2⟩:=r;rw[hs]at h;exact ih n d2 g2 c p (λ x hx=>hM x (U24 _ hx)) h
theorem Ofc{M:Nat}{g:Vb}{k:List KW}(hM:∀x∈k,x.2.1<=M){c p:Nat}(h:V2f g k=.bad c p):p<=M/\c≠0:=by
 refine Z273 ?_;intro hd;unfold V2f at h
 split at h;cases h
 exact J55
 split at h;cases h
 rename_i w a b hl
 split at h;cases h
 rename_i c' p' hs
 cases h;obtain⟨h1,h2⟩:=O9x hs;exact⟨by rw[h1];exact hM _ (U3e hl),h2⟩
 cases h
theorem Ohs{M:Nat}{g:Vb}{k:List KW}(hM:∀x∈k,x.2.1<=M){c p:Nat}(h:V2v g k=.bad c p):p<=M/\c≠0:=by
 refine Z273 ?_;intro hd;unfold V2v at h
 split at h;cases h
 exact J55
 split at h;cases h
 rename_i w a b hl
 have ha:=hM _ (U3e hl)
 split at h;cases h
 split at h
 split at h;exact J23
 split at h;cases h
 cases h
 exact J23
 split at h;exact J23
 split at h;cases h
 cases h
theorem Oht{M:Nat}{g:Vb}{k:List KW}(hM:∀x∈k,x.2.1<=M){c p:Nat}(h:V2w g k=.bad c p):p<=M/\c≠0:=by
 refine Z273 ?_;intro hd;unfold V2w at h
 split at h;cases h
 exact J55
 split at h;cases h
 rename_i w a x hl
 have ha:=hM _ (U3e hl)
 split at h;cases h
 exact J23
 cases h
theorem Ofd{E:Vv}(hE:V11 E){s:Bs}(hs:s.length<=20000000){n:Nat}(hn:n<=s.length){g:Vb}{c p:Nat}(h:V2n E s n g=.bad c p):p<=s.length/\c≠0:=by
 have hb:=V8 s n hn;unfold V2n at h;simp only at h
 split at h;cases h
 generalize hm:(if pre (s.drop (V7 s n)) [91,91] then 2 else if pre (s.drop (V7 s n)) [91] then 1 else 0)=m at h;have i9:V7 s n+m<=s.length:=by
  rw[<-hm]
  split
  rename_i h2
  have:=V1i _ _ h2;exact J56
  split
  rename_i h1
  have:=V1i _ _ h1;exact J56
  omega
 have aA:=V8 s _ i9;obtain⟨k1,k2,k3⟩:=O15 hE (s:=s) aA.2
 split at h;cases h
 rename_i hk;cases h;exact k2 _ _ hk
 rename_i ws e hk
 obtain⟨e1,e2,e3,e4,e5⟩:=k1 _ _ hk;have hM:∀x∈ws,x.2.1<=s.length:=λ x hx=>by have:=e4 x hx;omega
 split at h
 split at h;cases h
 rename_i hx;cases h;exact Ohs hM hx
 cases h
 split at h
 split at h;cases h
 rename_i hx;cases h;exact Ofc hM hx
 cases h
 split at h;cases h
 rename_i hx;cases h;exact Oht hM hx
 split at h
 rename_i dS
 have aV:=V8 s e e2;refine Z238 ?_;intro a9 dE
 split at h;cases h
 rename_i hr;cases h;exact (O1q hE s hs _ _ dE.2).2.1 _ _ hr
 cases h
 cases h
theorem Ohu{E:Vv}(hE:V11 E){s:Bs}(hs:s.length<=20000000){n:Nat}(hn:n<s.length){g:Vb}{c p:Nat}(h:V32 E s n g=.bad c p):p<=s.length/\c≠0:=by
 unfold V32 at h
 split at h;cases h
 rename_i hw;cases h;exact Ofd hE hs Ya hw
 split at h;cases h
 rename_i hi;cases h;exact (O74 hE s hs n hn).2.1 _ _ hi
 split at h;cases h
 split at h
 split at h;cases h
 simp only at h
 split at h;cases h
 cases h
 cases h
theorem Ofe{E:Vv}(hE:V11 E){s:Bs}(hs:s.length<=20000000):∀(f n:Nat)(g:Vb)(c p:Nat),grownF E s f n g=.bad c p->p<=s.length/\c≠0:=by
 intro f
 induction f with
 |zero=>intro n g c p h;simp[grownF]at h
 |succ f ih =>
  intro n g c p h;unfold grownF at h
  split at h
  rename_i hn
  split at h
  split at h;cases h
  rename_i hi;cases h;exact Ohu hE hs hn hi
  rename_i e g1 hi;exact ih e g1 c p h
  cases h
  cases h
theorem Off{E:Vv}(hE:V11 E){s:Bs}(hs:s.length<=20000000){c p:Nat}(h:V1e E s=.bad c p):p<=s.length/\c≠0:=Ofe hE hs _ _ _ _ _ h
