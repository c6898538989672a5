/- The proof's part 16. -/
import Derived.Test.YtnkgknbdaiakgaaGreatDoorQ11
set_option maxHeartbeats 16000000
set_option linter.all false
namespace Go.Proofs.YtnkgknbdaiakgaaGreatDoor
open Pl Go.Proofs.Tryz 
theorem Ok9(b:UInt8)(l:List UInt8)(h:Lib.indexByte l b = -1):∀c∈l,c≠b:=by
 induction l with
 |nil=>intro c hc;cases hc
 |cons a l ih =>
  cases ha:(a==b) with
  |true=>unfold Lib.indexByte at h;rw[ha]at h;cases h
  |false =>
   have h2:Lib.indexByte l b = -1:=by
    rcases Oz l b with e|⟨i,e⟩
    exact e
    rw[Ol a b l ha _ e,U1c Ya]at h;omega
   intro c hc;rcases U2s.1 hc with rfl|hc
   simpa using ha
   exact ih h2 c hc
theorem Oka(b:UInt8)(l:List UInt8)(i:Nat)(h:Lib.indexByte l b=i):(∀c∈l.take i,c≠b)/\l.drop i=b::l.drop (i+1):=by
 induction l generalizing i with
 |nil=>unfold Lib.indexByte at h;omega
 |cons a l ih =>
  cases ha:(a==b) with
  |true =>
   have:i=0:=by unfold Lib.indexByte at h;rw[ha]at h;simp at h;omega
   subst this;have:a=b:=by simpa using ha
   subst this;exact⟨λ c hc=>by simp at hc,rfl⟩
  |false =>
   rcases Oz l b with e|⟨k,e⟩
   rw[Ol a b l ha _ e,U1a rfl]at h;omega
   rw[Ol a b l ha _ e,U1c Ya]at h;obtain rfl:i=k+1:=Ya
   obtain⟨h1,h2⟩:=ih k e;refine⟨λ c hc=>?_,h2⟩;rw[U35]at hc;rcases U2s.1 hc with rfl|hc
   simpa using ha
   exact h1 c hc
namespace Pl
theorem O2s(l:Bs):Vn l=l.filter (· != 95):=by
 have H:∀n (l:Bs),l.length<=n->Lib.replaceK [95] [] (Lib.count l [95]) l=l.filter (· != 95):=by
  intro n
  induction n with
  |zero =>
   intro l hl;have:l=[]:=U3r.1 Ya;subst this;rfl
  |succ n ih =>
   intro l hl;rcases Oz l 95 with e|⟨i,e⟩
   have e2:Lib.index l [95] = -1:=by rw[Lib.index_one];exact e
   rw[Lib.count_miss e2];have:=Ok9 95 l e;show l=_;rw[List.filter_eq_self.2 (λ c hc=>by simpa using this c hc)]
   have e2:Lib.index l [95]=i:=by rw[Lib.index_one];exact e
   obtain⟨h1,h2⟩:=Oka 95 l i e;have ap:i<l.length:=by
    have:=U2w List.length h2;rw[U16,U1d]at this;omega
   rw[Lib.count_hit Yb e2,Nat.add_comm,Lib.replaceK_hit [95] [] _ l i e2];show l.take i++[]++Lib.replaceK [95] [] (Lib.count (l.drop (i+1)) [95]) (l.drop (i+1))=_;rw[ih (l.drop (i+1)) (by rw[U16];omega),U3j]
   conv=>rhs;rw[<-List.take_append_drop i l,List.filter_append,h2]
   have ht:(l.take i).filter (· != 95)=l.take i:=List.filter_eq_self.2 (λ c hc=>by simpa using h1 c hc);rw[ht];simp
 unfold Vn Lib.replaceAll Lib.replace Lib.replaceNum;rw[U1c Yd,U1a (.inl Yd)];exact H l.length l (U12 _)
theorem V3o(l:Bs):(Vn l).length<=l.length:=by rw[O2s];exact List.length_filter_le _ _
theorem Ohp(l:Bs):∀c∈l,c≠95->∃p∈V1b 95 l,c∈p:=by
 induction l with
 |nil=>intro c hc;cases hc
 |cons a l ih =>
  intro c hc a8;unfold V1b;cases ha:(a==95) with
  |true =>
   rw[U1a rfl];have:a=95:=by simpa using ha
   rcases U2s.1 hc with rfl|hc
   exact absurd this a8
   obtain⟨p,hp,h⟩:=ih c hc a8;exact⟨p,U24 _ hp,h⟩
  |false =>
   rw[U1c Yb];cases hs:V1b 95 l with
   |nil=>exact absurd hs (V5s 95 l)
   |cons q qs =>
    simp only;rcases U2s.1 hc with rfl|hc
    exact⟨c::q,Yb,Yb⟩
    obtain⟨p,hp,h⟩:=ih c hc a8;rw[hs]at hp;rcases U2s.1 hp with rfl|hp
    exact⟨a::p,Yb,U24 _ h⟩
    exact⟨p,U24 _ hp,h⟩
theorem V6o(d:UInt8->Bool)(l:Bs)(h:V13 d l=true):(∀c∈Vn l,d c=true)/\Vn l≠[]:=by
 unfold V13 at h;rw[U2k]at h;constructor;intro c hc;rw[O2s,List.mem_filter]at hc;obtain⟨p,hp,Ci⟩:=Ohp l c hc.1 (by simpa using hc.2);have:=h p hp;simp only[U1h,U2k]at this;exact this.2 c Ci
 intro he;cases hs:V1b 95 l with
 |nil=>exact V5s 95 l hs
 |cons p ps =>
  have hp:=h p (by rw[hs];simp);simp only[U1h,Bool.not_eq_true',List.isEmpty_eq_false_iff]at hp;have yB:∀(l p:Bs) ps,V1b 95 l=p::ps->p≠[]->∃c∈l,c≠95:=by
   intro l p ps hs a8;cases l with
   |nil=>simp[V1b]at hs;exact absurd hs.1 (by rw[hs.1]at a8;exact absurd rfl a8)
   |cons a l =>
    unfold V1b at hs
    split at hs;simp only[U27]at hs;exact absurd hs.1.symm a8
    rename_i ha
    exact⟨a,Yb,by simpa using ha⟩
  obtain⟨c,h1,h2⟩:=yB l p ps hs hp.1;have:c∈Vn l:=by rw[O2s,List.mem_filter];exact⟨h1,by simpa using h2⟩
  rw[he]at this;cases this
theorem Oaf(M:Nat)(l:Bs):∀acc,(∀c∈l,O2 c=true)->Lib.parseUintM M acc l≠Lib.NumEnd.syntax:=by
 induction l with
 |nil=>intro acc _ h;simp[Lib.parseUintM]at h
 |cons c l ih =>
  refine Z291 ?_;intro acc hd hc;unfold Lib.parseUintM;rw[U1a hc]
  split;simp
  split;simp
  exact ih _ (λ x hx=>hd x (U24 _ hx))
theorem V6p(sg l:Bs)(hs:sg=[]\/sg=[43]\/sg=[45])(hd:∀c∈l,O2 c=true)(a8:l≠[]):Lib.parseIntB 64 (sg++l)≠Lib.NumEnd.syntax:=by
 have hU:Lib.parseUintB 64 l≠Lib.NumEnd.syntax:=by unfold Lib.parseUintB;rw[U1c a8];exact Oaf _ _ _ hd
 have fin:∀(neg:Prop) [Decidable neg],(match Lib.parseUintB 64 l with
     |Lib.NumEnd.syntax=>Lib.NumEnd.syntax
     |.range => .range
     |.ok u=>if ¬neg/\2 ^ (64-1)<=u then .range else if neg/\2 ^ (64-1)<u then .range else .ok (if neg then -(u:Int) else u))≠Lib.NumEnd.syntax:=by
  intro neg _ h;revert h hU;cases Lib.parseUintB 64 l with
  |range=>intro _ h;cases h
  |ok u =>
   intro _ h;simp only at h
   split at h;cases h
   split at h <;> cases h
  |_=>intro hU;exact absurd rfl hU
 rcases hs with rfl|rfl|rfl
 rw[U2l];cases l with
 |nil=>exact absurd rfl a8
 |cons c l =>
  have hc:=hd c Yb;simp only[O2,U1h,U1x]at hc;unfold Lib.parseIntB;simp only;rw[U1c Ya];exact fin _
 exact fin _
 exact fin _
