/- The proof's part 18. -/
import Derived.Test.YtnkgknbdaiakgaaGreatDoorY13
set_option maxHeartbeats 16000000
set_option linter.all false
namespace Go.Proofs.YtnkgknbdaiakgaaGreatDoor
open Pl Go.Proofs.Tryz 
theorem Okn(b:UInt8)(l:List UInt8)(h:Lib.indexByte l b = -1):∀c∈l,c≠b:=by
 induction l with
 |nil=>intro c hc;cases hc
 |cons a l ih =>
  cases ha:(a==b) with
  |true=>unfold Lib.indexByte at h;rw[ha]at h;cases h
  |false =>
   have h2:Lib.indexByte l b = -1:=by
    rcases Oy l b with e|⟨i,e⟩
    exact e
    rw[Om a b l ha _ e,U1b Ya]at h;omega
   intro c hc;rcases U36.1 hc with rfl|hc
   simpa using ha
   exact ih h2 c hc
theorem Oko(b:UInt8)(l:List UInt8)(i:Nat)(h:Lib.indexByte l b=i):(∀c∈l.take i,c≠b)/\l.drop i=b::l.drop (i+1):=by
 induction l generalizing i with
 |nil=>unfold Lib.indexByte at h;omega
 |cons a l ih =>
  cases ha:(a==b) with
  |true =>
   have:i=0:=by unfold Lib.indexByte at h;rw[ha]at h;simp at h;omega
   subst this;have:a=b:=by simpa using ha
   subst this;exact⟨λ c hc=>by simp at hc,rfl⟩
  |false =>
   rcases Oy l b with e|⟨k,e⟩
   rw[Om a b l ha _ e,U18 rfl]at h;omega
   rw[Om a b l ha _ e,U1b Ya]at h;obtain rfl:i=k+1:=Ya
   obtain⟨h1,h2⟩:=ih k e;refine⟨λ c hc=>?_,h2⟩;rw[U49]at hc;rcases U36.1 hc with rfl|hc
   simpa using ha
   exact h1 c hc
namespace Pl
theorem O2x(l:Bs):Vo l=l.filter (· != 95):=by
 have H:∀n (l:Bs),l.length<=n->Lib.replaceK [95] [] (Lib.count l [95]) l=l.filter (· != 95):=by
  intro n
  induction n with
  |zero =>
   intro l hl;have:l=[]:=List.length_eq_zero_iff.1 Ya;subst this;rfl
  |succ n ih =>
   intro l hl;rcases Oy l 95 with e|⟨i,e⟩
   have e2:Lib.index l [95] = -1:=by rw[Lib.index_one];exact e
   rw[Lib.count_miss e2];have:=Okn 95 l e;show l=_;rw[List.filter_eq_self.2 (λ c hc=>by simpa using this c hc)]
   have e2:Lib.index l [95]=i:=by rw[Lib.index_one];exact e
   obtain⟨h1,h2⟩:=Oko 95 l i e;have ad:i<l.length:=by
    have:=U2b List.length h2;rw[U15,U17]at this;omega
   rw[Lib.count_hit Yb e2,Nat.add_comm,Lib.replaceK_hit [95] [] _ l i e2];show l.take i++[]++Lib.replaceK [95] [] (Lib.count (l.drop (i+1)) [95]) (l.drop (i+1))=_;rw[ih (l.drop (i+1)) (by rw[U15];omega),U3k]
   conv=>rhs;rw[<-List.take_append_drop i l,List.filter_append,h2]
   have ht:(l.take i).filter (· != 95)=l.take i:=List.filter_eq_self.2 (λ c hc=>by simpa using h1 c hc);rw[ht];simp
 unfold Vo Lib.replaceAll Lib.replace Lib.replaceNum;rw[U1b Yd,U18 (.inl Yd)];exact H l.length l (U12 _)
theorem V45(l:Bs):(Vo l).length<=l.length:=by rw[O2x];exact List.length_filter_le _ _
theorem Oie(l:Bs):∀c∈l,c≠95->∃p∈V1d 95 l,c∈p:=by
 induction l with
 |nil=>intro c hc;cases hc
 |cons a l ih =>
  intro c hc a8;unfold V1d;cases ha:(a==95) with
  |true =>
   rw[U18 rfl];have:a=95:=by simpa using ha
   rcases U36.1 hc with rfl|hc
   exact absurd this a8
   obtain⟨p,hp,h⟩:=ih c hc a8;exact⟨p,U26 _ hp,h⟩
  |false =>
   rw[U1b Yb];cases hs:V1d 95 l with
   |nil=>exact absurd hs (V6e 95 l)
   |cons q qs =>
    simp only;rcases U36.1 hc with rfl|hc
    exact⟨c::q,Yb,Yb⟩
    obtain⟨p,hp,h⟩:=ih c hc a8;rw[hs]at hp;rcases U36.1 hp with rfl|hp
    exact⟨a::p,Yb,U26 _ h⟩
    exact⟨p,U26 _ hp,h⟩
theorem V7c(d:UInt8->Bool)(l:Bs)(h:V15 d l=true):(∀c∈Vo l,d c=true)/\Vo l≠[]:=by
 unfold V15 at h;rw[U2h]at h;constructor;intro c hc;rw[O2x,List.mem_filter]at hc;obtain⟨p,hp,BP⟩:=Oie l c hc.1 (by simpa using hc.2);have:=h p hp;simp only[U1g,U2h]at this;exact this.2 c BP
 intro he;cases hs:V1d 95 l with
 |nil=>exact V6e 95 l hs
 |cons p ps =>
  have hp:=h p (by rw[hs];simp);simp only[U1g,U4l,List.isEmpty_eq_false_iff]at hp;have xR:∀(l p:Bs) ps,V1d 95 l=p::ps->p≠[]->∃c∈l,c≠95:=by
   intro l p ps hs a8;cases l with
   |nil=>simp[V1d]at hs;exact absurd hs.1 (by rw[hs.1]at a8;exact absurd rfl a8)
   |cons a l =>
    unfold V1d at hs
    split at hs;simp only[U24]at hs;exact absurd hs.1.symm a8
    rename_i ha
    exact⟨a,Yb,by simpa using ha⟩
  obtain⟨c,h1,h2⟩:=xR l p ps hs hp.1;have:c∈Vo l:=by rw[O2x,List.mem_filter];exact⟨h1,by simpa using h2⟩
  rw[he]at this;cases this
theorem Ob4(M:Nat)(l:Bs):∀acc,(∀c∈l,O2 c=true)->Lib.parseUintM M acc l≠Lib.NumEnd.syntax:=by
 induction l with
 |nil=>intro acc _ h;simp[Lib.parseUintM]at h
 |cons c l ih =>
  refine Z293 ?_;intro acc hd hc;unfold Lib.parseUintM;rw[U18 hc]
  split;simp
  split;simp
  exact ih _ (λ x hx=>hd x (U26 _ hx))
theorem V7d(sg l:Bs)(hs:sg=[]\/sg=[43]\/sg=[45])(hd:∀c∈l,O2 c=true)(a8:l≠[]):Lib.parseIntB 64 (sg++l)≠Lib.NumEnd.syntax:=by
 have hU:Lib.parseUintB 64 l≠Lib.NumEnd.syntax:=by unfold Lib.parseUintB;rw[U1b a8];exact Ob4 _ _ _ hd
 have fin:∀(neg:Prop) [Decidable neg],(match Lib.parseUintB 64 l with
     |Lib.NumEnd.syntax=>Lib.NumEnd.syntax
     |.range => .range
     |.ok u=>if ¬neg/\2 ^ (64-1)<=u then .range else if neg/\2 ^ (64-1)<u then .range else .ok (if neg then -(u:Int) else u))≠Lib.NumEnd.syntax:=by
  intro neg _ h;revert h hU;cases Lib.parseUintB 64 l with
  |range=>intro _ h;cases h
  |ok u =>
   intro _ h;simp only at h
   split at h;cases h
   split at h <;> cases h
  |_=>intro hU;exact absurd rfl hU
 rcases hs with rfl|rfl|rfl
 rw[U23];cases l with
 |nil=>exact absurd rfl a8
 |cons c l =>
  have hc:=hd c Yb;simp only[O2,U1g,U1x]at hc;unfold Lib.parseIntB;simp only;rw[U1b Ya];exact fin _
 exact fin _
 exact fin _
