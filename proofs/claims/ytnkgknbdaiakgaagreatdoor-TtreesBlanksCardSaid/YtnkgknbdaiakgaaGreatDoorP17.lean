/- The proof's part 17. -/
import Derived.Test.YtnkgknbdaiakgaaGreatDoorP11
set_option maxHeartbeats 16000000
set_option linter.all false
namespace Go.Proofs.YtnkgknbdaiakgaaGreatDoor
open Pl 
theorem Oji(b:UInt8)(l:List UInt8)(h:Lib.indexByte l b = -1):∀c∈l,c≠b:=by
 induction l with
 |nil=>intro c hc;cases hc
 |cons a l ih =>
  cases ha:(a==b) with
  |true=>unfold Lib.indexByte at h;rw[ha]at h;cases h
  |false =>
   have h2:Lib.indexByte l b = -1:=by
    rcases O_v l b with e|⟨i,e⟩
    exact e
    rw[Oj a b l ha _ e,Ud (by omega)]at h;omega
   intro c hc;rcases U1k.1 hc with rfl|hc
   simpa using ha
   exact ih h2 c hc
theorem Ojj(b:UInt8)(l:List UInt8)(i:Nat)(h:Lib.indexByte l b=i):(∀c∈l.take i,c≠b)/\l.drop i=b::l.drop (i+1):=by
 induction l generalizing i with
 |nil=>unfold Lib.indexByte at h;omega
 |cons a l ih =>
  cases ha:(a==b) with
  |true =>
   have:i=0:=by unfold Lib.indexByte at h;rw[ha]at h;simp at h;omega
   subst this;have:a=b:=by simpa using ha
   subst this;exact⟨λ c hc=>by simp at hc,rfl⟩
  |false =>
   rcases O_v l b with e|⟨k,e⟩
   rw[Oj a b l ha _ e,Ua rfl]at h;omega
   rw[Oj a b l ha _ e,Ud (by omega)]at h;obtain rfl:i=k+1:=by omega
   obtain⟨h1,h2⟩:=ih k e;refine⟨λ c hc=>?_,h2⟩;rw[U2q]at hc;rcases U1k.1 hc with rfl|hc
   simpa using ha
   exact h1 c hc
namespace Pl
theorem O2o(l:Bs):Vm l=l.filter (· != 95):=by
 have H:∀n (l:Bs),l.length<=n->Lib.replaceK [95] [] (Lib.count l [95]) l=l.filter (· != 95):=by
  intro n
  induction n with
  |zero =>
   intro l hl;have:l=[]:=List.length_eq_zero_iff.1 (by omega);subst this;rfl
  |succ n ih =>
   intro l hl;rcases O_v l 95 with e|⟨i,e⟩
   have e2:Lib.index l [95] = -1:=by rw[Lib.index_one];exact e
   rw[Lib.count_miss e2];have:=Oji 95 l e;show l=_;rw[List.filter_eq_self.2 (λ c hc=>by simpa using this c hc)]
   have e2:Lib.index l [95]=i:=by rw[Lib.index_one];exact e
   obtain⟨h1,h2⟩:=Ojj 95 l i e;have ao:i<l.length:=by
    have:=U1q List.length h2;rw[U3,Ub]at this;omega
   rw[Lib.count_hit (by simp) e2,Nat.add_comm,Lib.replaceK_hit [95] [] _ l i e2];show l.take i++[]++Lib.replaceK [95] [] (Lib.count (l.drop (i+1)) [95]) (l.drop (i+1))=_;rw[ih (l.drop (i+1)) (by rw[U3];omega),U2g]
   conv=>rhs;rw[<-List.take_append_drop i l,List.filter_append,h2]
   have ht:(l.take i).filter (· != 95)=l.take i:=List.filter_eq_self.2 (λ c hc=>by simpa using h1 c hc);rw[ht];simp
 unfold Vm Lib.replaceAll Lib.replace Lib.replaceNum;rw[Ud (by decide),Ua (.inl (by decide))];exact H l.length l (U2 _)
theorem V3q(l:Bs):(Vm l).length<=l.length:=by rw[O2o];exact List.length_filter_le _ _
theorem Ogx(l:Bs):∀c∈l,c≠95->∃p∈V1a 95 l,c∈p:=by
 induction l with
 |nil=>intro c hc;cases hc
 |cons a l ih =>
  intro c hc a8;unfold V1a;cases ha:(a==95) with
  |true =>
   rw[Ua rfl];have:a=95:=by simpa using ha
   rcases U1k.1 hc with rfl|hc
   exact absurd this a8
   obtain⟨p,hp,h⟩:=ih c hc a8;exact⟨p,U15 _ hp,h⟩
  |false =>
   rw[Ud (by simp)];cases hs:V1a 95 l with
   |nil=>exact absurd hs (V5u 95 l)
   |cons q qs =>
    simp only;rcases U1k.1 hc with rfl|hc
    exact⟨c::q,by simp,by simp⟩
    obtain⟨p,hp,h⟩:=ih c hc a8;rw[hs]at hp;rcases U1k.1 hp with rfl|hp
    exact⟨a::p,by simp,U15 _ h⟩
    exact⟨p,U15 _ hp,h⟩
theorem V6p(d:UInt8->Bool)(l:Bs)(h:Vx d l=true):(∀c∈Vm l,d c=true)/\Vm l≠[]:=by
 unfold Vx at h;rw[U1g]at h;constructor;intro c hc;rw[O2o,List.mem_filter]at hc;obtain⟨p,hp,Bo⟩:=Ogx l c hc.1 (by simpa using hc.2);have:=h p hp;simp only[Uf,U1g]at this;exact this.2 c Bo
 intro he;cases hs:V1a 95 l with
 |nil=>exact V5u 95 l hs
 |cons p ps =>
  have hp:=h p (by rw[hs];simp);simp only[Uf,Bool.not_eq_true',List.isEmpty_eq_false_iff]at hp;have xq:∀(l p:Bs) ps,V1a 95 l=p::ps->p≠[]->∃c∈l,c≠95:=by
   intro l p ps hs a8;cases l with
   |nil=>simp[V1a]at hs;exact absurd hs.1 (by rw[hs.1]at a8;exact absurd rfl a8)
   |cons a l =>
    unfold V1a at hs
    split at hs;simp only[U1a]at hs;exact absurd hs.1.symm a8
    rename_i ha
    exact⟨a,by simp,by simpa using ha⟩
  obtain⟨c,h1,h2⟩:=xq l p ps hs hp.1;have:c∈Vm l:=by rw[O2o,List.mem_filter];exact⟨h1,by simpa using h2⟩
  rw[he]at this;cases this
theorem Oar(M:Nat)(l:Bs):∀acc,(∀c∈l,O2 c=true)->Lib.parseUintM M acc l≠Lib.NumEnd.syntax:=by
 induction l with
 |nil=>intro acc _ h;simp[Lib.parseUintM]at h
 |cons c l ih =>
  intro acc hd;have hc:=hd c (by simp);simp only[O2,Uf,Ux]at hc;unfold Lib.parseUintM;rw[Ua hc]
  split;simp
  split;simp
  exact ih _ (λ x hx=>hd x (U15 _ hx))
theorem V6q(sg l:Bs)(hs:sg=[]\/sg=[43]\/sg=[45])(hd:∀c∈l,O2 c=true)(a8:l≠[]):Lib.parseIntB 64 (sg++l)≠Lib.NumEnd.syntax:=by
 have hU:Lib.parseUintB 64 l≠Lib.NumEnd.syntax:=by unfold Lib.parseUintB;rw[Ud a8];exact Oar _ _ _ hd
 have fin:∀(neg:Prop) [Decidable neg],(match Lib.parseUintB 64 l with
     |Lib.NumEnd.syntax=>Lib.NumEnd.syntax
     |.range => .range
     |.ok u=>if ¬neg/\2 ^ (64-1)<=u then .range else if neg/\2 ^ (64-1)<u then .range else .ok (if neg then -(u:Int) else u))≠Lib.NumEnd.syntax:=by
  intro neg _ h;revert h hU;cases Lib.parseUintB 64 l with
  |range=>intro _ h;cases h
  |ok u =>
   intro _ h;simp only at h
   split at h;cases h
   split at h <;> cases h
  |_=>intro hU;exact absurd rfl hU
 rcases hs with rfl|rfl|rfl
 rw[U1c];cases l with
 |nil=>exact absurd rfl a8
 |cons c l =>
  have hc:=hd c (by simp);simp only[O2,Uf,Ux]at hc;unfold Lib.parseIntB;simp only;rw[Ud (by omega)];exact fin _
 exact fin _
 exact fin _
