/-
 The walks and plain laws that the claim rests on, part 18.
-/
import Derived.Test.YtfogfaagjpebcaaGreatDoorP00
import Derived.Test.YtfogfaagjpebcaaGreatDoorP09
import Derived.Test.YtfogfaagjpebcaaGreatDoorP14
set_option maxHeartbeats 16000000
set_option linter.all false
set_option linter.unusedVariables false
set_option linter.unusedSimpArgs false
namespace Go.Proofs.YtfogfaagjpebcaaGreatDoor
theorem idx_none (b:UInt8) (l:List UInt8) (h:Lib.indexByte l b = -1):∀c∈l,c≠b:=by
 induction l with
 | nil=>intro c hc;cases hc
 | cons a l ih =>
  cases ha:(a==b) with
  | true=>unfold Lib.indexByte at h;rw[ha]at h;cases h
  | false =>
   have h2:Lib.indexByte l b = -1:=by
    rcases indexByte_cases l b with e|⟨i,e⟩
    · exact e
    rw[indexByte_step a b l ha _ e,if_neg (by omega)]at h;omega
   intro c hc;rcases List.mem_cons.1 hc with rfl|hc
   · simpa using ha
   exact ih h2 c hc
theorem idx_some (b:UInt8) (l:List UInt8) (i:Nat) (h:Lib.indexByte l b=i):(∀c∈l.take i,c≠b)∧l.drop i=b::l.drop (i+1):=by
 induction l generalizing i with
 | nil=>unfold Lib.indexByte at h;omega
 | cons a l ih =>
  cases ha:(a==b) with
  | true =>
   have:i=0:=by unfold Lib.indexByte at h;rw[ha]at h;simp at h;omega
   subst this;have:a=b:=by simpa using ha
   subst this;exact⟨fun c hc=>by simp at hc,rfl⟩
  | false =>
   rcases indexByte_cases l b with e|⟨k,e⟩
   · rw[indexByte_step a b l ha _ e,if_pos rfl]at h;omega
   rw[indexByte_step a b l ha _ e,if_neg (by omega)]at h;obtain rfl:i=k+1:=by omega
   obtain⟨h1,h2⟩:=ih k e;refine⟨fun c hc=>?_,h2⟩;rw[List.take_succ_cons]at hc;rcases List.mem_cons.1 hc with rfl|hc
   · simpa using ha
   exact h1 c hc
namespace Pl
theorem lowless_filter (l:Bs):lowless l=l.filter (· != 95):=by
 have H:∀n (l:Bs),l.length≤n→Lib.replaceK [95] [] (Lib.count l [95]) l=l.filter (· != 95):=by
  intro n
  induction n with
  | zero =>
   intro l hl;have:l=[]:=List.length_eq_zero_iff.1 (by omega);subst this;rfl
  | succ n ih =>
   intro l hl;rcases indexByte_cases l 95 with e|⟨i,e⟩
   · have e2:Lib.index l [95] = -1:=by rw[Lib.index_one];exact e
     rw[Lib.count_miss e2];have:=idx_none 95 l e;show l=_;rw[List.filter_eq_self.2 (fun c hc=>by simpa using this c hc)]
   have e2:Lib.index l [95]=i:=by rw[Lib.index_one];exact e
   obtain⟨h1,h2⟩:=idx_some 95 l i e;have hlen:i<l.length:=by
    have:=congrArg List.length h2;rw[List.length_drop,List.length_cons]at this;omega
   rw[Lib.count_hit (by simp) e2,Nat.add_comm,Lib.replaceK_hit [95] [] _ l i e2];show l.take i++[]++Lib.replaceK [95] [] (Lib.count (l.drop (i+1)) [95]) (l.drop (i+1))=_;rw[ih (l.drop (i+1)) (by rw[List.length_drop];omega),List.append_nil]
   conv=>rhs;rw[←List.take_append_drop i l,List.filter_append,h2]
   have ht:(l.take i).filter (· != 95)=l.take i:=List.filter_eq_self.2 (fun c hc=>by simpa using h1 c hc);rw[ht];simp
 unfold lowless Lib.replaceAll Lib.replace Lib.replaceNum;rw[if_neg (by decide),if_pos (.inl (by decide))];exact H l.length l (Nat.le_refl _)
theorem lowless_len (l:Bs):(lowless l).length≤l.length:=by rw[lowless_filter];exact List.length_filter_le _ _
theorem split_mem (l:Bs):∀c∈l,c≠95→∃p∈splitB 95 l,c∈p:=by
 induction l with
 | nil=>intro c hc;cases hc
 | cons a l ih =>
  intro c hc hne;unfold splitB;cases ha:(a==95) with
  | true =>
   rw[if_pos rfl];have:a=95:=by simpa using ha
   rcases List.mem_cons.1 hc with rfl|hc
   · exact absurd this hne
   obtain⟨p,hp,h⟩:=ih c hc hne;exact⟨p,List.mem_cons_of_mem _ hp,h⟩
  | false =>
   rw[if_neg (by simp)];cases hs:splitB 95 l with
   | nil=>exact absurd hs (splitB_ne 95 l)
   | cons q qs =>
    simp only;rcases List.mem_cons.1 hc with rfl|hc
    · exact⟨c::q,by simp,by simp⟩
    obtain⟨p,hp,h⟩:=ih c hc hne;rw[hs]at hp;rcases List.mem_cons.1 hp with rfl|hp
    · exact⟨a::p,by simp,List.mem_cons_of_mem _ h⟩
    exact⟨p,List.mem_cons_of_mem _ hp,h⟩
theorem right_digits (d:UInt8→Bool) (l:Bs) (h:rightD d l=true):(∀c∈lowless l,d c=true)∧lowless l≠[]:=by
 unfold rightD at h;rw[List.all_eq_true]at h;constructor
 · intro c hc;rw[lowless_filter,List.mem_filter]at hc;obtain⟨p,hp,hcp⟩:=split_mem l c hc.1 (by simpa using hc.2);have:=h p hp;simp only[Bool.and_eq_true,List.all_eq_true]at this;exact this.2 c hcp
 intro he;cases hs:splitB 95 l with
 | nil=>exact splitB_ne 95 l hs
 | cons p ps =>
  have hp:=h p (by rw[hs];simp);simp only[Bool.and_eq_true,Bool.not_eq_true',List.isEmpty_eq_false_iff]at hp;have hfirst:∀(l p:Bs) ps,splitB 95 l=p::ps→p≠[]→∃c∈l,c≠95:=by
   intro l p ps hs hne;cases l with
   | nil=>simp[splitB]at hs;exact absurd hs.1 (by rw[hs.1]at hne;exact absurd rfl hne)
   | cons a l =>
    unfold splitB at hs
    split at hs
    · simp only[List.cons.injEq]at hs;exact absurd hs.1.symm hne
    rename_i ha
    exact⟨a,by simp,by simpa using ha⟩
  obtain⟨c,h1,h2⟩:=hfirst l p ps hs hp.1;have:c∈lowless l:=by rw[lowless_filter,List.mem_filter];exact⟨h1,by simpa using h2⟩
  rw[he]at this;cases this
theorem parseU_digits (M:Nat) (l:Bs):∀acc,(∀c∈l,isDec c=true)→Lib.parseUintM M acc l≠Lib.NumEnd.syntax:=by
 induction l with
 | nil=>intro acc _ h;simp[Lib.parseUintM]at h
 | cons c l ih =>
  intro acc hd;have hc:=hd c (by simp);simp only[isDec,Bool.and_eq_true,decide_eq_true_eq]at hc;unfold Lib.parseUintM;rw[if_pos hc]
  split
  · simp
  split
  · simp
  exact ih _ (fun x hx=>hd x (List.mem_cons_of_mem _ hx))
theorem parse_digits (sg l:Bs) (hs:sg=[]∨sg=[43]∨sg=[45]) (hd:∀c∈l,isDec c=true) (hne:l≠[]):Lib.parseIntB 64 (sg++l)≠Lib.NumEnd.syntax:=by
 have hU:Lib.parseUintB 64 l≠Lib.NumEnd.syntax:=by unfold Lib.parseUintB;rw[if_neg hne];exact parseU_digits _ _ _ hd
 have fin:∀(neg:Prop) [Decidable neg],(match Lib.parseUintB 64 l with
     | Lib.NumEnd.syntax=>Lib.NumEnd.syntax
     | .range => .range
     | .ok u=>if ¬neg∧2 ^ (64-1)≤u then .range else if neg∧2 ^ (64-1)<u then .range else .ok (if neg then -(u:Int) else u))≠Lib.NumEnd.syntax:=by
  intro neg _ h;revert h hU;cases Lib.parseUintB 64 l with
  | range=>intro _ h;cases h
  | ok u =>
   intro _ h;simp only at h
   split at h
   · cases h
   split at h <;> cases h
  | _=>intro hU;exact absurd rfl hU
 rcases hs with rfl|rfl|rfl
 · rw[List.nil_append];cases l with
   | nil=>exact absurd rfl hne
   | cons c l =>
    have hc:=hd c (by simp);simp only[isDec,Bool.and_eq_true,decide_eq_true_eq]at hc;unfold Lib.parseIntB;simp only;rw[if_neg (by omega)];exact fin _
 · exact fin _
 exact fin _
end Pl
end Go.Proofs.YtfogfaagjpebcaaGreatDoor
