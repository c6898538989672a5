/-
 The walks and plain laws that the claim rests on, part 20.
-/
import Derived.Test.YtdgjgcepbkanhaaGreatDoorM17
set_option maxHeartbeats 16000000
set_option linter.all false
set_option linter.unusedVariables false
set_option linter.unusedSimpArgs false
namespace Go.Proofs.YtdgjgcepbkanhaaGreatDoor
theorem toNat_dig (u:Nat) (h:u<10):(UInt8.ofNat (48+u)).toNat=48+u:=by simp;omega
theorem parse_dec (M:Nat) (hM:M≤18446744073709551615) (u:Nat):u≤M→∀r,Lib.parseUintM M 0 (Lib.decDigits u++r)=Lib.parseUintM M u r:=by
 induction u using Nat.strongRecOn with
 | _ u ih =>
  intro hu r;rw[Lib.decDigits]
  split
  · rename_i h
    have e:=toNat_dig u h;show Lib.parseUintM M 0 (UInt8.ofNat (48+u)::r)=_;rw[Lib.parseUintM,e,if_pos (by omega),if_neg (by omega),if_neg (by omega)];congr 1;omega
  rename_i h
  have e:=toNat_dig (u % 10) (by omega);rw[List.append_assoc,ih (u / 10) (by omega) (by omega)];show Lib.parseUintM M (u / 10) (UInt8.ofNat (48+u % 10)::r)=_;rw[Lib.parseUintM,e,if_pos (by omega),if_neg (by omega),if_neg (by omega)];congr 1;omega
theorem dec_digits (u:Nat):∀c∈Lib.decDigits u,isDec c=true:=by
 induction u using Nat.strongRecOn with
 | _ u ih =>
  rw[Lib.decDigits]
  split
  · rename_i h
    have e:=toNat_dig u h;intro c hc;simp only[List.mem_singleton]at hc;subst hc;simp only[isDec,e,Bool.and_eq_true,decide_eq_true_eq];omega
  rename_i h
  have e:=toNat_dig (u % 10) (by omega);intro c hc;rcases List.mem_append.1 hc with hc|hc
  · exact ih (u / 10) (by omega) c hc
  simp only[List.mem_singleton]at hc;subst hc;simp only[isDec,e,Bool.and_eq_true,decide_eq_true_eq];omega
theorem dec_ne (u:Nat):Lib.decDigits u≠[]:=by
 rw[Lib.decDigits];split <;> simp
theorem dec_head (u:Nat):1<(Lib.decDigits u).length→(Lib.decDigits u)[0]?≠some 48:=by
 induction u using Nat.strongRecOn with
 | _ u ih =>
  rw[Lib.decDigits]
  split
  · intro h;simp at h
  rename_i h
  intro _;have hne:=dec_ne (u / 10);have hl:0<(Lib.decDigits (u / 10)).length:=List.length_pos_iff.2 hne;rw[List.getElem?_append_left hl];by_cases h10:u / 10<10
  · rw[Lib.decDigits,dif_pos h10];have e:=toNat_dig (u / 10) h10;simp only[List.getElem?_cons_zero,ne_eq,Option.some.injEq,←UInt8.toNat_inj,e];show ¬ 48+u / 10=48;omega
  refine ih (u / 10) (by omega) ?_;rw[Lib.decDigits,dif_neg h10,List.length_append];have:=List.length_pos_iff.2 (dec_ne (u / 10 / 10));simp;omega
theorem parse_itoa (n:Int) (h0 : -9223372036854775808≤n) (h1:n≤9223372036854775807):Lib.parseIntB 64 (Lib.itoa n) = .ok n:=by
 unfold Lib.itoa;have hp:∀u:Nat,u≤18446744073709551615→Lib.parseUintB 64 (Lib.decDigits u) = .ok u:=by
  intro u hu;unfold Lib.parseUintB;rw[if_neg (dec_ne u)];have:=parse_dec (2 ^ 64-1) (by decide) u (by simpa using hu) [];rw[List.append_nil]at this;rw[this];rfl
 split
 · rename_i h
   unfold Lib.parseIntB;simp only;rw[if_pos (by right;rfl),hp _ (by omega)];simp only;rw[if_neg (by rintro⟨hh,_⟩;exact hh rfl),if_neg (by
    rintro⟨_,hh⟩;have:(2:Nat)^(64-1)=9223372036854775808:=by decide
    omega),if_pos (show (45:UInt8).toNat=45 from rfl)]
   congr 1;omega
 rename_i h
 obtain⟨c,r,hcr⟩:∃c r,Lib.decDigits n.toNat=c::r:=by
  cases hd:Lib.decDigits n.toNat with
  | nil=>exact absurd hd (dec_ne _)
  | cons c r=>exact⟨c,r,rfl⟩
 have hc:=dec_digits n.toNat c (by rw[hcr];simp);simp only[isDec,Bool.and_eq_true,decide_eq_true_eq]at hc;have:=hp n.toNat (by omega);unfold Lib.parseIntB;rw[hcr]at this ⊢;simp only;rw[if_neg (by omega),this];simp only;have h2:(2:Nat)^(64-1)=9223372036854775808:=by decide
 rw[if_neg (by rintro⟨_,hh⟩;omega),if_neg (by rintro⟨hh,_⟩;omega),if_neg (by omega)];congr 1;omega
end Go.Proofs.YtdgjgcepbkanhaaGreatDoor
