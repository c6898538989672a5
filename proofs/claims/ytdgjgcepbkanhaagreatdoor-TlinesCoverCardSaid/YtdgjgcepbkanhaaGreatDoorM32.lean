/-
 The walks and plain laws that the claim rests on, part 32.
-/
import Derived.Test.YtdgjgcepbkanhaaGreatDoorM17
import Derived.Test.YtdgjgcepbkanhaaGreatDoorM28
set_option maxHeartbeats 16000000
set_option linter.all false
set_option linter.unusedVariables false
set_option linter.unusedSimpArgs false
namespace Go.Proofs.YtdgjgcepbkanhaaGreatDoor.Pl
def Stops (r:Bs):Prop:=r=[]∨∃c t,r=c::t∧(c=9∨c=10∨c=13∨c=32∨c=35∨c=44∨c=93∨c=125)∧(c=32→∀d t',t=d::t'→d.toNat<48∨57<d.toNat)
theorem stops_head {r:Bs} (h:Stops r) (p:UInt8→Bool) (hp:∀c:UInt8,(c=9∨c=10∨c=13∨c=32∨c=35∨c=44∨c=93∨c=125)→p c=false) (u:Bs):(u++r).takeWhile p=u.takeWhile p:=by
 induction u with
 | nil =>
  rcases h with rfl|⟨c,t,rfl,hc,_⟩
  · rfl
  rw[List.nil_append,List.takeWhile_cons,if_neg (by rw[hp c hc];simp)];rfl
 | cons a u ih=>rw[List.cons_append,List.takeWhile_cons,List.takeWhile_cons,ih]
theorem drop_app (u r:Bs) (k:Nat) (h:k≤u.length):(u++r).drop k=u.drop k++r:=by
 rw[List.drop_append,show k-u.length=0 by omega];rfl
theorem formM_stops (f:Bs) (hf:∀w∈f,w=57∨w=45∨w=58) (u:Bs) {r:Bs} (hr:Stops r):formM (u++r) f=formM u f:=by
 induction f generalizing u with
 | nil=>unfold formM;cases u <;> cases r <;> rfl
 | cons w f ih =>
  cases u with
  | nil =>
   rcases hr with rfl|⟨c,t,rfl,hc,_⟩
   · rfl
   have hw:=hf w (by simp);have:fits w c=false:=by
    rcases hw with rfl|rfl|rfl <;> rcases hc with rfl|rfl|rfl|rfl|rfl|rfl|rfl|rfl <;> decide
   rw[List.nil_append];unfold formM;rw[this,Bool.false_and]
  | cons c u =>
   rw[List.cons_append];unfold formM;rw[ih (fun w hw=>hf w (List.mem_cons_of_mem _ hw)) u]
theorem heads_app (p:UInt8→Bool) (u:Bs) {r:Bs} (hr:Stops r) (hp:∀c:UInt8,(c=9∨c=10∨c=13∨c=32∨c=35∨c=44∨c=93∨c=125)→p c=false):heads p (u++r)=heads p u:=by
 cases u with
 | nil =>
  rcases hr with rfl|⟨c,t,rfl,hc,_⟩
  · rfl
  exact hp c hc
 | cons c u=>rfl
theorem clockP_stops (u:Bs) {r:Bs} (hr:Stops r):clockP (u++r)=clockP u:=by
 unfold clockP;rw[formM_stops timeF (by decide) u hr]
 split
 · rename_i h
   have hl:=formM_len _ _ h;have h8:timeF.length=8:=rfl;rw[List.take_append_of_le_length (by omega),drop_app u r 8 (by omega),heads_app isDot _ hr (by rintro c (rfl|rfl|rfl|rfl|rfl|rfl|rfl|rfl) <;> decide)];cases hd:heads isDot (u.drop 8) with
   | false=>rfl
   | true =>
    have h9:9≤u.length:=by
     cases hu:u.drop 8 with
     | nil=>rw[hu]at hd;cases hd
     | cons c v =>
      have:=congrArg List.length hu;rw[List.length_drop]at this;simp only[List.length_cons]at this;omega
    rw[drop_app u r 9 h9,stops_head hr isDec (by rintro c (rfl|rfl|rfl|rfl|rfl|rfl|rfl|rfl) <;> decide)]
 rfl
theorem zoneP_stops (u:Bs) {r:Bs} (hr:Stops r):zoneP (u++r)=zoneP u:=by
 cases u with
 | nil =>
  rcases hr with rfl|⟨c,t,rfl,hc,_⟩
  · rfl
  rw[List.nil_append];unfold zoneP;have h1:¬(c.toNat=90∨c.toNat=122):=by rcases hc with rfl|rfl|rfl|rfl|rfl|rfl|rfl|rfl <;> decide
  have h2:isSign c=false:=by rcases hc with rfl|rfl|rfl|rfl|rfl|rfl|rfl|rfl <;> decide
  simp only;rw[if_neg h1,h2];rfl
 | cons c u =>
  rw[List.cons_append];unfold zoneP;simp only;rw[formM_stops zoneF (by decide) u hr]
  split
  · rfl
  split
  · rename_i h
    simp only[Bool.and_eq_true]at h;have hl:=formM_len _ _ h.2;have h5:zoneF.length=5:=rfl;rw[←List.cons_append,List.take_append_of_le_length (by simp;omega)]
  rfl
theorem splitD_stops (u:Bs) {r:Bs} (hr:Stops r):splitD (u++r)=splitD u:=by
 unfold splitD;rw[formM_stops dateF (by decide) u hr]
 split
 · rename_i h
   have hl:=formM_len _ _ h;have h10:dateF.length=10:=rfl;rw[List.take_append_of_le_length (by omega),drop_app u r 10 (by omega)];by_cases h11:11≤u.length
   · have hh:heads isTee (u.drop 10++r)=heads isTee (u.drop 10):=by
      cases hu:u.drop 10 with
      | nil =>
       have:=congrArg List.length hu;rw[List.length_drop]at this;simp only[List.length_nil]at this;omega
      | cons c v=>rfl
     rw[hh,drop_app u r 11 h11,clockP_stops _ hr]
     split
     · have hc:=clockP_len (u.drop 11);rw[List.length_drop]at hc;obtain⟨t,p,hcp⟩:∃t p,clockP (u.drop 11)=(t,p):=⟨_,_,rfl⟩
       rw[hcp]at hc ⊢;simp only at hc ⊢;rw[drop_app u r _ (by omega),zoneP_stops _ hr]
     rfl
   have hu:u.drop 10=[]:=List.drop_eq_nil_of_le (by omega);rw[hu,List.nil_append];have h2:heads isTee ([]:Bs)=false:=rfl;rw[h2];rcases hr with rfl|⟨c,t,rfl,hc,ht⟩
   · rfl
   by_cases h32:c=32
   · subst h32;have hd:(u++32::t).drop 11=t:=by
      rw[List.drop_append,List.drop_eq_nil_of_le (by omega),show 11-u.length=1 by omega];rfl
     rw[hd];have hf:formM t timeF=false:=by
      cases t with
      | nil=>rfl
      | cons d t' =>
       have:=ht rfl d t' rfl;unfold timeF formM;have hfit:fits 57 d=false:=by
        unfold fits;rw[if_pos (by decide)];simp only[Bool.and_eq_false_iff,decide_eq_false_iff_not];omega
       rw[hfit,Bool.false_and]
     have hcl:clockP t=([],[]):=by unfold clockP;rw[hf];rfl
     rw[hcl];rfl
   have:heads isTee (c::t)=false:=by
    show isTee c=false;rcases hc with rfl|rfl|rfl|rfl|rfl|rfl|rfl|rfl <;> first|decide|exact absurd rfl h32
   rw[this];rfl
 rw[clockP_stops _ hr]
theorem tok_stops (u:Bs) {r:Bs} (hr:Stops r):tok (u++r)=tok u:=by
 unfold tok;exact stops_head hr isPart (by rintro c (rfl|rfl|rfl|rfl|rfl|rfl|rfl|rfl) <;> decide) u
theorem scalS_stops (u:Bs) {r:Bs} (hr:Stops r):scalS (u++r)=scalS u:=by
 unfold scalS;rw[splitD_stops u hr,tok_stops u hr,List.take_append_of_le_length (splitD_len u)]
end Go.Proofs.YtdgjgcepbkanhaaGreatDoor.Pl
