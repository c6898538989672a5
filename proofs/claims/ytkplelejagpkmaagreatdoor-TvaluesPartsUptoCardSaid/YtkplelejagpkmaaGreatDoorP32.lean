/-
 The walks and plain laws that the claim rests on, part 32.
-/
import Derived.Test.YtkplelejagpkmaaGreatDoorP15
import Derived.Test.YtkplelejagpkmaaGreatDoorP27
set_option maxHeartbeats 16000000
set_option linter.all false
set_option linter.unusedVariables false
set_option linter.unusedSimpArgs false
namespace Go.Proofs.YtkplelejagpkmaaGreatDoor.Pl
def Stops (r:Bs):Prop:=r=[]∨∃c t,r=c::t∧(c=9∨c=10∨c=13∨c=32∨c=35∨c=44∨c=93∨c=125)∧(c=32→∀d t',t=d::t'→d.toNat<48∨57<d.toNat)
theorem stops_head {r:Bs} (h:Stops r) (p:UInt8→Bool) (hp:∀c:UInt8,(c=9∨c=10∨c=13∨c=32∨c=35∨c=44∨c=93∨c=125)→p c=false) (u:Bs):(u++r).takeWhile p=u.takeWhile p:=by
 induction u with
 | nil =>
  rcases h with rfl|⟨c,t,rfl,hc,_⟩
  · rfl
  rw[List.nil_append,List.takeWhile_cons,if_neg (by rw[hp c hc];simp)];rfl
 | cons a u ih=>rw[List.cons_append,List.takeWhile_cons,List.takeWhile_cons,ih]
theorem drop_app (u r:Bs) (k:Nat) (h:k≤u.length):(u++r).drop k=u.drop k++r:=by
 rw[List.drop_append,show k-u.length=0 by omega];rfl
theorem formM_stops (f:Bs) (hf:∀w∈f,w=57∨w=45∨w=58) (u:Bs) {r:Bs} (hr:Stops r):formM (u++r) f=formM u f:=by
 induction f generalizing u with
 | nil=>unfold formM;cases u <;> cases r <;> rfl
 | cons w f ih =>
  cases u with
  | nil =>
   rcases hr with rfl|⟨c,t,rfl,hc,_⟩
   · rfl
   have hw:=hf w (by simp);have:fits w c=false:=by
    rcases hw with rfl|rfl|rfl <;> rcases hc with rfl|rfl|rfl|rfl|rfl|rfl|rfl|rfl <;> decide
   rw[List.nil_append];unfold formM;rw[this,Bool.false_and]
  | cons c u =>
   rw[List.cons_append];unfold formM;rw[ih (fun w hw=>hf w (List.mem_cons_of_mem _ hw)) u]
theorem heads_app (p:UInt8→Bool) (u:Bs) {r:Bs} (hr:Stops r) (hp:∀c:UInt8,(c=9∨c=10∨c=13∨c=32∨c=35∨c=44∨c=93∨c=125)→p c=false):heads p (u++r)=heads p u:=by
 cases u with
 | nil =>
  rcases hr with rfl|⟨c,t,rfl,hc,_⟩
  · rfl
  exact hp c hc
 | cons c u=>rfl
theorem clockP_stops (u:Bs) {r:Bs} (hr:Stops r):clockP (u++r)=clockP u:=by
 unfold clockP;rw[formM_stops timeF (by decide) u hr]
 split
 · rename_i h
   have hl:=formM_len _ _ h;have h8:timeF.length=8:=rfl;rw[List.take_append_of_le_length (by omega),drop_app u r 8 (by omega),heads_app isDot _ hr (by rintro c (rfl|rfl|rfl|rfl|rfl|rfl|rfl|rfl) <;> decide)];cases hd:heads isDot (u.drop 8) with
   | false=>rfl
   | true =>
    have h9:9≤u.length:=by
     cases hu:u.drop 8 with
     | nil=>rw[hu]at hd;cases hd
     | cons c v =>
      have:=congrArg List.length hu;rw[List.length_drop]at this;simp only[List.length_cons]at this;omega
    rw[drop_app u r 9 h9,stops_head hr isDec (by rintro c (rfl|rfl|rfl|rfl|rfl|rfl|rfl|rfl) <;> decide)]
 rfl
theorem zoneP_stops (u:Bs) {r:Bs} (hr:Stops r):zoneP (u++r)=zoneP u:=by
 cases u with
 | nil =>
  rcases hr with rfl|⟨c,t,rfl,hc,_⟩
  · rfl
  rw[List.nil_append];unfold zoneP;have h1:¬(c.toNat=90∨c.toNat=122):=by rcases hc with rfl|rfl|rfl|rfl|rfl|rfl|rfl|rfl <;> decide
  have h2:isSign c=false:=by rcases hc with rfl|rfl|rfl|rfl|rfl|rfl|rfl|rfl <;> decide
  simp only;rw[if_neg h1,h2];rfl
 | cons c u =>
  rw[List.cons_append];unfold zoneP;simp only;rw[formM_stops zoneF (by decide) u hr]
  split
  · rfl
  split
  · rename_i h
    simp only[Bool.and_eq_true]at h;have hl:=formM_len _ _ h.2;have h5:zoneF.length=5:=rfl;rw[←List.cons_append,List.take_append_of_le_length (by simp;omega)]
  rfl
theorem splitD_stops (u:Bs) {r:Bs} (hr:Stops r):splitD (u++r)=splitD u:=by
 unfold splitD;rw[formM_stops dateF (by decide) u hr]
 split
 · rename_i h
   have hl:=formM_len _ _ h;have h10:dateF.length=10:=rfl;rw[List.take_append_of_le_length (by omega),drop_app u r 10 (by omega)];by_cases h11:11≤u.length
   · have hh:heads isTee (u.drop 10++r)=heads isTee (u.drop 10):=by
      cases hu:u.drop 10 with
      | nil =>
       have:=congrArg List.length hu;rw[List.length_drop]at this;simp only[List.length_nil]at this;omega
      | cons c v=>rfl
     rw[hh,drop_app u r 11 h11,clockP_stops _ hr]
     split
     · have hc:=clockP_len (u.drop 11);rw[List.length_drop]at hc;obtain⟨t,p,hcp⟩:∃t p,clockP (u.drop 11)=(t,p):=⟨_,_,rfl⟩
       rw[hcp]at hc ⊢;simp only at hc ⊢;rw[drop_app u r _ (by omega),zoneP_stops _ hr]
     rfl
   have hu:u.drop 10=[]:=List.drop_eq_nil_of_le (by omega);rw[hu,List.nil_append];have h2:heads isTee ([]:Bs)=false:=rfl;rw[h2];rcases hr with rfl|⟨c,t,rfl,hc,ht⟩
   · rfl
   by_cases h32:c=32
   · subst h32;have hd:(u++32::t).drop 11=t:=by
      rw[List.drop_append,List.drop_eq_nil_of_le (by omega),show 11-u.length=1 by omega];rfl
     rw[hd];have hf:formM t timeF=false:=by
      cases t with
      | nil=>rfl
      | cons d t' =>
       have:=ht rfl d t' rfl;unfold timeF formM;have hfit:fits 57 d=false:=by
        unfold fits;rw[if_pos (by decide)];simp only[Bool.and_eq_false_iff,decide_eq_false_iff_not];omega
       rw[hfit,Bool.false_and]
     have hcl:clockP t=([],[]):=by unfold clockP;rw[hf];rfl
     rw[hcl];rfl
   have:heads isTee (c::t)=false:=by
    show isTee c=false;rcases hc with rfl|rfl|rfl|rfl|rfl|rfl|rfl|rfl <;> first|decide|exact absurd rfl h32
   rw[this];rfl
 rw[clockP_stops _ hr]
theorem tok_stops (u:Bs) {r:Bs} (hr:Stops r):tok (u++r)=tok u:=by
 unfold tok;exact stops_head hr isPart (by rintro c (rfl|rfl|rfl|rfl|rfl|rfl|rfl|rfl) <;> decide) u
theorem scalS_stops (u:Bs) {r:Bs} (hr:Stops r):scalS (u++r)=scalS u:=by
 unfold scalS;rw[splitD_stops u hr,tok_stops u hr,List.take_append_of_le_length (splitD_len u)]
end Go.Proofs.YtkplelejagpkmaaGreatDoor.Pl
namespace Go.Proofs.YtkplelejagpkmaaGreatDoor.Pl
def Loc {α : Type} (F:Bs→Res (α × Nat)):Prop:=∀x r1 r2 v k,Stops r1→Stops r2→F (x++r1) = .ok (v,k)→k≤x.length→F (x++r2) = .ok (v,k)
structure EnvOk (E:Env):Prop where
 strT:∀l,E.str l ≠ .non
 strK:∀l t k,E.str l = .ok (t,k)→1≤k∧k≤l.length
 strB:∀l c p,E.str l = .bad c p→p≤l.length∧c≠0
 strL:Loc E.str
 scalT:∀l,E.scal l ≠ .non
 scalK:∀l k t m,E.scal l = .ok (k,t,m)→1≤m∧m≤l.length∧k<7
 scalB:∀l c p,E.scal l = .bad c p→c≠0
 scalL:∀x r1 r2 k t m,Stops r1→Stops r2→E.scal (x++r1) = .ok (k,t,m)→m≤x.length→E.scal (x++r2) = .ok (k,t,m)
theorem byteAt_lt {s:Bs} {n c:Nat} (h:byteAt s n=c) (hc:c≠0):n<s.length:=by
 unfold byteAt at h
 split at h
 · rename_i x hx;exact (List.getElem?_eq_some_iff.1 hx).1
 exact absurd h.symm hc
theorem gapF_le:∀(f:Nat) (l:Bs),(∀k,gapF f l = .ok k→k≤l.length)∧(∀c p,gapF f l = .bad c p→p≤l.length∧c=3):=by
 intro f
 induction f with
 | zero=>intro l;exact⟨fun k h=>by simp[gapF]at h;omega,fun c p h=>by simp[gapF]at h⟩
 | succ f ih =>
  intro l;unfold gapF;cases hs:gapStep l with
  | bad c p =>
   refine⟨fun k h=>by (simp at h),fun c' p' h=>?_⟩;cases h;unfold gapStep at hs;simp only at hs
   split at hs <;> cases hs
   rename_i hh
   have:=congrArg List.length hh;rw[List.length_drop]at this;simp at this;exact⟨by omega,rfl⟩
  | ok n =>
   have hn:=gapStep_le l n hs;cases n with
   | zero=>exact⟨fun k h=>by (simp only[Out.ok.injEq]at h;omega),fun c p h=>by (simp at h)⟩
   | succ n =>
    obtain⟨i1,i2⟩:=ih (l.drop (n+1));rw[List.length_drop]at i1 i2;simp only;cases hg:gapF f (l.drop (n+1)) with
    | ok k=>exact⟨fun k' h=>by (simp only[Out.ok.injEq]at h;have:=i1 k hg;omega),fun c p h=>by (simp at h)⟩
    | bad c p =>
     refine⟨fun k h=>by (simp at h),fun c' p' h=>?_⟩;cases h;have:=i2 _ _ hg;exact⟨by omega,this.2⟩
theorem gapAt_le {s:Bs} {n g:Nat} (h:gapAt s n = .ok g) (hn:n≤s.length):n≤g∧g≤s.length:=by
 unfold gapAt gap at h
 split at h
 · cases h
 rename_i k hk
 have:=(gapF_le _ _).1 _ hk;rw[List.length_drop]at this;cases h;omega
theorem gapAt_bad_le {s:Bs} {n c p:Nat} (h:gapAt s n = .bad c p) (hn:n≤s.length):p≤s.length∧c≠0:=by
 unfold gapAt gap at h
 split at h
 · rename_i c' p' hk
   have:=(gapF_le _ _).2 _ _ hk;rw[List.length_drop]at this;cases h;exact⟨by omega,by omega⟩
 cases h
theorem long_len (l:Bs) (h:long l=true):3≤l.length:=by
 unfold long at h
 split at h <;> simp_all
theorem word_le {E:Env} (hE:EnvOk E) {s:Bs} {n:Nat} (hn:n≤s.length):(∀t e,word E s n = .ok (t,e)→n<e∧e≤s.length)∧(∀c p,word E s n = .bad c p→p≤s.length∧c≠0)∧word E s n ≠ .non:=by
 unfold word
 split
 · rename_i hl
   have:=long_len _ hl;rw[List.length_drop]at this;exact⟨fun t e h=>by (simp only[Res.ok.injEq,Prod.mk.injEq]at h;omega),fun c p h=>by (simp at h),by simp⟩
 split
 · rename_i hb
   cases hs:E.str (s.drop n) with
   | non=>exact absurd hs (hE.strT _)
   | bad c p =>
    have:=hE.strB _ _ _ hs;rw[List.length_drop]at this;exact⟨fun t e h=>by (simp at h),fun c' p' h=>by (cases h;exact⟨by omega,this.2⟩),by simp⟩
   | ok r =>
    obtain⟨t,k⟩:=r;have:=hE.strK _ _ _ hs;rw[List.length_drop]at this;exact⟨fun t e h=>by (simp only[Res.ok.injEq,Prod.mk.injEq]at h;omega),fun c p h=>by (simp at h),by simp⟩
 rename_i hb
 have h2:bareRun (s.drop n)≤(s.drop n).length:=takeWhile_length_le _ _;rw[List.length_drop]at h2;exact⟨fun t e h=>by (simp only[Res.ok.injEq,Prod.mk.injEq]at h;omega),fun c p h=>by (simp at h),by simp⟩
theorem keyF_le {E:Env} (hE:EnvOk E) {s:Bs}:∀(f n:Nat) (acc:List KW),n≤s.length→s.length<n+f →
    (∀ws e,keyF E s f n acc = .ok (ws,e)→n<e∧e≤s.length∧∃t,ws=acc++t∧t≠[]∧(∀x∈t,n≤x.2.1∧x.2.1<x.2.2∧x.2.2≤e)∧t.getLast?.map (·.2.2)=some e)∧(∀c p,keyF E s f n acc = .bad c p→p≤s.length∧c≠0)∧keyF E s f n acc ≠ .non:=by
 intro f
 induction f with
 | zero=>intro n acc h1 h2;omega
 | succ f ih =>
  intro n acc hn hf;obtain⟨w1,w2,w3⟩:=word_le hE hn;unfold keyF;cases hw:word E s n with
  | non=>exact absurd hw w3
  | bad c p=>exact⟨fun ws e h=>by (simp at h),fun c' p' h=>by (cases h;exact w2 _ _ hw),by simp⟩
  | ok r =>
   obtain⟨t,e0⟩:=r;obtain⟨h1,h2⟩:=w1 _ _ hw;have hb:=blanksAt_le s e0 h2;simp only
   split
   · rename_i hd
     have hlt:=byteAt_lt hd (by decide);have hb2:=blanksAt_le s (blanksAt s e0+1) (by omega);obtain⟨i1,i2,i3⟩:=ih (blanksAt s (blanksAt s e0+1)) (acc++[(t,n,e0)]) (by omega) (by omega);refine⟨fun ws e h=>?_,i2,i3⟩;obtain⟨h3,h4,t',rfl,h5,h6,h7⟩:=i1 _ _ h;refine⟨by omega,h4,(t,n,e0)::t',by simp,by simp,?_,?_⟩
     · intro x hx;rcases List.mem_cons.1 hx with rfl|hx
       · exact⟨Nat.le_refl _,h1,by simp only;omega⟩
       obtain⟨a1,a2,a3⟩:=h6 x hx;exact⟨by omega,a2,a3⟩
     cases t' with
     | nil=>exact absurd rfl h5
     | cons y l=>rw[List.getLast?_cons_cons];exact h7
   refine⟨fun ws e h=>?_,fun c p h=>by (simp at h),by simp⟩;simp only[Res.ok.injEq,Prod.mk.injEq]at h;obtain⟨rfl,rfl⟩:=h;refine⟨h1,h2,[(t,n,e0)],rfl,by simp,?_,rfl⟩;intro x hx;rw[List.mem_singleton]at hx;subst hx;exact⟨Nat.le_refl _,h1,Nat.le_refl _⟩
theorem keyS_le {E:Env} (hE:EnvOk E) {s:Bs} {n:Nat} (hn:n≤s.length) :
    (∀ws e,keyS E s n = .ok (ws,e)→n<e∧e≤s.length∧ws≠[]∧(∀x∈ws,n≤x.2.1∧x.2.1<x.2.2∧x.2.2≤e)∧ws.getLast?.map (·.2.2)=some e)∧(∀c p,keyS E s n = .bad c p→p≤s.length∧c≠0)∧keyS E s n ≠ .non:=by
 obtain⟨h1,h2,h3⟩:=keyF_le hE (s:=s) (s.length+2) n [] hn (by omega);refine⟨fun ws e h=>?_,h2,h3⟩;obtain⟨a,b,t,rfl,c,d,e'⟩:=h1 _ _ h;exact⟨a,b,c,d,e'⟩
def VLe (s:Bs) (V:ValF):Prop:=∀d n st,n≤s.length→(∀i e st',V d n st = .ok (i,e,st')→n<e∧e≤s.length)∧(∀c p,V d n st = .bad c p→p≤s.length∧c≠0)
theorem way_bad (table:Nat) (M:Nat):∀(ws:List KW) (into d:Nat) (st:Nds) (c p:Nat),way table ws into d st = .bad c p→(∀x∈ws,x.2.1≤M)→p≤M∧c≠0:=by
 intro ws
 induction ws with
 | nil=>intro into d st c p h;simp[way]at h
 | cons x rest ih =>
  intro into d st c p h hM;obtain⟨w,a,b⟩:=x;have ha:a≤M:=hM (w,a,b) (by simp);have hr:∀x∈rest,x.2.1≤M:=fun x hx=>hM x (List.mem_cons_of_mem _ hx)
  unfold way at h
  split at h
  · cases h
  · split at h
    · cases h;exact⟨ha,by decide⟩
    split at h
    · exact ih _ _ _ _ _ h hr
    cases h;exact⟨ha,by decide⟩
  split at h
  · cases h
  split at h
  · cases h;exact⟨ha,by decide⟩
  split at h
  · exact ih _ _ _ _ _ h hr
  cases h
theorem pairS_le {E:Env} (hE:EnvOk E) {s:Bs} {V:ValF} (hV:VLe s V) (table n d:Nat) (st:Nds) (hn:n≤s.length) :
    (∀e st',pairS E V s table n d st = .ok (e,st')→n<e∧e≤s.length)∧(∀c p,pairS E V s table n d st = .bad c p→p≤s.length∧c≠0):=by
 obtain⟨k1,k2,k3⟩:=keyS_le hE hn;unfold pairS;cases hk:keyS E s n with
 | non=>exact absurd hk k3
 | bad c p=>exact⟨fun e st' h=>by (simp at h),fun c' p' h=>by (cases h;exact k2 _ _ hk)⟩
 | ok r =>
  obtain⟨ws,e⟩:=r;obtain⟨h1,h2,h3,h4,h5⟩:=k1 _ _ hk;simp only;cases hw:way table ws table d st with
  | non=>exact⟨fun e st' h=>by (simp at h),fun c' p' h=>by (simp at h)⟩
  | bad c p=>exact⟨fun e st' h=>by (simp at h),fun c' p' h=>by (cases h;exact way_bad table s.length ws _ _ _ _ _ hw (fun x hx=>by have:=h4 x hx;omega))⟩
  | ok r2 =>
   obtain⟨into,d',st'⟩:=r2;have hb:=blanksAt_le s e h2;simp only
   split
   · rename_i h61
     have hlt:=byteAt_lt h61 (by decide);have hb2:=blanksAt_le s (blanksAt s e+1) (by omega);obtain⟨v1,v2⟩:=hV (d'+1) (blanksAt s (blanksAt s e+1)) st' (by omega);cases hv:V (d'+1) (blanksAt s (blanksAt s e+1)) st' with
     | non=>exact⟨fun e st' h=>by (simp at h),fun c' p' h=>by (simp at h)⟩
     | bad c p=>exact⟨fun e st' h=>by (simp at h),fun c' p' h=>by (cases h;exact v2 _ _ hv)⟩
     | ok r3 =>
      obtain⟨i,e2,st2⟩:=r3;obtain⟨g1,g2⟩:=v1 _ _ _ hv;simp only
      split
      · exact⟨fun e st' h=>by (simp at h),fun c' p' h=>by (simp at h)⟩
      split
      · exact⟨fun e' st' h=>by (simp only[Res.ok.injEq,Prod.mk.injEq]at h;omega),fun c' p' h=>by (simp at h)⟩
      exact⟨fun e st' h=>by (simp at h),fun c' p' h=>by (simp at h)⟩
   exact⟨fun e st' h=>by (simp at h),fun c' p' h=>by (cases h;exact⟨hb.2,by decide⟩)⟩
theorem tabF_le {E:Env} (hE:EnvOk E) {s:Bs} {V:ValF} (hV:VLe s V) (table d:Nat):∀(f n:Nat) (st:Nds),n≤s.length →
    (∀e st',tabF E V s table d f n st = .ok (e,st')→n<e∧e<s.length)∧(∀c p,tabF E V s table d f n st = .bad c p→p≤s.length∧c≠0):=by
 intro f
 induction f with
 | zero=>intro n st hn;exact⟨fun e st' h=>by (simp[tabF]at h),fun c' p' h=>by (simp[tabF]at h)⟩
 | succ f ih =>
  intro n st hn;obtain⟨p1,p2⟩:=pairS_le hE hV table n d st hn;unfold tabF;cases hp:pairS E V s table n d st with
  | non=>exact⟨fun e st' h=>by (simp at h),fun c' p' h=>by (simp at h)⟩
  | bad c p=>exact⟨fun e st' h=>by (simp at h),fun c' p' h=>by (cases h;exact p2 _ _ hp)⟩
  | ok r =>
   obtain⟨e,st1⟩:=r;obtain⟨h1,h2⟩:=p1 _ _ hp;have hb:=blanksAt_le s e h2;simp only
   split
   · rename_i h3
     have:=byteAt_lt h3 (by decide);exact⟨fun e' st' h=>by (simp only[Res.ok.injEq,Prod.mk.injEq]at h;omega),fun c' p' h=>by (simp at h)⟩
   split
   · rename_i h3
     have hlt:=byteAt_lt h3 (by decide);have hb2:=blanksAt_le s (blanksAt s e+1) (by omega);obtain⟨i1,i2⟩:=ih (blanksAt s (blanksAt s e+1)) st1 (by omega);exact⟨fun e' st' h=>by (have:=i1 _ _ h;omega),i2⟩
   exact⟨fun e st' h=>by (simp at h),fun c' p' h=>by (cases h;exact⟨hb.2,by decide⟩)⟩
theorem tableS_le {E:Env} (hE:EnvOk E) {s:Bs} {V:ValF} (hV:VLe s V) (d n:Nat) (st:Nds) (hn:n<s.length) :
    (∀i e st',tableS E V s d n st = .ok (i,e,st')→n<e∧e≤s.length)∧(∀c p,tableS E V s d n st = .bad c p→p≤s.length∧c≠0):=by
 have hb:=blanksAt_le s (n+1) (by omega);unfold tableS
 split
 · exact⟨fun i e st' h=>by (simp at h),fun c' p' h=>by (cases h;exact⟨by omega,by decide⟩)⟩
 split
 · simp only
   split
   · exact⟨fun i e st' h=>by (simp at h),fun c' p' h=>by (simp at h)⟩
   · rename_i c p hp
     refine⟨fun i e st' h=>by (simp at h),fun c' p' h=>?_⟩;cases h
     split at hp
     · cases hp
     exact (tabF_le hE hV _ _ _ _ _ hb.2).2 _ _ hp
   rename_i e1 st1 hp
   have:n<e1∧e1<s.length:=by
    split at hp
    · rename_i h3
      have:=byteAt_lt h3 (by decide);cases hp;omega
    have:=(tabF_le hE hV _ _ _ _ _ hb.2).1 _ _ hp;omega
   split
   · exact⟨fun i e st' h=>by (simp only[Res.ok.injEq,Prod.mk.injEq]at h;omega),fun c' p' h=>by (simp at h)⟩
   exact⟨fun i e st' h=>by (simp at h),fun c' p' h=>by (simp at h)⟩
 exact⟨fun i e st' h=>by (simp at h),fun c' p' h=>by (simp at h)⟩
theorem listF_le {s:Bs} {V:ValF} (hV:VLe s V) (d:Nat):∀(f n:Nat) (subs:List Nat) (st:Nds),n≤s.length →
    (∀l e st',listF V s d f n subs st = .ok (l,e,st')→n≤e∧e<s.length)∧(∀c p,listF V s d f n subs st = .bad c p→p≤s.length∧c≠0):=by
 intro f
 induction f with
 | zero=>intro n subs st hn;exact⟨fun l e st' h=>by (simp[listF]at h),fun c' p' h=>by (simp[listF]at h)⟩
 | succ f ih =>
  intro n subs st hn;unfold listF
  split
  · rename_i h3
    have:=byteAt_lt h3 (by decide);exact⟨fun l e st' h=>by (simp only[Res.ok.injEq,Prod.mk.injEq]at h;omega),fun c' p' h=>by (simp at h)⟩
  obtain⟨v1,v2⟩:=hV (d+1) n st hn;cases hv:V (d+1) n st with
  | non=>exact⟨fun l e st' h=>by (simp at h),fun c' p' h=>by (simp at h)⟩
  | bad c p=>exact⟨fun l e st' h=>by (simp at h),fun c' p' h=>by (cases h;exact v2 _ _ hv)⟩
  | ok r =>
   obtain⟨i,e,st1⟩:=r;obtain⟨h1,h2⟩:=v1 _ _ _ hv;simp only
   split
   · exact⟨fun l e st' h=>by (simp at h),fun c' p' h=>by (simp at h)⟩
   cases hg:gapAt s e with
   | bad c p=>exact⟨fun l e st' h=>by (simp at h),fun c' p' h=>by (cases h;exact gapAt_bad_le hg h2)⟩
   | ok g =>
    obtain⟨g1,g2⟩:=gapAt_le hg h2;simp only
    split
    · rename_i h3
      have:=byteAt_lt h3 (by decide);exact⟨fun l e st' h=>by (simp only[Res.ok.injEq,Prod.mk.injEq]at h;omega),fun c' p' h=>by (simp at h)⟩
    split
    · rename_i h3
      have hlt:=byteAt_lt h3 (by decide);cases hg2:gapAt s (g+1) with
      | bad c p=>exact⟨fun l e st' h=>by (simp at h),fun c' p' h=>by (cases h;exact gapAt_bad_le hg2 (by omega))⟩
      | ok g' =>
       obtain⟨g3,g4⟩:=gapAt_le hg2 (by omega);obtain⟨i1,i2⟩:=ih g' (subs++[i]) st1 g4;exact⟨fun l e st' h=>by (have:=i1 _ _ _ h;omega),i2⟩
    exact⟨fun l e st' h=>by (simp at h),fun c' p' h=>by (cases h;exact⟨g2,by decide⟩)⟩
theorem listS_le {s:Bs} {V:ValF} (hV:VLe s V) (d n:Nat) (st:Nds) (hn:n<s.length) :
    (∀i e st',listS V s d n st = .ok (i,e,st')→n<e∧e≤s.length)∧(∀c p,listS V s d n st = .bad c p→p≤s.length∧c≠0):=by
 unfold listS
 split
 · exact⟨fun i e st' h=>by (simp at h),fun c' p' h=>by (cases h;exact⟨by omega,by decide⟩)⟩
 cases hg:gapAt s (n+1) with
 | bad c p=>exact⟨fun l e st' h=>by (simp at h),fun c' p' h=>by (cases h;exact gapAt_bad_le hg (by omega))⟩
 | ok g =>
  obtain⟨g1,g2⟩:=gapAt_le hg (by omega);obtain⟨l1,l2⟩:=listF_le hV d (s.length+2) g [] st g2;simp only
  split
  · exact⟨fun i e st' h=>by (simp at h),fun c' p' h=>by (simp at h)⟩
  · rename_i c p hp
    exact⟨fun i e st' h=>by (simp at h),fun c' p' h=>by (cases h;exact l2 _ _ hp)⟩
  rename_i subs e st1 hp
  have:=l1 _ _ _ hp
  split
  · exact⟨fun i e st' h=>by (simp only[Res.ok.injEq,Prod.mk.injEq]at h;omega),fun c' p' h=>by (simp at h)⟩
  exact⟨fun i e st' h=>by (simp at h),fun c' p' h=>by (simp at h)⟩
theorem valueF_le {E:Env} (hE:EnvOk E) (s:Bs):∀f,VLe s (valueF E s f):=by
 intro f
 induction f with
 | zero=>intro d n st hn;exact⟨fun i e st' h=>by (simp[valueF]at h),fun c p h=>by (simp[valueF]at h)⟩
 | succ f ih =>
  intro d n st hn;unfold valueF;simp only
  split
  · cases hs:E.str (s.drop n) with
    | non=>exact absurd hs (hE.strT _)
    | bad c p =>
     have:=hE.strB _ _ _ hs;rw[List.length_drop]at this;exact⟨fun i e st' h=>by (simp at h),fun c' p' h=>by (cases h;exact⟨by omega,this.2⟩)⟩
    | ok r =>
     obtain⟨t,m⟩:=r;have:=hE.strK _ _ _ hs;rw[List.length_drop]at this;simp only
     split
     · exact⟨fun i e st' h=>by (simp only[Res.ok.injEq,Prod.mk.injEq]at h;omega),fun c' p' h=>by (simp at h)⟩
     exact⟨fun i e st' h=>by (simp at h),fun c' p' h=>by (simp at h)⟩
  split
  · rename_i h3
    exact listS_le ih d n st (byteAt_lt h3 (by decide))
  split
  · rename_i h3
    exact tableS_le hE ih d n st (byteAt_lt h3 (by decide))
  cases hs:E.scal (s.drop n) with
  | non=>exact absurd hs (hE.scalT _)
  | bad c p=>exact⟨fun i e st' h=>by (simp at h),fun c' p' h=>by (cases h;exact⟨hn,hE.scalB _ _ _ hs⟩)⟩
  | ok r =>
   obtain⟨k,t,m⟩:=r;have:=hE.scalK _ _ _ _ hs;rw[List.length_drop]at this;simp only
   split
   · exact⟨fun i e st' h=>by (simp only[Res.ok.injEq,Prod.mk.injEq]at h;omega),fun c' p' h=>by (simp at h)⟩
   exact⟨fun i e st' h=>by (simp at h),fun c' p' h=>by (simp at h)⟩
end Go.Proofs.YtkplelejagpkmaaGreatDoor.Pl
namespace Go.Proofs.YtkplelejagpkmaaGreatDoor.Pl
structure Wn (N i:Nat) (nd:Nd):Prop where
 len:nd.kind=8→nd.keys.length=nd.subs.length∧nd.spots.length=nd.subs.length
 up:nd.subs.Pairwise (· < ·)
 lt:∀x∈nd.subs,x<N
 own:nd.owner≠0→nd.kind=8∧nd.owner≤i
def WF (st:Nds):Prop:=∀i nd,st[i]?=some nd→Wn st.length i nd
def Keep (b:Nat) (st st':Nds):Prop:=∀j,j<b→st'[j]?=st[j]?
theorem Keep.refl (b:Nat) (st:Nds):Keep b st st:=fun _ _=>rfl
theorem Keep.trans {b:Nat} {x y z:Nds} (h:Keep b x y) (k:Keep b y z):Keep b x z:=fun j hj=>(k j hj).trans (h j hj)
theorem Keep.mono {b b':Nat} {x y:Nds} (h:Keep b x y) (hb:b'≤b):Keep b' x y:=fun j hj=>h j (by omega)
theorem Keep.app (st t:Nds) (b:Nat) (hb:b≤st.length):Keep b st (st++t):=fun j hj=>List.getElem?_append_left (by omega)
theorem up_len (l:List Nat) (N:Nat) (hu:l.Pairwise (· < ·)) (hl:∀x∈l,x<N):l.length≤N:=by
 induction l generalizing N with
 | nil=>simp
 | cons a l ih =>
  have h1:=List.pairwise_cons.1 hu;have hm:∀(l:List Nat) (a N:Nat),(∀x∈l,a<x)→l.Pairwise (· < ·)→(∀x∈l,x<N)→a<N→l.length+a<N:=by
   intro l
   induction l with
   | nil=>intro a N _ _ _ h;simpa using h
   | cons b l ih =>
    intro a N h1 h2 h3 h4;have h5:=List.pairwise_cons.1 h2;have:=ih b N h5.1 h5.2 (fun x hx=>h3 x (List.mem_cons_of_mem _ hx)) (h3 b (by simp));have:=h1 b (by simp);simp;omega
  have:=hm l a N h1.1 h1.2 (fun x hx=>hl x (List.mem_cons_of_mem _ hx)) (hl a (by simp));simp;omega
theorem Wn.mono {N M i:Nat} {nd:Nd} (h:Wn N i nd) (hm:N≤M):Wn M i nd:=⟨h.len,h.up,fun x hx=>Nat.lt_of_lt_of_le (h.lt x hx) hm,h.own⟩
theorem WF.app {st:Nds} (h:WF st) (nd:Nd) (hn:Wn (st.length+1) st.length nd):WF (st++[nd]):=by
 intro i x hx;rw[List.length_append,List.length_singleton];by_cases hi:i<st.length
 · rw[List.getElem?_append_left hi]at hx;exact (h i x hx).mono (by omega)
 have h2:=(List.getElem?_eq_some_iff.1 hx).1;simp only[List.length_append,List.length_singleton]at h2;have:i=st.length:=by omega
 subst this;simp at hx;subst hx;exact hn
theorem get_modify (st:Nds) (t j:Nat) (f:Nd→Nd):(st.modify t f)[j]?=if t=j then st[j]?.map f else st[j]?:=by
 rw[List.getElem?_modify]
 split <;> simp_all
theorem get_put (st:Nds) (t j i:Nat) (w:Bs) (sp:Nat × Nat):(putAt st t w sp i)[j]?=if t=j then st[j]?.map (fun nd=>putNd nd w sp i) else st[j]?:=by
 unfold putAt;rw[List.getElem?_modify]
 split <;> simp
theorem WF.put {st:Nds} (h:WF st) (t i:Nat) (w:Bs) (sp:Nat × Nat) (nd:Nd) (ht:st[t]?=some nd) (hi:∀x∈nd.subs,x<i) (hl:i<st.length):WF (putAt st t w sp i):=by
 intro j x hx;rw[get_put]at hx;have hlen:(putAt st t w sp i).length=st.length:=by unfold putAt;simp
 rw[hlen]
 split at hx
 · rename_i e
   subst e;rw[ht]at hx;simp only[Option.map_some,Option.some.injEq]at hx;subst hx;have h0:=h t nd ht;refine⟨fun hk=>?_,?_,?_,h0.own⟩
   · have:=h0.len hk;simp only[putNd,List.length_append,List.length_singleton];omega
   · show (nd.subs++[i]).Pairwise _;rw[List.pairwise_append];exact⟨h0.up,List.pairwise_singleton _ _,fun a ha b hb=>by rw[List.mem_singleton]at hb;subst hb;exact hi a ha⟩
   intro y hy;rcases List.mem_append.1 hy with hy|hy
   · exact h0.lt y hy
   rw[List.mem_singleton]at hy;omega
 exact h j x hx
theorem kind8_ok {st:Nds} (h:WF st) (hs:st.length≤20000000) (t:Nat) (nd:Nd) (ht:st[t]?=some nd) (hk:nd.kind=8):kind8 st t=true:=by
 have h0:=h t nd ht;have h1:=up_len _ _ h0.up h0.lt;have h2:=h0.len hk;unfold kind8;rw[ht];simp only[Bool.and_eq_true,decide_eq_true_eq,beq_iff_eq];omega
theorem room_ok {st:Nds} (hs:st.length≤20000000):room st=true:=by unfold room;simpa using hs
theorem keyF_len {E:Env} (hE:EnvOk E) {s:Bs}:∀(f n:Nat) (acc ws:List KW) (e:Nat),n≤s.length→keyF E s f n acc = .ok (ws,e)→ws.length+n≤acc.length+e:=by
 intro f
 induction f with
 | zero=>intro n acc ws e _ h;simp[keyF]at h
 | succ f ih =>
  intro n acc ws e hn h;unfold keyF at h;cases hw:word E s n with
  | non=>rw[hw]at h;cases h
  | bad c p=>rw[hw]at h;cases h
  | ok r =>
   obtain⟨t,e0⟩:=r;obtain⟨h1,h2⟩:=(word_le hE hn).1 _ _ hw;have hb:=blanksAt_le s e0 h2;rw[hw]at h;simp only at h
   split at h
   · rename_i hd
     have hlt:=byteAt_lt hd (by decide);have hb2:=blanksAt_le s (blanksAt s e0+1) (by omega);have:=ih _ _ _ _ hb2.2 h;simp only[List.length_append,List.length_singleton]at this;omega
   simp only[Res.ok.injEq,Prod.mk.injEq]at h;obtain⟨rfl,rfl⟩:=h;simp only[List.length_append,List.length_singleton];omega
structure WayOk (table:Nat) (st:Nds) (d k:Nat) (into d':Nat) (st':Nds):Prop where
 wf:WF st'
 len:st'.length≤st.length+k
 ge:st.length≤st'.length
 keep:Keep table st st'
 tab:table≤into
 at':∃nd,st'[into]?=some nd∧nd.kind=8
 kind:∀(j:Nat) nd,st[j]?=some nd→∃nd',st'[j]?=some nd'∧nd'.kind=nd.kind∧nd'.owner=nd.owner
 dep:d≤d'
theorem way_ok (table:Nat):∀(ws:List KW) (into d:Nat) (st:Nds),ws≠[]→WF st→st.length+ws.length≤20000000→table≤into→(∃nd,st[into]?=some nd∧nd.kind=8) →
    way table ws into d st ≠ .non∧∀into' d' st',way table ws into d st = .ok (into',d',st')→WayOk table st d (ws.length-1) into' d' st':=by
 intro ws
 induction ws with
 | nil=>intro into d st h;exact absurd rfl h
 | cons x rest ih =>
  intro into d st _ hw hs hti ⟨nd,hnd,hk8⟩;obtain⟨w,a,b⟩:=x;have hwn:=hw into nd hnd;have hlen8:=hwn.len hk8;simp only[List.length_cons]at hs;have hsub:subOf st into w = .no∨∃i,subOf st into w = .yes i∧i<st.length:=by
   unfold subOf;rw[hnd];simp only;cases hf:nd.keys.findIdx? (fun x=>x==w) with
   | none=>exact .inl rfl
   | some j =>
    right;have hj:=(List.findIdx?_eq_some_iff_findIdx_eq.1 hf).1;have hj2:j<nd.subs.length:=by omega
    simp only;rw[List.getElem?_eq_getElem hj2];have:=hwn.lt _ (List.getElem_mem hj2);simp only;rw[if_pos this];exact⟨_,rfl,this⟩
  unfold way;rcases hsub with hno|⟨i,hyes,hi⟩
  · rw[hno];simp only;cases rest with
    | nil =>
     refine⟨by simp,fun into' d' st' h=>?_⟩;simp only[Res.ok.injEq,Prod.mk.injEq]at h;obtain⟨rfl,rfl,rfl⟩:=h;exact⟨hw,by simp,Nat.le_refl _,Keep.refl _ _,hti,⟨nd,hnd,hk8⟩,fun j nd h=>⟨nd,h,rfl,rfl⟩,Nat.le_refl _⟩
    | cons y r2 =>
     simp only[List.length_cons]at hs ⊢
     split
     · exact⟨by simp,fun into' d' st' h=>by simp at h⟩
     rw[kind8_ok hw (by omega) into nd hnd hk8,room_ok (by omega)];simp only[Bool.and_self,if_true];have hlt:into<st.length:=(List.getElem?_eq_some_iff.1 hnd).1;have hw1:WF (st++[dotNd (table+1)]):=by
      refine hw.app _ ⟨fun _=>⟨rfl,rfl⟩,List.Pairwise.nil,fun x hx=>(by cases hx),fun _=>⟨rfl,?_⟩⟩;show table+1≤st.length;omega
     have hnd1:(st++[dotNd (table+1)])[into]?=some nd:=by rw[List.getElem?_append_left hlt];exact hnd
     have hw2:WF (putAt (st++[dotNd (table+1)]) into w (a,b) st.length):=hw1.put into st.length w (a,b) nd hnd1 hwn.lt (by simp);have hlen2:(putAt (st++[dotNd (table+1)]) into w (a,b) st.length).length=st.length+1:=by unfold putAt;simp
     have hnew:(putAt (st++[dotNd (table+1)]) into w (a,b) st.length)[st.length]?=some (dotNd (table+1)):=by
      rw[get_put,if_neg (by omega)];simp
     obtain⟨i1,i2⟩:=ih st.length (d+1) (putAt (st++[dotNd (table+1)]) into w (a,b) st.length) (by simp) hw2 (by rw[hlen2];simp only[List.length_cons];omega) (by omega) ⟨_,hnew,rfl⟩;refine⟨i1,fun into' d' st' h=>?_⟩;have q:=i2 _ _ _ h;have hkeep:Keep table st (putAt (st++[dotNd (table+1)]) into w (a,b) st.length):=fun j hj=>by
      rw[get_put,if_neg (by omega),List.getElem?_append_left (by omega)]
     refine⟨q.wf,?_,by have:=q.ge;omega,hkeep.trans q.keep,q.tab,q.at',fun j x hx=>?_,by have:=q.dep;omega⟩
     · have:=q.len;simp only[List.length_cons]at this ⊢;omega
     have hj:j<st.length:=(List.getElem?_eq_some_iff.1 hx).1;have:∃x1,(putAt (st++[dotNd (table+1)]) into w (a,b) st.length)[j]?=some x1∧x1.kind=x.kind∧x1.owner=x.owner:=by
      rw[get_put,List.getElem?_append_left hj,hx]
      split
      · exact⟨_,rfl,rfl,rfl⟩
      exact⟨_,rfl,rfl,rfl⟩
     obtain⟨x1,e1,e2,e3⟩:=this;obtain⟨x2,f1,f2,f3⟩:=q.kind j x1 e1;exact⟨x2,f1,by rw[f2,e2],by rw[f3,e3]⟩
  rw[hyes];simp only;cases rest with
  | nil=>exact⟨by simp,fun into' d' st' h=>by simp at h⟩
  | cons y r2 =>
   simp only[List.length_cons]at hs ⊢
   split
   · rename_i ho
     have hig:=List.getElem?_eq_getElem hi;unfold ownerOf at ho;rw[hig]at ho;simp only at ho;have hwi:=(hw i _ hig).own (by omega);obtain⟨i1,i2⟩:=ih i (d+1) st (by simp) hw (by simp only[List.length_cons];omega) (by omega) ⟨_,hig,hwi.1⟩;refine⟨i1,fun into' d' st' h=>?_⟩;have q:=i2 _ _ _ h;exact⟨q.wf,by have:=q.len;simp only[List.length_cons]at this ⊢;omega,q.ge,q.keep,q.tab,q.at',q.kind,by have:=q.dep;omega⟩
   exact⟨by simp,fun into' d' st' h=>by simp at h⟩
structure VOkR (st:Nds) (i e:Nat) (st':Nds):Prop where
 wf:WF st'
 len:st'.length≤e
 lo:st.length≤i
 hi:i<st'.length
 keep:Keep st.length st st'
def VTot (s:Bs) (D:Nat) (V:ValF):Prop:=∀d n st,D≤d→WF st→st.length≤n→n≤s.length→V d n st ≠ .non∧∀i e st',V d n st = .ok (i,e,st')→VOkR st i e st'
theorem pairS_tot {E:Env} (hE:EnvOk E) {s:Bs} (hs:s.length≤20000000) {V:ValF} (hV:VLe s V) {D:Nat} (hT:VTot s D V) (table n d:Nat) (st:Nds) (hD:D≤d+1) (hw:WF st) (hl:st.length≤n) (hn:n≤s.length)
    (ht:∃nd,st[table]?=some nd∧nd.kind=8) :
    pairS E V s table n d st ≠ .non∧∀e st',pairS E V s table n d st = .ok (e,st')→WF st'∧st'.length≤e∧st.length≤st'.length∧Keep table st st'∧∃nd,st'[table]?=some nd∧nd.kind=8:=by
 obtain⟨k1,k2,k3⟩:=keyS_le hE hn;unfold pairS;cases hk:keyS E s n with
 | non=>exact absurd hk k3
 | bad c p=>exact⟨by simp,fun e st' h=>by simp at h⟩
 | ok r =>
  obtain⟨ws,e⟩:=r;obtain⟨h1,h2,h3,h4,h5⟩:=k1 _ _ hk;have hkl:=keyF_len hE _ _ _ _ _ hn hk;simp only[List.length_nil]at hkl;have hpos:0<ws.length:=List.length_pos_iff.2 h3;obtain⟨w1,w2⟩:=way_ok table ws table d st h3 hw (by omega) (Nat.le_refl _) ht;simp only;cases hwy:way table ws table d st with
  | non=>exact absurd hwy w1
  | bad c p=>exact⟨by simp,fun e st' h=>by simp at h⟩
  | ok r2 =>
   obtain⟨into,d',st1⟩:=r2;have q:=w2 _ _ _ hwy;have hb:=blanksAt_le s e h2;simp only
   split
   · rename_i h61
     have hlt:=byteAt_lt h61 (by decide);have hb2:=blanksAt_le s (blanksAt s e+1) (by omega);have hq1:=q.len;have hq2:=q.ge;have hq3:=q.dep;obtain⟨v1,v2⟩:=hT (d'+1) (blanksAt s (blanksAt s e+1)) st1 (by omega) q.wf (by omega) (by omega);have hle:=hV (d'+1) (blanksAt s (blanksAt s e+1)) st1 (by omega);cases hv:V (d'+1) (blanksAt s (blanksAt s e+1)) st1 with
     | non=>exact absurd hv v1
     | bad c p=>exact⟨by simp,fun e st' h=>by simp at h⟩
     | ok r3 =>
      obtain⟨i,e2,st2⟩:=r3;have g:=v2 _ _ _ hv;have hg:=hle.1 _ _ _ hv;obtain⟨nd,hnd,hk8⟩:=q.at';have hil:into<st1.length:=(List.getElem?_eq_some_iff.1 hnd).1;have hnd2:st2[into]?=some nd:=(g.keep into hil).trans hnd;have hg1:=g.len;have hg2:=g.lo;have hg3:=g.hi;have h8:=kind8_ok g.wf (by omega) into nd hnd2 hk8;simp only;cases hgl:ws.getLast? with
      | none=>rw[List.getLast?_eq_none_iff]at hgl;exact absurd hgl h3
      | some kw =>
       obtain⟨w,a,b⟩:=kw;simp only;rw[h8,if_pos rfl];refine⟨by simp,fun e' st' h=>?_⟩;simp only[Res.ok.injEq,Prod.mk.injEq]at h;obtain⟨rfl,rfl⟩:=h;have hlen:(putAt st2 into w (a,b) i).length=st2.length:=by unfold putAt;simp
       have hsl:=(q.wf into nd hnd).lt;refine⟨g.wf.put into i w (a,b) nd hnd2 (fun x hx=>by have:=hsl x hx;omega) hg3,by omega,by omega,?_,?_⟩
       · intro j hj;have:=q.tab;rw[get_put,if_neg (by omega),g.keep j (by omega)];exact q.keep j hj
       obtain⟨nt,ht1,ht2⟩:=ht;obtain⟨n1,e1,e2',e3⟩:=q.kind table nt ht1;have hlt1:table<st1.length:=(List.getElem?_eq_some_iff.1 e1).1;have e4:st2[table]?=some n1:=(g.keep table hlt1).trans e1;rw[get_put,e4]
       split
       · exact⟨_,rfl,by show n1.kind=8;rw[e2',ht2]⟩
       exact⟨_,rfl,by rw[e2',ht2]⟩
   exact⟨by simp,fun e st' h=>by simp at h⟩
theorem tabF_tot {E:Env} (hE:EnvOk E) {s:Bs} (hs:s.length≤20000000) {V:ValF} (hV:VLe s V) {D:Nat} (hT:VTot s D V) (table d:Nat) (hD:D≤d+1):∀(f n:Nat) (st:Nds),s.length<n+f→WF st→st.length≤n→n≤s.length→(∃nd,st[table]?=some nd∧nd.kind=8) →
    tabF E V s table d f n st ≠ .non∧∀e st',tabF E V s table d f n st = .ok (e,st')→WF st'∧st'.length≤e∧st.length≤st'.length∧Keep table st st'∧∃nd,st'[table]?=some nd∧nd.kind=8:=by
 intro f
 induction f with
 | zero=>intro n st h1 _ _ h2;omega
 | succ f ih =>
  intro n st hf hw hl hn ht;obtain⟨p1,p2⟩:=pairS_tot hE hs hV hT table n d st hD hw hl hn ht;have pl:=(pairS_le hE hV table n d st hn).1;unfold tabF;cases hp:pairS E V s table n d st with
  | non=>exact absurd hp p1
  | bad c p=>exact⟨by simp,fun e st' h=>by simp at h⟩
  | ok r =>
   obtain⟨e,st1⟩:=r;obtain⟨h1,h2⟩:=pl _ _ hp;obtain⟨q1,q2,q3,q4,q5⟩:=p2 _ _ hp;have hb:=blanksAt_le s e h2;simp only
   split
   · refine⟨by simp,fun e' st' h=>?_⟩;simp only[Res.ok.injEq,Prod.mk.injEq]at h;obtain⟨rfl,rfl⟩:=h;exact⟨q1,by omega,q3,q4,q5⟩
   split
   · rename_i h3
     have hlt:=byteAt_lt h3 (by decide);have hb2:=blanksAt_le s (blanksAt s e+1) (by omega);obtain⟨i1,i2⟩:=ih (blanksAt s (blanksAt s e+1)) st1 (by omega) q1 (by omega) hb2.2 q5;refine⟨i1,fun e' st' h=>?_⟩;obtain⟨r1,r2,r3,r4,r5⟩:=i2 _ _ h;exact⟨r1,r2,by omega,q4.trans r4,r5⟩
   exact⟨by simp,fun e st' h=>by simp at h⟩
theorem tableS_tot {E:Env} (hE:EnvOk E) {s:Bs} (hs:s.length≤20000000) {V:ValF} (hV:VLe s V) {D:Nat} (hT:VTot s D V) (d n:Nat) (st:Nds) (hD:D≤d+1) (hw:WF st) (hl:st.length≤n) (hn:n<s.length) :
    tableS E V s d n st ≠ .non∧∀i e st',tableS E V s d n st = .ok (i,e,st')→VOkR st i e st':=by
 have hb:=blanksAt_le s (n+1) (by omega);have hw1:WF (st++[tabNd]):=hw.app _ ⟨fun _=>⟨rfl,rfl⟩,List.Pairwise.nil,fun x hx=>(by cases hx),fun h=>absurd rfl h⟩;have hl1:(st++[tabNd]).length=st.length+1:=by simp
 have ht:∃nd,(st++[tabNd])[st.length]?=some nd∧nd.kind=8:=⟨tabNd,by simp,rfl⟩
 obtain⟨t1,t2⟩:=tabF_tot hE hs hV hT st.length d hD (s.length+2) (blanksAt s (n+1)) (st++[tabNd]) (by omega) hw1 (by omega) hb.2 ht;have tl:=(tabF_le hE hV st.length d (s.length+2) (blanksAt s (n+1)) (st++[tabNd]) hb.2).1;unfold tableS
 split
 · exact⟨by simp,fun i e st' h=>by simp at h⟩
 rw[room_ok (by omega),if_pos rfl];simp only;obtain⟨Y,hY⟩:∃Y:Res (Nat × Nds),(if byteAt s (blanksAt s (n+1))=125 then Res.ok (blanksAt s (n+1),st++[tabNd]) else tabF E V s st.length d (s.length+2) (blanksAt s (n+1)) (st++[tabNd]))=Y:=⟨_,rfl⟩
 rw[hY];have hYn:Y ≠ .non∧∀e st',Y = .ok (e,st')→WF st'∧st'.length≤e+1∧st.length+1≤st'.length∧Keep st.length (st++[tabNd]) st'∧(∃nd,st'[st.length]?=some nd∧nd.kind=8)∧e<s.length:=by
  split at hY
  · rename_i h3
    have hlt:=byteAt_lt h3 (by decide);subst hY;refine⟨by simp,fun e st' h=>?_⟩;simp only[Res.ok.injEq,Prod.mk.injEq]at h;obtain⟨rfl,rfl⟩:=h;exact⟨hw1,by omega,by omega,Keep.refl _ _,ht,hlt⟩
  subst hY;refine⟨t1,fun e st' h=>?_⟩;obtain⟨a1,a2,a3,a4,a5⟩:=t2 _ _ h;exact⟨a1,by omega,by omega,a4,a5,(tl _ _ h).2⟩
 clear hY t1 t2 tl;cases Y with
 | non=>exact absurd rfl hYn.1
 | bad c p=>exact⟨by simp,fun i e st' h=>by simp at h⟩
 | ok r =>
  obtain⟨e1,st1⟩:=r;obtain⟨a1,a2,a3,a4,⟨nd,a5,a6⟩,a7⟩:=hYn.2 _ _ rfl;simp only;rw[kind8_ok a1 (by omega) st.length nd a5 a6,if_pos rfl];refine⟨by simp,fun i e st' h=>?_⟩;simp only[Res.ok.injEq,Prod.mk.injEq]at h;obtain⟨rfl,rfl,rfl⟩:=h;refine⟨?_,by simp;omega,Nat.le_refl _,by simp;omega,?_⟩
  · intro j x hx;rw[get_modify]at hx;rw[List.length_modify]
    split at hx
    · rename_i e
      subst e;rw[a5]at hx;simp at hx;subst hx;have h0:=a1 _ _ a5;exact⟨h0.len,h0.up,h0.lt,h0.own⟩
    exact a1 j x hx
  intro j hj;rw[get_modify,if_neg (by omega),a4 j hj,List.getElem?_append_left hj]
theorem listF_tot {s:Bs} (hs:s.length≤20000000) {V:ValF} (hV:VLe s V) {D:Nat} (hT:VTot s D V) (d:Nat) (hD:D≤d+1):∀(f n:Nat) (subs:List Nat) (st:Nds),s.length<n+f→WF st→st.length≤n→n≤s.length→subs.Pairwise (· < ·)→(∀x∈subs,x<st.length) →
    listF V s d f n subs st ≠ .non∧∀l e st',listF V s d f n subs st = .ok (l,e,st')→WF st'∧st'.length≤e∧st.length≤st'.length∧Keep st.length st st'∧l.Pairwise (· < ·)∧(∀x∈l,x<st'.length):=by
 intro f
 induction f with
 | zero=>intro n subs st h1 _ _ h2;omega
 | succ f ih =>
  intro n subs st hf hw hl hn hu hlt;have hsl:=up_len _ _ hu hlt;unfold listF
  split
  · refine⟨by simp,fun l e st' h=>?_⟩;simp only[Res.ok.injEq,Prod.mk.injEq]at h;obtain⟨rfl,rfl,rfl⟩:=h;exact⟨hw,hl,Nat.le_refl _,Keep.refl _ _,hu,hlt⟩
  obtain⟨v1,v2⟩:=hT (d+1) n st hD hw hl hn;have vl:=(hV (d+1) n st hn).1;cases hv:V (d+1) n st with
  | non=>exact absurd hv v1
  | bad c p=>exact⟨by simp,fun l e st' h=>by simp at h⟩
  | ok r =>
   obtain⟨i,e,st1⟩:=r;obtain⟨h1,h2⟩:=vl _ _ _ hv;have q:=v2 _ _ _ hv;have q1:=q.len;have q2:=q.lo;have q3:=q.hi;have hu2:(subs++[i]).Pairwise (· < ·):=by
    rw[List.pairwise_append];exact⟨hu,List.pairwise_singleton _ _,fun a ha b hb=>by rw[List.mem_singleton]at hb;have:=hlt a ha;omega⟩
   have hlt2:∀x∈subs++[i],x<st1.length:=fun x hx=>by
    rcases List.mem_append.1 hx with hx|hx
    · have:=hlt x hx;omega
    rw[List.mem_singleton]at hx;omega
   simp only;rw[if_neg (by omega)];cases hg:gapAt s e with
   | bad c p=>exact⟨by simp,fun l e st' h=>by simp at h⟩
   | ok g =>
    obtain⟨g1,g2⟩:=gapAt_le hg h2;simp only
    split
    · refine⟨by simp,fun l e' st' h=>?_⟩;simp only[Res.ok.injEq,Prod.mk.injEq]at h;obtain⟨rfl,rfl,rfl⟩:=h;exact⟨q.wf,by omega,by omega,q.keep,hu2,hlt2⟩
    split
    · rename_i h3
      have hlt3:=byteAt_lt h3 (by decide);cases hg2:gapAt s (g+1) with
      | bad c p=>exact⟨by simp,fun l e st' h=>by simp at h⟩
      | ok g' =>
       obtain⟨g3,g4⟩:=gapAt_le hg2 (by omega);obtain⟨i1,i2⟩:=ih g' (subs++[i]) st1 (by omega) q.wf (by omega) g4 hu2 hlt2;refine⟨i1,fun l e' st' h=>?_⟩;obtain⟨r1,r2,r3,r4,r5,r6⟩:=i2 _ _ _ h;exact⟨r1,r2,by omega,q.keep.trans (r4.mono (by omega)),r5,r6⟩
    exact⟨by simp,fun l e st' h=>by simp at h⟩
theorem listS_tot {s:Bs} (hs:s.length≤20000000) {V:ValF} (hV:VLe s V) {D:Nat} (hT:VTot s D V) (d n:Nat) (st:Nds) (hD:D≤d+1) (hw:WF st) (hl:st.length≤n) (hn:n<s.length) :
    listS V s d n st ≠ .non∧∀i e st',listS V s d n st = .ok (i,e,st')→VOkR st i e st':=by
 unfold listS
 split
 · exact⟨by simp,fun i e st' h=>by simp at h⟩
 cases hg:gapAt s (n+1) with
 | bad c p=>exact⟨by simp,fun l e st' h=>by simp at h⟩
 | ok g =>
  obtain⟨g1,g2⟩:=gapAt_le hg (by omega);obtain⟨l1,l2⟩:=listF_tot hs hV hT d hD (s.length+2) g [] st (by omega) hw (by omega) g2 List.Pairwise.nil (fun x hx=>by cases hx);have ll:=(listF_le hV d (s.length+2) g [] st g2).1;simp only;cases hf:listF V s d (s.length+2) g [] st with
  | non=>exact absurd hf l1
  | bad c p=>exact⟨by simp,fun l e st' h=>by simp at h⟩
  | ok r =>
   obtain⟨subs,e,st1⟩:=r;obtain⟨a1,a2,a3,a4,a5,a6⟩:=l2 _ _ _ hf;have:=ll _ _ _ hf;simp only;rw[room_ok (by omega),if_pos rfl];refine⟨by simp,fun i e' st' h=>?_⟩;simp only[Res.ok.injEq,Prod.mk.injEq]at h;obtain⟨rfl,rfl,rfl⟩:=h;refine⟨a1.app _ ⟨fun hk=>(by cases hk),a5,fun x hx=>by have:=a6 x hx;omega,fun hk=>absurd rfl hk⟩,by simp;omega,a3,by simp,a4.trans (Keep.app _ _ _ a3)⟩
theorem valueF_tot {E:Env} (hE:EnvOk E) (s:Bs) (hs:s.length≤20000000):∀f,VTot s (259-f) (valueF E s f)∨f=0:=by
 intro f
 induction f with
 | zero=>exact .inr rfl
 | succ f ih =>
  left;intro d n st hD hw hl hn;unfold valueF;simp only;have inner:∀(d:Nat),259-(f+1)≤d→d≤256→VTot s (259-f) (valueF E s f)∧259-f≤d+1:=by
   intro d h1 h2;refine⟨ih.resolve_right (by omega),by omega⟩
  split
  · cases hs':E.str (s.drop n) with
    | non=>exact absurd hs' (hE.strT _)
    | bad c p=>exact⟨by simp,fun l e st' h=>by simp at h⟩
    | ok r =>
     obtain⟨t,m⟩:=r;have:=hE.strK _ _ _ hs';rw[List.length_drop]at this;simp only;rw[room_ok (by omega),if_pos rfl];refine⟨by simp,fun i e' st' h=>?_⟩;simp only[Res.ok.injEq,Prod.mk.injEq]at h;obtain⟨rfl,rfl,rfl⟩:=h;exact⟨hw.app _ ⟨fun hk=>(by cases hk),List.Pairwise.nil,fun x hx=>(by cases hx),fun hk=>absurd rfl hk⟩,by simp;omega,Nat.le_refl _,by simp,Keep.app _ _ _ (Nat.le_refl _)⟩
  split
  · rename_i h3
    have hlt:=byteAt_lt h3 (by decide);by_cases hd:256<d
    · unfold listS;rw[if_pos hd];exact⟨by simp,fun l e st' h=>by simp at h⟩
    obtain⟨j1,j2⟩:=inner d hD (by omega);exact listS_tot hs (valueF_le hE s f) j1 d n st j2 hw hl hlt
  split
  · rename_i h3
    have hlt:=byteAt_lt h3 (by decide);by_cases hd:256<d
    · unfold tableS;rw[if_pos hd];exact⟨by simp,fun l e st' h=>by simp at h⟩
    obtain⟨j1,j2⟩:=inner d hD (by omega);exact tableS_tot hE hs (valueF_le hE s f) j1 d n st j2 hw hl hlt
  cases hs':E.scal (s.drop n) with
  | non=>exact absurd hs' (hE.scalT _)
  | bad c p=>exact⟨by simp,fun l e st' h=>by simp at h⟩
  | ok r =>
   obtain⟨k,t,m⟩:=r;have:=hE.scalK _ _ _ _ hs';rw[List.length_drop]at this;simp only;rw[room_ok (by omega),if_pos rfl];refine⟨by simp,fun i e' st' h=>?_⟩;simp only[Res.ok.injEq,Prod.mk.injEq]at h;obtain⟨rfl,rfl,rfl⟩:=h;exact⟨hw.app _ ⟨fun hk=>by (have hk':k=8:=hk;omega),List.Pairwise.nil,fun x hx=>(by cases hx),fun hk=>absurd rfl hk⟩,by simp;omega,Nat.le_refl _,by simp,Keep.app _ _ _ (Nat.le_refl _)⟩
theorem readS_tot {E:Env} (hE:EnvOk E) (s:Bs) (hs:s.length≤20000000) (n k:Nat) (hn:n≤s.length) :
    readS E s n k ≠ .non∧(∀c p,readS E s n k = .bad c p→p≤s.length∧c≠0)∧(∀i e st,readS E s n k = .ok (i,e,st)→n<e∧e≤s.length∧VOkR [] i e st):=by
 have h0:WF ([]:Nds):=fun i nd h=>by simp at h
 obtain⟨h1,h2⟩:=(valueF_tot hE s hs 258).resolve_right (by decide) (min k 256+1) n [] (by omega) h0 (by simp) hn;obtain⟨h3,h4⟩:=valueF_le hE s 258 (min k 256+1) n [] hn;exact⟨h1,h4,fun i e st h=>⟨(h3 _ _ _ h).1,(h3 _ _ _ h).2,h2 _ _ _ h⟩⟩
end Go.Proofs.YtkplelejagpkmaaGreatDoor.Pl
