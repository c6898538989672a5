/-
 The walks and plain laws that the claim rests on, part 37.
-/
import Derived.Test.YtkplelejagpkmaaGreatDoorM04
import Derived.Test.YtkplelejagpkmaaGreatDoorM34
import Derived.Test.YtkplelejagpkmaaGreatDoorM36
set_option maxHeartbeats 16000000
set_option linter.all false
set_option linter.unusedVariables false
set_option linter.unusedSimpArgs false
namespace Go.Proofs.YtkplelejagpkmaaGreatDoor.Pl
inductive RV2 (b:Nat):Res (Nat × Nat × Nds)→Res (Nat × Nat × Nds)→Prop
 | bad (c p:Nat):RV2 b (.bad c p) (.bad c p)
 | ok (i e:Nat) (st1 st2:Nds):RS b st1 st2→RV2 b (.ok (b+i,e,st1)) (.ok (i,e,st2))
inductive RW2 (b:Nat):Res (Nat × Nds)→Res (Nat × Nds)→Prop
 | bad (c p:Nat):RW2 b (.bad c p) (.bad c p)
 | ok (e:Nat) (st1 st2:Nds):RS b st1 st2→RW2 b (.ok (e,st1)) (.ok (e,st2))
def VF (s:Bs) (b:Nat) (V:ValF):Prop:=∀d n st1 st2,n≤s.length→RS b st1 st2→V d n st1 ≠ .non→RV2 b (V d n st1) (V d n st2)
theorem KR_self (ws:List KW):All2 (KR 0 0) ws ws:=by
 induction ws with
 | nil=>exact .nil
 | cons w ws ih=>exact .cons ⟨rfl,w.2.1,w.2.2,by simp,by simp⟩ ih
theorem way_frame (b table:Nat):∀(ws:List KW) (into d:Nat) (st1 st2:Nds),RS b st1 st2→way (b+table) ws (b+into) d st1 ≠ .non →
    (∀c p,way (b+table) ws (b+into) d st1 = .bad c p→way table ws into d st2 = .bad c p):=by
 intro ws
 induction ws with
 | nil=>intro into d st1 st2 _ h;simp[way]at h
 | cons v rest ih =>
  intro into d st1 st2 hr hne c p h;obtain⟨w,u1,u2⟩:=v;have hsub:=hr.sub into w;unfold way at h hne ⊢;rcases hsub with⟨h1,h2⟩|⟨h1,h2⟩|⟨i,h1,h2⟩
  · rw[h1]at h;cases h
  · rw[h1]at h hne;rw[h2];simp only at h hne ⊢;cases rest with
    | nil=>cases h
    | cons y r2 =>
     simp only at h hne ⊢
     split at h
     · rename_i hd
       rw[if_pos hd];cases h;rfl
     rename_i hd
     rw[if_neg hd]at hne ⊢
     split at h
     · rename_i hkr
       rw[if_pos hkr]at hne;simp only[Bool.and_eq_true]at hkr;have hk8:=hr.kind8 into hkr.1;rw[hk8,hr.room hkr.2];simp only[Bool.and_self,if_true];have hl:=hr.len;have hr2:RS b (putAt (st1++[dotNd (b+table+1)]) (b+into) w (u1,u2) (b+st2.length)) (putAt (st2++[dotNd (table+1)]) into w (u1,u2) st2.length):=by
        have h3:RS b (st1++[dotNd (b+table+1)]) (st2++[dotNd (table+1)]):=hr.app (x:=dotNd (b+table+1)) (y:=dotNd (table+1)) ⟨rfl,rfl,rfl,rfl,rfl,(if_neg (show ¬(dotNd (table+1)).owner=0 from Nat.succ_ne_zero table)).symm ▸ (by show b+table+1=b+(table+1);omega)⟩;exact h3.put into w (u1,u2) (u1,u2) st2.length
       rw[hl]at h hne;exact ih st2.length (d+1) _ _ hr2 hne c p h
     cases h
  rw[h1]at h hne;rw[h2];simp only at h hne ⊢;cases rest with
  | nil=>cases h;rfl
  | cons y r2 =>
   simp only at h hne ⊢;have ho:=hr.owner i;by_cases hoe:ownerOf st2 i=table+1
   · have h0:ownerOf st1 (b+i)=b+table+1:=by rw[ho,hoe,if_neg (by omega)];omega
     rw[if_pos h0]at h hne;rw[if_pos hoe];exact ih i (d+1) st1 st2 hr hne c p h
   have h0:¬ownerOf st1 (b+i)=b+table+1:=by
    rw[ho];split
    · omega
    omega
   rw[if_neg h0]at h;rw[if_neg hoe];cases h;rfl
section
variable {E:Env} (hE:EnvOk E) {s:Bs} {b:Nat} {V:ValF} (hL:VLe s V) (hV:VF s b V)
include hE hL hV
theorem pairS_frame (table n d:Nat) (st1 st2:Nds) (hn:n≤s.length) (hr:RS b st1 st2) (hne:pairS E V s (b+table) n d st1 ≠ .non):RW2 b (pairS E V s (b+table) n d st1) (pairS E V s table n d st2):=by
 unfold pairS at hne ⊢;cases hk:keyS E s n with
 | non=>rw[hk]at hne;exact absurd rfl hne
 | bad c p=>exact .bad c p
 | ok r =>
  obtain⟨ws,e⟩:=r;have hle:=(keyS_le hE hn).1 _ _ hk;have hb:=blanksAt_le s e hle.2.1;rw[hk]at hne;simp only at hne ⊢;cases hw:way (b+table) ws (b+table) d st1 with
  | non=>rw[hw]at hne;exact absurd rfl hne
  | bad c p =>
   rw[way_frame b table ws table d st1 st2 hr (by rw[hw];simp) c p hw];exact .bad c p
  | ok r2 =>
   obtain⟨into,d',st3⟩:=r2;obtain⟨i2,st4,w1,w2,w3⟩:=way_sim b 0 0 ws ws table table d st1 st2 st3 into d' (KR_self ws) hr hw;subst w1;rw[w2];rw[hw]at hne;simp only at hne ⊢
   split
   · rename_i h61
     rw[if_pos h61]at hne;have hlt:=byteAt_lt h61 (by decide);have hb2:=blanksAt_le s (blanksAt s e+1) (by omega);have hv:=hV (d'+1) (blanksAt s (blanksAt s e+1)) st3 st4 hb2.2 w3 (by intro e;rw[e]at hne;exact absurd rfl hne);revert hne;generalize V (d'+1) (blanksAt s (blanksAt s e+1)) st3=X at hv ⊢;generalize V (d'+1) (blanksAt s (blanksAt s e+1)) st4=Y at hv ⊢;intro hne;cases hv with
     | bad c p=>exact .bad c p
     | ok i e2 st5 st6 h56 =>
      simp only at hne ⊢;cases hgl:ws.getLast? with
      | none=>rw[hgl]at hne;exact absurd rfl hne
      | some v =>
       obtain⟨w,a,b'⟩:=v;rw[hgl]at hne;simp only at hne ⊢
       split at hne
       · rename_i h8
         rw[if_pos h8,h56.kind8 i2 h8,if_pos rfl];exact .ok e2 _ _ (h56.put i2 w (a,b') (a,b') i)
       exact absurd rfl hne
   exact .bad 3 _
theorem tabF_frame (table d:Nat):∀(f n:Nat) (st1 st2:Nds),n≤s.length→RS b st1 st2→tabF E V s (b+table) d f n st1 ≠ .non→RW2 b (tabF E V s (b+table) d f n st1) (tabF E V s table d f n st2):=by
 intro f
 induction f with
 | zero=>intro n st1 st2 _ _ h;simp[tabF]at h
 | succ f ih =>
  intro n st1 st2 hn hr hne;unfold tabF at hne ⊢;have hp:=pairS_frame hE hL hV table n d st1 st2 hn hr (by intro e;rw[e]at hne;exact absurd rfl hne);have hle:=(pairS_le hE hL (b+table) n d st1 hn).1;revert hne;generalize pairS E V s (b+table) n d st1=X at hp hle ⊢;generalize pairS E V s table n d st2=Y at hp ⊢;intro hne;cases hp with
  | bad c p=>exact .bad c p
  | ok e st3 st4 h34 =>
   obtain⟨g1,g2⟩:=hle _ _ rfl;have hb:=blanksAt_le s e g2;simp only at hne ⊢
   split
   · exact .ok _ _ _ h34
   rename_i h125
   rw[if_neg h125]at hne
   split
   · rename_i h44
     rw[if_pos h44]at hne;have hlt:=byteAt_lt h44 (by decide);have hb2:=blanksAt_le s (blanksAt s e+1) (by omega);exact ih _ st3 st4 hb2.2 h34 hne
   exact .bad 3 _
theorem tableS_frame (d n:Nat) (st1 st2:Nds) (hn:n<s.length) (hr:RS b st1 st2) (hne:tableS E V s d n st1 ≠ .non):RV2 b (tableS E V s d n st1) (tableS E V s d n st2):=by
 have hb:=blanksAt_le s (n+1) (by omega);have hl:=hr.len;unfold tableS at hne ⊢
 split
 · exact .bad 4 n
 rename_i hd
 rw[if_neg hd]at hne
 split at hne
 · rename_i hroom
   rw[if_pos hroom,if_pos (hr.room hroom)];simp only at hne ⊢;have hr1:RS b (st1++[tabNd]) (st2++[tabNd]):=hr.app ⟨rfl,rfl,rfl,rfl,rfl,rfl⟩;have hin:(if byteAt s (blanksAt s (n+1))=125 then Res.ok (blanksAt s (n+1),st1++[tabNd]) else tabF E V s st1.length d (s.length+2) (blanksAt s (n+1)) (st1++[tabNd])) ≠ .non →
       RW2 b (if byteAt s (blanksAt s (n+1))=125 then Res.ok (blanksAt s (n+1),st1++[tabNd]) else tabF E V s st1.length d (s.length+2) (blanksAt s (n+1)) (st1++[tabNd]))
        (if byteAt s (blanksAt s (n+1))=125 then Res.ok (blanksAt s (n+1),st2++[tabNd]) else tabF E V s st2.length d (s.length+2) (blanksAt s (n+1)) (st2++[tabNd])):=by
    intro hne
    split
    · exact .ok _ _ _ hr1
    rename_i h125
    rw[if_neg h125]at hne;rw[hl]at hne ⊢;exact tabF_frame hE hL hV st2.length d (s.length+2) _ _ _ hb.2 hr1 hne
   revert hin hne;generalize (if byteAt s (blanksAt s (n+1))=125 then Res.ok (blanksAt s (n+1),st1++[tabNd]) else tabF E V s st1.length d (s.length+2) (blanksAt s (n+1)) (st1++[tabNd]))=X;generalize (if byteAt s (blanksAt s (n+1))=125 then Res.ok (blanksAt s (n+1),st2++[tabNd]) else tabF E V s st2.length d (s.length+2) (blanksAt s (n+1)) (st2++[tabNd]))=Y;intro hne hin;have hrw:=hin (by intro e;rw[e]at hne;exact absurd rfl hne);cases hrw with
   | bad c p=>exact .bad c p
   | ok e st3 st4 h34 =>
    simp only at hne ⊢
    split at hne
    · rename_i h8
      rw[if_pos h8];rw[hl]at h8;rw[h34.kind8 st2.length h8,if_pos rfl,hl];exact .ok _ _ _ _ (h34.mod st2.length (fun nd=>{ nd with sp:=((n:Int),((e+1:Nat):Int)) }) (fun nd=>{ nd with sp:=((n:Int),((e+1:Nat):Int)) }) (fun x y hs=>⟨hs.kind,hs.text,hs.keys,hs.spots,hs.subs,hs.own⟩))
    exact absurd rfl hne
 exact absurd rfl hne
omit hE
theorem listF_frame (d:Nat):∀(f n:Nat) (subs:List Nat) (st1 st2:Nds),n≤s.length→RS b st1 st2→listF V s d f n (subs.map (b+·)) st1 ≠ .non →
    (∃c p,listF V s d f n (subs.map (b+·)) st1 = .bad c p∧listF V s d f n subs st2 = .bad c p)∨(∃l e st3 st4,listF V s d f n (subs.map (b+·)) st1 = .ok (l.map (b+·),e,st3)∧listF V s d f n subs st2 = .ok (l,e,st4)∧RS b st3 st4):=by
 intro f
 induction f with
 | zero=>intro n subs st1 st2 _ _ h;simp[listF]at h
 | succ f ih =>
  intro n subs st1 st2 hn hr hne;unfold listF at hne ⊢;by_cases h93:byteAt s n=93
  · rw[if_pos h93,if_pos h93];exact .inr ⟨subs,n,st1,st2,rfl,rfl,hr⟩
  rw[if_neg h93]at hne;rw[if_neg h93,if_neg h93];have hv:=hV (d+1) n st1 st2 hn hr (by intro e;rw[e]at hne;exact absurd rfl hne);have hle:=(hL (d+1) n st1 hn).1;revert hne;generalize V (d+1) n st1=X at hv hle ⊢;generalize V (d+1) n st2=Y at hv ⊢;intro hne;cases hv with
  | bad c p=>exact .inl ⟨c,p,rfl,rfl⟩
  | ok i e st3 st4 h34 =>
   obtain⟨g1,g2⟩:=hle _ _ _ rfl;simp only[List.length_map]at hne ⊢;have happ:(subs++[i]).map (b+·)=subs.map (b+·)++[b+i]:=by simp
   by_cases h3:30000000<subs.length
   · rw[if_pos h3]at hne;exact absurd rfl hne
   rw[if_neg h3]at hne;rw[if_neg h3,if_neg h3];cases hg:gapAt s e with
   | bad c p=>exact .inl ⟨c,p,rfl,rfl⟩
   | ok g =>
    obtain⟨g3,g4⟩:=gapAt_le hg g2;rw[hg]at hne;simp only at hne ⊢;by_cases h4:byteAt s g=93
    · rw[if_pos h4,if_pos h4];exact .inr ⟨subs++[i],g,st3,st4,by rw[happ],rfl,h34⟩
    rw[if_neg h4]at hne;rw[if_neg h4,if_neg h4];by_cases h44:byteAt s g=44
    · rw[if_pos h44]at hne;rw[if_pos h44,if_pos h44];have hlt:=byteAt_lt h44 (by decide);cases hg2:gapAt s (g+1) with
      | bad c p=>exact .inl ⟨c,p,rfl,rfl⟩
      | ok g' =>
       obtain⟨g5,g6⟩:=gapAt_le hg2 (by omega);rw[hg2]at hne;simp only at hne ⊢;rw[←happ]at hne ⊢;exact ih g' (subs++[i]) st3 st4 g6 h34 hne
    rw[if_neg h44,if_neg h44];exact .inl ⟨3,g,rfl,rfl⟩
theorem listS_frame (d n:Nat) (st1 st2:Nds) (hn:n<s.length) (hr:RS b st1 st2) (hne:listS V s d n st1 ≠ .non):RV2 b (listS V s d n st1) (listS V s d n st2):=by
 unfold listS at hne ⊢
 split
 · exact .bad 4 n
 rename_i hd
 rw[if_neg hd]at hne;cases hg:gapAt s (n+1) with
 | bad c p=>exact .bad c p
 | ok g =>
  obtain⟨g1,g2⟩:=gapAt_le hg (by omega);rw[hg]at hne;simp only at hne ⊢;rcases listF_frame hL hV d (s.length+2) g [] st1 st2 g2 hr (by intro e;rw[List.map_nil]at e;rw[e]at hne;exact absurd rfl hne) with⟨c,p,h1,h2⟩|⟨l,e,st3,st4,h1,h2,h3⟩
  · rw[List.map_nil]at h1;rw[h1,h2];exact .bad c p
  rw[List.map_nil]at h1;rw[h1,h2];rw[h1]at hne;simp only at hne ⊢
  split at hne
  · rename_i hroom
    rw[if_pos hroom,if_pos (h3.room hroom),h3.len];exact .ok _ _ _ _ (h3.app ⟨rfl,rfl,rfl,rfl,rfl,rfl⟩)
  exact absurd rfl hne
end
theorem valueF_frame {E:Env} (hE:EnvOk E) (s:Bs) (b:Nat):∀f,VF s b (valueF E s f):=by
 intro f
 induction f with
 | zero=>intro d n st1 st2 _ _ h;simp[valueF]at h
 | succ f ih =>
  intro d n st1 st2 hn hr hne;have hl:=hr.len;unfold valueF at hne ⊢;simp only at hne ⊢;by_cases h1:byteAt s n=34∨byteAt s n=39
  · rw[if_pos h1]at hne;rw[if_pos h1,if_pos h1];cases hs:E.str (s.drop n) with
    | non=>rw[hs]at hne;exact absurd rfl hne
    | bad c p=>exact .bad c _
    | ok v =>
     obtain⟨t,m⟩:=v;rw[hs]at hne;simp only at hne ⊢
     split at hne
     · rename_i hroom
       rw[if_pos hroom,if_pos (hr.room hroom),hl];exact .ok _ _ _ _ (hr.app ⟨rfl,rfl,rfl,rfl,rfl,rfl⟩)
     exact absurd rfl hne
  rw[if_neg h1]at hne;rw[if_neg h1,if_neg h1];by_cases h2:byteAt s n=91
  · rw[if_pos h2]at hne;rw[if_pos h2,if_pos h2];exact listS_frame (valueF_le hE s f) ih d n st1 st2 (byteAt_lt h2 (by decide)) hr hne
  rw[if_neg h2]at hne;rw[if_neg h2,if_neg h2];by_cases h3:byteAt s n=123
  · rw[if_pos h3]at hne;rw[if_pos h3,if_pos h3];exact tableS_frame hE (valueF_le hE s f) ih d n st1 st2 (byteAt_lt h3 (by decide)) hr hne
  rw[if_neg h3]at hne;rw[if_neg h3,if_neg h3];cases hs:E.scal (s.drop n) with
  | non=>rw[hs]at hne;exact absurd rfl hne
  | bad c p=>exact .bad c n
  | ok v =>
   obtain⟨q,t,m⟩:=v;rw[hs]at hne;simp only at hne ⊢
   split at hne
   · rename_i hroom
     rw[if_pos hroom,if_pos (hr.room hroom),hl];exact .ok _ _ _ _ (hr.app ⟨rfl,rfl,rfl,rfl,rfl,rfl⟩)
   exact absurd rfl hne
theorem RS.any (st:Nds):RS st.length st []:=RS.nil st
theorem valueF_there {E:Env} (hE:EnvOk E) {x s:Bs} {a d i:Nat} {nds st:Nds} (hx:valueF E x 258 d 0 [] = .ok (i,x.length,nds)) (hs:s.length≤20000000) (ha:∃r,Stops r∧s.drop a=x++r) (hax:a+x.length≤s.length)
    (f:Nat) (hf:0<f) (hd:259-f≤d) (hw:WF st) (hl:st.length≤a) :
    ∃st',valueF E s f d a st = .ok (st.length+i,a+x.length,st')∧RS st.length st' (nds.map fun x=>x)∧VOkR st (st.length+i) (a+x.length) st':=by
 obtain⟨t1,t2⟩:=((valueF_tot hE s hs f).resolve_right (by omega)) d a st hd hw hl (by omega);have T:Two x x s 0 a:=⟨⟨[],.inl rfl,by simp⟩,ha,by omega,hax⟩
 obtain⟨q,i2,st2,h1,h2,h3,h4⟩:=((valueF_sim hE T 258 f).resolve_right (by omega)) d 0 0 [] [] i x.length nds hd (by omega) (RS.nil []) (by simpa using hx) (by omega);rw[Nat.zero_add]at h1 h2;subst h1 h2;have hfr:=valueF_frame hE s st.length f d a st [] (by omega) (RS.nil st) t1;rw[Nat.add_zero]at h3;rw[h3]at hfr;generalize hY:valueF E s f d a st=Y at hfr t2;cases hfr with
 | ok _ _ st1 _ h12 =>
  refine⟨st1,rfl,?_,t2 _ _ _ rfl⟩;refine⟨by have:=h12.len;have:=h4.len;simp;omega,fun j y hy=>?_⟩;simp only[List.map_id']at hy;rcases h4.get j with⟨g1,g2⟩|⟨u,v,g1,g2,g3⟩
  · rw[Nat.zero_add]at g1;rw[g1]at hy;cases hy
  rw[Nat.zero_add]at g1;rw[g1]at hy;cases hy;obtain⟨z,hz,hs'⟩:=h12.at' j v g2;refine⟨z,hz,hs'.kind.trans g3.kind.symm,hs'.text.trans g3.text.symm,hs'.keys.trans g3.keys.symm,hs'.spots.trans g3.spots.symm,?_,?_⟩
  · rw[hs'.subs,g3.subs];simp
  have:=g3.own;rw[hs'.own,this]
  split <;> split <;> omega
end Go.Proofs.YtkplelejagpkmaaGreatDoor.Pl
namespace Go.Proofs.YtkplelejagpkmaaGreatDoor.Pl
def isGap (c:UInt8):Prop:=c=9∨c=10∨c=13∨c=32∨c=35
theorem blanks_not (c:UInt8) (r:Bs) (h:¬isGap c):blanks (c::r)=0:=by
 unfold blanks;rw[List.takeWhile_cons,if_neg]
 · rfl
 intro hb;apply h;unfold isBlank at hb;simp only[Bool.or_eq_true,beq_iff_eq]at hb;rcases hb with hb|hb
 · exact .inr (.inr (.inr (.inl (UInt8.toNat_inj.1 hb))))
 exact .inl (UInt8.toNat_inj.1 hb)
theorem isPart_not {c:UInt8} (h:isPart c=true):¬isGap c∧c≠93∧c≠44∧c≠125:=by
 refine⟨fun hg=>?_,fun e=>?_,fun e=>?_,fun e=>?_⟩
 · rcases hg with rfl|rfl|rfl|rfl|rfl <;> revert h <;> decide
 all_goals (subst e;revert h;decide)
theorem fits_dig (c:UInt8) (h:fits 57 c=true):isPart c=true:=by
 unfold fits at h;rw[if_pos (by decide)]at h;simp only[Bool.and_eq_true,decide_eq_true_eq]at h;unfold isPart partN;simp;omega
theorem scalS_head (l:Bs) (k:Nat) (t:Bs) (m:Nat) (h:scalS l = .ok (k,t,m)):∃c r,l=c::r∧isPart c=true:=by
 cases l with
 | nil =>
  have h2:scalS [] = .bad 3 0:=by kernel_rfl
  rw[h2]at h;cases h
 | cons c r =>
  refine⟨c,r,rfl,?_⟩;by_cases hc:isPart c=true
  · exact hc
  exfalso;have hd:formM (c::r) dateF=false:=by
   cases hf:formM (c::r) dateF with
   | false=>rfl
   | true =>
    unfold dateF formM at hf;simp only[Bool.and_eq_true]at hf;exact absurd (fits_dig c hf.1) hc
  have ht:formM (c::r) timeF=false:=by
   cases hf:formM (c::r) timeF with
   | false=>rfl
   | true =>
    unfold timeF formM at hf;simp only[Bool.and_eq_true]at hf;exact absurd (fits_dig c hf.1) hc
  have hl:(splitD (c::r)).long=0:=by
   unfold splitD clockP;rw[hd,ht];rfl
  have hk:tok (c::r)=[]:=by unfold tok;rw[List.takeWhile_cons,if_neg hc]
  unfold scalS at h;rw[hl,if_neg (by omega),hk,plainS_nil]at h;cases h
theorem value_head (T) (v:Bs) (f d root:Nat) (nds:Nds) (h:valueF (envT T) v (f+1) d 0 [] = .ok (root,v.length,nds)):∃c r,v=c::r∧¬isGap c∧c≠93∧c≠44∧c≠125:=by
 have hd:∀k,byteAt v 0=k→k≠0→∃c r,v=c::r∧c.toNat=k:=by
  intro k hk h0;cases v with
  | nil=>exact absurd hk.symm h0
  | cons c r=>exact⟨c,r,rfl,hk⟩
 have lit:∀k,byteAt v 0=k→(k=34∨k=39∨k=91∨k=123)→∃c r,v=c::r∧¬isGap c∧c≠93∧c≠44∧c≠125:=by
  intro k hk h4;obtain⟨c,r,rfl,hc⟩:=hd k hk (by omega);have e:c=34∨c=39∨c=91∨c=123:=by
   rcases h4 with h4|h4|h4|h4
   · exact .inl (UInt8.toNat_inj.1 (by rw[hc,h4];rfl))
   · exact .inr (.inl (UInt8.toNat_inj.1 (by rw[hc,h4];rfl)))
   · exact .inr (.inr (.inl (UInt8.toNat_inj.1 (by rw[hc,h4];rfl))))
   exact .inr (.inr (.inr (UInt8.toNat_inj.1 (by rw[hc,h4];rfl))))
  refine⟨c,r,rfl,?_⟩;unfold isGap;rcases e with rfl|rfl|rfl|rfl <;> decide
 unfold valueF at h;simp only at h
 split at h
 · rename_i h1
   rcases h1 with h1|h1
   · exact lit 34 h1 (by simp)
   exact lit 39 h1 (by simp)
 split at h
 · rename_i h1;exact lit 91 h1 (by simp)
 split at h
 · rename_i h1;exact lit 123 h1 (by simp)
 split at h
 · cases h
 · cases h
 rename_i k t m hs
 rw[List.drop_zero]at hs;obtain⟨c,r,rfl,hp⟩:=scalS_head v k t m hs;exact⟨c,r,rfl,isPart_not hp⟩
abbrev Item3:=Bs × Bs × Bs
inductive Placed (E:Env):List Item3→Nat→List Nat→Nds→Prop
 | nil (n:Nat) (st:Nds):Placed E [] n [] st
 | cons (a v b:Bs) (rest:List Item3) (n root b0:Nat) (nds st:Nds) (l:List Nat) (h:valueF E v 258 2 0 [] = .ok (root,v.length,nds))
     (hr:∀(j:Nat) y,nds[j]?=some y→∃x,st[b0+j]?=some x∧SN b0 x y) (hs:∃nd,st[b0+root]?=some nd∧nd.sp=(((n+a.length:Nat):Int),((n+a.length+v.length:Nat):Int)))
     (ht:Placed E rest (n+a.length+v.length+b.length+1) l st):Placed E ((a,v,b)::rest) n ((b0+root)::l) st
theorem Placed.keep {E:Env} {items:List Item3} {n:Nat} {l:List Nat} {st st':Nds} (h:Placed E items n l st) (hk:∀(j:Nat) x,st[j]?=some x→st'[j]?=some x):Placed E items n l st':=by
 induction h with
 | nil=>exact .nil _ _
 | cons a v b rest n root b0 nds st l h hr hs _ ih =>
  exact .cons a v b rest n root b0 nds st' l h (fun j y hy=>by
   obtain⟨x,hx,q⟩:=hr j y hy;exact⟨x,hk _ _ hx,q⟩) (by
   obtain⟨nd,hx,q⟩:=hs;exact⟨nd,hk _ _ hx,q⟩) (ih hk)
theorem byteAt_drop {s:Bs} {n:Nat} {c:UInt8} {r:Bs} (h:s.drop n=c::r):byteAt s n=c.toNat:=by
 unfold byteAt;have:s[n]?=some c:=by
  have h2:=congrArg (·[0]?) h
  simpa using h2
 rw[this]
end Go.Proofs.YtkplelejagpkmaaGreatDoor.Pl
namespace Go.Proofs.YtkplelejagpkmaaGreatDoor.Pl
def wrW (w:Bs):Bs:=if bareW w then w else wrS w
theorem bare_not {c:UInt8} (h:isBare c=true):c≠34∧c≠39∧c≠46∧¬isGap c:=by
 unfold isGap;refine⟨fun e=>?_,fun e=>?_,fun e=>?_,fun e=>?_⟩
 · subst e;revert h;decide
 · subst e;revert h;decide
 · subst e;revert h;decide
 rcases e with e|e|e|e|e <;> (subst e;revert h;decide)
theorem wrB_head (c:UInt8):∃x r,wrB c=x::r∧x≠34:=by
 unfold wrB;by_cases h34:c=34
 · subst h34;exact⟨92,[34],by decide,by decide⟩
 repeat' split
 all_goals first|exact⟨_,_,rfl,by decide⟩|exact⟨_,_,rfl,h34⟩
theorem long_wr (w:Bs) (c:UInt8) (r:Bs) (hc:c≠34):long (wrW w++c::r)=false:=by
 unfold wrW
 split
 · rename_i h
   unfold bareW at h;simp only[Bool.and_eq_true,Bool.not_eq_true',List.all_eq_true]at h;cases w with
   | nil=>cases h.1
   | cons a w =>
    have ha:=bare_not (h.2 a (List.mem_cons_self ..));unfold long
    split
    · rename_i e;simp only[List.cons_append,List.cons.injEq]at e;exact absurd e.1 ha.1
    · rename_i e;simp only[List.cons_append,List.cons.injEq]at e;exact absurd e.1 ha.2.1
    rfl
 unfold wrS;cases w with
 | nil =>
  unfold long
  split
  · rename_i e;simp at e;exact absurd e.1 hc
  · rename_i e;simp at e
  rfl
 | cons a w =>
  obtain⟨x,q,e1,e2⟩:=wrB_head a;unfold long
  split
  · rename_i e;rw[List.flatMap_cons,e1]at e;simp at e;exact absurd e.1 e2
  · rename_i e;simp at e
  rfl
theorem bareRun_app (w:Bs) (hw:w.all isBare=true) (c:UInt8) (r:Bs) (hc:isBare c=false):bareRun (w++c::r)=w.length:=by
 unfold bareRun
 induction w with
 | nil=>rw[List.nil_append,List.takeWhile_cons,if_neg (by rw[hc];simp)]
 | cons a w ih =>
  rw[List.all_cons,Bool.and_eq_true]at hw;rw[List.cons_append,List.takeWhile_cons,if_pos hw.1,List.length_cons,ih hw.2,List.length_cons]
theorem word_wr (s:Bs) (n:Nat) (w:Bs) (c:UInt8) (r:Bs) (hd:s.drop n=wrW w++c::r) (hc:c≠34) (hb:isBare c=false):word (envT tab0) s n = .ok (w,n+(wrW w).length):=by
 have hl:=long_wr w c r hc;unfold word longAt;rw[hd,hl,if_neg (by simp)];unfold wrW at hl ⊢;cases hw:bareW w with
 | true =>
  rw[if_pos rfl];unfold bareW at hw;simp only[Bool.and_eq_true,Bool.not_eq_true']at hw;rw[bareRun_app w hw.2 c r hb];have:w.length≠0:=fun e=>by
   have:=List.eq_nil_of_length_eq_zero e;rw[this]at hw;cases hw.1
  rw[if_neg this];simp
 | false =>
  rw[hw]at hl;simp only[Bool.false_eq_true,if_false]at hl ⊢;have h0:bareRun (wrS w++c::r)=0:=by
   unfold bareRun wrS;rw[List.cons_append,List.takeWhile_cons,if_neg (by decide)];rfl
  rw[h0,if_pos rfl];show (match strS tab0 (wrS w++c::r) with|.non=>_|.bad c p=>_|.ok (t,k)=>_)=_;rw[strS_wr w (c::r) hl]
inductive PlacedT (E:Env) (t:Nat):List (Bs × Bs)→List Nat→Nds→Prop
 | nil (st:Nds):PlacedT E t [] [] st
 | cons (w v:Bs) (rest:List (Bs × Bs)) (root b0:Nat) (nds st:Nds) (l:List Nat) (h:valueF E v 258 2 0 [] = .ok (root,v.length,nds)) (hb:t<b0)
     (hr:∀(j:Nat) y,nds[j]?=some y→∃x,st[b0+j]?=some x∧SN b0 x y) (ht:PlacedT E t rest l st):PlacedT E t ((w,v)::rest) ((b0+root)::l) st
theorem PlacedT.keep {E:Env} {t:Nat} {items:List (Bs × Bs)} {l:List Nat} {st st':Nds} (h:PlacedT E t items l st) (hk:∀(j:Nat) x,t<j→st[j]?=some x→st'[j]?=some x):PlacedT E t items l st':=by
 induction h with
 | nil=>exact .nil _
 | cons w v rest root b0 nds st l h hb hr _ ih =>
  exact .cons w v rest root b0 nds st' l h hb (fun j y hy=>by
   obtain⟨x,hx,q⟩:=hr j y hy;exact⟨x,hk _ _ (by omega) hx,q⟩) (ih hk)
theorem blanks_none {s:Bs} {n:Nat} {c:UInt8} {r:Bs} (h:s.drop n=c::r) (hc:¬isGap c):blanksAt s n=n:=by
 unfold blanksAt;rw[h,blanks_not c r hc];rfl
section
variable (s:Bs) (hs:s.length≤20000000)
include hs
end
end Go.Proofs.YtkplelejagpkmaaGreatDoor.Pl
namespace Go.Proofs.YtkplelejagpkmaaGreatDoor.Pl
def keyT:List Bs→Bs
 | []=>[]
 | w::rest=>wrW w++(if rest.isEmpty then [] else 46::keyT rest)
theorem wrW_head (w:Bs):∃c r,wrW w=c::r∧(isBare c=true∨c=34):=by
 unfold wrW
 split
 · rename_i h
   unfold bareW at h;simp only[Bool.and_eq_true,Bool.not_eq_true',List.all_eq_true]at h;cases w with
   | nil=>cases h.1
   | cons c r=>exact⟨c,r,rfl,.inl (h.2 c (by simp))⟩
 exact⟨34,_,rfl,.inr rfl⟩
theorem head_not {c:UInt8} (h:isBare c=true∨c=34):¬isGap c∧c≠91:=by
 rcases h with h|rfl
 · refine⟨(bare_not h).2.2.2,fun e=>?_⟩;subst e;revert h;decide
 unfold isGap;decide
theorem keyT_head (ws:List Bs) (h:ws≠[]):∃c r,keyT ws=c::r∧¬isGap c∧c≠91:=by
 cases ws with
 | nil=>exact absurd rfl h
 | cons w rest =>
  obtain⟨c,r,e,hc⟩:=wrW_head w;refine⟨c,r++(if rest.isEmpty then [] else 46::keyT rest),?_,head_not hc⟩
  conv=>lhs;unfold keyT
  rw[e];rfl
theorem key_read (s:Bs):∀(ws:List Bs) (f n:Nat) (acc:List KW) (c:UInt8) (r:Bs),ws≠[]→s.drop n=keyT ws++c::r→c≠34→isBare c=false→byteAt s (blanksAt s (n+(keyT ws).length))≠46→ws.length≤f →
    ∃kws,keyF (envT tab0) s f n acc = .ok (acc++kws,n+(keyT ws).length)∧kws.map (·.1)=ws:=by
 intro ws
 induction ws with
 | nil=>intro f n acc c r h;exact absurd rfl h
 | cons w rest ih =>
  intro f n acc c r _ hd hc hb h46 hf;cases f with
  | zero=>simp at hf
  | succ f =>
   cases rest with
   | nil =>
    have hk:keyT [w]=wrW w:=by simp[keyT]
    rw[hk]at hd h46 ⊢;unfold keyF;rw[word_wr s n w c r hd hc hb];simp only;rw[if_neg h46];exact⟨[(w,n,n+(wrW w).length)],rfl,rfl⟩
   | cons w2 rest =>
    have hk:keyT (w::w2::rest)=wrW w++46::keyT (w2::rest):=by
     rw[keyT];rfl
    obtain⟨c2,r2,e2,hg2,_⟩:=keyT_head (w2::rest) (by simp);rw[hk]at hd h46;have hl:(keyT (w::w2::rest)).length=(wrW w).length+1+(keyT (w2::rest)).length:=by rw[hk];simp;omega
    have hd0:s.drop n=wrW w++46::(keyT (w2::rest)++c::r):=by rw[hd];simp
    have hd1:s.drop (n+(wrW w).length)=46::(keyT (w2::rest)++c::r):=by rw[←List.drop_drop,hd0];simp
    have hd2:s.drop (n+(wrW w).length+1)=keyT (w2::rest)++c::r:=by rw[←List.drop_drop,hd1];rfl
    have hb1:=blanks_none hd1 (by unfold isGap;decide);have hb2:=blanks_none (show s.drop (n+(wrW w).length+1)=c2::(r2++c::r) by rw[hd2,e2];rfl) hg2;have h4:byteAt s (n+(wrW w).length)=46:=by rw[byteAt_drop hd1];rfl
    obtain⟨kws,i1,i2⟩:=ih f (n+(wrW w).length+1) (acc++[(w,n,n+(wrW w).length)]) c r (by simp) hd2 hc hb (by
     rw[show n+(wrW w).length+1+(keyT (w2::rest)).length=n+(wrW w++46::keyT (w2::rest)).length by simp;omega];exact h46) (by simp only[List.length_cons]at hf ⊢;omega)
    unfold keyF;rw[word_wr s n w 46 _ hd0 (by decide) (by decide)];simp only;rw[hb1,if_pos h4,hb2,i1];refine⟨(w,n,n+(wrW w).length)::kws,?_,by simp[i2]⟩;rw[hl,List.append_assoc];simp only[List.singleton_append];rw[show n+(wrW w).length+1+(keyT (w2::rest)).length=n+((wrW w).length+1+(keyT (w2::rest)).length) by omega]
theorem keyT_len (ws:List Bs):ws.length≤(keyT ws).length+1:=by
 induction ws with
 | nil=>simp
 | cons w rest ih =>
  obtain⟨c,r,e,_⟩:=wrW_head w;have h1:1≤(wrW w).length:=by rw[e];simp
  unfold keyT;cases rest with
  | nil=>simp
  | cons w2 rest =>
   simp only[List.isEmpty_cons,Bool.false_eq_true,if_false,List.length_append,List.length_cons]at ih ⊢;omega
theorem keyS_read (s:Bs) (ws:List Bs) (n:Nat) (c:UInt8) (r:Bs) (h0:ws≠[]) (hd:s.drop n=keyT ws++c::r) (hc:c≠34) (hb:isBare c=false) (h46:byteAt s (blanksAt s (n+(keyT ws).length))≠46) :
    ∃kws,keyS (envT tab0) s n = .ok (kws,n+(keyT ws).length)∧kws.map (·.1)=ws:=by
 have h1:=congrArg List.length hd;rw[List.length_drop,List.length_append,List.length_cons]at h1;have h2:=keyT_len ws;obtain⟨kws,h3,h4⟩:=key_read s ws (s.length+2) n [] c r h0 hd hc hb h46 (by omega);exact⟨kws,by unfold keyS;rw[h3];rfl,h4⟩
def spn (a:Nat):Bs:=List.replicate a 32
theorem spn_len (a:Nat):(spn a).length=a:=by simp[spn]
theorem blanks_spn (a:Nat) (l:Bs):blanks (spn a++l)=a+blanks l:=by
 unfold spn
 induction a with
 | zero=>simp
 | succ a ih =>
  rw[List.replicate_succ,List.cons_append];unfold blanks at ih ⊢;rw[List.takeWhile_cons,if_pos (by decide),List.length_cons,ih];omega
theorem blanksAt_spn {s:Bs} {n a:Nat} {c:UInt8} {r:Bs} (h:s.drop n=spn a++c::r) (hc:¬isGap c):blanksAt s n=n+a:=by
 unfold blanksAt;rw[h,blanks_spn,blanks_not c r hc,Nat.add_zero]
theorem drop_spn {s:Bs} {n a:Nat} {l:Bs} (h:s.drop n=spn a++l):s.drop (n+a)=l:=by
 rw[←List.drop_drop,h,List.drop_left' (spn_len a)]
theorem spn_head (a:Nat) (c:UInt8) (r:Bs) (h34:c≠34) (hb:isBare c=false):∃d t,spn a++c::r=d::t∧d≠34∧isBare d=false:=by
 cases a with
 | zero=>exact⟨c,r,rfl,h34,hb⟩
 | succ a=>exact⟨32,spn a++c::r,by simp[spn,List.replicate_succ],by decide,by decide⟩
theorem blanks_twice (s:Bs) (n:Nat):blanksAt s (blanksAt s n)=blanksAt s n:=by
 unfold blanksAt;rw[←List.drop_drop];have:blanks ((s.drop n).drop (blanks (s.drop n)))=0:=by
  generalize s.drop n=l
  induction l with
  | nil=>rfl
  | cons a l ih =>
   unfold blanks at ih ⊢;by_cases h:isBlank a=true
   · rw[List.takeWhile_cons,if_pos h,List.length_cons,List.drop_succ_cons];exact ih
   rw[List.takeWhile_cons,if_neg h,List.length_nil,List.drop_zero,List.takeWhile_cons,if_neg h];rfl
 rw[this,Nat.add_zero]
def tails4:List Bs:=[[10],[13,10],[32,35,32,99,32,61,32,91,10],[9,35,13,10]]
theorem get_drop {s:Bs} {n:Nat} {c:UInt8} {r:Bs} (h:s.drop n=c::r):s[n]?=some c:=by
 have:s[n]?=(s.drop n)[0]?:=by rw[List.getElem?_drop];rfl
 rw[this,h];rfl
theorem drop_lt {s:Bs} {n:Nat} {c:UInt8} {r:Bs} (h:s.drop n=c::r):n<s.length:=(List.getElem?_eq_some_iff.1 (get_drop h)).1
theorem drop_one {s:Bs} {n:Nat} {c:UInt8} {r:Bs} (h:s.drop n=c::r):s.drop (n+1)=r:=by rw[←List.drop_drop,h];rfl
theorem isF_two {s:Bs} {n:Nat} {a b:UInt8} {r:Bs} (h:s.drop n=a::b::r):isF s n [a,b] = .ok (n+2):=by
 simp only[isF];rw[if_pos (get_drop h),if_pos (get_drop (drop_one h))]
theorem isF_one {s:Bs} {n:Nat} {a:UInt8} {r:Bs} (h:s.drop n=a::r):isF s n [a] = .ok (n+1):=by
 simp only[isF];rw[if_pos (get_drop h)]
theorem closed_of {s:Bs} {n a:Nat} (h:commentAt s (blanksAt s n)=a) {c:UInt8} {r:Bs} (hd:s.drop a=c::r) (hc:c=10∨c=13∧∃r',r=10::r'):closedS s n = .ok (a+if c=10 then 1 else 2):=by
 unfold closedS;simp only;rw[h,if_neg (Nat.ne_of_lt (drop_lt hd)),byteAt_drop hd];rcases hc with rfl|⟨rfl,r',rfl⟩
 · rfl
 rw[if_neg (by decide),if_pos (by decide),isF_two hd];rfl
theorem closed_tail {s:Bs} {n:Nat} {t:Bs} {r:Bs} (ht:t∈tails4) (hd:s.drop n=t++r):closedS s n = .ok (n+t.length):=by
 simp only[tails4,List.mem_cons,List.not_mem_nil,or_false]at ht;rcases ht with rfl|rfl|rfl|rfl
 · have hb:blanksAt s n=n:=by unfold blanksAt;rw[hd];rfl
   have hc:commentAt s (blanksAt s n)=n:=by rw[hb];unfold commentAt;rw[hd];rfl
   rw[closed_of hc (show s.drop n=10::r from hd) (.inl rfl)];rfl
 · have hb:blanksAt s n=n:=by unfold blanksAt;rw[hd];rfl
   have hc:commentAt s (blanksAt s n)=n:=by rw[hb];unfold commentAt;rw[hd];rfl
   rw[closed_of hc (show s.drop n=13::10::r from hd) (.inr ⟨rfl,r,rfl⟩)];rfl
 · have hb:blanksAt s n=n+1:=by unfold blanksAt;rw[hd];rfl
   have hd1:s.drop (n+1)=35::32::99::32::61::32::91::10::r:=drop_one (show s.drop n=32::_ from hd);have hc:commentAt s (blanksAt s n)=n+1+7:=by rw[hb];unfold commentAt;rw[hd1];rfl
   have hd2:s.drop (n+1+7)=10::r:=by rw[←List.drop_drop,hd1];rfl
   rw[closed_of hc hd2 (.inl rfl)];rfl
 have hb:blanksAt s n=n+1:=by unfold blanksAt;rw[hd];rfl
 have hd1:s.drop (n+1)=35::13::10::r:=drop_one (show s.drop n=9::_ from hd);have hc:commentAt s (blanksAt s n)=n+1+1:=by rw[hb];unfold commentAt;rw[hd1];rfl
 have hd2:s.drop (n+1+1)=13::10::r:=by rw[←List.drop_drop,hd1];rfl
 rw[closed_of hc hd2 (.inr ⟨rfl,r,rfl⟩)];rfl
theorem tail_stops {t:Bs} (ht:t∈tails4) (r:Bs):Stops (t++r):=by
 simp only[tails4,List.mem_cons,List.not_mem_nil,or_false]at ht;right;rcases ht with rfl|rfl|rfl|rfl
 · exact⟨10,r,rfl,by decide,fun h=>by cases h⟩
 · exact⟨13,10::r,rfl,by decide,fun h=>by cases h⟩
 · refine⟨32,_,rfl,by decide,fun _ d t' e=>?_⟩;cases e;decide
 exact⟨9,_,rfl,by decide,fun h=>by cases h⟩
theorem tail_blank {s:Bs} {n:Nat} {t:Bs} {r:Bs} (ht:t∈tails4) (hd:s.drop n=t++r):∃c q,s.drop (blanksAt s n)=c::q∧(c=35∨c=13∨c=10):=by
 simp only[tails4,List.mem_cons,List.not_mem_nil,or_false]at ht;rcases ht with rfl|rfl|rfl|rfl
 · have hb:blanksAt s n=n:=by unfold blanksAt;rw[hd];rfl
   exact⟨10,r,by rw[hb];exact hd,by simp⟩
 · have hb:blanksAt s n=n:=by unfold blanksAt;rw[hd];rfl
   exact⟨13,10::r,by rw[hb];exact hd,by simp⟩
 · have hb:blanksAt s n=n+1:=by unfold blanksAt;rw[hd];rfl
   exact⟨35,_,by rw[hb];exact drop_one (show s.drop n=32::_ from hd),by simp⟩
 have hb:blanksAt s n=n+1:=by unfold blanksAt;rw[hd];rfl
 exact⟨35,_,by rw[hb];exact drop_one (show s.drop n=9::_ from hd),by simp⟩
structure Line where
 kind:Nat
 a:Nat
 tail:Bs
 ws:List Bs
 v:Bs
def lineT (x:Line):Bs :=
 if x.kind=0 then spn x.a++x.tail else
 if x.kind=1 then spn x.a++(keyT x.ws++(spn x.a++(61::(spn x.a++(x.v++x.tail))))) else
 if x.kind=2 then spn x.a++(91::(spn x.a++(keyT x.ws++(spn x.a++(93::x.tail))))) else
 spn x.a++(91::91::(spn x.a++(keyT x.ws++(spn x.a++(93::93::x.tail)))))
structure LineOk (x:Line):Prop where
 kind:x.kind≤3
 tail:x.tail∈tails4
 ws:x.ws≠[]
 v:∃root nds,readS (envT tab0) x.v 0 0 = .ok (root,x.v.length,nds)
structure ItL (s:Bs) (it:It) (x:Line):Prop where
 kind:it.kind=x.kind
 ws:x.kind≠0→it.ws.map (·.1)=x.ws
 val:x.kind=1→it.va≤it.vb∧it.vb≤s.length∧(s.drop it.va).take (it.vb-it.va)=x.v
theorem item_line (s:Bs) (hs:s.length≤20000000) (n:Nat) (x:Line) (r:Bs) (hok:LineOk x) (hd:s.drop n=lineT x++r):∃it,itemS (envT tab0) s n = .ok it∧it.b=n+(lineT x).length∧ItL s it x:=by
 obtain⟨kind,a,tail,ws,v⟩:=x;obtain⟨hk,ht,hw,root,nds,hv⟩:=hok;simp only at hk ht hw hv;obtain⟨kc,kr,hkc,hkg,hk91⟩:=keyT_head ws hw;have hk35:kc≠35∧kc≠13∧kc≠10:=⟨fun e=>hkg (by unfold isGap;simp[e]),fun e=>hkg (by unfold isGap;simp[e]),fun e=>hkg (by unfold isGap;simp[e])⟩
 by_cases h0:kind=0
 · subst h0;have hT:lineT ⟨0,a,tail,ws,v⟩=spn a++tail:=rfl;rw[hT]at hd ⊢;have hd1:s.drop n=spn a++(tail++r):=by rw[hd,List.append_assoc]
   have hda:=drop_spn hd1;obtain⟨c,q,hq,hcc⟩:=tail_blank ht hda;have hb:blanksAt s n=blanksAt s (n+a):=by
    unfold blanksAt;rw[hda,hd1,blanks_spn];omega
   have hcl:=closed_tail ht hda;have hcl2:closedS s (blanksAt s (n+a)) = .ok (n+a+tail.length):=by
    rw[←hcl];unfold closedS;simp only;rw[blanks_twice]
   have hbody:bodyS (envT tab0) s (blanksAt s (n+a)) = .ok (blanksAt s (n+a),⟨0,0,0,[],0,0,0,[]⟩):=by
    unfold bodyS;rw[hq];have p1:pre (c::q) [91,91]=false:=by rcases hcc with rfl|rfl|rfl <;> rfl
    have p2:pre (c::q) [91]=false:=by rcases hcc with rfl|rfl|rfl <;> rfl
    have p3:isBlankI (c::q)=true:=by rcases hcc with rfl|rfl|rfl <;> rfl
    rw[p1,p2,p3];rfl
   refine⟨_,by unfold itemS;rw[hb,hbody];simp only;rw[hcl2],?_,rfl,fun h=>absurd rfl h,fun h=>(by cases h)⟩;simp only[List.length_append,spn_len];omega
 by_cases h1:kind=1
 · subst h1;have hT:lineT ⟨1,a,tail,ws,v⟩=spn a++(keyT ws++(spn a++(61::(spn a++(v++tail))))):=rfl;have hlen:(lineT ⟨1,a,tail,ws,v⟩).length=a+(keyT ws).length+a+1+a+v.length+tail.length:=by
    rw[hT];simp only[List.length_append,List.length_cons,spn_len];omega
   have hd1:s.drop n=spn a++(keyT ws++(spn a++(61::(spn a++(v++(tail++r)))))):=by rw[hd,hT];simp
   have hda:=drop_spn hd1;have hb1:=blanksAt_spn (show s.drop n=spn a++kc::_ by rw[hd1,hkc];rfl) hkg;obtain⟨d,t,hdt,hd34,hdb⟩:=spn_head a 61 (spn a++(v++(tail++r))) (by decide) (by decide);have hde:s.drop (n+a+(keyT ws).length)=spn a++(61::(spn a++(v++(tail++r)))):=by rw[←List.drop_drop,hda];simp
   have hb2:=blanksAt_spn hde (by unfold isGap;decide);have hd61:=drop_spn hde;obtain⟨kws,hky,hkm⟩:=keyS_read s ws (n+a) d t hw (by rw[hda,hdt]) hd34 hdb (by rw[hb2,byteAt_drop hd61];decide);have hdv0:=drop_one hd61;obtain⟨vc,vr,hvc,hvg,_⟩:=value_head tab0 v 257 (min 0 256+1) root nds hv;have hb3:=blanksAt_spn (show s.drop (n+a+(keyT ws).length+a+1)=spn a++vc::(vr++(tail++r)) by rw[hdv0,hvc];rfl) hvg;have hdv:=drop_spn hdv0;have hls:=congrArg List.length hdv;rw[List.length_drop,List.length_append]at hls;have hvl:0<v.length:=by rw[hvc];simp
   obtain⟨st1,hv1,_,hok1⟩:=valueF_there (envT_ok tab0) (s:=s) (a:=n+a+(keyT ws).length+a+1+a) (st:=[]) hv hs ⟨tail++r,tail_stops ht r,hdv⟩ (by omega) 258 (by omega) (by omega) (fun i nd h=>by simp at h) (by simp);have hend:s.drop (n+a+(keyT ws).length+a+1+a+v.length)=tail++r:=by rw[←List.drop_drop,hdv];simp
   have hcl:=closed_tail ht hend;have hbody:bodyS (envT tab0) s (n+a) = .ok (n+a+(keyT ws).length+a+1+a+v.length,⟨1,0,0,kws,n+a+(keyT ws).length+a+1+a,n+a+(keyT ws).length+a+1+a+v.length,([]:Nds).length+root,st1⟩):=by
    unfold bodyS;have e1:(kc==91)=false:=by simpa using hk91
    rw[show s.drop (n+a)=kc::kr++(spn a++(61::(spn a++(v++(tail++r))))) by rw[hda,hkc]];have p1:pre (kc::kr++(spn a++(61::(spn a++(v++(tail++r)))))) [91,91]=false:=by simp[pre,e1]
    have p2:pre (kc::kr++(spn a++(61::(spn a++(v++(tail++r)))))) [91]=false:=by simp[pre,e1]
    have p3:isBlankI (kc::kr++(spn a++(61::(spn a++(v++(tail++r))))))=false:=by
     have q:∀k:UInt8,kc≠k→(kc.toNat==k.toNat)=false:=fun k h=>by
      rw[beq_eq_false_iff_ne];exact fun e=>h (UInt8.toNat_inj.1 e)
     have q1:=q 35 hk35.1;have q2:=q 13 hk35.2.1;have q3:=q 10 hk35.2.2;show (kc.toNat==35 || kc.toNat==13 || kc.toNat==10)=false;rw[show (kc.toNat==35)=false from q1,show (kc.toNat==13)=false from q2,show (kc.toNat==10)=false from q3];rfl
    rw[p1,p2,p3];simp only[Bool.false_eq_true,if_false];unfold pairI;rw[hky];simp only;rw[hb2,isF_one hd61];simp only;rw[hb3];unfold readS;rw[show min 0 256+1=1 from rfl]at hv1 ⊢;rw[hv1]
   refine⟨_,by unfold itemS;rw[hb1,hbody];simp only;rw[hcl],?_,rfl,fun _=>hkm,fun _=>⟨by simp only;omega,by simp only;omega,?_⟩⟩
   · simp only;omega
   simp only;rw[hdv,show n+a+(keyT ws).length+a+1+a+v.length-(n+a+(keyT ws).length+a+1+a)=v.length by omega];simp
 by_cases h2:kind=2
 · subst h2;have hT:lineT ⟨2,a,tail,ws,v⟩=spn a++(91::(spn a++(keyT ws++(spn a++(93::tail))))):=rfl;have hlen:(lineT ⟨2,a,tail,ws,v⟩).length=a+1+a+(keyT ws).length+a+1+tail.length:=by
    rw[hT];simp only[List.length_append,List.length_cons,spn_len];omega
   have hd1:s.drop n=spn a++(91::(spn a++(keyT ws++(spn a++(93::(tail++r)))))):=by rw[hd,hT];simp
   have hda:=drop_spn hd1;have hb1:=blanksAt_spn hd1 (by unfold isGap;decide);have hd2:=drop_one hda;have hb2:=blanksAt_spn (show s.drop (n+a+1)=spn a++kc::_ by rw[hd2,hkc];rfl) hkg;have hdk:=drop_spn hd2;obtain⟨d,t,hdt,hd34,hdb⟩:=spn_head a 93 (tail++r) (by decide) (by decide);have hde:s.drop (n+a+1+a+(keyT ws).length)=spn a++(93::(tail++r)):=by rw[←List.drop_drop,hdk];simp
   have hb3:=blanksAt_spn hde (by unfold isGap;decide);have hd93:=drop_spn hde;obtain⟨kws,hky,hkm⟩:=keyS_read s ws (n+a+1+a) d t hw (by rw[hdk,hdt]) hd34 hdb (by rw[hb3,byteAt_drop hd93];decide);have hcl:=closed_tail ht (drop_one hd93);have hbody:bodyS (envT tab0) s (n+a) = .ok (n+a+1+a+(keyT ws).length+a+1,⟨2,0,0,kws,0,0,0,[]⟩):=by
    unfold bodyS;obtain⟨e,u,heu,he91⟩:∃e u,spn a++(keyT ws++(spn a++(93::(tail++r))))=e::u∧e≠91:=by
     cases a with
     | zero=>exact⟨kc,kr++(spn 0++(93::(tail++r))),by rw[hkc];rfl,hk91⟩
     | succ a=>exact⟨32,spn a++(keyT ws++(spn (a+1)++(93::(tail++r)))),by simp[spn,List.replicate_succ],by decide⟩
    have e1:(e==91)=false:=by simpa using he91
    rw[hda,heu];have p1:pre (91::e::u) [91,91]=false:=by simp[pre,e1]
    have p2:pre (91::e::u) [91]=true:=by simp[pre]
    rw[p1,p2];simp only[Bool.false_eq_true,if_false,if_true];unfold headerS;rw[show n+a+([93]:Bs).length=n+a+1 from rfl,hb2,hky];simp only;rw[hb3,isF_one hd93]
   refine⟨_,by unfold itemS;rw[hb1,hbody];simp only;rw[hcl],?_,rfl,fun _=>hkm,fun h=>(by cases h)⟩;simp only;omega
 obtain rfl:kind=3:=by omega
 have hT:lineT ⟨3,a,tail,ws,v⟩=spn a++(91::91::(spn a++(keyT ws++(spn a++(93::93::tail))))):=rfl;have hlen:(lineT ⟨3,a,tail,ws,v⟩).length=a+2+a+(keyT ws).length+a+2+tail.length:=by
  rw[hT];simp only[List.length_append,List.length_cons,spn_len];omega
 have hd1:s.drop n=spn a++(91::91::(spn a++(keyT ws++(spn a++(93::93::(tail++r)))))):=by rw[hd,hT];simp
 have hda:=drop_spn hd1;have hb1:=blanksAt_spn hd1 (by unfold isGap;decide);have hd2:s.drop (n+a+2)=_:=drop_one (drop_one hda);have hb2:=blanksAt_spn (show s.drop (n+a+2)=spn a++kc::_ by rw[hd2,hkc];rfl) hkg;have hdk:=drop_spn hd2;obtain⟨d,t,hdt,hd34,hdb⟩:=spn_head a 93 (93::(tail++r)) (by decide) (by decide);have hde:s.drop (n+a+2+a+(keyT ws).length)=spn a++(93::93::(tail++r)):=by rw[←List.drop_drop,hdk];simp
 have hb3:=blanksAt_spn hde (by unfold isGap;decide);have hd93:=drop_spn hde;obtain⟨kws,hky,hkm⟩:=keyS_read s ws (n+a+2+a) d t hw (by rw[hdk,hdt]) hd34 hdb (by rw[hb3,byteAt_drop hd93];decide);have hdt2:s.drop (n+a+2+a+(keyT ws).length+a+2)=tail++r:=drop_one (drop_one hd93);have hcl:=closed_tail ht hdt2;have hbody:bodyS (envT tab0) s (n+a) = .ok (n+a+2+a+(keyT ws).length+a+2,⟨3,0,0,kws,0,0,0,[]⟩):=by
  unfold bodyS;rw[hda];have p1:pre (91::91::(spn a++(keyT ws++(spn a++(93::93::(tail++r)))))) [91,91]=true:=by simp[pre]
  rw[p1];simp only[if_true];unfold headerS;rw[show n+a+([93,93]:Bs).length=n+a+2 from rfl,hb2,hky];simp only;rw[hb3,isF_two hd93]
 refine⟨_,by unfold itemS;rw[hb1,hbody];simp only;rw[hcl],?_,rfl,fun _=>hkm,fun h=>(by cases h)⟩;simp only;omega
theorem lineT_pos (x:Line) (h:x.tail∈tails4):0<(lineT x).length:=by
 have:0<x.tail.length:=by
  simp only[tails4,List.mem_cons,List.not_mem_nil,or_false]at h;rcases h with h|h|h|h <;> (rw[h];decide)
 unfold lineT
 repeat' split
 all_goals simp only[List.length_append,List.length_cons];omega
theorem all_lines (s:Bs) (hs:s.length≤20000000):∀(xs:List Line) (n f:Nat) (acc:List It),(∀x∈xs,LineOk x)→s.drop n=xs.flatMap lineT→n≤s.length→xs.length<f→∃items,allF (envT tab0) s f n acc = .ok (acc++items)∧All2 (ItL s) items xs:=by
 intro xs
 induction xs with
 | nil =>
  intro n f acc _ hd hn hf;cases f with
  | zero=>omega
  | succ f =>
   have h1:=congrArg List.length hd;rw[List.length_drop]at h1;simp at h1;refine⟨[],?_,.nil⟩;unfold allF;rw[if_neg (by omega)];simp
 | cons x xs ih =>
  intro n f acc hok hd hn hf;cases f with
  | zero=>omega
  | succ f =>
   rw[List.flatMap_cons]at hd;obtain⟨it,h1,h2,h3⟩:=item_line s hs n x _ (hok x (by simp)) hd;have hp:=lineT_pos x (hok x (by simp)).tail;have hl:=congrArg List.length hd;rw[List.length_drop,List.length_append]at hl;have hd2:s.drop it.b=xs.flatMap lineT:=by rw[h2,←List.drop_drop,hd];simp
   simp only[List.length_cons]at hf;obtain⟨items,i1,i2⟩:=ih it.b f (acc++[it]) (fun y hy=>hok y (by simp[hy])) hd2 (by omega) (by omega);refine⟨it::items,?_,.cons h3 i2⟩;unfold allF;rw[if_pos (by omega),h1];simp only;rw[i1];simp
theorem flat_len (xs:List Line) (hok:∀x∈xs,LineOk x):xs.length≤(xs.flatMap lineT).length:=by
 induction xs with
 | nil=>simp
 | cons x xs ih =>
  have hp:=lineT_pos x (hok x (by simp)).tail;have:=ih (fun y hy=>hok y (by simp[hy]));rw[List.flatMap_cons,List.length_append,List.length_cons];omega
theorem made_law (xs:List Line) (hok:∀x∈xs,LineOk x) (hs:(xs.flatMap lineT).length≤20000000):∃items,allS (envT tab0) (xs.flatMap lineT) = .ok items∧All2 (ItL (xs.flatMap lineT)) items xs:=by
 have h1:=flat_len xs hok;obtain⟨items,i1,i2⟩:=all_lines (xs.flatMap lineT) hs xs 0 ((xs.flatMap lineT).length+1) [] hok rfl (by omega) (by omega);exact⟨items,by unfold allS;rw[i1];rfl,i2⟩
end Go.Proofs.YtkplelejagpkmaaGreatDoor.Pl
