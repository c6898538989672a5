/-
 The walks and plain laws that the claim rests on, part 38.
-/
import Derived.Test.YtkplelejagpkmaaGreatDoorP37
set_option maxHeartbeats 16000000
set_option linter.all false
set_option linter.unusedVariables false
set_option linter.unusedSimpArgs false
namespace Go.Proofs.YtkplelejagpkmaaGreatDoor.Pl
inductive RV2 (b:Nat):Res (Nat × Nat × Nds)→Res (Nat × Nat × Nds)→Prop
 | bad (c p:Nat):RV2 b (.bad c p) (.bad c p)
 | ok (i e:Nat) (st1 st2:Nds):RS b st1 st2→RV2 b (.ok (b+i,e,st1)) (.ok (i,e,st2))
inductive RW2 (b:Nat):Res (Nat × Nds)→Res (Nat × Nds)→Prop
 | bad (c p:Nat):RW2 b (.bad c p) (.bad c p)
 | ok (e:Nat) (st1 st2:Nds):RS b st1 st2→RW2 b (.ok (e,st1)) (.ok (e,st2))
def VF (s:Bs) (b:Nat) (V:ValF):Prop:=∀d n st1 st2,n≤s.length→RS b st1 st2→V d n st1 ≠ .non→RV2 b (V d n st1) (V d n st2)
theorem KR_self (ws:List KW):All2 (KR 0 0) ws ws:=by
 induction ws with
 | nil=>exact .nil
 | cons w ws ih=>exact .cons ⟨rfl,w.2.1,w.2.2,by simp,by simp⟩ ih
theorem way_frame (b table:Nat):∀(ws:List KW) (into d:Nat) (st1 st2:Nds),RS b st1 st2→way (b+table) ws (b+into) d st1 ≠ .non →
    (∀c p,way (b+table) ws (b+into) d st1 = .bad c p→way table ws into d st2 = .bad c p):=by
 intro ws
 induction ws with
 | nil=>intro into d st1 st2 _ h;simp[way]at h
 | cons v rest ih =>
  intro into d st1 st2 hr hne c p h;obtain⟨w,u1,u2⟩:=v;have hsub:=hr.sub into w;unfold way at h hne ⊢;rcases hsub with⟨h1,h2⟩|⟨h1,h2⟩|⟨i,h1,h2⟩
  · rw[h1]at h;cases h
  · rw[h1]at h hne;rw[h2];simp only at h hne ⊢;cases rest with
    | nil=>cases h
    | cons y r2 =>
     simp only at h hne ⊢
     split at h
     · rename_i hd
       rw[if_pos hd];cases h;rfl
     rename_i hd
     rw[if_neg hd]at hne ⊢
     split at h
     · rename_i hkr
       rw[if_pos hkr]at hne;simp only[Bool.and_eq_true]at hkr;have hk8:=hr.kind8 into hkr.1;rw[hk8,hr.room hkr.2];simp only[Bool.and_self,if_true];have hl:=hr.len;have hr2:RS b (putAt (st1++[dotNd (b+table+1)]) (b+into) w (u1,u2) (b+st2.length)) (putAt (st2++[dotNd (table+1)]) into w (u1,u2) st2.length):=by
        have h3:RS b (st1++[dotNd (b+table+1)]) (st2++[dotNd (table+1)]):=hr.app (x:=dotNd (b+table+1)) (y:=dotNd (table+1)) ⟨rfl,rfl,rfl,rfl,rfl,(if_neg (show ¬(dotNd (table+1)).owner=0 from Nat.succ_ne_zero table)).symm ▸ (by show b+table+1=b+(table+1);omega)⟩;exact h3.put into w (u1,u2) (u1,u2) st2.length
       rw[hl]at h hne;exact ih st2.length (d+1) _ _ hr2 hne c p h
     cases h
  rw[h1]at h hne;rw[h2];simp only at h hne ⊢;cases rest with
  | nil=>cases h;rfl
  | cons y r2 =>
   simp only at h hne ⊢;have ho:=hr.owner i;by_cases hoe:ownerOf st2 i=table+1
   · have h0:ownerOf st1 (b+i)=b+table+1:=by rw[ho,hoe,if_neg (by omega)];omega
     rw[if_pos h0]at h hne;rw[if_pos hoe];exact ih i (d+1) st1 st2 hr hne c p h
   have h0:¬ownerOf st1 (b+i)=b+table+1:=by
    rw[ho];split
    · omega
    omega
   rw[if_neg h0]at h;rw[if_neg hoe];cases h;rfl
section
variable {E:Env} (hE:EnvOk E) {s:Bs} {b:Nat} {V:ValF} (hL:VLe s V) (hV:VF s b V)
include hE hL hV
theorem pairS_frame (table n d:Nat) (st1 st2:Nds) (hn:n≤s.length) (hr:RS b st1 st2) (hne:pairS E V s (b+table) n d st1 ≠ .non):RW2 b (pairS E V s (b+table) n d st1) (pairS E V s table n d st2):=by
 unfold pairS at hne ⊢;cases hk:keyS E s n with
 | non=>rw[hk]at hne;exact absurd rfl hne
 | bad c p=>exact .bad c p
 | ok r =>
  obtain⟨ws,e⟩:=r;have hle:=(keyS_le hE hn).1 _ _ hk;have hb:=blanksAt_le s e hle.2.1;rw[hk]at hne;simp only at hne ⊢;cases hw:way (b+table) ws (b+table) d st1 with
  | non=>rw[hw]at hne;exact absurd rfl hne
  | bad c p =>
   rw[way_frame b table ws table d st1 st2 hr (by rw[hw];simp) c p hw];exact .bad c p
  | ok r2 =>
   obtain⟨into,d',st3⟩:=r2;obtain⟨i2,st4,w1,w2,w3⟩:=way_sim b 0 0 ws ws table table d st1 st2 st3 into d' (KR_self ws) hr hw;subst w1;rw[w2];rw[hw]at hne;simp only at hne ⊢
   split
   · rename_i h61
     rw[if_pos h61]at hne;have hlt:=byteAt_lt h61 (by decide);have hb2:=blanksAt_le s (blanksAt s e+1) (by omega);have hv:=hV (d'+1) (blanksAt s (blanksAt s e+1)) st3 st4 hb2.2 w3 (by intro e;rw[e]at hne;exact absurd rfl hne);revert hne;generalize V (d'+1) (blanksAt s (blanksAt s e+1)) st3=X at hv ⊢;generalize V (d'+1) (blanksAt s (blanksAt s e+1)) st4=Y at hv ⊢;intro hne;cases hv with
     | bad c p=>exact .bad c p
     | ok i e2 st5 st6 h56 =>
      simp only at hne ⊢;cases hgl:ws.getLast? with
      | none=>rw[hgl]at hne;exact absurd rfl hne
      | some v =>
       obtain⟨w,a,b'⟩:=v;rw[hgl]at hne;simp only at hne ⊢
       split at hne
       · rename_i h8
         rw[if_pos h8,h56.kind8 i2 h8,if_pos rfl];exact .ok e2 _ _ (h56.put i2 w (a,b') (a,b') i)
       exact absurd rfl hne
   exact .bad 3 _
theorem tabF_frame (table d:Nat):∀(f n:Nat) (st1 st2:Nds),n≤s.length→RS b st1 st2→tabF E V s (b+table) d f n st1 ≠ .non→RW2 b (tabF E V s (b+table) d f n st1) (tabF E V s table d f n st2):=by
 intro f
 induction f with
 | zero=>intro n st1 st2 _ _ h;simp[tabF]at h
 | succ f ih =>
  intro n st1 st2 hn hr hne;unfold tabF at hne ⊢;have hp:=pairS_frame hE hL hV table n d st1 st2 hn hr (by intro e;rw[e]at hne;exact absurd rfl hne);have hle:=(pairS_le hE hL (b+table) n d st1 hn).1;revert hne;generalize pairS E V s (b+table) n d st1=X at hp hle ⊢;generalize pairS E V s table n d st2=Y at hp ⊢;intro hne;cases hp with
  | bad c p=>exact .bad c p
  | ok e st3 st4 h34 =>
   obtain⟨g1,g2⟩:=hle _ _ rfl;have hb:=blanksAt_le s e g2;simp only at hne ⊢
   split
   · exact .ok _ _ _ h34
   rename_i h125
   rw[if_neg h125]at hne
   split
   · rename_i h44
     rw[if_pos h44]at hne;have hlt:=byteAt_lt h44 (by decide);have hb2:=blanksAt_le s (blanksAt s e+1) (by omega);exact ih _ st3 st4 hb2.2 h34 hne
   exact .bad 3 _
theorem tableS_frame (d n:Nat) (st1 st2:Nds) (hn:n<s.length) (hr:RS b st1 st2) (hne:tableS E V s d n st1 ≠ .non):RV2 b (tableS E V s d n st1) (tableS E V s d n st2):=by
 have hb:=blanksAt_le s (n+1) (by omega);have hl:=hr.len;unfold tableS at hne ⊢
 split
 · exact .bad 4 n
 rename_i hd
 rw[if_neg hd]at hne
 split at hne
 · rename_i hroom
   rw[if_pos hroom,if_pos (hr.room hroom)];simp only at hne ⊢;have hr1:RS b (st1++[tabNd]) (st2++[tabNd]):=hr.app ⟨rfl,rfl,rfl,rfl,rfl,rfl⟩;have hin:(if byteAt s (blanksAt s (n+1))=125 then Res.ok (blanksAt s (n+1),st1++[tabNd]) else tabF E V s st1.length d (s.length+2) (blanksAt s (n+1)) (st1++[tabNd])) ≠ .non →
       RW2 b (if byteAt s (blanksAt s (n+1))=125 then Res.ok (blanksAt s (n+1),st1++[tabNd]) else tabF E V s st1.length d (s.length+2) (blanksAt s (n+1)) (st1++[tabNd]))
        (if byteAt s (blanksAt s (n+1))=125 then Res.ok (blanksAt s (n+1),st2++[tabNd]) else tabF E V s st2.length d (s.length+2) (blanksAt s (n+1)) (st2++[tabNd])):=by
    intro hne
    split
    · exact .ok _ _ _ hr1
    rename_i h125
    rw[if_neg h125]at hne;rw[hl]at hne ⊢;exact tabF_frame hE hL hV st2.length d (s.length+2) _ _ _ hb.2 hr1 hne
   revert hin hne;generalize (if byteAt s (blanksAt s (n+1))=125 then Res.ok (blanksAt s (n+1),st1++[tabNd]) else tabF E V s st1.length d (s.length+2) (blanksAt s (n+1)) (st1++[tabNd]))=X;generalize (if byteAt s (blanksAt s (n+1))=125 then Res.ok (blanksAt s (n+1),st2++[tabNd]) else tabF E V s st2.length d (s.length+2) (blanksAt s (n+1)) (st2++[tabNd]))=Y;intro hne hin;have hrw:=hin (by intro e;rw[e]at hne;exact absurd rfl hne);cases hrw with
   | bad c p=>exact .bad c p
   | ok e st3 st4 h34 =>
    simp only at hne ⊢
    split at hne
    · rename_i h8
      rw[if_pos h8];rw[hl]at h8;rw[h34.kind8 st2.length h8,if_pos rfl,hl];exact .ok _ _ _ _ (h34.mod st2.length (fun nd=>{ nd with sp:=((n:Int),((e+1:Nat):Int)) }) (fun nd=>{ nd with sp:=((n:Int),((e+1:Nat):Int)) }) (fun x y hs=>⟨hs.kind,hs.text,hs.keys,hs.spots,hs.subs,hs.own⟩))
    exact absurd rfl hne
 exact absurd rfl hne
omit hE
theorem listF_frame (d:Nat):∀(f n:Nat) (subs:List Nat) (st1 st2:Nds),n≤s.length→RS b st1 st2→listF V s d f n (subs.map (b+·)) st1 ≠ .non →
    (∃c p,listF V s d f n (subs.map (b+·)) st1 = .bad c p∧listF V s d f n subs st2 = .bad c p)∨(∃l e st3 st4,listF V s d f n (subs.map (b+·)) st1 = .ok (l.map (b+·),e,st3)∧listF V s d f n subs st2 = .ok (l,e,st4)∧RS b st3 st4):=by
 intro f
 induction f with
 | zero=>intro n subs st1 st2 _ _ h;simp[listF]at h
 | succ f ih =>
  intro n subs st1 st2 hn hr hne;unfold listF at hne ⊢;by_cases h93:byteAt s n=93
  · rw[if_pos h93,if_pos h93];exact .inr ⟨subs,n,st1,st2,rfl,rfl,hr⟩
  rw[if_neg h93]at hne;rw[if_neg h93,if_neg h93];have hv:=hV (d+1) n st1 st2 hn hr (by intro e;rw[e]at hne;exact absurd rfl hne);have hle:=(hL (d+1) n st1 hn).1;revert hne;generalize V (d+1) n st1=X at hv hle ⊢;generalize V (d+1) n st2=Y at hv ⊢;intro hne;cases hv with
  | bad c p=>exact .inl ⟨c,p,rfl,rfl⟩
  | ok i e st3 st4 h34 =>
   obtain⟨g1,g2⟩:=hle _ _ _ rfl;simp only[List.length_map]at hne ⊢;have happ:(subs++[i]).map (b+·)=subs.map (b+·)++[b+i]:=by simp
   by_cases h3:30000000<subs.length
   · rw[if_pos h3]at hne;exact absurd rfl hne
   rw[if_neg h3]at hne;rw[if_neg h3,if_neg h3];cases hg:gapAt s e with
   | bad c p=>exact .inl ⟨c,p,rfl,rfl⟩
   | ok g =>
    obtain⟨g3,g4⟩:=gapAt_le hg g2;rw[hg]at hne;simp only at hne ⊢;by_cases h4:byteAt s g=93
    · rw[if_pos h4,if_pos h4];exact .inr ⟨subs++[i],g,st3,st4,by rw[happ],rfl,h34⟩
    rw[if_neg h4]at hne;rw[if_neg h4,if_neg h4];by_cases h44:byteAt s g=44
    · rw[if_pos h44]at hne;rw[if_pos h44,if_pos h44];have hlt:=byteAt_lt h44 (by decide);cases hg2:gapAt s (g+1) with
      | bad c p=>exact .inl ⟨c,p,rfl,rfl⟩
      | ok g' =>
       obtain⟨g5,g6⟩:=gapAt_le hg2 (by omega);rw[hg2]at hne;simp only at hne ⊢;rw[←happ]at hne ⊢;exact ih g' (subs++[i]) st3 st4 g6 h34 hne
    rw[if_neg h44,if_neg h44];exact .inl ⟨3,g,rfl,rfl⟩
theorem listS_frame (d n:Nat) (st1 st2:Nds) (hn:n<s.length) (hr:RS b st1 st2) (hne:listS V s d n st1 ≠ .non):RV2 b (listS V s d n st1) (listS V s d n st2):=by
 unfold listS at hne ⊢
 split
 · exact .bad 4 n
 rename_i hd
 rw[if_neg hd]at hne;cases hg:gapAt s (n+1) with
 | bad c p=>exact .bad c p
 | ok g =>
  obtain⟨g1,g2⟩:=gapAt_le hg (by omega);rw[hg]at hne;simp only at hne ⊢;rcases listF_frame hL hV d (s.length+2) g [] st1 st2 g2 hr (by intro e;rw[List.map_nil]at e;rw[e]at hne;exact absurd rfl hne) with⟨c,p,h1,h2⟩|⟨l,e,st3,st4,h1,h2,h3⟩
  · rw[List.map_nil]at h1;rw[h1,h2];exact .bad c p
  rw[List.map_nil]at h1;rw[h1,h2];rw[h1]at hne;simp only at hne ⊢
  split at hne
  · rename_i hroom
    rw[if_pos hroom,if_pos (h3.room hroom),h3.len];exact .ok _ _ _ _ (h3.app ⟨rfl,rfl,rfl,rfl,rfl,rfl⟩)
  exact absurd rfl hne
end
theorem valueF_frame {E:Env} (hE:EnvOk E) (s:Bs) (b:Nat):∀f,VF s b (valueF E s f):=by
 intro f
 induction f with
 | zero=>intro d n st1 st2 _ _ h;simp[valueF]at h
 | succ f ih =>
  intro d n st1 st2 hn hr hne;have hl:=hr.len;unfold valueF at hne ⊢;simp only at hne ⊢;by_cases h1:byteAt s n=34∨byteAt s n=39
  · rw[if_pos h1]at hne;rw[if_pos h1,if_pos h1];cases hs:E.str (s.drop n) with
    | non=>rw[hs]at hne;exact absurd rfl hne
    | bad c p=>exact .bad c _
    | ok v =>
     obtain⟨t,m⟩:=v;rw[hs]at hne;simp only at hne ⊢
     split at hne
     · rename_i hroom
       rw[if_pos hroom,if_pos (hr.room hroom),hl];exact .ok _ _ _ _ (hr.app ⟨rfl,rfl,rfl,rfl,rfl,rfl⟩)
     exact absurd rfl hne
  rw[if_neg h1]at hne;rw[if_neg h1,if_neg h1];by_cases h2:byteAt s n=91
  · rw[if_pos h2]at hne;rw[if_pos h2,if_pos h2];exact listS_frame (valueF_le hE s f) ih d n st1 st2 (byteAt_lt h2 (by decide)) hr hne
  rw[if_neg h2]at hne;rw[if_neg h2,if_neg h2];by_cases h3:byteAt s n=123
  · rw[if_pos h3]at hne;rw[if_pos h3,if_pos h3];exact tableS_frame hE (valueF_le hE s f) ih d n st1 st2 (byteAt_lt h3 (by decide)) hr hne
  rw[if_neg h3]at hne;rw[if_neg h3,if_neg h3];cases hs:E.scal (s.drop n) with
  | non=>rw[hs]at hne;exact absurd rfl hne
  | bad c p=>exact .bad c n
  | ok v =>
   obtain⟨q,t,m⟩:=v;rw[hs]at hne;simp only at hne ⊢
   split at hne
   · rename_i hroom
     rw[if_pos hroom,if_pos (hr.room hroom),hl];exact .ok _ _ _ _ (hr.app ⟨rfl,rfl,rfl,rfl,rfl,rfl⟩)
   exact absurd rfl hne
theorem RS.any (st:Nds):RS st.length st []:=RS.nil st
theorem valueF_there {E:Env} (hE:EnvOk E) {x s:Bs} {a d i:Nat} {nds st:Nds} (hx:valueF E x 258 d 0 [] = .ok (i,x.length,nds)) (hs:s.length≤20000000) (ha:∃r,Stops r∧s.drop a=x++r) (hax:a+x.length≤s.length)
    (f:Nat) (hf:0<f) (hd:259-f≤d) (hw:WF st) (hl:st.length≤a) :
    ∃st',valueF E s f d a st = .ok (st.length+i,a+x.length,st')∧RS st.length st' (nds.map fun x=>x)∧VOkR st (st.length+i) (a+x.length) st':=by
 obtain⟨t1,t2⟩:=((valueF_tot hE s hs f).resolve_right (by omega)) d a st hd hw hl (by omega);have T:Two x x s 0 a:=⟨⟨[],.inl rfl,by simp⟩,ha,by omega,hax⟩
 obtain⟨q,i2,st2,h1,h2,h3,h4⟩:=((valueF_sim hE T 258 f).resolve_right (by omega)) d 0 0 [] [] i x.length nds hd (by omega) (RS.nil []) (by simpa using hx) (by omega);rw[Nat.zero_add]at h1 h2;subst h1 h2;have hfr:=valueF_frame hE s st.length f d a st [] (by omega) (RS.nil st) t1;rw[Nat.add_zero]at h3;rw[h3]at hfr;generalize hY:valueF E s f d a st=Y at hfr t2;cases hfr with
 | ok _ _ st1 _ h12 =>
  refine⟨st1,rfl,?_,t2 _ _ _ rfl⟩;refine⟨by have:=h12.len;have:=h4.len;simp;omega,fun j y hy=>?_⟩;simp only[List.map_id']at hy;rcases h4.get j with⟨g1,g2⟩|⟨u,v,g1,g2,g3⟩
  · rw[Nat.zero_add]at g1;rw[g1]at hy;cases hy
  rw[Nat.zero_add]at g1;rw[g1]at hy;cases hy;obtain⟨z,hz,hs'⟩:=h12.at' j v g2;refine⟨z,hz,hs'.kind.trans g3.kind.symm,hs'.text.trans g3.text.symm,hs'.keys.trans g3.keys.symm,hs'.spots.trans g3.spots.symm,?_,?_⟩
  · rw[hs'.subs,g3.subs];simp
  have:=g3.own;rw[hs'.own,this]
  split <;> split <;> omega
end Go.Proofs.YtkplelejagpkmaaGreatDoor.Pl
namespace Go.Proofs.YtkplelejagpkmaaGreatDoor.Pl
def Rk (st:Nds) (r:Nat→Nat):Prop:=∀(i:Nat) nd,st[i]?=some nd→∀x∈nd.subs,r x<r i
def Own (b:Nat) (st:Nds):Prop:=∀(i:Nat) nd,b≤i→st[i]?=some nd→∀x∈nd.subs,b≤x
structure VR (st:Nds) (i:Nat) (st':Nds):Prop where
 wf:WF st'
 lo:st.length≤i
 hi:i<st'.length
 keep:Keep st.length st st'
 rk:∃r,Rk st' r
 own:Own st.length st'
def VRk (V:ValF):Prop:=∀d n st i e st',WF st→V d n st = .ok (i,e,st')→(∃r,Rk st r)→VR st i st'
theorem bound_of (r:Nat→Nat):∀n,∃K,∀i,i<n→r i<K:=by
 intro n
 induction n with
 | zero=>exact⟨0,fun i h=>by omega⟩
 | succ n ih =>
  obtain⟨K,h⟩:=ih;refine⟨K+r n+1,fun i hi=>?_⟩;by_cases hin:i<n
  · have:=h i hin;omega
  have:i=n:=by omega
  subst this;omega
theorem Rk.app {st:Nds} {r:Nat→Nat} (h:Rk st r) (hw:WF st) (nd:Nd) (hn:∀x∈nd.subs,x<st.length):∃r',Rk (st++[nd]) r':=by
 obtain⟨K,hK⟩:=bound_of r st.length;refine⟨fun j=>if j<st.length then r j else K,fun i x hx y hy=>?_⟩;by_cases hi:i<st.length
 · rw[List.getElem?_append_left hi]at hx;have hy1:=(hw i x hx).lt y hy;simp only[if_pos hi,if_pos hy1];exact h i x hx y hy
 have h2:=(List.getElem?_eq_some_iff.1 hx).1;simp only[List.length_append,List.length_singleton]at h2;have:i=st.length:=by omega
 subst this;simp at hx;subst hx;have hy1:=hn y hy;simp only[if_pos hy1,if_neg (Nat.lt_irrefl _)];exact hK y hy1
theorem Own.app {b:Nat} {st:Nds} (h:Own b st) (nd:Nd) (hn:∀x∈nd.subs,b≤x):Own b (st++[nd]):=by
 intro i x hb hx y hy;by_cases hi:i<st.length
 · rw[List.getElem?_append_left hi]at hx;exact h i x hb hx y hy
 have h2:=(List.getElem?_eq_some_iff.1 hx).1;simp only[List.length_append,List.length_singleton]at h2;have:i=st.length:=by omega
 subst this;simp at hx;subst hx;exact hn y hy
theorem Own.mono {b:Nat} {st st':Nds} (h:Own b st) {c:Nat} (hc:b≤c) (hk:Keep c st st') (ho:Own c st'):Own b st':=by
 intro i x hb hx y hy;by_cases hi:i<c
 · exact h i x hb ((hk i hi).symm.trans hx) y hy
 have:=ho i x (by omega) hx y hy;omega
theorem Rk.put {st:Nds} {r:Nat→Nat} (h:Rk st r) (c:Nat) (ho:Own c st) (t i:Nat) (w:Bs) (sp:Nat × Nat) (ht:t<c) (hi:c≤i) (hlow:∀(j:Nat) nd,j<c→st[j]?=some nd→∀x∈nd.subs,x<c):∃r',Rk (putAt st t w sp i) r':=by
 refine⟨fun j=>if j<c then r j+r i+1 else r j,fun j x hx y hy=>?_⟩;rw[get_put]at hx;by_cases hj:t=j
 · subst hj;rw[if_pos rfl]at hx;cases hg:st[t]? with
   | none=>rw[hg]at hx;cases hx
   | some nd =>
    rw[hg]at hx;simp only[Option.map_some,Option.some.injEq]at hx;subst hx;simp only[if_pos ht];rcases List.mem_append.1 (show y∈nd.subs++[i] from hy) with hy|hy
    · have h1:=hlow t nd ht hg y hy;have h2:=h t nd hg y hy;simp only[if_pos h1];omega
    simp at hy;subst hy;simp only[if_neg (show ¬y<c by omega)];omega
 rw[if_neg hj]at hx;have h2:=h j x hx y hy;by_cases hjc:j<c
 · have h1:=hlow j x hjc hx y hy;simp only[if_pos hjc,if_pos h1];omega
 have h1:=ho j x (by omega) hx y hy;simp only[if_neg hjc,if_neg (show ¬y<c by omega)];exact h2
theorem Own.put {b:Nat} {st:Nds} (h:Own b st) (t i:Nat) (w:Bs) (sp:Nat × Nat) (hi:b≤i):Own b (putAt st t w sp i):=by
 intro j x hb hx y hy;rw[get_put]at hx;by_cases hj:t=j
 · subst hj;rw[if_pos rfl]at hx;cases hg:st[t]? with
   | none=>rw[hg]at hx;cases hx
   | some nd =>
    rw[hg]at hx;simp only[Option.map_some,Option.some.injEq]at hx;subst hx;rcases List.mem_append.1 (show y∈nd.subs++[i] from hy) with hy|hy
    · exact h t nd hb hg y hy
    simp at hy;omega
 rw[if_neg hj]at hx;exact h j x hb hx y hy
theorem own_nil (st:Nds):Own st.length st:=fun i nd hb hx=>by have:=(List.getElem?_eq_some_iff.1 hx).1;omega
theorem way_rk (b table:Nat):∀(ws:List KW) (into d:Nat) (st:Nds) (into' d':Nat) (st':Nds),WF st→b≤table→table≤into→into<st.length→way table ws into d st = .ok (into',d',st')→(∃r,Rk st r)→Own b st →
    (∃r,Rk st' r)∧Own b st'∧WF st'∧table≤into'∧into'<st'.length∧st.length≤st'.length∧Keep table st st':=by
 intro ws
 induction ws with
 | nil=>intro into d st into' d' st' _ _ _ _ h;simp[way]at h
 | cons v rest ih =>
  intro into d st into' d' st' hw hb ht hin h hr ho;obtain⟨w,u1,u2⟩:=v;unfold way at h;cases hs:subOf st into w with
  | non=>rw[hs]at h;cases h
  | no =>
   rw[hs]at h;cases rest with
   | nil=>simp only[Res.ok.injEq,Prod.mk.injEq]at h;obtain⟨rfl,rfl,rfl⟩:=h;exact⟨hr,ho,hw,ht,hin,Nat.le_refl _,Keep.refl _ _⟩
   | cons y r2 =>
    simp only at h
    split at h
    · cases h
    split at h
    · obtain⟨r,hr⟩:=hr;obtain⟨nd,hnd⟩:∃nd,st[into]?=some nd:=⟨_,List.getElem?_eq_getElem hin⟩
      have hw1:WF (st++[dotNd (table+1)]):=hw.app _ ⟨fun _=>⟨rfl,rfl⟩,List.Pairwise.nil,fun x hx=>(by cases hx),fun _=>⟨rfl,by show table+1≤st.length;omega⟩⟩;have hnd1:(st++[dotNd (table+1)])[into]?=some nd:=by rw[List.getElem?_append_left hin];exact hnd
      have hw2:WF (putAt (st++[dotNd (table+1)]) into w (u1,u2) st.length):=hw1.put into st.length w (u1,u2) nd hnd1 (fun x hx=>(hw into nd hnd).lt x hx) (by simp);obtain⟨r1,hr1⟩:=hr.app hw (dotNd (table+1)) (fun x hx=>by cases hx);have ho1:Own b (st++[dotNd (table+1)]):=ho.app _ (fun x hx=>by cases hx);have hoc:Own st.length (st++[dotNd (table+1)]):=(own_nil st).app _ (fun x hx=>by cases hx);have hr2:=hr1.put st.length hoc into st.length w (u1,u2) hin (Nat.le_refl _) (fun j x hj hx y hy=>by
       rw[List.getElem?_append_left hj]at hx;exact (hw j x hx).lt y hy)
      have hlen:(putAt (st++[dotNd (table+1)]) into w (u1,u2) st.length).length=st.length+1:=by unfold putAt;simp
      obtain⟨g1,g2,g3,g4,g5,g6,g7⟩:=ih st.length (d+1) _ into' d' st' hw2 hb (by omega) (by rw[hlen];omega) h hr2 (ho1.put into st.length w (u1,u2) (by omega));refine⟨g1,g2,g3,g4,g5,by omega,fun j hj=>?_⟩;rw[g7 j hj,get_put,if_neg (by omega),List.getElem?_append_left (by omega)]
    cases h
  | yes i =>
   rw[hs]at h;cases rest with
   | nil=>cases h
   | cons y r2 =>
    simp only at h
    split at h
    · rename_i how
      have hil:i<st.length:=by
       unfold subOf at hs
       split at hs
       · cases hs
       split at hs
       · cases hs
       split at hs
       · cases hs
       split at hs
       · cases hs;assumption
       cases hs
      have htl:table≤i:=by
       unfold ownerOf at how
       split at how
       · rename_i nd hnd
         have:=(hw i nd hnd).own (by omega);omega
       omega
      exact ih i (d+1) st into' d' st' hw hb htl hil h hr ho
    cases h
section
variable {E:Env} {s:Bs} {V:ValF} (hV:VRk V)
include hV
theorem pairS_rk (b table n d:Nat) (st:Nds) (e:Nat) (st':Nds) (hw:WF st) (hb:b≤table) (ht:table<st.length) (h:pairS E V s table n d st = .ok (e,st')) (hr:∃r,Rk st r) (ho:Own b st) :
    (∃r,Rk st' r)∧Own b st'∧WF st'∧st.length≤st'.length∧Keep table st st':=by
 unfold pairS at h
 split at h
 · cases h
 · cases h
 rename_i ws e0 _
 split at h
 · cases h
 · cases h
 rename_i into d' st1 hway
 obtain⟨g1,g2,g3,g4,g5,g6,g7⟩:=way_rk b table ws table d st into d' st1 hw hb (Nat.le_refl _) ht hway hr ho;simp only at h
 split at h
 · split at h
   · cases h
   · cases h
   rename_i i e2 st2 hv
   have q:=hV _ _ _ _ _ _ g3 hv g1;obtain⟨r2,hr2⟩:=q.rk;have ho2:=q.own;have hq1:=q.lo;have hq2:=q.hi
   split at h
   · cases h
   rename_i w a b' _
   split at h
   · simp only[Res.ok.injEq,Prod.mk.injEq]at h;obtain⟨rfl,rfl⟩:=h;obtain⟨nd,hnd⟩:∃nd,st1[into]?=some nd:=⟨_,List.getElem?_eq_getElem g5⟩
     have hnd2:st2[into]?=some nd:=(q.keep into g5).trans hnd;have hob:Own b st2:=g2.mono (by omega) q.keep ho2;refine⟨hr2.put st1.length ho2 into i w (a,b') g5 q.lo (fun j x hj hx y hy=>?_),hob.put into i w (a,b') (by omega),q.wf.put into i w (a,b') nd hnd2 (fun x hx=>by have:=(g3 into nd hnd).lt x hx;omega) q.hi,?_,fun j hj=>?_⟩
     · have:=(q.keep j hj).symm.trans hx;exact (g3 j x this).lt y hy
     · unfold putAt;rw[List.length_modify];omega
     rw[get_put,if_neg (by omega),q.keep j (by omega)];exact g7 j hj
   cases h
 cases h
theorem tabF_rk (b table d:Nat) (hb:b≤table):∀(f n:Nat) (st:Nds) (e:Nat) (st':Nds),WF st→table<st.length→tabF E V s table d f n st = .ok (e,st')→(∃r,Rk st r)→Own b st →
    (∃r,Rk st' r)∧Own b st'∧WF st'∧st.length≤st'.length∧Keep table st st':=by
 intro f
 induction f with
 | zero=>intro n st e st' _ _ h;simp[tabF]at h
 | succ f ih =>
  intro n st e st' hw ht h hr ho;unfold tabF at h
  split at h
  · cases h
  · cases h
  rename_i e1 st1 hp
  obtain⟨g1,g2,g3,g4,g5⟩:=pairS_rk hV b table n d st e1 st1 hw hb ht hp hr ho;simp only at h
  split at h
  · simp only[Res.ok.injEq,Prod.mk.injEq]at h;obtain⟨rfl,rfl⟩:=h;exact⟨g1,g2,g3,g4,g5⟩
  split at h
  · obtain⟨k1,k2,k3,k4,k5⟩:=ih _ st1 e st' g3 (by omega) h g1 g2;exact⟨k1,k2,k3,by omega,g5.trans k5⟩
  cases h
theorem tableS_rk (d n:Nat) (st:Nds) (i e:Nat) (st':Nds) (hw:WF st) (h:tableS E V s d n st = .ok (i,e,st')) (hr:∃r,Rk st r):VR st i st':=by
 unfold tableS at h
 split at h
 · cases h
 split at h
 · simp only at h;have hw1:WF (st++[tabNd]):=hw.app _ ⟨fun _=>⟨rfl,rfl⟩,List.Pairwise.nil,fun x hx=>(by cases hx),fun h=>absurd rfl h⟩;obtain⟨r,hr⟩:=hr;have hr1:=hr.app hw tabNd (fun x hx=>by cases hx);have ho1:Own st.length (st++[tabNd]):=(own_nil st).app _ (fun x hx=>by cases hx);have key:∀e1 st1,(if byteAt s (blanksAt s (n+1))=125 then Res.ok (blanksAt s (n+1),st++[tabNd]) else tabF E V s st.length d (s.length+2) (blanksAt s (n+1)) (st++[tabNd])) = .ok (e1,st1)→(∃r,Rk st1 r)∧Own st.length st1∧WF st1∧st.length<st1.length∧Keep st.length st st1:=by
    intro e1 st1 h
    split at h
    · simp only[Res.ok.injEq,Prod.mk.injEq]at h;obtain⟨rfl,rfl⟩:=h;exact⟨hr1,ho1,hw1,by simp,Keep.app _ _ _ (Nat.le_refl _)⟩
    obtain⟨g1,g2,g3,g4,g5⟩:=tabF_rk hV st.length st.length d (Nat.le_refl _) _ _ _ _ _ hw1 (by simp) h hr1 ho1;exact⟨g1,g2,g3,by simp at g4;omega,(Keep.app _ _ _ (Nat.le_refl _)).trans g5⟩
   split at h
   · cases h
   · cases h
   rename_i e1 st1 hk
   obtain⟨⟨r2,g1⟩,g2,g3,g4,g5⟩:=key _ _ hk
   split at h
   · simp only[Res.ok.injEq,Prod.mk.injEq]at h;obtain⟨rfl,rfl,rfl⟩:=h;have hsub:∀(j:Nat) x,(st1.modify st.length fun nd=>{ nd with sp:=((n:Int),((e1+1:Nat):Int)) })[j]?=some x→∃y,st1[j]?=some y∧x.subs=y.subs∧x.kind=y.kind∧x.keys=y.keys∧x.spots=y.spots∧x.owner=y.owner:=by
      intro j x hx;rw[get_modify]at hx
      split at hx
      · cases hg:st1[j]? with
        | none=>rw[hg]at hx;cases hx
        | some y=>rw[hg]at hx;simp only[Option.map_some,Option.some.injEq]at hx;subst hx;exact⟨y,rfl,rfl,rfl,rfl,rfl,rfl⟩
      exact⟨x,hx,rfl,rfl,rfl,rfl,rfl⟩
     have hlen:(st1.modify st.length fun nd=>{ nd with sp:=((n:Int),((e1+1:Nat):Int)) }).length=st1.length:=by simp
     refine⟨fun j x hx=>?_,Nat.le_refl _,by rw[hlen];exact g4,fun j hj=>?_,⟨r2,fun j x hx y hy=>?_⟩,fun j x hb hx y hy=>?_⟩
     · obtain⟨z,hz,h1,h2,h3,h4,h5⟩:=hsub j x hx;have q:=g3 j z hz;rw[hlen];exact⟨fun hk=>by rw[h3,h4,h1];exact q.len (h2 ▸ hk),h1 ▸ q.up,fun y hy=>q.lt y (h1 ▸ hy),fun ho=>by rw[h2,h5];exact q.own (h5 ▸ ho)⟩
     · rw[get_modify,if_neg (by omega)];exact g5 j hj
     · obtain⟨z,hz,hzs,_⟩:=hsub j x hx;exact g1 j z hz y (hzs ▸ hy)
     obtain⟨z,hz,hzs,_⟩:=hsub j x hx;exact g2 j z hb hz y (hzs ▸ hy)
   cases h
 cases h
theorem listF_rk (d b:Nat):∀(f n:Nat) (subs:List Nat) (st:Nds) (l:List Nat) (e:Nat) (st':Nds),WF st→b≤st.length→listF V s d f n subs st = .ok (l,e,st')→(∃r,Rk st r)→Own b st→subs.Pairwise (· < ·)→(∀x∈subs,b≤x∧x<st.length) →
    (∃r,Rk st' r)∧Own b st'∧WF st'∧st.length≤st'.length∧Keep st.length st st'∧l.Pairwise (· < ·)∧∀x∈l,b≤x∧x<st'.length:=by
 intro f
 induction f with
 | zero=>intro n subs st l e st' _ _ h;simp[listF]at h
 | succ f ih =>
  intro n subs st l e st' hw hb h hr ho hup hsub;unfold listF at h
  split at h
  · simp only[Res.ok.injEq,Prod.mk.injEq]at h;obtain⟨rfl,rfl,rfl⟩:=h;exact⟨hr,ho,hw,Nat.le_refl _,Keep.refl _ _,hup,hsub⟩
  split at h
  · cases h
  · cases h
  rename_i i e1 st1 hv
  have q:=hV _ _ _ _ _ _ hw hv hr;have hr2:=q.rk;have ho2:=q.own;have hq1:=q.lo;have hq2:=q.hi;have ho3:Own b st1:=ho.mono hb q.keep ho2;have hs2:∀x∈subs++[i],b≤x∧x<st1.length:=by
   intro x hx;rcases List.mem_append.1 hx with hx|hx
   · have:=hsub x hx;omega
   simp at hx;omega
  have hup2:(subs++[i]).Pairwise (· < ·):=List.pairwise_append.2 ⟨hup,List.pairwise_singleton _ _,fun x hx y hy=>by
   have:=hsub x hx;simp at hy;omega⟩
  split at h
  · cases h
  split at h
  · cases h
  split at h
  · simp only[Res.ok.injEq,Prod.mk.injEq]at h;obtain⟨rfl,rfl,rfl⟩:=h;exact⟨hr2,ho3,q.wf,by omega,q.keep,hup2,hs2⟩
  split at h
  · split at h
    · cases h
    obtain⟨k1,k2,k3,k4,k5,k6,k7⟩:=ih _ _ st1 l e st' q.wf (by omega) h hr2 ho3 hup2 hs2;exact⟨k1,k2,k3,by omega,q.keep.trans (k5.mono (by omega)),k6,k7⟩
  cases h
theorem listS_rk (d n:Nat) (st:Nds) (i e:Nat) (st':Nds) (hw:WF st) (h:listS V s d n st = .ok (i,e,st')) (hr:∃r,Rk st r):VR st i st':=by
 unfold listS at h
 split at h
 · cases h
 split at h
 · cases h
 split at h
 · cases h
 · cases h
 rename_i subs e1 st1 hl
 obtain⟨⟨r,g1⟩,g2,g3,g5,g6,g7,g4⟩:=listF_rk hV d st.length _ _ _ _ _ _ _ hw (Nat.le_refl _) hl hr (own_nil st) List.Pairwise.nil (fun x hx=>by cases hx)
 split at h
 · simp only[Res.ok.injEq,Prod.mk.injEq]at h;obtain⟨rfl,rfl,rfl⟩:=h;exact⟨g3.app _ ⟨fun hk=>(by cases hk),g7,fun x hx=>(by have:=(g4 x hx).2;omega),fun h=>absurd rfl h⟩,g5,by simp,g6.trans (Keep.app _ _ _ g5),g1.app g3 _ (fun x hx=>(g4 x hx).2),g2.app _ (fun x hx=>(g4 x hx).1)⟩
 cases h
end
theorem leaf_rk {st:Nds} (hw:WF st) (hr:∃r,Rk st r) (k:Nat) (t:Bs) (a b:Nat) (hk:k≠8):VR st st.length (st++[leaf k t a b]):=by
 obtain⟨r,hr⟩:=hr;exact⟨hw.app _ ⟨fun h=>absurd h hk,List.Pairwise.nil,fun x hx=>(by cases hx),fun h=>absurd rfl h⟩,Nat.le_refl _,by simp,Keep.app _ _ _ (Nat.le_refl _),hr.app hw _ (fun x hx=>by cases hx),(own_nil st).app _ (fun x hx=>by cases hx)⟩
theorem valueF_rk {E:Env} (hE:EnvOk E) (s:Bs):∀f,VRk (valueF E s f):=by
 intro f
 induction f with
 | zero=>intro d n st i e st' _ h;simp[valueF]at h
 | succ f ih =>
  intro d n st i e st' hw h hr;unfold valueF at h;simp only at h
  split at h
  · split at h
    · cases h
    · cases h
    split at h
    · simp only[Res.ok.injEq,Prod.mk.injEq]at h;obtain⟨rfl,rfl,rfl⟩:=h;exact leaf_rk hw hr _ _ _ _ (by decide)
    cases h
  split at h
  · exact listS_rk ih d n st i e st' hw h hr
  split at h
  · exact tableS_rk ih d n st i e st' hw h hr
  split at h
  · cases h
  · cases h
  rename_i k t m hs
  split at h
  · simp only[Res.ok.injEq,Prod.mk.injEq]at h;obtain⟨rfl,rfl,rfl⟩:=h;exact leaf_rk hw hr _ _ _ _ (by have:=(hE.scalK _ _ _ _ hs).2.2;omega)
  cases h
end Go.Proofs.YtkplelejagpkmaaGreatDoor.Pl
namespace Go.Proofs.YtkplelejagpkmaaGreatDoor.Pl
theorem tableS_span {E:Env} {V:ValF} {s:Bs} (d n:Nat) (st:Nds) (i e:Nat) (st':Nds) (h:tableS E V s d n st = .ok (i,e,st')):∃nd,st'[i]?=some nd∧nd.sp=((n:Int),(e:Int)):=by
 unfold tableS at h
 split at h
 · cases h
 split at h
 · simp only at h
   split at h
   · cases h
   · cases h
   rename_i e1 st1 _
   split at h
   · rename_i h8
     simp only[Res.ok.injEq,Prod.mk.injEq]at h;obtain⟨rfl,rfl,rfl⟩:=h;unfold kind8 at h8;cases hg:st1[st.length]? with
     | none=>rw[hg]at h8;simp at h8
     | some nd=>exact⟨_,by rw[get_modify,if_pos rfl,hg];rfl,rfl⟩
   cases h
 cases h
theorem listS_span {V:ValF} {s:Bs} (d n:Nat) (st:Nds) (i e:Nat) (st':Nds) (h:listS V s d n st = .ok (i,e,st')):∃nd,st'[i]?=some nd∧nd.sp=((n:Int),(e:Int)):=by
 unfold listS at h
 split at h
 · cases h
 split at h
 · cases h
 split at h
 · cases h
 · cases h
 split at h
 · simp only[Res.ok.injEq,Prod.mk.injEq]at h;obtain⟨rfl,rfl,rfl⟩:=h;exact⟨_,by simp;rfl,rfl⟩
 cases h
theorem valueF_span {E:Env} (s:Bs) (f d n:Nat) (st:Nds) (i e:Nat) (st':Nds) (h:valueF E s f d n st = .ok (i,e,st')):∃nd,st'[i]?=some nd∧nd.sp=((n:Int),(e:Int)):=by
 cases f with
 | zero=>simp[valueF]at h
 | succ f =>
  unfold valueF at h;simp only at h
  split at h
  · split at h
    · cases h
    · cases h
    split at h
    · simp only[Res.ok.injEq,Prod.mk.injEq]at h;obtain⟨rfl,rfl,rfl⟩:=h;exact⟨_,by simp;rfl,rfl⟩
    cases h
  split at h
  · exact listS_span d n st i e st' h
  split at h
  · exact tableS_span d n st i e st' h
  split at h
  · cases h
  · cases h
  split at h
  · simp only[Res.ok.injEq,Prod.mk.injEq]at h;obtain⟨rfl,rfl,rfl⟩:=h;exact⟨_,by simp;rfl,rfl⟩
  cases h
end Go.Proofs.YtkplelejagpkmaaGreatDoor.Pl
namespace Go.Proofs.YtkplelejagpkmaaGreatDoor.Pl
def isGap (c:UInt8):Prop:=c=9∨c=10∨c=13∨c=32∨c=35
def gaps6:List Bs:=[[],[32],[9],[10],[32,35,32,91,120,44,10],[13,10]]
theorem blanks_not (c:UInt8) (r:Bs) (h:¬isGap c):blanks (c::r)=0:=by
 unfold blanks;rw[List.takeWhile_cons,if_neg]
 · rfl
 intro hb;apply h;unfold isBlank at hb;simp only[Bool.or_eq_true,beq_iff_eq]at hb;rcases hb with hb|hb
 · exact .inr (.inr (.inr (.inl (UInt8.toNat_inj.1 hb))))
 exact .inl (UInt8.toNat_inj.1 hb)
theorem comment_not' (c:UInt8) (r:Bs) (h:¬isGap c):comment (c::r)=0:=by
 unfold comment
 split
 · rename_i e
   simp only[List.cons.injEq]at e;exact absurd (.inr (.inr (.inr (.inr e.1)))) h
 rfl
theorem step_not (l:Bs) (m:Nat) (hm:blanks l+comment (l.drop (blanks l))=m) (c:UInt8) (r:Bs) (hd:l.drop m=c::r) (h:¬isGap c):gapStep l = .ok m:=by
 unfold gapStep;simp only[hm,hd]
 split
 · rename_i e
   simp only[List.cons.injEq]at e;exact absurd (.inr (.inr (.inl e.1))) h
 · rename_i e
   simp only[List.cons.injEq]at e;exact absurd (.inr (.inl e.1)) h
 · rename_i e
   simp only[List.cons.injEq]at e;exact absurd (.inr (.inr (.inl e.1))) h
 rfl
theorem gap_not (c:UInt8) (r:Bs) (h:¬isGap c):gap (c::r) = .ok 0:=by
 have hs:gapStep (c::r) = .ok 0:=step_not _ 0 (by rw[blanks_not c r h];simp[comment_not' c r h]) c r rfl h;rw[gap_step,hs]
theorem gap_go (l:Bs) (n k:Nat) (hs:gapStep l = .ok (n+1)) (hk:gap (l.drop (n+1)) = .ok k):gap l = .ok (n+1+k):=by
 rw[gap_step,hs];simp only;rw[hk]
theorem gap_put (g:Bs) (hg:g∈gaps6) (c:UInt8) (r:Bs) (h:¬isGap c):gap (g++c::r) = .ok g.length:=by
 have hb:=blanks_not c r h;have hc:=comment_not' c r h;have h0:=gap_not c r h;simp only[gaps6,List.mem_cons,List.not_mem_nil,or_false]at hg;rcases hg with rfl|rfl|rfl|rfl|rfl|rfl
 · exact h0
 · exact gap_go (32::c::r) 0 0 (step_not _ 1 (by
    have:blanks (32::c::r)=1+blanks (c::r):=by unfold blanks;rw[List.takeWhile_cons,if_pos (by decide)];simp;omega
    rw[this,hb];simp[hc]) c r rfl h) h0
 · exact gap_go (9::c::r) 0 0 (step_not _ 1 (by
    have:blanks (9::c::r)=1+blanks (c::r):=by unfold blanks;rw[List.takeWhile_cons,if_pos (by decide)];simp;omega
    rw[this,hb];simp[hc]) c r rfl h) h0
 · exact gap_go (10::c::r) 0 0 rfl h0
 · exact gap_go (32::35::32::91::120::44::10::c::r) 6 0 rfl h0
 exact gap_go (13::10::c::r) 1 0 rfl h0
theorem gap_put2 (g:Bs) (hg:g∈gaps6) (c:UInt8) (r:Bs) (h:¬isGap c):gap (g++32::c::r) = .ok (g.length+1):=by
 have hb:=blanks_not c r h;have hc:=comment_not' c r h;have h0:=gap_not c r h;have hb1:blanks (32::c::r)=1:=by
  have:blanks (32::c::r)=1+blanks (c::r):=by unfold blanks;rw[List.takeWhile_cons,if_pos (by decide)];simp;omega
  rw[this,hb]
 have h1:=gap_put [32] (by simp[gaps6]) c r h;simp only[gaps6,List.mem_cons,List.not_mem_nil,or_false]at hg;rcases hg with rfl|rfl|rfl|rfl|rfl|rfl
 · exact h1
 · exact gap_go (32::32::c::r) 1 0 (step_not _ 2 (by
    have:blanks (32::32::c::r)=1+blanks (32::c::r):=by unfold blanks;rw[List.takeWhile_cons,if_pos (by decide)];simp;omega
    rw[this,hb1];simp[hc]) c r rfl h) h0
 · exact gap_go (9::32::c::r) 1 0 (step_not _ 2 (by
    have:blanks (9::32::c::r)=1+blanks (32::c::r):=by unfold blanks;rw[List.takeWhile_cons,if_pos (by decide)];simp;omega
    rw[this,hb1];simp[hc]) c r rfl h) h0
 · exact gap_go (10::32::c::r) 0 1 rfl h1
 · exact gap_go (32::35::32::91::120::44::10::32::c::r) 6 1 rfl h1
 exact gap_go (13::10::32::c::r) 1 1 rfl h1
theorem gapAt_of {s:Bs} {n k:Nat} (h:gap (s.drop n) = .ok k):gapAt s n = .ok (n+k):=by unfold gapAt;rw[h]
theorem stops_gap (g:Bs) (hg:g∈gaps6) (r:Bs) (hr:(∃t,r=44::t)∨(∃t,r=32::93::t)):Stops (g++r):=by
 simp only[gaps6,List.mem_cons,List.not_mem_nil,or_false]at hg;right;rcases hr with⟨t,rfl⟩|⟨t,rfl⟩ <;> rcases hg with rfl|rfl|rfl|rfl|rfl|rfl
 all_goals
  refine⟨_,_,rfl,by decide,fun h32 d t' e=>?_⟩
  first
   | exact absurd h32 (by decide)
   | (have e2:(44:UInt8)::t=d::t':=e;cases e2;decide)
   | (have e2:(93:UInt8)::t=d::t':=e;cases e2;decide)
   | (have e2:(32:UInt8)::93::t=d::t':=e;cases e2;decide)
   | (have e2:(35:UInt8)::32::91::120::44::10::44::t=d::t':=e;cases e2;decide)
   | (have e2:(35:UInt8)::32::91::120::44::10::32::93::t=d::t':=e;cases e2;decide)
theorem isPart_not {c:UInt8} (h:isPart c=true):¬isGap c∧c≠93∧c≠44∧c≠125:=by
 refine⟨fun hg=>?_,fun e=>?_,fun e=>?_,fun e=>?_⟩
 · rcases hg with rfl|rfl|rfl|rfl|rfl <;> revert h <;> decide
 all_goals (subst e;revert h;decide)
theorem fits_dig (c:UInt8) (h:fits 57 c=true):isPart c=true:=by
 unfold fits at h;rw[if_pos (by decide)]at h;simp only[Bool.and_eq_true,decide_eq_true_eq]at h;unfold isPart partN;simp;omega
theorem scalS_head (l:Bs) (k:Nat) (t:Bs) (m:Nat) (h:scalS l = .ok (k,t,m)):∃c r,l=c::r∧isPart c=true:=by
 cases l with
 | nil =>
  have h2:scalS [] = .bad 3 0:=by kernel_rfl
  rw[h2]at h;cases h
 | cons c r =>
  refine⟨c,r,rfl,?_⟩;by_cases hc:isPart c=true
  · exact hc
  exfalso;have hd:formM (c::r) dateF=false:=by
   cases hf:formM (c::r) dateF with
   | false=>rfl
   | true =>
    unfold dateF formM at hf;simp only[Bool.and_eq_true]at hf;exact absurd (fits_dig c hf.1) hc
  have ht:formM (c::r) timeF=false:=by
   cases hf:formM (c::r) timeF with
   | false=>rfl
   | true =>
    unfold timeF formM at hf;simp only[Bool.and_eq_true]at hf;exact absurd (fits_dig c hf.1) hc
  have hl:(splitD (c::r)).long=0:=by
   unfold splitD clockP;rw[hd,ht];rfl
  have hk:tok (c::r)=[]:=by unfold tok;rw[List.takeWhile_cons,if_neg hc]
  unfold scalS at h;rw[hl,if_neg (by omega),hk,plainS_nil]at h;cases h
theorem value_head (T) (v:Bs) (f d root:Nat) (nds:Nds) (h:valueF (envT T) v (f+1) d 0 [] = .ok (root,v.length,nds)):∃c r,v=c::r∧¬isGap c∧c≠93∧c≠44∧c≠125:=by
 have hd:∀k,byteAt v 0=k→k≠0→∃c r,v=c::r∧c.toNat=k:=by
  intro k hk h0;cases v with
  | nil=>exact absurd hk.symm h0
  | cons c r=>exact⟨c,r,rfl,hk⟩
 have lit:∀k,byteAt v 0=k→(k=34∨k=39∨k=91∨k=123)→∃c r,v=c::r∧¬isGap c∧c≠93∧c≠44∧c≠125:=by
  intro k hk h4;obtain⟨c,r,rfl,hc⟩:=hd k hk (by omega);have e:c=34∨c=39∨c=91∨c=123:=by
   rcases h4 with h4|h4|h4|h4
   · exact .inl (UInt8.toNat_inj.1 (by rw[hc,h4];rfl))
   · exact .inr (.inl (UInt8.toNat_inj.1 (by rw[hc,h4];rfl)))
   · exact .inr (.inr (.inl (UInt8.toNat_inj.1 (by rw[hc,h4];rfl))))
   exact .inr (.inr (.inr (UInt8.toNat_inj.1 (by rw[hc,h4];rfl))))
  refine⟨c,r,rfl,?_⟩;unfold isGap;rcases e with rfl|rfl|rfl|rfl <;> decide
 unfold valueF at h;simp only at h
 split at h
 · rename_i h1
   rcases h1 with h1|h1
   · exact lit 34 h1 (by simp)
   exact lit 39 h1 (by simp)
 split at h
 · rename_i h1;exact lit 91 h1 (by simp)
 split at h
 · rename_i h1;exact lit 123 h1 (by simp)
 split at h
 · cases h
 · cases h
 rename_i k t m hs
 rw[List.drop_zero]at hs;obtain⟨c,r,rfl,hp⟩:=scalS_head v k t m hs;exact⟨c,r,rfl,isPart_not hp⟩
abbrev Item3:=Bs × Bs × Bs
def listT (dr:Bool):List Item3→Bs
 | []=>[32,93]
 | (a,v,b)::rest=>a++(v++(b++(if rest.isEmpty && dr then [32,93] else 44::listT dr rest)))
inductive Placed (E:Env):List Item3→Nat→List Nat→Nds→Prop
 | nil (n:Nat) (st:Nds):Placed E [] n [] st
 | cons (a v b:Bs) (rest:List Item3) (n root b0:Nat) (nds st:Nds) (l:List Nat) (h:valueF E v 258 2 0 [] = .ok (root,v.length,nds))
     (hr:∀(j:Nat) y,nds[j]?=some y→∃x,st[b0+j]?=some x∧SN b0 x y) (hs:∃nd,st[b0+root]?=some nd∧nd.sp=(((n+a.length:Nat):Int),((n+a.length+v.length:Nat):Int)))
     (ht:Placed E rest (n+a.length+v.length+b.length+1) l st):Placed E ((a,v,b)::rest) n ((b0+root)::l) st
theorem Placed.keep {E:Env} {items:List Item3} {n:Nat} {l:List Nat} {st st':Nds} (h:Placed E items n l st) (hk:∀(j:Nat) x,st[j]?=some x→st'[j]?=some x):Placed E items n l st':=by
 induction h with
 | nil=>exact .nil _ _
 | cons a v b rest n root b0 nds st l h hr hs _ ih =>
  exact .cons a v b rest n root b0 nds st' l h (fun j y hy=>by
   obtain⟨x,hx,q⟩:=hr j y hy;exact⟨x,hk _ _ hx,q⟩) (by
   obtain⟨nd,hx,q⟩:=hs;exact⟨nd,hk _ _ hx,q⟩) (ih hk)
def ItemOk3 (T:Nat→UInt8 × UInt8) (it:Item3):Prop:=it.1∈gaps6∧it.2.2∈gaps6∧∃root nds,valueF (envT T) it.2.1 258 2 0 [] = .ok (root,it.2.1.length,nds)
def listGap:List Item3→Nat
 | []=>1
 | (a,_,_)::_=>a.length
theorem list_gap (T) (dr:Bool) (items:List Item3) (hok:∀it∈items,ItemOk3 T it) (r:Bs):gap (listT dr items++r) = .ok (listGap items):=by
 cases items with
 | nil=>exact gap_put [32] (by simp[gaps6]) 93 r (by unfold isGap;decide)
 | cons it rest =>
  obtain⟨a,v,b⟩:=it;obtain⟨h1,h2,root,nds,h3⟩:=hok _ (List.mem_cons_self ..);obtain⟨c,q,e,hc,_⟩:=value_head T v 257 2 root nds h3;subst e;unfold listT listGap;rw[List.append_assoc,List.append_assoc,List.cons_append];exact gap_put a h1 c _ hc
theorem byteAt_drop {s:Bs} {n:Nat} {c:UInt8} {r:Bs} (h:s.drop n=c::r):byteAt s n=c.toNat:=by
 unfold byteAt;have:s[n]?=some c:=by
  have h2:=congrArg (·[0]?) h
  simpa using h2
 rw[this]
theorem list_read (T) (dr:Bool) (s:Bs) (hs:s.length≤20000000):∀(items:List Item3) (n f:Nat) (subs:List Nat) (st:Nds) (r:Bs),s.drop n=listT dr items++r→n≤s.length→(∀it∈items,ItemOk3 T it) →
    WF st→st.length≤n→subs.length+items.length≤30000000→items.length<f →
    ∃l e st',listF (valueF (envT T) s 257) s 1 f (n+listGap items) subs st = .ok (subs++l,e,st')∧e+1=n+(listT dr items).length∧WF st'∧st'.length≤e∧Keep st.length st st'∧st.length≤st'.length∧Placed (envT T) items n l st':=by
 intro items
 induction items with
 | nil =>
  intro n f subs st r hd hn _ hw hl _ hf;cases f with
  | zero=>omega
  | succ f =>
   have h1:s.drop (n+1)=93::r:=by
    rw[←List.drop_drop,hd];rfl
   have h93:byteAt s (n+1)=93:=byteAt_drop h1;refine⟨[],n+1,st,?_,by simp[listT],hw,by omega,Keep.refl _ _,Nat.le_refl _,.nil _ _⟩;rw[show listGap []=1 from rfl];unfold listF;rw[if_pos h93];simp
 | cons it rest ih =>
  intro n f subs st r hd hn hok hw hl hsub hf;cases f with
  | zero=>omega
  | succ f =>
   obtain⟨a,v,b⟩:=it;obtain⟨g1,g2,root,nds,hv⟩:=hok _ (List.mem_cons_self ..);simp only at g1 g2 hv;obtain⟨c,q,e,hc,hc93,hc44,_⟩:=value_head T v 257 2 root nds hv;have hlen:=congrArg List.length hd;rw[List.length_drop]at hlen;obtain⟨tl,htl⟩:∃tl,(if rest.isEmpty && dr then [32,93] else 44::listT dr rest)=tl:=⟨_,rfl⟩
   have hT:listT dr ((a,v,b)::rest)=a++(v++(b++tl)):=by rw[←htl];rfl
   rw[hT]at hd hlen ⊢;simp only[List.length_append]at hlen;have hd1:s.drop (n+a.length)=v++(b++tl++r):=by
    rw[←List.drop_drop,hd];simp
   have hd2:s.drop (n+a.length+v.length)=b++(tl++r):=by
    rw[←List.drop_drop,hd1];simp
   have hd3:s.drop (n+a.length+v.length+b.length)=tl++r:=by
    rw[←List.drop_drop,hd2];simp
   have hst:Stops (b++tl++r):=by
    rw[List.append_assoc];refine stops_gap b g2 (tl++r) ?_;rw[←htl]
    split
    · exact .inr ⟨r,rfl⟩
    exact .inl ⟨_,rfl⟩
   obtain⟨st1,hv1,hrs,hok1⟩:=valueF_there (envT_ok T) (s:=s) (a:=n+a.length) (st:=st) hv hs ⟨_,hst,hd1⟩ (by omega) 257 (by omega) (by omega) hw (by omega);have hsp:=valueF_span s 257 2 (n+a.length) st _ _ st1 hv1;have hne:¬byteAt s (n+a.length)=93:=by
    rw[byteAt_drop (show s.drop (n+a.length)=c::(q++(b++tl++r)) by rw[hd1,e];rfl)];intro h;exact hc93 (UInt8.toNat_inj.1 (by rw[h];rfl))
   rw[show listGap ((a,v,b)::rest)=a.length from rfl];unfold listF;rw[if_neg hne,hv1];simp only;rw[if_neg (by simp only[List.length_cons]at hsub;omega)];have hle:=hok1.len;have hlo:=hok1.lo;have hhi:=hok1.hi;have hpl:∀(j:Nat) y,nds[j]?=some y→∃x,st1[st.length+j]?=some x∧SN st.length x y:=fun j y hy=>hrs.at' j y (by simpa using hy)
   by_cases hlast:(rest.isEmpty && dr)=true
   · rw[if_pos hlast]at htl;subst htl;have hr0:rest=[]:=by simp only[Bool.and_eq_true,List.isEmpty_iff]at hlast;exact hlast.1
     subst hr0;have hg:=gap_put2 b g2 93 r (by unfold isGap;decide);rw[gapAt_of (s:=s) (n:=n+a.length+v.length) (k:=b.length+1) (by rw[hd2];exact hg)];simp only;have h93:byteAt s (n+a.length+v.length+(b.length+1))=93:=by
      rw[byteAt_drop (show s.drop (n+a.length+v.length+(b.length+1))=93::r by rw[←Nat.add_assoc,←List.drop_drop,hd3];rfl)];rfl
     rw[if_pos h93];refine⟨[st.length+root],_,st1,rfl,by simp;omega,hok1.wf,by omega,hok1.keep,by omega,?_⟩;exact .cons a v b [] n root st.length nds st1 [] hv hpl hsp (.nil _ _)
   rw[if_neg hlast]at htl;subst htl;have hg:=gap_put b g2 44 (listT dr rest++r) (by unfold isGap;decide);rw[gapAt_of (s:=s) (n:=n+a.length+v.length) (k:=b.length) (by rw[hd2];exact hg)];simp only;have h44:byteAt s (n+a.length+v.length+b.length)=44:=by
    rw[byteAt_drop (show s.drop (n+a.length+v.length+b.length)=44::(listT dr rest++r) by rw[hd3];rfl)];rfl
   rw[if_neg (by rw[h44];decide),if_pos h44];have hd4:s.drop (n+a.length+v.length+b.length+1)=listT dr rest++r:=by
    rw[←List.drop_drop,hd3];rfl
   have hokr:∀it∈rest,ItemOk3 T it:=fun it hit=>hok it (List.mem_cons_of_mem _ hit)
   rw[gapAt_of (s:=s) (n:=n+a.length+v.length+b.length+1) (k:=listGap rest) (by rw[hd4];exact list_gap T dr rest hokr r)];simp only;simp only[List.length_cons]at hlen hsub hf;obtain⟨l,e',st',i1,i2,i3,i4,i5,i6,i7⟩:=ih (n+a.length+v.length+b.length+1) f (subs++[st.length+root]) st1 r hd4 (by omega) hokr hok1.wf (by omega) (by simp;omega) (by omega);have hkeep:∀(j:Nat) x,st1[j]?=some x→st'[j]?=some x:=fun j x hx=>(i5 j (List.getElem?_eq_some_iff.1 hx).1).trans hx
   refine⟨(st.length+root)::l,e',st',by rw[i1];simp,by simp;omega,i3,i4,hok1.keep.trans (i5.mono (by omega)),by omega,?_⟩;refine .cons a v b rest n root st.length nds st' l hv (fun j y hy=>?_) ?_ i7
   · obtain⟨x,hx,hq⟩:=hpl j y hy;exact⟨x,hkeep _ _ hx,hq⟩
   obtain⟨nd,hx,hq⟩:=hsp;exact⟨nd,hkeep _ _ hx,hq⟩
end Go.Proofs.YtkplelejagpkmaaGreatDoor.Pl
