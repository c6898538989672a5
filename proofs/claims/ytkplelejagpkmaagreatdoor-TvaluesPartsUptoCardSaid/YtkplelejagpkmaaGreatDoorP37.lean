/-
 The walks and plain laws that the claim rests on, part 37.
-/
import Derived.Test.YtkplelejagpkmaaGreatDoorP36
set_option maxHeartbeats 16000000
set_option linter.all false
set_option linter.unusedVariables false
set_option linter.unusedSimpArgs false
namespace Go.Proofs.YtkplelejagpkmaaGreatDoor.Pl
structure SN (b:Nat) (x y:Nd):Prop where
 kind:x.kind=y.kind
 text:x.text=y.text
 keys:x.keys=y.keys
 spots:x.spots.length=y.spots.length
 subs:x.subs=y.subs.map (b+·)
 own:x.owner=if y.owner=0 then 0 else b+y.owner
structure RS (b:Nat) (st1 st2:Nds):Prop where
 len:st1.length=b+st2.length
 at':∀j y,st2[j]?=some y→∃x,st1[b+j]?=some x∧SN b x y
theorem RS.get {b:Nat} {st1 st2:Nds} (h:RS b st1 st2) (j:Nat):(st1[b+j]?=none∧st2[j]?=none)∨∃x y,st1[b+j]?=some x∧st2[j]?=some y∧SN b x y:=by
 cases hy:st2[j]? with
 | none =>
  left;refine⟨?_,rfl⟩;rw[List.getElem?_eq_none_iff]at hy ⊢;have:=h.len;omega
 | some y =>
  obtain⟨x,hx,hs⟩:=h.at' j y hy;exact .inr ⟨x,y,hx,rfl,hs⟩
theorem RS.nil (st:Nds):RS st.length st []:=⟨by simp,fun j y h=>by simp at h⟩
theorem RS.app {b:Nat} {st1 st2:Nds} (h:RS b st1 st2) {x y:Nd} (hs:SN b x y):RS b (st1++[x]) (st2++[y]):=by
 refine⟨by simp[h.len];omega,fun j z hz=>?_⟩;by_cases hj:j<st2.length
 · rw[List.getElem?_append_left hj]at hz;obtain⟨x',hx,hs'⟩:=h.at' j z hz;have:=h.len;exact⟨x',by rw[List.getElem?_append_left (by omega)];exact hx,hs'⟩
 have h2:=(List.getElem?_eq_some_iff.1 hz).1;simp only[List.length_append,List.length_singleton]at h2;have:j=st2.length:=by omega
 subst this;simp at hz;subst hz;exact⟨x,by rw[←h.len];simp,hs⟩
theorem RS.mod {b:Nat} {st1 st2:Nds} (h:RS b st1 st2) (t:Nat) (f g:Nd→Nd) (hfg:∀x y,SN b x y→SN b (f x) (g y)):RS b (st1.modify (b+t) f) (st2.modify t g):=by
 refine⟨by simp[h.len],fun j z hz=>?_⟩;rw[get_modify]at hz;rw[get_modify]
 split at hz
 · rename_i e
   subst e;rw[if_pos rfl];cases hy:st2[t]? with
   | none=>rw[hy]at hz;simp at hz
   | some y =>
    rw[hy]at hz;simp only[Option.map_some,Option.some.injEq]at hz;subst hz;obtain⟨x,hx,hs⟩:=h.at' t y hy;rw[hx];exact⟨_,rfl,hfg x y hs⟩
 rename_i e
 rw[if_neg (by omega)];exact h.at' j z hz
theorem SN.put {b:Nat} {x y:Nd} (h:SN b x y) (w:Bs) (sp sp':Nat × Nat) (i:Nat):SN b (putNd x w sp (b+i)) (putNd y w sp' i) :=
 ⟨h.kind,h.text,by simp[putNd,h.keys],by simp[putNd,h.spots],by simp[putNd,h.subs],h.own⟩
theorem RS.put {b:Nat} {st1 st2:Nds} (h:RS b st1 st2) (t:Nat) (w:Bs) (sp sp':Nat × Nat) (i:Nat):RS b (putAt st1 (b+t) w sp (b+i)) (putAt st2 t w sp' i) :=
 h.mod t _ _ fun _ _ hs=>hs.put w sp sp' i
theorem RS.kind8 {b:Nat} {st1 st2:Nds} (h:RS b st1 st2) (t:Nat) (hk:kind8 st1 (b+t)=true):kind8 st2 t=true:=by
 unfold Pl.kind8 at hk ⊢;have hl:=h.len;rcases h.get t with⟨h1,h2⟩|⟨x,y,h1,h2,hs⟩
 · rw[h1]at hk;simp at hk
 rw[h1]at hk;rw[h2];simp only[Bool.and_eq_true,decide_eq_true_eq,beq_iff_eq]at hk ⊢;have e1:=hs.kind;have e2:=congrArg List.length hs.keys;have e3:=hs.spots;have e4:=congrArg List.length hs.subs;rw[List.length_map]at e4;omega
theorem RS.room {b:Nat} {st1 st2:Nds} (h:RS b st1 st2) (hk:room st1=true):room st2=true:=by
 unfold Pl.room at hk ⊢;simp only[decide_eq_true_eq]at hk ⊢;have:=h.len;omega
theorem RS.sub {b:Nat} {st1 st2:Nds} (h:RS b st1 st2) (t:Nat) (w:Bs):(subOf st1 (b+t) w = .non∧subOf st2 t w = .non)∨(subOf st1 (b+t) w = .no∧subOf st2 t w = .no)∨∃i,subOf st1 (b+t) w = .yes (b+i)∧subOf st2 t w = .yes i:=by
 unfold subOf;rcases h.get t with⟨h1,h2⟩|⟨x,y,h1,h2,hs⟩
 · rw[h1,h2];exact .inl ⟨rfl,rfl⟩
 rw[h1,h2];simp only;rw[hs.keys];cases hf:y.keys.findIdx? (fun x=>x==w) with
 | none=>exact .inr (.inl ⟨rfl,rfl⟩)
 | some j =>
  simp only;rw[hs.subs,List.getElem?_map];cases hj:y.subs[j]? with
  | none=>exact .inl ⟨rfl,rfl⟩
  | some i =>
   simp only[Option.map_some];have:=h.len;by_cases hi:i<st2.length
   · rw[if_pos (by omega),if_pos hi];exact .inr (.inr ⟨i,rfl,rfl⟩)
   rw[if_neg (by omega),if_neg hi];exact .inl ⟨rfl,rfl⟩
theorem RS.owner {b:Nat} {st1 st2:Nds} (h:RS b st1 st2) (i:Nat):ownerOf st1 (b+i)=if ownerOf st2 i=0 then 0 else b+ownerOf st2 i:=by
 unfold ownerOf;rcases h.get i with⟨h1,h2⟩|⟨x,y,h1,h2,hs⟩
 · rw[h1,h2];simp
 rw[h1,h2];exact hs.own
theorem way_sim (b a1 a2:Nat):∀(ws1 ws2:List KW) (table into d:Nat) (st1 st2 st1':Nds) (i1 d':Nat),All2 (KR a1 a2) ws1 ws2→RS b st1 st2→way (b+table) ws1 (b+into) d st1 = .ok (i1,d',st1') →
    ∃i2 st2',i1=b+i2∧way table ws2 into d st2 = .ok (i2,d',st2')∧RS b st1' st2':=by
 intro ws1
 induction ws1 with
 | nil=>intro ws2 table into d st1 st2 st1' i1 d' _ _ h;simp[way]at h
 | cons v rest ih =>
  intro ws2 table into d st1 st2 st1' i1 d' hk hr h;cases hk with
  | cons hv hrest =>
   rename_i v2 rest2
   obtain⟨w,u1,u2⟩:=v;obtain⟨w',u1',u2'⟩:=v2;obtain⟨hw,p,q,e1,e2⟩:=hv;simp only at hw;subst hw;unfold way at h ⊢;rcases hr.sub into w with⟨h1,h2⟩|⟨h1,h2⟩|⟨i,h1,h2⟩
   · rw[h1]at h;cases h
   · rw[h1]at h;rw[h2];simp only at h ⊢;cases hrest with
     | nil =>
      simp only[Res.ok.injEq,Prod.mk.injEq]at h;obtain⟨rfl,rfl,rfl⟩:=h;exact⟨into,st2,rfl,rfl,hr⟩
     | cons hb hc =>
      simp only at h ⊢
      split at h
      · cases h
      rename_i hd
      rw[if_neg hd]
      split at h
      · rename_i hkr
        simp only[Bool.and_eq_true]at hkr;rw[hr.kind8 into hkr.1,hr.room hkr.2];simp only[Bool.and_self,if_true];have hl:=hr.len;have hr2:RS b (putAt (st1++[dotNd (b+table+1)]) (b+into) w (u1,u2) st1.length) (putAt (st2++[dotNd (table+1)]) into w (u1',u2') st2.length):=by
         rw[hl];exact (hr.app (x:=dotNd (b+table+1)) (y:=dotNd (table+1)) ⟨rfl,rfl,rfl,rfl,rfl,((if_neg (show ¬(dotNd (table+1)).owner=0 from Nat.succ_ne_zero table)).trans (Nat.add_assoc b table 1).symm).symm⟩).put into w _ _ st2.length
        rw[hl]at h hr2;exact ih _ table st2.length (d+1) _ _ st1' i1 d' (.cons hb hc) hr2 h
      cases h
   rw[h1]at h;rw[h2];simp only at h ⊢;cases hrest with
   | nil=>cases h
   | cons hb hc =>
    simp only at h ⊢;have ho:=hr.owner i
    split at h
    · rename_i hoe
      rw[ho]at hoe
      split at hoe
      · omega
      rw[if_pos (by omega)];exact ih _ table i (d+1) st1 st2 st1' i1 d' (.cons hb hc) hr h
    cases h
def VSim (x s1 s2:Bs) (a1 a2:Nat) (D:Nat) (V1 V2:ValF):Prop:=∀d j b st1 st2 i e st1',D≤d→j≤x.length→RS b st1 st2→V1 d (a1+j) st1 = .ok (i,e,st1')→e≤a1+x.length →
    ∃k i2 st2',e=a1+k∧i=b+i2∧V2 d (a2+j) st2 = .ok (i2,a2+k,st2')∧RS b st1' st2'
section
variable {E:Env} (hE:EnvOk E) {x s1 s2:Bs} {a1 a2:Nat} (T:Two x s1 s2 a1 a2) {V1 V2:ValF} (hV:VLe s1 V1) {D:Nat} (hS:VSim x s1 s2 a1 a2 D V1 V2)
include hE T hV hS
theorem pairS_sim (b table j d:Nat) (hD:D≤d+1) (st1 st2 st1':Nds) (e:Nat) (hj:j≤x.length) (hr:RS b st1 st2) (hdep:∀ws into d' st',way (b+table) ws (b+table) d st1 = .ok (into,d',st')→d≤d') (h:pairS E V1 s1 (b+table) (a1+j) d st1 = .ok (e,st1')) (he:e≤a1+x.length) :
    ∃k st2',e=a1+k∧j<k∧pairS E V2 s2 table (a2+j) d st2 = .ok (a2+k,st2')∧RS b st1' st2':=by
 have T1:=T.h1;have T2:=T.h2;unfold pairS at h ⊢;cases hk:keyS E s1 (a1+j) with
 | non=>rw[hk]at h;cases h
 | bad c p=>rw[hk]at h;cases h
 | ok r =>
  obtain⟨ws,e0⟩:=r;obtain⟨h1,h2,h3,_,_⟩:=(keyS_le hE (s:=s1) (n:=a1+j) (by omega)).1 _ _ hk;have hb:=blanksAt_le s1 e0 h2;rw[hk]at h;simp only at h;cases hw:way (b+table) ws (b+table) d st1 with
  | non=>rw[hw]at h;cases h
  | bad c p=>rw[hw]at h;cases h
  | ok r2 =>
   obtain⟨into,d',st3⟩:=r2;have hdd:=hdep _ _ _ _ hw;rw[hw]at h;simp only at h
   split at h
   · rename_i h61
     have hlt:=byteAt_lt h61 (by decide);have hb2:=blanksAt_le s1 (blanksAt s1 e0+1) (by omega);cases hv:V1 (d'+1) (blanksAt s1 (blanksAt s1 e0+1)) st3 with
     | non=>rw[hv]at h;cases h
     | bad c p=>rw[hv]at h;cases h
     | ok r3 =>
      obtain⟨i,e2,st4⟩:=r3;have hve:=(hV (d'+1) (blanksAt s1 (blanksAt s1 e0+1)) st3 hb2.2).1 _ _ _ hv;rw[hv]at h;simp only at h;have hee:e=e2:=by
       split at h
       · cases h
       split at h
       · simp only[Res.ok.injEq,Prod.mk.injEq]at h;exact h.1.symm
       cases h
      subst hee;obtain⟨k0,ws2,g1,g2,g3,g4,g5⟩:=keyF_sim hE T (s1.length+2) (s2.length+2) j e0 [] [] ws hj (by omega) .nil hk (by omega);subst g1;have g4':keyS E s2 (a2+j) = .ok (ws2,a2+k0):=g4;rw[g4'];simp only;obtain⟨k1,hk1⟩:∃k1,blanksAt s1 (a1+k0)=a1+k1:=⟨blanksAt s1 (a1+k0)-a1,by omega⟩
      rw[hk1]at h61 hlt hb hb2 hv hve;rw[Nat.add_assoc]at hv hb2 hve;obtain⟨k2,hk2⟩:∃k2,blanksAt s1 (a1+(k1+1))=a1+k2:=⟨blanksAt s1 (a1+(k1+1))-a1,by omega⟩
      rw[hk2]at hv hb2 hve;obtain⟨q1,q2⟩:=T.blanks hk1 (by omega);obtain⟨q3,q4⟩:=T.blanks hk2 (by omega);obtain⟨i2,st5,w1,w2,w3⟩:=way_sim b a1 a2 ws ws2 table table d st1 st2 st3 into d' g5 hr hw;subst w1;rw[w2];simp only;rw[q1,T.byte (by omega),if_pos h61,Nat.add_assoc,q3];obtain⟨k3,i3,st6,v1,v2,v3,v4⟩:=hS (d'+1) k2 b st3 st5 i e st4 (by omega) (by omega) w3 hv he;rw[v3];simp only;rcases g5.last with⟨l1,l2⟩|⟨y,z,l1,l2,l3⟩
      · rw[List.getLast?_eq_none_iff]at l1;exact absurd l1 h3
      obtain⟨wy,ya,yb⟩:=y;obtain⟨wz,za,zb⟩:=z;rw[l1]at h;rw[l2];have hwyz:wy=wz:=l3.1;subst hwyz;simp only at h ⊢
      split at h
      · rename_i h8
        rw[if_pos (v4.kind8 i2 h8)];simp only[Res.ok.injEq,Prod.mk.injEq]at h;obtain⟨_,rfl⟩:=h;subst v1 v2;exact⟨k3,_,rfl,by omega,rfl,v4.put i2 wy _ _ i3⟩
      cases h
   cases h
theorem tabF_sim (b table d:Nat) (hD:D≤d+1) (hdep:∀st ws into d' st',way (b+table) ws (b+table) d st = .ok (into,d',st')→d≤d'):∀(f1 f2 j:Nat) (st1 st2 st1':Nds) (e:Nat),j≤x.length→s2.length<a2+j+f2→RS b st1 st2 →
    tabF E V1 s1 (b+table) d f1 (a1+j) st1 = .ok (e,st1')→e<a1+x.length→∃k st2',e=a1+k∧j<k∧tabF E V2 s2 table d f2 (a2+j) st2 = .ok (a2+k,st2')∧RS b st1' st2':=by
 intro f1
 induction f1 with
 | zero=>intro f2 j st1 st2 st1' e _ _ _ h;simp[tabF]at h
 | succ f1 ih =>
  intro f2 j st1 st2 st1' e hj hf hr h he;have T1:=T.h1;have T2:=T.h2
  match f2,hf with
  | 0,hf=>omega
  | f2+1,hf =>
  unfold tabF at h ⊢;cases hp:pairS E V1 s1 (b+table) (a1+j) d st1 with
  | non=>rw[hp]at h;cases h
  | bad c p=>rw[hp]at h;cases h
  | ok r =>
   obtain⟨e0,st3⟩:=r;have hpe:=(pairS_le hE hV (b+table) (a1+j) d st1 (by omega)).1 _ _ hp;have hb:=blanksAt_le s1 e0 hpe.2;rw[hp]at h;simp only at h
   split at h
   · rename_i h125
     simp only[Res.ok.injEq,Prod.mk.injEq]at h;obtain⟨h,rfl⟩:=h;obtain⟨k0,st4,q1,q2,q3,q4⟩:=pairS_sim hE T hV hS b table j d hD st1 st2 st3 e0 hj hr (hdep st1) hp (by omega);subst q1;rw[q3];simp only;obtain⟨k1,hk1⟩:∃k1,blanksAt s1 (a1+k0)=a1+k1:=⟨blanksAt s1 (a1+k0)-a1,by omega⟩
     rw[hk1]at h125 hb h;obtain⟨g1,g2⟩:=T.blanks hk1 (by omega);rw[g1,T.byte (by omega),if_pos h125];exact⟨k1,st4,h.symm,by omega,rfl,q4⟩
   rename_i h125
   split at h
   · rename_i h44
     have hlt:=byteAt_lt h44 (by decide);have hb2:=blanksAt_le s1 (blanksAt s1 e0+1) (by omega);have hte:=(tabF_le hE hV (b+table) d f1 _ st3 hb2.2).1 _ _ h;obtain⟨k0,st4,q1,q2,q3,q4⟩:=pairS_sim hE T hV hS b table j d hD st1 st2 st3 e0 hj hr (hdep st1) hp (by omega);subst q1;rw[q3];simp only;obtain⟨k1,hk1⟩:∃k1,blanksAt s1 (a1+k0)=a1+k1:=⟨blanksAt s1 (a1+k0)-a1,by omega⟩
     rw[hk1]at h125 h44 hb hlt hb2 h hte;rw[Nat.add_assoc]at hb2 h hte;obtain⟨k2,hk2⟩:∃k2,blanksAt s1 (a1+(k1+1))=a1+k2:=⟨blanksAt s1 (a1+(k1+1))-a1,by omega⟩
     rw[hk2]at h hb2 hte;obtain⟨g1,g2⟩:=T.blanks hk1 (by omega);obtain⟨g3,g4⟩:=T.blanks hk2 (by omega);rw[g1,T.byte (by omega),if_neg h125,if_pos h44,Nat.add_assoc,g3];obtain⟨k3,st5,r1,r2,r3,r4⟩:=ih f2 k2 st3 st4 st1' e (by omega) (by omega) q4 h he;exact⟨k3,st5,r1,by omega,r3,r4⟩
   cases h
omit hE
theorem listF_sim (b d:Nat) (hD:D≤d+1):∀(f1 f2 j:Nat) (subs:List Nat) (st1 st2 st1':Nds) (e:Nat) (l:List Nat),j≤x.length→s2.length<a2+j+f2→RS b st1 st2 →
    listF V1 s1 d f1 (a1+j) (subs.map (b+·)) st1 = .ok (l,e,st1')→e<a1+x.length→∃k l2 st2',e=a1+k∧l=l2.map (b+·)∧listF V2 s2 d f2 (a2+j) subs st2 = .ok (l2,a2+k,st2')∧RS b st1' st2':=by
 intro f1
 induction f1 with
 | zero=>intro f2 j subs st1 st2 st1' e l _ _ _ h;simp[listF]at h
 | succ f1 ih =>
  intro f2 j subs st1 st2 st1' e l hj hf hr h he;have T1:=T.h1;have T2:=T.h2
  match f2,hf with
  | 0,hf=>omega
  | f2+1,hf =>
  unfold listF at h ⊢
  split at h
  · rename_i h93
    simp only[Res.ok.injEq,Prod.mk.injEq]at h;obtain⟨rfl,rfl,rfl⟩:=h;rw[T.byte (by omega),if_pos h93];exact⟨j,subs,st2,rfl,rfl,rfl,hr⟩
  rename_i h93
  cases hv:V1 (d+1) (a1+j) st1 with
  | non=>rw[hv]at h;cases h
  | bad c p=>rw[hv]at h;cases h
  | ok r =>
   obtain⟨i,e0,st3⟩:=r;have hve:=(hV (d+1) (a1+j) st1 (by omega)).1 _ _ _ hv;rw[hv]at h;simp only[List.length_map]at h
   split at h
   · cases h
   rename_i h3
   cases hg:gapAt s1 e0 with
   | bad c p=>rw[hg]at h;cases h
   | ok g =>
    have hge:=gapAt_le hg hve.2;rw[hg]at h;simp only at h;have hle:g≤e:=by
     split at h
     · simp only[Res.ok.injEq,Prod.mk.injEq]at h;omega
     split at h
     · rename_i h44
       have hlt:=byteAt_lt h44 (by decide);cases hg2:gapAt s1 (g+1) with
       | bad c p=>rw[hg2]at h;cases h
       | ok g' =>
        have hge2:=gapAt_le hg2 (by omega);rw[hg2]at h;have:=(listF_le hV d f1 g' _ st3 hge2.2).1 _ _ _ h;omega
     cases h
    obtain⟨k0,i2,st4,q1,q2,q3,q4⟩:=hS (d+1) j b st1 st2 i e0 st3 hD hj hr hv (by omega);subst q1 q2;obtain⟨kg,rfl⟩:∃kg,g=a1+kg:=⟨g-a1,by omega⟩
    obtain⟨g1,g2⟩:=T.gap (by omega) hg (by omega);rw[T.byte (by omega),if_neg h93,q3];simp only;rw[if_neg h3,g1];simp only;rw[T.byte (by omega)];have hm:subs.map (b+·)++[b+i2]=(subs++[i2]).map (b+·):=by simp
    rw[hm]at h
    split at h
    · rename_i h4
      rw[if_pos h4];simp only[Res.ok.injEq,Prod.mk.injEq]at h;obtain⟨rfl,rfl,rfl⟩:=h;exact⟨kg,_,st4,rfl,rfl,rfl,q4⟩
    rename_i h4
    rw[if_neg h4]
    split at h
    · rename_i h44
      have hlt:=byteAt_lt h44 (by decide);rw[if_pos h44];cases hg2:gapAt s1 (a1+kg+1) with
      | bad c p=>rw[hg2]at h;cases h
      | ok g' =>
       have hge2:=gapAt_le hg2 (by omega);rw[hg2]at h;have hlf:=(listF_le hV d f1 g' _ st3 hge2.2).1 _ _ _ h;obtain⟨kg2,rfl⟩:∃kg2,g'=a1+kg2:=⟨g'-a1,by omega⟩
       obtain⟨g3,g4⟩:=T.gap (j:=kg+1) (by omega) hg2 (by omega);rw[Nat.add_assoc,g3];exact ih f2 kg2 (subs++[i2]) st3 st4 st1' e l (by omega) (by omega) q4 h he
    cases h
end
theorem way_dep (table:Nat):∀(ws:List KW) (into d:Nat) (st:Nds) (into' d':Nat) (st':Nds),way table ws into d st = .ok (into',d',st')→d≤d':=by
 intro ws
 induction ws with
 | nil=>intro into d st into' d' st' h;simp[way]at h
 | cons x rest ih =>
  intro into d st into' d' st' h;obtain⟨w,a,b⟩:=x;unfold way at h
  split at h
  · cases h
  · split at h
    · cases h
    split at h
    · have:=ih _ _ _ _ _ _ h;omega
    cases h
  split at h
  · simp only[Res.ok.injEq,Prod.mk.injEq]at h;omega
  split at h
  · cases h
  split at h
  · have:=ih _ _ _ _ _ _ h;omega
  cases h
theorem tableS_sim {E:Env} (hE:EnvOk E) {x s1 s2:Bs} {a1 a2:Nat} (T:Two x s1 s2 a1 a2) {V1 V2:ValF} (hV:VLe s1 V1) {D:Nat} (hS:VSim x s1 s2 a1 a2 D V1 V2) (b d j:Nat) (hD:D≤d+1) (st1 st2 st1':Nds) (i e:Nat) (hj:j<x.length) (hr:RS b st1 st2)
    (h:tableS E V1 s1 d (a1+j) st1 = .ok (i,e,st1')) (he:e≤a1+x.length):∃k i2 st2',e=a1+k∧i=b+i2∧tableS E V2 s2 d (a2+j) st2 = .ok (i2,a2+k,st2')∧RS b st1' st2':=by
 have T1:=T.h1;have T2:=T.h2;have hb:=blanksAt_le s1 (a1+j+1) (by omega);unfold tableS at h ⊢
 split at h
 · cases h
 rename_i hd
 rw[if_neg hd]
 split at h
 · rename_i hroom
   rw[if_pos (hr.room hroom)];simp only at h ⊢;have hl:=hr.len;have hr1:RS b (st1++[tabNd]) (st2++[tabNd]):=hr.app ⟨rfl,rfl,rfl,rfl,rfl,rfl⟩
   split at h
   · cases h
   · cases h
   rename_i e1 st3 hp
   split at h
   · rename_i h8
     simp only[Res.ok.injEq,Prod.mk.injEq]at h;obtain⟨rfl,rfl,rfl⟩:=h;rw[hl]at h8;have hin:∃k1 st4,e1=a1+k1∧(if byteAt s2 (blanksAt s2 (a2+j+1))=125 then Res.ok (blanksAt s2 (a2+j+1),st2++[tabNd]) else tabF E V2 s2 st2.length d (s2.length+2) (blanksAt s2 (a2+j+1)) (st2++[tabNd])) = .ok (a2+k1,st4)∧RS b st3 st4:=by
      have hle:blanksAt s1 (a1+j+1)≤e1:=by
       split at hp
       · simp only[Res.ok.injEq,Prod.mk.injEq]at hp;omega
       have:=(tabF_le hE hV st1.length d (s1.length+2) _ (st1++[tabNd]) hb.2).1 _ _ hp;omega
      obtain⟨k0,hk0⟩:∃k0,blanksAt s1 (a1+(j+1))=a1+k0:=⟨blanksAt s1 (a1+(j+1))-a1,by rw[Nat.add_assoc]at hb;omega⟩
      rw[Nat.add_assoc,hk0]at hp hle hb;obtain⟨g1,g2⟩:=T.blanks hk0 (by omega);rw[Nat.add_assoc,g1,T.byte (by omega)]
      split at hp
      · rename_i h125
        simp only[Res.ok.injEq,Prod.mk.injEq]at hp;obtain⟨hp,rfl⟩:=hp;rw[if_pos h125];exact⟨k0,_,hp.symm,rfl,hr1⟩
      rename_i h125
      rw[if_neg h125];rw[hl]at hp;obtain⟨k1,st4,q1,q2,q3,q4⟩:=tabF_sim hE T hV hS b st2.length d hD (fun st ws into d' st' h=>way_dep _ _ _ _ _ _ _ _ h) (s1.length+2) (s2.length+2) k0 _ _ st3 e1 (by omega) (by omega) hr1 hp (by omega);exact⟨k1,st4,q1,q3,q4⟩
     obtain⟨k1,st4,rfl,q2,q3⟩:=hin;rw[q2];simp only;rw[if_pos (q3.kind8 _ h8)];refine⟨k1+1,st2.length,_,by omega,hl,by simp only[Res.ok.injEq,Prod.mk.injEq,true_and];exact⟨by omega,rfl⟩,?_⟩;rw[hl];exact q3.mod _ _ _ fun x y hs=>⟨hs.kind,hs.text,hs.keys,hs.spots,hs.subs,hs.own⟩
   cases h
 cases h
theorem listS_sim {x s1 s2:Bs} {a1 a2:Nat} (T:Two x s1 s2 a1 a2) {V1 V2:ValF} (hV:VLe s1 V1) {D:Nat} (hS:VSim x s1 s2 a1 a2 D V1 V2) (b d j:Nat) (hD:D≤d+1) (st1 st2 st1':Nds) (i e:Nat) (hj:j<x.length) (hr:RS b st1 st2)
    (h:listS V1 s1 d (a1+j) st1 = .ok (i,e,st1')) (he:e≤a1+x.length):∃k i2 st2',e=a1+k∧i=b+i2∧listS V2 s2 d (a2+j) st2 = .ok (i2,a2+k,st2')∧RS b st1' st2':=by
 have T1:=T.h1;have T2:=T.h2;unfold listS at h ⊢
 split at h
 · cases h
 rename_i hd
 rw[if_neg hd];cases hg:gapAt s1 (a1+j+1) with
 | bad c p=>rw[hg]at h;cases h
 | ok g =>
  have hge:=gapAt_le hg (by omega);rw[hg]at h;simp only at h
  split at h
  · cases h
  · cases h
  rename_i subs e1 st3 hf
  have hle:=(listF_le hV d _ _ _ _ hge.2).1 _ _ _ hf
  split at h
  · rename_i hroom
    simp only[Res.ok.injEq,Prod.mk.injEq]at h;obtain⟨rfl,rfl,rfl⟩:=h;obtain⟨kg,rfl⟩:∃kg,g=a1+kg:=⟨g-a1,by omega⟩
    rw[Nat.add_assoc]at hg;obtain⟨g1,g2⟩:=T.gap (by omega) hg (by omega);rw[Nat.add_assoc,g1];simp only;obtain⟨k1,l2,st4,q1,q2,q3,q4⟩:=listF_sim T hV hS b d hD (s1.length+2) (s2.length+2) kg [] st1 st2 st3 e1 subs (by omega) (by omega) hr hf (by omega);subst q1 q2;rw[q3];simp only;rw[if_pos (q4.room hroom)];refine⟨k1+1,st4.length,st4++[listNd l2 (a2+j) (a2+k1+1)],by omega,q4.len,by simp only[Nat.add_assoc],q4.app (y:=listNd l2 (a2+j) (a2+k1+1)) ⟨rfl,rfl,rfl,rfl,rfl,rfl⟩⟩
  cases h
theorem valueF_sim {E:Env} (hE:EnvOk E) {x s1 s2:Bs} {a1 a2:Nat} (T:Two x s1 s2 a1 a2):∀f1 f2,VSim x s1 s2 a1 a2 (259-f2) (valueF E s1 f1) (valueF E s2 f2)∨f2=0:=by
 intro f1
 induction f1 with
 | zero=>intro f2;left;intro d j b st1 st2 i e st1' _ _ _ h;simp[valueF]at h
 | succ f1 ih =>
  intro f2;cases f2 with
  | zero=>exact .inr rfl
  | succ f2 =>
  left;intro d j b st1 st2 i e st1' hD hj hr h he;have T1:=T.h1;have hle:=((valueF_le hE s1 (f1+1)) d (a1+j) st1 (by omega)).1 _ _ _ h;have hj2:j<x.length:=by omega
  obtain⟨r,hr1,he1⟩:=T.d1 (j:=j) hj;obtain⟨r',hr2,he2⟩:=T.d2 (j:=j) hj;unfold valueF at h ⊢;simp only at h ⊢;rw[T.byte hj2,he2];rw[he1]at h;have inner:d≤256→VSim x s1 s2 a1 a2 (259-f2) (valueF E s1 f1) (valueF E s2 f2)∧259-f2≤d+1:=fun h2=>⟨(ih f2).resolve_right (by omega),by omega⟩
  split at h
  · rename_i hc
    rw[if_pos hc];cases hs:E.str (x.drop j++r) with
    | non=>rw[hs]at h;cases h
    | bad c p=>rw[hs]at h;cases h
    | ok v =>
     obtain⟨t,m⟩:=v;rw[hs]at h;simp only at h
     split at h
     · rename_i hroom
       simp only[Res.ok.injEq,Prod.mk.injEq]at h;obtain⟨rfl,rfl,rfl⟩:=h;rw[hE.strL (x.drop j) r r' t m hr1 hr2 hs (by rw[List.length_drop];omega)];simp only;rw[if_pos (hr.room hroom)];exact⟨j+m,st2.length,_,by omega,hr.len,by rw[Nat.add_assoc],hr.app (y:=leaf 3 t (a2+j) (a2+(j+m))) ⟨rfl,rfl,rfl,rfl,rfl,rfl⟩⟩
     cases h
  rename_i hc
  rw[if_neg hc]
  split at h
  · rename_i hc2
    rw[if_pos hc2];have hd:d≤256:=by
     unfold listS at h
     split at h
     · cases h
     omega
    obtain⟨i1,i2⟩:=inner hd;exact listS_sim T (valueF_le hE s1 f1) i1 b d j i2 st1 st2 st1' i e hj2 hr h he
  rename_i hc2
  rw[if_neg hc2]
  split at h
  · rename_i hc3
    rw[if_pos hc3];have hd:d≤256:=by
     unfold tableS at h
     split at h
     · cases h
     omega
    obtain⟨i1,i2⟩:=inner hd;exact tableS_sim hE T (valueF_le hE s1 f1) i1 b d j i2 st1 st2 st1' i e hj2 hr h he
  rename_i hc3
  rw[if_neg hc3];cases hs:E.scal (x.drop j++r) with
  | non=>rw[hs]at h;cases h
  | bad c p=>rw[hs]at h;cases h
  | ok v =>
   obtain⟨q,t,m⟩:=v;rw[hs]at h;simp only at h
   split at h
   · rename_i hroom
     simp only[Res.ok.injEq,Prod.mk.injEq]at h;obtain⟨rfl,rfl,rfl⟩:=h;rw[hE.scalL (x.drop j) r r' q t m hr1 hr2 hs (by rw[List.length_drop];omega)];simp only;rw[if_pos (hr.room hroom)];exact⟨j+m,st2.length,_,by omega,hr.len,by rw[Nat.add_assoc],hr.app (y:=leaf q t (a2+j) (a2+(j+m))) ⟨rfl,rfl,rfl,rfl,rfl,rfl⟩⟩
   cases h
end Go.Proofs.YtkplelejagpkmaaGreatDoor.Pl
namespace Go.Proofs.YtkplelejagpkmaaGreatDoor.Pl
theorem intRead_code {l:Bs} {c p:Nat} (h:intRead l = .bad c p):c=3∨c=8:=by
 have h3:∀r sign ds,intRead3 r sign ds = .bad c p→c=3∨c=8:=by
  intro r sign ds h;unfold intRead3 at h
  split at h
  · cases h;exact .inl rfl
  split at h
  · cases h
  · cases h;exact .inr rfl
  cases h;exact .inl rfl
 unfold intRead at h
 split at h
 · exact h3 _ _ _ h
 exact h3 _ _ _ h
theorem decRead_code {l:Bs} {c p:Nat} (h:decRead l = .bad c p):c=3∨c=7:=by
 unfold decRead at h
 split at h
 · cases h;exact .inl rfl
 split at h
 · cases h;exact .inr rfl
 simp only at h
 split at h
 · cases h
 split at h
 · cases h
 cases h;exact .inr rfl
theorem fltRead_code {l:Bs} {c p:Nat} (h:fltRead l = .bad c p):c=3∨c=7:=by
 unfold fltRead at h
 split at h
 · cases h
 simp only at h
 split at h
 · exact decRead_code h
 cases h;exact .inl rfl
theorem datRead_code {l:Bs} {c p:Nat} (h:datRead l = .bad c p):c=3∨c=9:=by
 unfold datRead at h;simp only at h
 split at h
 · cases h;exact .inl rfl
 split at h
 · cases h
 cases h;exact .inr rfl
theorem plainS_code {l:Bs} {c p:Nat} (h:plainS l = .bad c p):c≠0:=by
 unfold plainS at h
 split at h
 · cases h
 split at h
 · cases h
 rename_i hi
 split at h
 · split at h
   · cases h
   rename_i hf
   cases h;have:=fltRead_code hf;omega
 cases h;have:=intRead_code hi;omega
theorem plainS_kind {l t:Bs} {k:Nat} (h:plainS l = .ok (k,t)):k<7:=by
 unfold plainS at h
 split at h
 · cases h;decide
 split at h
 · cases h;decide
 split at h
 · split at h
   · cases h;decide
   cases h
 cases h
theorem plainS_nil:plainS [] = .bad 3 0:=by rfl
theorem scalS_all (l:Bs):scalS l ≠ .non∧(∀k t m,scalS l = .ok (k,t,m)→1≤m∧m≤l.length∧k<7)∧(∀c p,scalS l = .bad c p→c≠0):=by
 unfold scalS
 split
 · rename_i h
   cases hd:datRead (l.take (splitD l).long) with
   | ok x=>exact⟨by simp,fun k t m h=>by (cases h;exact⟨by omega,splitD_len l,by decide⟩),fun c p h=>(by cases h)⟩
   | bad c p =>
    have:=datRead_code hd;exact⟨by simp,fun k t m h=>(by cases h),fun c p h=>by (cases h;omega)⟩
 cases hp:plainS (tok l) with
 | ok r =>
  obtain⟨k,x⟩:=r;refine⟨by simp,fun k t m h=>?_,fun c p h=>(by cases h)⟩;cases h;refine⟨?_,takeWhile_length_le _ _,plainS_kind hp⟩;cases ht:tok l with
  | nil=>rw[ht,plainS_nil]at hp;cases hp
  | cons c t=>simp
 | bad c p =>
  have:=plainS_code hp;exact⟨by simp,fun k t m h=>(by cases h),fun c p h=>by (cases h;exact this)⟩
def envT (T:Nat→UInt8 × UInt8):Env:=⟨strS T,scalS⟩
theorem envT_ok (T):EnvOk (envT T) where
 strT:=fun l=>(strS_all T l).1
 strK:=fun l t k h=>(strS_all T l).2.1 t k h
 strB:=fun l c p h=>(strS_all T l).2.2 c p h
 strL:=strS_loc T
 scalT:=fun l=>(scalS_all l).1
 scalK:=fun l k t m h=>(scalS_all l).2.1 k t m h
 scalB:=fun l c p h=>(scalS_all l).2.2 c p h
 scalL:=fun u r r' k t m hr hr' h _=>by
  show scalS (u++r')=_;rw[scalS_stops u hr',←scalS_stops u hr];exact h
end Go.Proofs.YtkplelejagpkmaaGreatDoor.Pl
namespace Go.Proofs.YtkplelejagpkmaaGreatDoor.Pl
structure Ahead (s1 s2:Bs) (k:Nat):Prop where
 dr:∀n,s2.drop (k+n)=s1.drop n
 len:s2.length=k+s1.length
namespace Ahead
variable {s1 s2:Bs} {k:Nat}
theorem byte (A:Ahead s1 s2 k) (n:Nat):byteAt s2 (k+n)=byteAt s1 n:=by
 unfold byteAt;have h:=A.dr n;have h1:s2[k+n]?=(s2.drop (k+n))[0]?:=by rw[List.getElem?_drop];rfl
 have h2:s1[n]?=(s1.drop n)[0]?:=by rw[List.getElem?_drop];rfl
 rw[h1,h2,h]
theorem blanks (A:Ahead s1 s2 k) (n:Nat):blanksAt s2 (k+n)=k+blanksAt s1 n:=by
 unfold blanksAt;rw[A.dr];omega
theorem comment (A:Ahead s1 s2 k) (n:Nat):commentAt s2 (k+n)=k+commentAt s1 n:=by
 unfold commentAt;rw[A.dr];omega
theorem gap (A:Ahead s1 s2 k) (n:Nat):gapAt s2 (k+n)=match gapAt s1 n with
    | .ok g => .ok (k+g)
    | .bad c p => .bad c (k+p):=by
 unfold gapAt;rw[A.dr];cases Pl.gap (s1.drop n) with
 | ok g=>simp only;congr 1;omega
 | bad c p=>simp only;congr 1;omega
end Ahead
inductive RV (k:Nat):Res (Nat × Nat × Nds)→Res (Nat × Nat × Nds)→Prop
 | bad (c p:Nat):RV k (.bad c p) (.bad c (k+p))
 | ok (i e:Nat) (st1 st2:Nds):RS 0 st1 st2→RV k (.ok (i,e,st1)) (.ok (i,k+e,st2))
inductive RW (k:Nat):Res (Nat × Nds)→Res (Nat × Nds)→Prop
 | bad (c p:Nat):RW k (.bad c p) (.bad c (k+p))
 | ok (e:Nat) (st1 st2:Nds):RS 0 st1 st2→RW k (.ok (e,st1)) (.ok (k+e,st2))
def VA (s1:Bs) (k:Nat) (V1 V2:ValF):Prop:=∀d n st1 st2,n≤s1.length→RS 0 st1 st2→V1 d n st1 ≠ .non→RV k (V1 d n st1) (V2 d (k+n) st2)
section
variable {E:Env} (hE:EnvOk E) {s1 s2:Bs} {k:Nat} (A:Ahead s1 s2 k) {V1 V2:ValF} (hL:VLe s1 V1) (hV:VA s1 k V1 V2)
include hE A hL hV
end
end Go.Proofs.YtkplelejagpkmaaGreatDoor.Pl
namespace Go.Proofs.YtkplelejagpkmaaGreatDoor.Pl
def NoK (st:Nds):Prop:=∀(i:Nat) nd,st[i]?=some nd→nd.kind≠8→nd.keys=[]
def VNo (V:ValF):Prop:=∀d n st i e st',NoK st→V d n st = .ok (i,e,st')→NoK st'
theorem NoK.app {st:Nds} (h:NoK st) (nd:Nd) (hn:nd.kind≠8→nd.keys=[]):NoK (st++[nd]):=by
 intro i x hx;by_cases hi:i<st.length
 · rw[List.getElem?_append_left hi]at hx;exact h i x hx
 have h2:=(List.getElem?_eq_some_iff.1 hx).1;simp only[List.length_append,List.length_singleton]at h2;have:i=st.length:=by omega
 subst this;simp at hx;subst hx;exact hn
theorem NoK.put {st:Nds} (h:NoK st) (t i:Nat) (w:Bs) (sp:Nat × Nat) (hk:kind8 st t=true):NoK (putAt st t w sp i):=by
 intro j x hx;rw[get_put]at hx
 split at hx
 · rename_i hj
   subst hj;cases hg:st[t]? with
   | none=>rw[hg]at hx;cases hx
   | some nd =>
    rw[hg]at hx;simp only[Option.map_some,Option.some.injEq]at hx;subst hx;intro h8;unfold kind8 at hk;rw[hg]at hk;simp only[Bool.and_eq_true,beq_iff_eq]at hk;exact absurd hk.2.1.1.1 h8
 exact h j x hx
theorem NoK.modSp {st:Nds} (h:NoK st) (t:Nat) (a b:Int):NoK (st.modify t fun nd=>{ nd with sp:=(a,b) }):=by
 intro j x hx;rw[get_modify]at hx
 split at hx
 · cases hg:st[j]? with
   | none=>rw[hg]at hx;cases hx
   | some nd =>
    rw[hg]at hx;simp only[Option.map_some,Option.some.injEq]at hx;subst hx;exact h j nd hg
 exact h j x hx
theorem way_no (table:Nat):∀(ws:List KW) (into d:Nat) (st:Nds) (into' d':Nat) (st':Nds),NoK st→way table ws into d st = .ok (into',d',st')→NoK st':=by
 intro ws
 induction ws with
 | nil=>intro into d st into' d' st' _ h;simp[way]at h
 | cons v rest ih =>
  intro into d st into' d' st' hn h;obtain⟨w,u1,u2⟩:=v;unfold way at h
  split at h
  · cases h
  · split at h
    · cases h
    split at h
    · exact ih _ _ _ _ _ _ hn h
    cases h
  split at h
  · simp only[Res.ok.injEq,Prod.mk.injEq]at h;obtain⟨rfl,rfl,rfl⟩:=h;exact hn
  split at h
  · cases h
  split at h
  · rename_i hk
    simp only[Bool.and_eq_true]at hk;refine ih _ _ _ _ _ _ ((hn.app (dotNd (table+1)) (fun h=>absurd rfl h)).put into _ w _ ?_) h;have h8:=hk.1;have hr:=hk.2;unfold room at hr;unfold kind8 at h8 ⊢;simp only[Bool.and_eq_true,decide_eq_true_eq]at h8 hr ⊢;refine⟨by simp;omega,?_⟩;cases hg:st[into]? with
    | none=>rw[hg]at h8;simp at h8
    | some nd =>
     rw[hg]at h8;rw[List.getElem?_append_left (List.getElem?_eq_some_iff.1 hg).1,hg];exact h8.2
  cases h
section
variable {E:Env} {s:Bs} {V:ValF} (hV:VNo V)
include hV
theorem pairS_no (table n d:Nat) (st:Nds) (e:Nat) (st':Nds) (hn:NoK st) (h:pairS E V s table n d st = .ok (e,st')):NoK st':=by
 unfold pairS at h
 split at h
 · cases h
 · cases h
 split at h
 · cases h
 · cases h
 rename_i into d' st1 hway
 have h1:=way_no table _ _ _ _ _ _ _ hn hway;simp only at h
 split at h
 · split at h
   · cases h
   · cases h
   rename_i i e2 st2 hv
   have h2:=hV _ _ _ _ _ _ h1 hv
   split at h
   · cases h
   split at h
   · rename_i h8
     simp only[Res.ok.injEq,Prod.mk.injEq]at h;obtain⟨rfl,rfl⟩:=h;exact h2.put into i _ _ h8
   cases h
 cases h
theorem tabF_no (table d:Nat):∀(f n:Nat) (st:Nds) (e:Nat) (st':Nds),NoK st→tabF E V s table d f n st = .ok (e,st')→NoK st':=by
 intro f
 induction f with
 | zero=>intro n st e st' _ h;simp[tabF]at h
 | succ f ih =>
  intro n st e st' hn h;unfold tabF at h
  split at h
  · cases h
  · cases h
  rename_i e1 st1 hp
  have h1:=pairS_no hV table n d st e1 st1 hn hp;simp only at h
  split at h
  · simp only[Res.ok.injEq,Prod.mk.injEq]at h;obtain⟨rfl,rfl⟩:=h;exact h1
  split at h
  · exact ih _ st1 e st' h1 h
  cases h
theorem tableS_no (d n:Nat) (st:Nds) (i e:Nat) (st':Nds) (hn:NoK st) (h:tableS E V s d n st = .ok (i,e,st')):NoK st':=by
 unfold tableS at h
 split at h
 · cases h
 split at h
 · simp only at h;have hn1:=hn.app tabNd (fun h=>absurd rfl h)
   split at h
   · cases h
   · cases h
   rename_i e1 st1 hk
   have h1:NoK st1:=by
    split at hk
    · simp only[Res.ok.injEq,Prod.mk.injEq]at hk;obtain⟨rfl,rfl⟩:=hk;exact hn1
    exact tabF_no hV _ d _ _ _ _ _ hn1 hk
   split at h
   · simp only[Res.ok.injEq,Prod.mk.injEq]at h;obtain⟨rfl,rfl,rfl⟩:=h;exact h1.modSp _ _ _
   cases h
 cases h
theorem listF_no (d:Nat):∀(f n:Nat) (subs:List Nat) (st:Nds) (l:List Nat) (e:Nat) (st':Nds),NoK st→listF V s d f n subs st = .ok (l,e,st')→NoK st':=by
 intro f
 induction f with
 | zero=>intro n subs st l e st' _ h;simp[listF]at h
 | succ f ih =>
  intro n subs st l e st' hn h;unfold listF at h
  split at h
  · simp only[Res.ok.injEq,Prod.mk.injEq]at h;obtain⟨rfl,rfl,rfl⟩:=h;exact hn
  split at h
  · cases h
  · cases h
  rename_i i e1 st1 hv
  have h1:=hV _ _ _ _ _ _ hn hv
  split at h
  · cases h
  split at h
  · cases h
  split at h
  · simp only[Res.ok.injEq,Prod.mk.injEq]at h;obtain⟨rfl,rfl,rfl⟩:=h;exact h1
  split at h
  · split at h
    · cases h
    exact ih _ _ st1 l e st' h1 h
  cases h
theorem listS_no (d n:Nat) (st:Nds) (i e:Nat) (st':Nds) (hn:NoK st) (h:listS V s d n st = .ok (i,e,st')):NoK st':=by
 unfold listS at h
 split at h
 · cases h
 split at h
 · cases h
 split at h
 · cases h
 · cases h
 rename_i subs e1 st1 hl
 have h1:=listF_no hV d _ _ _ _ _ _ _ hn hl
 split at h
 · simp only[Res.ok.injEq,Prod.mk.injEq]at h;obtain⟨rfl,rfl,rfl⟩:=h;exact h1.app _ (fun _=>rfl)
 cases h
end
theorem valueF_no {E:Env} (s:Bs):∀f,VNo (valueF E s f):=by
 intro f
 induction f with
 | zero=>intro d n st i e st' _ h;simp[valueF]at h
 | succ f ih =>
  intro d n st i e st' hn h;unfold valueF at h;simp only at h
  split at h
  · split at h
    · cases h
    · cases h
    split at h
    · simp only[Res.ok.injEq,Prod.mk.injEq]at h;obtain⟨rfl,rfl,rfl⟩:=h;exact hn.app _ (fun _=>rfl)
    cases h
  split at h
  · exact listS_no ih d n st i e st' hn h
  split at h
  · exact tableS_no ih d n st i e st' hn h
  split at h
  · cases h
  · cases h
  split at h
  · simp only[Res.ok.injEq,Prod.mk.injEq]at h;obtain⟨rfl,rfl,rfl⟩:=h;exact hn.app _ (fun _=>rfl)
  cases h
theorem keys_le {E:Env} (s:Bs) (f d n i e:Nat) (st:Nds) (h:valueF E s f d n [] = .ok (i,e,st)) (hw:WF st) (j:Nat) (nd:Nd) (hj:st[j]?=some nd):nd.keys.length≤st.length:=by
 have hw':=hw j nd hj;by_cases h8:nd.kind=8
 · rw[(hw'.len h8).1];exact up_len _ _ hw'.up hw'.lt
 rw[valueF_no s f d n [] i e st (fun i nd h=>by simp at h) h j nd hj h8];simp
end Go.Proofs.YtkplelejagpkmaaGreatDoor.Pl
