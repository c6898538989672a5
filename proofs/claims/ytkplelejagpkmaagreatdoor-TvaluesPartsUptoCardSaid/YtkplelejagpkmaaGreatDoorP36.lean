/-
 The walks and plain laws that the claim rests on, part 36.
-/
import Derived.Test.YtkplelejagpkmaaGreatDoorP32
import Derived.Test.YtkplelejagpkmaaGreatDoorP33
set_option maxHeartbeats 16000000
set_option linter.all false
set_option linter.unusedVariables false
set_option linter.unusedSimpArgs false
namespace Go.Proofs.YtkplelejagpkmaaGreatDoor.Pl
structure Two (x s1 s2:Bs) (a1 a2:Nat):Prop where
 l1:∃r,Stops r∧s1.drop a1=x++r
 l2:∃r,Stops r∧s2.drop a2=x++r
 h1:a1+x.length≤s1.length
 h2:a2+x.length≤s2.length
theorem takeWhile_in (p:UInt8→Bool) (u r:Bs) (h:((u++r).takeWhile p).length<u.length):(u++r).takeWhile p=u.takeWhile p:=by
 induction u with
 | nil=>simp at h
 | cons a u ih =>
  rw[List.cons_append,List.takeWhile_cons]at h;rw[List.cons_append,List.takeWhile_cons,List.takeWhile_cons]
  split
  · rename_i ha
    rw[if_pos ha]at h;rw[ih (by simpa using h)]
  rfl
theorem takeWhile_short (p:UInt8→Bool) (u r:Bs) (h:(u.takeWhile p).length<u.length):(u++r).takeWhile p=u.takeWhile p:=by
 induction u with
 | nil=>simp at h
 | cons a u ih =>
  rw[List.takeWhile_cons]at h;rw[List.cons_append,List.takeWhile_cons,List.takeWhile_cons]
  split
  · rename_i ha
    rw[if_pos ha]at h;rw[ih (by simpa using h)]
  rfl
theorem takeWhile_in2 (p:UInt8→Bool) (u r r':Bs) (h:((u++r).takeWhile p).length<u.length):(u++r').takeWhile p=(u++r).takeWhile p:=by
 have h1:=takeWhile_in p u r h;rw[h1]at h ⊢;exact takeWhile_short p u r' h
inductive All2 {α β : Type} (R : α → β → Prop):List α → List β → Prop
 | nil:All2 R [] []
 | cons {a b l m}:R a b→All2 R l m→All2 R (a::l) (b::m)
theorem All2.app {α β : Type} {R : α → β → Prop} {l l':List α} {m m':List β} (h:All2 R l m) (h':All2 R l' m'):All2 R (l++l') (m++m'):=by
 induction h with
 | nil=>exact h'
 | cons a _ ih=>exact .cons a ih
theorem All2.len {α β : Type} {R : α → β → Prop} {l:List α} {m:List β} (h:All2 R l m):l.length=m.length:=by
 induction h with
 | nil=>rfl
 | cons a _ ih=>simp[ih]
theorem All2.last {α β : Type} {R : α → β → Prop} {l:List α} {m:List β} (h:All2 R l m):(l.getLast?=none∧m.getLast?=none)∨∃a b,l.getLast?=some a∧m.getLast?=some b∧R a b:=by
 induction h with
 | nil=>exact .inl ⟨rfl,rfl⟩
 | cons a t ih =>
  right;cases t with
  | nil=>exact⟨_,_,rfl,rfl,a⟩
  | cons b t =>
   rcases ih with ih|⟨x,y,h1,h2,h3⟩
   · simp at ih
   exact⟨x,y,by rw[List.getLast?_cons_cons];exact h1,by rw[List.getLast?_cons_cons];exact h2,h3⟩
namespace Two
variable {x s1 s2:Bs} {a1 a2:Nat}
theorem symm (T:Two x s1 s2 a1 a2):Two x s2 s1 a2 a1:=⟨T.l2,T.l1,T.h2,T.h1⟩
theorem d1 (T:Two x s1 s2 a1 a2) {j:Nat} (hj:j≤x.length):∃r,Stops r∧s1.drop (a1+j)=x.drop j++r:=by
 obtain⟨r,hr,he⟩:=T.l1;refine⟨r,hr,?_⟩;rw[←List.drop_drop,he,List.drop_append,show j-x.length=0 by omega];rfl
theorem d2 (T:Two x s1 s2 a1 a2) {j:Nat} (hj:j≤x.length):∃r,Stops r∧s2.drop (a2+j)=x.drop j++r:=T.symm.d1 hj
theorem b1 (T:Two x s1 s2 a1 a2) {j:Nat} (hj:j<x.length):byteAt s1 (a1+j)=(x[j]).toNat:=by
 obtain⟨r,_,he⟩:=T.l1;have:s1[a1+j]?=some x[j]:=by
  rw[←List.getElem?_drop,he,List.getElem?_append_left hj,List.getElem?_eq_getElem hj]
 unfold byteAt;rw[this]
theorem byte (T:Two x s1 s2 a1 a2) {j:Nat} (hj:j<x.length):byteAt s2 (a2+j)=byteAt s1 (a1+j):=by rw[T.b1 hj,T.symm.b1 hj]
theorem blanks (T:Two x s1 s2 a1 a2) {j k:Nat} (h:blanksAt s1 (a1+j)=a1+k) (hk:k<x.length):blanksAt s2 (a2+j)=a2+k∧j≤k:=by
 unfold blanksAt Pl.blanks at h ⊢;have hj:j≤k:=by omega
 obtain⟨r,hr,he⟩:=T.d1 (j:=j) (by omega);obtain⟨r',hr',he'⟩:=T.d2 (j:=j) (by omega);rw[he]at h;rw[he',takeWhile_in2 _ _ r r' (by rw[List.length_drop];omega)];omega
end Two
theorem comment_in (u r r':Bs) (h:comment (u++r)<u.length):comment (u++r')=comment (u++r):=by
 match u,h with
 | [],h=>simp at h
 | a::u,h =>
  rw[List.cons_append]at h ⊢;rw[List.cons_append];by_cases ha:a=35
  · subst ha;simp only[comment]at h ⊢;rw[takeWhile_in2 _ u r r' (by simp only[List.length_cons]at h;omega)]
  unfold comment
  split
  · rename_i e;simp only[List.cons.injEq]at e;exact absurd e.1 ha
  split
  · rename_i e;simp only[List.cons.injEq]at e;exact absurd e.1 ha
  rfl
theorem gapStep_in (u r r':Bs) (m:Nat) (h:gapStep (u++r) = .ok m) (hm:m<u.length):gapStep (u++r') = .ok m:=by
 have hc:=comment_le ((u++r).drop (blanks (u++r)));have hm2:blanks (u++r)+comment ((u++r).drop (blanks (u++r)))≤m:=by
  unfold gapStep at h;simp only at h
  split at h <;> cases h <;> omega
 have hb:blanks (u++r')=blanks (u++r):=by
  unfold blanks;rw[takeWhile_in2 _ u r r' (by unfold blanks at hm2;omega)]
 have hd:(u++r).drop (blanks (u++r))=u.drop (blanks (u++r))++r:=by
  rw[List.drop_append,show blanks (u++r)-u.length=0 by omega];rfl
 have hd':(u++r').drop (blanks (u++r))=u.drop (blanks (u++r))++r':=by
  rw[List.drop_append,show blanks (u++r)-u.length=0 by omega];rfl
 have hcc:comment ((u++r').drop (blanks (u++r)))=comment ((u++r).drop (blanks (u++r))):=by
  rw[hd,hd'];rw[hd]at hm2;exact comment_in _ r r' (by rw[List.length_drop];omega)
 unfold gapStep at h ⊢;simp only at h ⊢;rw[hb,hcc];generalize blanks (u++r)+comment ((u++r).drop (blanks (u++r)))=q at h hm2 ⊢;have e1:(u++r).drop q=u.drop q++r:=by rw[List.drop_append,show q-u.length=0 by omega];rfl
 have e2:(u++r').drop q=u.drop q++r':=by rw[List.drop_append,show q-u.length=0 by omega];rfl
 rw[e1]at h;rw[e2];have hl:(u.drop q).length=u.length-q:=List.length_drop;generalize u.drop q=w at h hl ⊢
 match w,h,hl with
 | [],_,hl=>simp at hl;omega
 | [a],h,hl =>
  simp only[List.length_cons,List.length_nil]at hl;simp only[List.cons_append,List.nil_append]at h ⊢;by_cases h10:a=10
  · subst h10;simp only at h;cases h;omega
  by_cases h13:a=13
  · subst h13
    split at h
    · cases h;omega
    · rename_i e;simp at e
    · cases h
    rename_i x1 x2 x3;exact absurd rfl (x3 _)
  split at h
  · rename_i e;simp only[List.cons.injEq]at e;exact absurd e.1 h13
  · rename_i e;simp only[List.cons.injEq]at e;exact absurd e.1 h10
  · cases h
  split
  · rename_i e;simp only[List.cons.injEq]at e;exact absurd e.1 h13
  · rename_i e;simp only[List.cons.injEq]at e;exact absurd e.1 h10
  · rename_i e;simp only[List.cons.injEq]at e;exact absurd e.1 h13
  exact h
 | a::b::w,h,hl =>
  simp only[List.cons_append]at h ⊢;by_cases h10:a=10
  · subst h10;simpa using h
  by_cases h13:a=13
  · subst h13;by_cases hb:b=10
    · subst hb;simpa using h
    split at h
    · rename_i e;simp only[List.cons.injEq]at e;exact absurd e.2.1 hb
    · rename_i e;simp at e
    · cases h
    rename_i x1 x2 x3;exact absurd rfl (x3 _)
  split at h
  · rename_i e;simp only[List.cons.injEq]at e;exact absurd e.1 h13
  · rename_i e;simp only[List.cons.injEq]at e;exact absurd e.1 h10
  · cases h
  split
  · rename_i e;simp only[List.cons.injEq]at e;exact absurd e.1 h13
  · rename_i e;simp only[List.cons.injEq]at e;exact absurd e.1 h10
  · rename_i e;simp only[List.cons.injEq]at e;exact absurd e.1 h13
  exact h
theorem gap_in:∀(N:Nat) (u r r':Bs) (k:Nat),u.length≤N→gap (u++r) = .ok k→k<u.length→gap (u++r') = .ok k:=by
 intro N
 induction N with
 | zero=>intro u r r' k h1 _ h2;omega
 | succ N ih =>
  intro u r r' k hN h hk;rw[gap_step]at h;cases hs:gapStep (u++r) with
  | bad c p=>rw[hs]at h;cases h
  | ok m =>
   rw[hs]at h;cases m with
   | zero =>
    simp only at h;cases h;rw[gap_step,gapStep_in u r r' 0 hs hk]
   | succ m =>
    simp only at h;cases hg:gap ((u++r).drop (m+1)) with
    | bad c p=>rw[hg]at h;cases h
    | ok q =>
     rw[hg]at h;simp only[Out.ok.injEq]at h;have e1:(u++r).drop (m+1)=u.drop (m+1)++r:=by rw[List.drop_append,show m+1-u.length=0 by omega];rfl
     have e2:(u++r').drop (m+1)=u.drop (m+1)++r':=by rw[List.drop_append,show m+1-u.length=0 by omega];rfl
     rw[gap_step,gapStep_in u r r' (m+1) hs (by omega)];simp only;rw[e2,ih (u.drop (m+1)) r r' q (by rw[List.length_drop];omega) (by rw[←e1];exact hg) (by rw[List.length_drop];omega)];simp only;rw[h]
theorem Two.gap {x s1 s2:Bs} {a1 a2:Nat} (T:Two x s1 s2 a1 a2) {j k:Nat} (hj:j≤x.length) (h:gapAt s1 (a1+j) = .ok (a1+k)) (hk:k<x.length):gapAt s2 (a2+j) = .ok (a2+k)∧j≤k:=by
 have hle:=gapAt_le h (by have:=T.h1;omega);obtain⟨r,hr,he⟩:=T.d1 (j:=j) hj;obtain⟨r',hr',he'⟩:=T.d2 (j:=j) hj;refine⟨?_,by omega⟩;unfold gapAt at h ⊢;rw[he]at h;rw[he'];cases hg:Pl.gap (x.drop j++r) with
 | bad c p=>rw[hg]at h;cases h
 | ok q =>
  rw[hg]at h;simp only[Out.ok.injEq]at h;rw[gap_in _ (x.drop j) r r' q (Nat.le_refl _) hg (by rw[List.length_drop];omega)];simp only;congr 1;omega
theorem long_stops (u:Bs) {r:Bs} (h:Stops r):long (u++r)=long u:=by
 rcases h with rfl|⟨c,t,rfl,hc,_⟩
 · rw[List.append_nil]
 have h34:c≠34∧c≠39:=by rcases hc with rfl|rfl|rfl|rfl|rfl|rfl|rfl|rfl <;> decide
 match u with
 | []=>simp only[List.nil_append];unfold long;split <;> simp_all
 | [a]=>simp only[List.cons_append,List.nil_append];unfold long;split <;> simp_all
 | [a,b]=>simp only[List.cons_append,List.nil_append];unfold long;split <;> simp_all
 | a::b::d::u =>
  simp only[List.cons_append];unfold long;by_cases h1:a=34∧b=34∧d=34
  · obtain⟨rfl,rfl,rfl⟩:=h1;rfl
  by_cases h2:a=39∧b=39∧d=39
  · obtain⟨rfl,rfl,rfl⟩:=h2;rfl
  split
  · rename_i e;simp only[List.cons.injEq]at e;exact absurd ⟨e.1,e.2.1,e.2.2.1⟩ h1
  · rename_i e;simp only[List.cons.injEq]at e;exact absurd ⟨e.1,e.2.1,e.2.2.1⟩ h2
  split
  · rename_i e;simp only[List.cons.injEq]at e;exact absurd ⟨e.1,e.2.1,e.2.2.1⟩ h1
  · rename_i e;simp only[List.cons.injEq]at e;exact absurd ⟨e.1,e.2.1,e.2.2.1⟩ h2
  rfl
theorem bare_stops (u:Bs) {r:Bs} (h:Stops r):bareRun (u++r)=bareRun u:=by
 unfold bareRun;rw[stops_head h isBare (by rintro c (rfl|rfl|rfl|rfl|rfl|rfl|rfl|rfl) <;> decide)]
theorem word_sim {E:Env} (hE:EnvOk E) {x s1 s2:Bs} {a1 a2:Nat} (T:Two x s1 s2 a1 a2) {j e:Nat} {t:Bs} (hj:j≤x.length) (h:word E s1 (a1+j) = .ok (t,e)) (he:e≤a1+x.length) :
    ∃k,e=a1+k∧j<k∧word E s2 (a2+j) = .ok (t,a2+k):=by
 have hle:=(word_le hE (s:=s1) (n:=a1+j) (by have:=T.h1;omega)).1 _ _ h;obtain⟨k,rfl⟩:∃k,e=a1+k:=⟨e-a1,by omega⟩
 refine⟨k,rfl,by omega,?_⟩;obtain⟨r,hr,he1⟩:=T.d1 (j:=j) hj;obtain⟨r',hr',he2⟩:=T.d2 (j:=j) hj;unfold word longAt at h ⊢;rw[he1,long_stops _ hr,bare_stops _ hr]at h;rw[he2,long_stops _ hr',bare_stops _ hr']
 split at h
 · rename_i hl
   rw[if_pos hl];simp only[Res.ok.injEq,Prod.mk.injEq]at h ⊢;exact⟨h.1,by omega⟩
 rename_i hl
 rw[if_neg hl]
 split at h
 · rename_i hb
   rw[if_pos hb];cases hs:E.str (x.drop j++r) with
   | non=>rw[hs]at h;cases h
   | bad c p=>rw[hs]at h;cases h
   | ok v =>
    obtain⟨t',q⟩:=v;rw[hs]at h;simp only[Res.ok.injEq,Prod.mk.injEq]at h;rw[hE.strL (x.drop j) r r' t' q hr hr' hs (by rw[List.length_drop];omega)];simp only[Res.ok.injEq,Prod.mk.injEq];exact⟨h.1,by omega⟩
 rename_i hb
 rw[if_neg hb];have hbl:bareRun (x.drop j)≤(x.drop j).length:=takeWhile_length_le _ _;simp only[Res.ok.injEq,Prod.mk.injEq]at h ⊢;refine⟨?_,by omega⟩;rw[←h.1,List.take_append,List.take_append,show bareRun (x.drop j)-(x.drop j).length=0 by omega];simp
def KR (a1 a2:Nat) (v w:KW):Prop:=v.1=w.1∧∃p q,v.2=(a1+p,a1+q)∧w.2=(a2+p,a2+q)
theorem keyF_sim {E:Env} (hE:EnvOk E) {x s1 s2:Bs} {a1 a2:Nat} (T:Two x s1 s2 a1 a2):∀(f1 f2 j e:Nat) (acc1 acc2 ws:List KW),j≤x.length→s2.length<a2+j+f2→All2 (KR a1 a2) acc1 acc2 →
    keyF E s1 f1 (a1+j) acc1 = .ok (ws,e)→blanksAt s1 e<a1+x.length→∃k ws2,e=a1+k∧j<k∧k<x.length∧keyF E s2 f2 (a2+j) acc2 = .ok (ws2,a2+k)∧All2 (KR a1 a2) ws ws2:=by
 intro f1
 induction f1 with
 | zero=>intro f2 j e acc1 acc2 ws _ _ _ h;simp[keyF]at h
 | succ f1 ih =>
  intro f2 j e acc1 acc2 ws hj hf hacc h hend;have T1:=T.h1;have T2:=T.h2
  match f2,hf with
  | 0,hf=>omega
  | f2+1,hf =>
  unfold keyF at h ⊢;cases hw:word E s1 (a1+j) with
  | non=>rw[hw]at h;cases h
  | bad c p=>rw[hw]at h;cases h
  | ok r =>
   obtain⟨t,e0⟩:=r;have hw1:=(word_le hE (s:=s1) (n:=a1+j) (by omega)).1 _ _ hw;have hb:=blanksAt_le s1 e0 hw1.2;rw[hw]at h;simp only at h
   split at h
   · rename_i hd
     have hlt:=byteAt_lt hd (by decide);have hb2:=blanksAt_le s1 (blanksAt s1 e0+1) (by omega);have hfin:blanksAt s1 (blanksAt s1 e0+1)≤e∧e≤s1.length:=by
      have q:∀(f n:Nat) (acc ws:List KW) (e:Nat),n≤s1.length→keyF E s1 f n acc = .ok (ws,e)→n≤e∧e≤s1.length:=by
       intro f
       induction f with
       | zero=>intro n acc ws e _ h;simp[keyF]at h
       | succ f ih =>
        intro n acc ws e hn h;unfold keyF at h;cases hw:word E s1 n with
        | non=>rw[hw]at h;cases h
        | bad c p=>rw[hw]at h;cases h
        | ok r =>
         obtain⟨t,e0⟩:=r;obtain⟨h1,h2⟩:=(word_le hE hn).1 _ _ hw;have hb:=blanksAt_le s1 e0 h2;rw[hw]at h;simp only at h
         split at h
         · rename_i hd
           have hlt:=byteAt_lt hd (by decide);have hb2:=blanksAt_le s1 (blanksAt s1 e0+1) (by omega);have:=ih _ _ _ _ hb2.2 h;omega
         simp only[Res.ok.injEq,Prod.mk.injEq]at h;omega
      exact q _ _ _ _ _ hb2.2 h
     have hbe:=blanksAt_le s1 e hfin.2;obtain⟨k,hk,hjk,hw2⟩:=word_sim hE T hj hw (by omega);rw[hw2];simp only;subst hk;obtain⟨k1,hk1⟩:∃k1,blanksAt s1 (a1+k)=a1+k1:=⟨blanksAt s1 (a1+k)-a1,by omega⟩
     rw[hk1]at hd h hlt hb hb2 hfin;rw[Nat.add_assoc]at h hb2 hfin;obtain⟨k2,hk2⟩:∃k2,blanksAt s1 (a1+(k1+1))=a1+k2:=⟨blanksAt s1 (a1+(k1+1))-a1,by omega⟩
     rw[hk2]at h hb2 hfin;obtain⟨g1,g2⟩:=T.blanks hk1 (by omega);obtain⟨g3,g4⟩:=T.blanks hk2 (by omega);rw[g1,T.byte (by omega),if_pos hd,Nat.add_assoc,g3];have hacc':All2 (KR a1 a2) (acc1++[(t,a1+j,a1+k)]) (acc2++[(t,a2+j,a2+k)]):=by
      refine hacc.app (.cons ⟨rfl,j,k,rfl,rfl⟩ .nil)
     obtain⟨k3,ws2,e1,e2,e3,e4,e5⟩:=ih f2 k2 e _ _ ws (by omega) (by omega) hacc' h hend;exact⟨k3,ws2,e1,by omega,e3,e4,e5⟩
   rename_i hd
   simp only[Res.ok.injEq,Prod.mk.injEq]at h;obtain⟨rfl,rfl⟩:=h;obtain⟨k,hk,hjk,hw2⟩:=word_sim hE T hj hw (by omega);rw[hw2];simp only;subst hk;obtain⟨k1,hk1⟩:∃k1,blanksAt s1 (a1+k)=a1+k1:=⟨blanksAt s1 (a1+k)-a1,by omega⟩
   obtain⟨g1,g2⟩:=T.blanks hk1 (by omega);rw[hk1]at hd;rw[g1,T.byte (by omega),if_neg hd];exact⟨k,_,rfl,hjk,by omega,rfl,hacc.app (.cons ⟨rfl,j,k,rfl,rfl⟩ .nil)⟩
end Go.Proofs.YtkplelejagpkmaaGreatDoor.Pl
namespace Go.Proofs.YtkplelejagpkmaaGreatDoor.Pl
def isQ (q:UInt8):Prop:=q=34∨q=39
theorem stops_noq {r:Bs} (h:Stops r) {q:UInt8} (hq:isQ q) (u:Bs):run q (u++r)=run q u:=by
 unfold run;rw[stops_head h];rintro c hc;rcases hq with rfl|rfl <;> rcases hc with rfl|rfl|rfl|rfl|rfl|rfl|rfl|rfl <;> decide
theorem hexRun_app (u r:Bs) (d:Nat) (h:d≤u.length):hexRun (u++r) d=hexRun u d:=by
 induction u generalizing d with
 | nil=>simp only[List.length_nil,Nat.le_zero]at h;subst h;cases r <;> rfl
 | cons c u ih =>
  cases d with
  | zero=>rfl
  | succ d =>
   rw[List.cons_append];unfold hexRun;rw[ih d (by simpa using h)]
theorem unitAt_app (u r:Bs) (p d:Nat) (h:p+d≤u.length):unitAt (u++r) p d=unitAt u p d:=by
 unfold unitAt;rw[drop_app u r p (by omega),hexRun_app _ _ _ (by rw[List.length_drop];omega),List.take_append_of_le_length (by rw[List.length_drop];omega)]
theorem escSR_app (T) (w r r':Bs) (m:Nat) (t:Bs) (o:Bool) (h:escSR T (w++r) = .go m t o) (hm:m≤w.length):escSR T (w++r') = .go m t o:=by
 have h2:2≤m:=by
  unfold escSR escAt at h
  split at h
  · rename_i x hx
    cases h
    split at hx
    · cases hx
    split at hx
    · cases hx;simp
    split at hx
    · split at hx
      · cases hx;simp
      cases hx
    split at hx
    · split at hx
      · cases hx;simp
      cases hx
    cases hx
  cases h
 match w,hm with
 | [],hm=>simp at hm;omega
 | [a],hm=>simp at hm;omega
 | a::b::w,hm =>
  unfold escSR at h ⊢;have e0:∀r:Bs,(a::b::w++r).drop (0+1)=b::(w++r):=fun r=>rfl
  rw[escAt_in T _ 0 b (w++r) (e0 r)]at h;rw[escAt_in T _ 0 b (w++r') (e0 r')];cases hi:escIdx T b 0 7 with
  | some k=>rw[hi]at h;exact h
  | none =>
   rw[hi]at h;simp only at h ⊢
   split at h
   · rename_i x hx
     cases h
     split at hx
     · rename_i h117
       rw[if_pos h117];cases hu:unitAt (a::b::w++r) (0+2) 4 with
       | bad c p=>rw[hu]at hx;cases hx
       | ok n =>
        rw[hu]at hx;cases hx;simp only at hm;rw[unitAt_app (a::b::w) r (0+2) 4 (by omega)]at hu;rw[unitAt_app (a::b::w) r' (0+2) 4 (by omega),hu]
     rename_i h117
     rw[if_neg h117]
     split at hx
     · rename_i h85
       rw[if_pos h85];cases hu:unitAt (a::b::w++r) (0+2) 8 with
       | bad c p=>rw[hu]at hx;cases hx
       | ok n =>
        rw[hu]at hx;cases hx;simp only at hm;rw[unitAt_app (a::b::w) r (0+2) 8 (by omega)]at hu;rw[unitAt_app (a::b::w) r' (0+2) 8 (by omega),hu]
     cases hx
   cases h
theorem escSR_bad (T) (l:Bs) (p:Nat) (h:escSR T l = .bad p) (h0:0<l.length):p≤l.length:=by
 have hunit:∀d c q,unitAt l (0+2) d = .bad c q→2≤l.length→q≤l.length:=by
  intro d c q hu h2;unfold unitAt at hu;have:=(hexRun_le (l.drop (0+2)) d).2;rw[List.length_drop]at this
  split at hu
  · cases hu;omega
  split at hu <;> cases hu;omega
 unfold escSR escAt at h
 split at h
 · cases h
 rename_i c' p' hx
 cases h
 split at hx
 · cases hx;exact Nat.le_refl _
 rename_i c r hd
 have:=congrArg List.length hd;rw[List.length_drop]at this;simp only[List.length_cons]at this
 split at hx
 · cases hx
 split at hx
 · split at hx
   · cases hx
   rename_i hu;cases hx;exact hunit _ _ _ hu (by omega)
 split at hx
 · split at hx
   · cases hx
   rename_i hu;cases hx;exact hunit _ _ _ hu (by omega)
 cases hx;omega
theorem feed_app (w r r':Bs) (m:Nat) (h:feed (w++r) = .ok m) (hw:w≠[]) (hm:m≤w.length):feed (w++r') = .ok m:=by
 match w,hw with
 | [a],_ =>
  simp only[List.cons_append,List.nil_append,List.length_cons,List.length_nil]at h hm ⊢;by_cases h10:a=10
  · subst h10;exact h
  by_cases h13:a=13
  · subst h13;unfold feed at h
    split at h
    · rename_i e;simp at e
    · cases h;omega
    · cases h
    rename_i x1 x2 x3;exact absurd rfl (x3 _)
  unfold feed at h ⊢
  split at h
  · rename_i e;simp only[List.cons.injEq]at e;exact absurd e.1 h10
  · rename_i e;simp only[List.cons.injEq]at e;exact absurd e.1 h13
  · cases h
  split
  · rename_i e;simp only[List.cons.injEq]at e;exact absurd e.1 h10
  · rename_i e;simp only[List.cons.injEq]at e;exact absurd e.1 h13
  · rename_i e;simp only[List.cons.injEq]at e;exact absurd e.1 h13
  exact h
 | a::b::w,_ =>
  simp only[List.cons_append]at h ⊢;by_cases h10:a=10
  · subst h10;exact h
  by_cases h13:a=13
  · subst h13;by_cases hb:b=10
    · subst hb;exact h
    unfold feed at h
    split at h
    · rename_i e;simp at e
    · rename_i e;simp only[List.cons.injEq]at e;exact absurd e.2.1 hb
    · cases h
    rename_i x1 x2 x3;exact absurd rfl (x3 _)
  unfold feed at h ⊢
  split at h
  · rename_i e;simp only[List.cons.injEq]at e;exact absurd e.1 h10
  · rename_i e;simp only[List.cons.injEq]at e;exact absurd e.1 h13
  · cases h
  split
  · rename_i e;simp only[List.cons.injEq]at e;exact absurd e.1 h10
  · rename_i e;simp only[List.cons.injEq]at e;exact absurd e.1 h13
  · rename_i e;simp only[List.cons.injEq]at e;exact absurd e.1 h13
  exact h
theorem itself_app (w r r':Bs) (hw:w≠[]):itself (w++r')=itself (w++r):=by
 match w,hw with
 | a::w,_=>rfl
theorem marks_stops {q:UInt8} (hq:isQ q) (u:Bs) {r:Bs} (h:Stops r):marks q (u++r)=marks q u:=by
 unfold marks marksN;rw[stops_noq h hq]
theorem common_app {q:UInt8} (hq:isQ q) (w:Bs) {r r':Bs} (hr:Stops r) (hr':Stops r') (hw:w≠[]) :
    (∀x,common q (w++r)=some x→(∀m t o,x = .go m t o→m≤w.length→common q (w++r')=some x))∧(common q (w++r)=none→common q (w++r')=none):=by
 match w,hw with
 | c::w,_ =>
  rw[List.cons_append,List.cons_append];unfold common;simp only
  split
  · refine⟨fun x hx m t o he hm=>?_,fun h=>by cases h⟩;rw[←hx,←List.cons_append,←List.cons_append,marks_stops hq _ hr,marks_stops hq _ hr']
  refine⟨fun x hx m t o he hm=>?_,fun hx=>?_⟩
  · subst he
    split at hx
    · cases hx
    · rename_i n hf
      cases hx;rw[←List.cons_append]at hf;rw[←List.cons_append,feed_app (c::w) r r' (n+1) hf (by simp) hm];simp only;rw[←List.cons_append,List.take_append_of_le_length hm,List.take_append_of_le_length hm]
    cases hx
  split at hx
  · rename_i hf
    rw[←List.cons_append]at hf;rw[←List.cons_append,feed_app (c::w) r r' 0 hf (by simp) (by simp)]
  · cases hx
  cases hx
theorem foldF_app:∀(f:Nat) (first:Bool) (u r r':Bs) (m:Nat),foldF f first (u++r) = .ok m→m<u.length→u.length<f→foldF f first (u++r') = .ok m:=by
 intro f
 induction f with
 | zero=>intro first u r r' m _ _ h;omega
 | succ f ih =>
  intro first u r r' m h hm hf
  have hb:blanks (u++r)≤m:=by
   unfold foldF at h
   split at h
   · cases h;exact Nat.le_refl _
   split at h
   · cases h
   · split at h
     · cases h
     cases h;exact Nat.le_refl _
   split at h
   · cases h
   cases h;omega
  have hb2:blanks (u++r')=blanks (u++r):=by
   unfold blanks;rw[takeWhile_in2 _ u r r' (by unfold blanks at hb;omega)]
  unfold foldF at h ⊢;rw[hb2];rw[drop_app u r _ (by omega)]at h;rw[drop_app u r' _ (by omega)];generalize blanks (u++r)=b at h hb ⊢;have hl:(u.drop b).length=u.length-b:=List.length_drop
  match hv:u.drop b,hl with
  | [],hl=>simp at hl;omega
  | c::v,hl =>
   rw[hv]at h;simp only[List.cons_append]at h ⊢;rw[←List.cons_append]at h ⊢;cases hfd:feed (c::v++r) with
   | bad k p=>rw[hfd]at h;cases h
   | ok n =>
    rw[hfd]at h;cases n with
    | zero =>
     rw[feed_app (c::v) r r' 0 hfd (by simp) (by simp)];exact h
    | succ n =>
     simp only at h;cases hg:foldF f false ((c::v++r).drop (n+1)) with
     | bad k p=>rw[hg]at h;cases h
     | ok k =>
      rw[hg]at h;simp only[Out.ok.injEq]at h;have hle:n+1≤(c::v).length:=by omega
      rw[feed_app (c::v) r r' (n+1) hfd (by simp) hle];simp only;rw[drop_app _ _ _ hle]at hg;rw[drop_app _ _ _ hle,ih false ((c::v).drop (n+1)) r r' k hg (by rw[List.length_drop];omega) (by rw[List.length_drop];omega)];simp only;rw[h]
theorem foldSR_app (c:UInt8) (w r r':Bs) (m:Nat) (t:Bs) (o:Bool) (h:foldSR (c::w++r) = .go m t o) (hm:m<(c::w).length):foldSR (c::w++r') = .go m t o:=by
 unfold foldSR foldAt at h ⊢;have e:∀r:Bs,(c::w++r).drop 1=w++r:=fun r=>rfl
 rw[e]at h;rw[e]
 split at h
 · rename_i n hn
   split at hn
   · cases hn
   rename_i k hk
   cases hn;cases h;simp only[List.length_cons]at hm;have h1:foldF ((w++r).length+(w++r').length+1) true (w++r) = .ok k:=by
    rw[foldF_more _ ((w++r).length+1) true (w++r) (by omega) (by omega)];exact hk
   have h2:=foldF_app _ true w r r' k h1 (by omega) (by simp only[List.length_append];omega);rw[foldF_more ((w++r').length+1) ((w++r).length+(w++r').length+1) true (w++r') (by omega) (by omega),h2]
 cases h
def SL (step:Bs→Option SR):Prop:=∀w r r' m t o,Stops r→Stops r'→w≠[]→step (w++r)=some (.go m t o)→m≤w.length→(o=false→m<w.length)→step (w++r')=some (.go m t o)
theorem kindStep_SL (T) (long:Bool) {q:UInt8} (hq:isQ q):SL (kindStep T long q):=by
 intro w r r' m t o hr hr' hw h hm ho;unfold kindStep at h ⊢
 split at h
 · rename_i hl
   rw[if_pos hl];obtain⟨c1,c2⟩:=common_app hq w hr hr' hw
   split at h
   · rename_i h39
     rw[if_pos h39];simp only[Option.some.injEq]at h ⊢;unfold stepLongLit at h ⊢;cases hc:common q (w++r) with
     | some x =>
      rw[hc]at h;simp only at h;rw[c1 x hc m t o h hm];exact h
     | none =>
      rw[hc]at h;rw[c2 hc,itself_app w r r' hw];exact h
   rename_i h39
   rw[if_neg h39];simp only[Option.some.injEq]at h ⊢;unfold stepLongBas at h ⊢;cases hc:common q (w++r) with
   | some x =>
    rw[hc]at h;simp only at h;rw[c1 x hc m t o h hm];exact h
   | none =>
    rw[hc]at h;rw[c2 hc]
    match w,hw with
    | c::v,_ =>
     simp only[List.cons_append]at h ⊢;by_cases h92:(c.toNat==92)=true
     · rw[if_pos h92]at h;rw[if_pos h92]
       match v with
       | [] =>
        exfalso;simp only[List.nil_append]at h;simp only[List.length_cons,List.length_nil]at hm ho;have hlen:1≤m∧o=false:=by
         split at h
         · have:=escSR_len _ _ _ _ _ h;exact⟨this.2.1,escSR_over _ _ _ _ _ h⟩
         split at h
         · have:=foldSR_len _ _ _ _ (by simp) h;exact⟨this.2.1,this.2.2.2.1⟩
         have:=escSR_len _ _ _ _ _ h;exact⟨this.2.1,escSR_over _ _ _ _ _ h⟩
        have:=ho hlen.2;omega
       | d::v =>
        simp only[List.cons_append]at h ⊢;by_cases hd:isFold d=true
        · rw[if_pos hd]at h;rw[if_pos hd];have hlen:=foldSR_len _ _ _ _ (by simp) h;exact foldSR_app c (d::v) r r' m t o h (ho hlen.2.2.2.1)
        rw[if_neg hd]at h;rw[if_neg hd];exact escSR_app T (c::d::v) r r' m t o h hm
     rw[if_neg h92]at h;rw[if_neg h92];exact h
 rename_i hl
 rw[if_neg hl]
 split at h
 · rename_i h39
   rw[if_pos h39]
   match w,hw with
   | c::v,_=>exact h
 rename_i h39
 rw[if_neg h39]
 match w,hw with
 | c::v,_ =>
  simp only[List.cons_append]at h ⊢;unfold stepBas at h ⊢;simp only at h ⊢;by_cases hcq:(c.toNat==q.toNat)=true
  · rw[if_pos hcq]at h;rw[if_pos hcq];exact h
  rw[if_neg hcq]at h;rw[if_neg hcq];by_cases h92:(c.toNat==92)=true
  · rw[if_pos h92]at h;rw[if_pos h92];simp only[Option.some.injEq]at h ⊢;exact escSR_app T (c::v) r r' m t o h hm
  rw[if_neg h92]at h;rw[if_neg h92];exact h
theorem kindStep_some (T) (long:Bool) (q c:UInt8) (r:Bs):∃sr,kindStep T long q (c::r)=some sr∧∀p,sr = .bad p→p≤(c::r).length:=by
 have hit:∀p,itself (c::r) = .bad p→p≤(c::r).length:=by
  intro p h;unfold itself at h;simp only at h
  split at h
  · cases h
  cases h;simp
 have hcom:∀x,common q (c::r)=some x→∀p,x = .bad p→p≤(c::r).length:=by
  intro x hx p he;subst he;unfold common at hx;simp only at hx
  split at hx
  · simp only[Option.some.injEq]at hx;unfold marks at hx;simp only at hx
    split at hx <;> cases hx
  split at hx
  · cases hx
  · cases hx
  rename_i k p' hf
  cases hx;have:=feed_bad _ _ _ hf;simp;omega
 unfold kindStep
 split
 · split
   · refine⟨_,rfl,fun p h=>?_⟩;unfold stepLongLit at h
     split at h
     · rename_i x hx;exact hcom x hx p h
     exact hit p h
   refine⟨_,rfl,fun p h=>?_⟩;unfold stepLongBas at h
   split at h
   · rename_i x hx;exact hcom x hx p h
   simp only at h
   split at h
   · split at h
     · exact escSR_bad T _ p h (by simp)
     split at h
     · unfold foldSR foldAt at h
       split at h
       · cases h
       rename_i k p' hx
       cases h
       split at hx
       · rename_i k2 p2 hf
         cases hx;have hle:∀(f:Nat) (b:Bool) (l:Bs) (k p:Nat),foldF f b l = .bad k p→p≤l.length:=by
          intro f
          induction f with
          | zero=>intro b l k p h;simp[foldF]at h
          | succ f ih =>
           intro b l k p h;have hb:=blanks_le l;unfold foldF at h
           split at h
           · cases h
           rename_i c r hd
           have hl:(c::r).length=l.length-blanks l:=by rw[←hd,List.length_drop]
           simp only[List.length_cons]at hl
           split at h
           · rename_i k' p' hf
             have:=feed_bad _ _ _ hf;cases h;omega
           · split at h
             · cases h;omega
             cases h
           rename_i n hn
           have:=feed_le _ _ hn
           split at h
           · rename_i k' p' hf
             have:=ih _ _ _ _ hf;rw[List.length_drop]at this;simp only[List.length_cons]at this;cases h;simp only[List.length_cons]at *;omega
           cases h
         have:=hle _ _ _ _ _ hf;rw[List.length_drop]at this;simp only[List.length_cons]at this ⊢;omega
       cases hx
     exact escSR_bad T _ p h (by simp)
   exact hit p h
 split
 · refine⟨_,rfl,fun p h=>?_⟩;unfold stepLit at h;simp only at h
   split at h
   · cases h
   exact hit p h
 unfold stepBas;simp only
 split
 · exact⟨_,rfl,fun p h=>by cases h⟩
 split
 · exact⟨_,rfl,fun p h=>escSR_bad T _ p h (by simp)⟩
 exact⟨_,rfl,fun p h=>hit p h⟩
theorem readF_all (T) (long:Bool) (q:UInt8) (l:Bs):∀(f n:Nat) (out:Bs),n≤l.length→l.length<n+f →
    readF (kindStep T long q) l f n out ≠ .non∧(∀t k,readF (kindStep T long q) l f n out = .ok (t,k)→n<k∧k≤l.length)∧(∀c p,readF (kindStep T long q) l f n out = .bad c p→p≤l.length∧c=3):=by
 intro f
 induction f with
 | zero=>intro n out h1 h2;omega
 | succ f ih =>
  intro n out hn hf;unfold readF
  split
  · exact⟨by simp,fun t k h=>by simp at h,fun c p h=>by cases h;exact⟨Nat.le_refl _,rfl⟩⟩
  rename_i c r hd
  have hlen:(c::r).length=l.length-n:=by rw[←hd,List.length_drop]
  obtain⟨sr,h1,h2⟩:=kindStep_some T long q c r;rw[h1];cases sr with
  | bad p =>
   have:=h2 p rfl;exact⟨by simp,fun t k h=>by simp at h,fun c p h=>by cases h;exact⟨by omega,rfl⟩⟩
  | go m t over =>
   have:=kindStep_len T long q _ m t over h1;simp only[List.length_cons]at hlen this;simp only
   split
   · exact⟨by simp,fun t k h=>by (simp only[Res.ok.injEq,Prod.mk.injEq]at h;omega),fun c p h=>by simp at h⟩
   obtain⟨i1,i2,i3⟩:=ih (n+m) (out++t) (by omega) (by omega);exact⟨i1,fun t k h=>by (have:=i2 t k h;omega),i3⟩
theorem readF_app {step:Bs→Option SR} (hS:SL step) (hlen:∀l m t o,step l=some (.go m t o)→1≤m∧m≤l.length) (u r r':Bs) (hr:Stops r) (hr':Stops r'):∀(f f' n:Nat) (out t:Bs) (k:Nat),readF step (u++r) f n out = .ok (t,k)→k≤u.length→u.length<n+f' →
    readF step (u++r') f' n out = .ok (t,k):=by
 intro f
 induction f with
 | zero=>intro f' n out t k h;simp[readF]at h
 | succ f ih =>
  intro f' n out t k h hk hf;have hlow:n<k:=by
   have q:∀(f n:Nat) (out:Bs),readF step (u++r) f n out = .ok (t,k)→n<k:=by
    intro f
    induction f with
    | zero=>intro n out h;simp[readF]at h
    | succ f ih =>
     intro n out h;unfold readF at h
     split at h
     · cases h
     split at h
     · cases h
     · cases h
     rename_i m t' over hs
     have:=hlen _ _ _ _ hs
     split at h
     · simp only[Res.ok.injEq,Prod.mk.injEq]at h;omega
     have:=ih _ _ h;omega
   exact q _ _ _ h
  match f',hf with
  | 0,hf=>omega
  | f'+1,hf =>
  unfold readF at h ⊢;rw[drop_app u r n (by omega)]at h;rw[drop_app u r' n (by omega)];have hl:(u.drop n).length=u.length-n:=List.length_drop
  match hv:u.drop n,hl with
  | [],hl=>simp at hl;omega
  | c::v,hl =>
   rw[hv]at h;simp only[List.cons_append]at h ⊢;rw[←List.cons_append]at h ⊢
   split at h
   · cases h
   · cases h
   rename_i m t' over hs
   have hm:=hlen _ _ _ _ hs
   split at h
   · rename_i ho
     simp only[Res.ok.injEq,Prod.mk.injEq]at h;rw[hS (c::v) r r' m t' over hr hr' (by simp) hs (by omega) (fun e=>by rw[ho]at e;cases e)];simp only;rw[if_pos ho];simp only[Res.ok.injEq,Prod.mk.injEq];exact h
   rename_i ho
   have hnext:n+m<k:=by
    have q:∀(f n:Nat) (out:Bs),readF step (u++r) f n out = .ok (t,k)→n<k:=by
     intro f
     induction f with
     | zero=>intro n out h;simp[readF]at h
     | succ f ih =>
      intro n out h;unfold readF at h
      split at h
      · cases h
      split at h
      · cases h
      · cases h
      rename_i m t' over hs
      have:=hlen _ _ _ _ hs
      split at h
      · simp only[Res.ok.injEq,Prod.mk.injEq]at h;omega
      have:=ih _ _ h;omega
    exact q _ _ _ h
   rw[hS (c::v) r r' m t' over hr hr' (by simp) hs (by omega) (fun _=>by omega)];simp only;rw[if_neg ho];exact ih f' (n+m) (out++t') t k h hk (by omega)
theorem strS_all (T) (l:Bs):strS T l ≠ .non∧(∀t k,strS T l = .ok (t,k)→1≤k∧k≤l.length)∧(∀c p,strS T l = .bad c p→p≤l.length∧c≠0):=by
 unfold strS
 split
 · exact⟨by simp,fun t k h=>by simp at h,fun c p h=>by cases h;exact⟨Nat.le_refl _,by decide⟩⟩
 rename_i c r
 split
 · split
   · rename_i hl
     have h3:=long_len _ hl;cases hf:feed ((c::r).drop 3) with
     | bad k p =>
      have:=feed_bad _ _ _ hf;refine⟨by simp,fun t k h=>by simp at h,fun c' p' h=>?_⟩;cases h;have h4:(c::r).drop 3≠[]:=by intro e;rw[e]at hf;simp[feed]at hf
      have h5:0<((c::r).drop 3).length:=List.length_pos_iff.2 h4;rw[List.length_drop]at h5;exact⟨by omega,by omega⟩
     | ok m =>
      have:=feed_le _ _ hf;rw[List.length_drop]at this;obtain⟨h1,h2,h4⟩:=readF_all T true c (c::r) ((c::r).length+2) (3+m) [] (by omega) (by omega);exact⟨h1,fun t k h=>by (have:=h2 t k h;omega),fun c' p h=>by (have:=h4 c' p h;omega)⟩
   obtain⟨h1,h2,h4⟩:=readF_all T false c (c::r) ((c::r).length+2) 1 [] (by simp) (by omega);exact⟨h1,fun t k h=>by (have:=h2 t k h;omega),fun c' p h=>by (have:=h4 c' p h;omega)⟩
 exact⟨by simp,fun t k h=>by simp at h,fun c' p h=>by cases h;exact⟨by simp,by decide⟩⟩
theorem kindStep_len2 (T) (long:Bool) (q:UInt8):∀l m t o,kindStep T long q l=some (.go m t o)→1≤m∧m≤l.length:=fun l m t o h=>(kindStep_len T long q l m t o h).2
theorem strS_loc (T):Loc (strS T):=by
 intro u r r' t k hr hr' h hk;have hall:=(strS_all T (u++r)).2.1 t k h
 match u,hk with
 | [],hk=>simp at hk;omega
 | c::u,hk =>
  rw[List.cons_append]at h ⊢;unfold strS at h ⊢;simp only at h ⊢
  split at h
  · rename_i hq
    rw[if_pos hq];have hQ:isQ c:=by
     simp only[Bool.or_eq_true,beq_iff_eq]at hq;rcases hq with e|e
     · left;rw[←UInt8.toNat_inj];exact e
     right;rw[←UInt8.toNat_inj];exact e
    rw[←List.cons_append]at h ⊢;rw[long_stops (c::u) hr]at h;rw[long_stops (c::u) hr']
    split at h
    · rename_i hl
      rw[if_pos hl];have h3:=long_len _ hl;rw[drop_app (c::u) r 3 h3]at h;rw[drop_app (c::u) r' 3 h3];cases hf:feed ((c::u).drop 3++r) with
      | bad k p=>rw[hf]at h;cases h
      | ok m =>
       rw[hf]at h;simp only at h;have hfl:=feed_le _ _ hf;have hgo:=(readF_all T true c (c::u++r) ((c::u++r).length+2) (3+m) [] (by simp only[List.length_append,List.length_drop]at hfl ⊢;omega) (by omega)).2.1 _ _ h;have hne:(c::u).drop 3≠[]:=by
        intro e;have:=congrArg List.length e;rw[List.length_drop]at this;simp only[List.length_nil]at this;omega
       rw[feed_app _ r r' m hf hne (by rw[List.length_drop];omega)];simp only;exact readF_app (kindStep_SL T true hQ) (kindStep_len2 T true c) (c::u) r r' hr hr' _ _ _ _ t k h hk (by simp only[List.length_append];omega)
    rename_i hl
    rw[if_neg hl];exact readF_app (kindStep_SL T false hQ) (kindStep_len2 T false c) (c::u) r r' hr hr' _ _ _ _ t k h hk (by simp only[List.length_append];omega)
  cases h
end Go.Proofs.YtkplelejagpkmaaGreatDoor.Pl
