/-
 The walks and plain laws that the claim rests on, part 41.
-/
import Derived.Test.YtdgjgcepbkanhaaGreatDoorM40
set_option maxHeartbeats 16000000
set_option linter.all false
set_option linter.unusedVariables false
set_option linter.unusedSimpArgs false
namespace Go.Proofs.YtdgjgcepbkanhaaGreatDoor.Pl
theorem run_mem (q:UInt8) (l:Bs) (k:Nat) (h:k<run q l):∃c,l[k]?=some c∧c.toNat=q.toNat:=by
 unfold run at h
 induction l generalizing k with
 | nil=>simp at h
 | cons a l ih =>
  rw[List.takeWhile_cons]at h
  split at h
  · rename_i ha
    cases k with
    | zero=>exact⟨a,rfl,by simpa using ha⟩
    | succ k=>exact ih k (by simpa using h)
  simp at h
theorem over_quote (T) (long:Bool) (q:UInt8) (l:Bs) (m:Nat) (t:Bs) (h:kindStep T long q l=some (.go m t true)):∃c,l[m-1]?=some c∧c.toNat=q.toNat:=by
 have hitself:∀l m t,itself l ≠ .go m t true:=by
  intro l m t h;unfold itself at h
  split at h
  · cases h
  split at h <;> cases h
 have hcom:∀x,common q l=some x→x = .go m t true→∃c,l[m-1]?=some c∧c.toNat=q.toNat:=by
  intro x hx he;subst he;unfold common at hx
  split at hx
  · cases hx
  rename_i c r
  split at hx
  · rename_i hc
    simp only[Option.some.injEq]at hx;unfold marks at hx;simp only at hx
    split at hx
    · rename_i h3
      cases hx;have h4:marksN q (c::r)≤run q (c::r):=by unfold marksN;omega
      exact run_mem q (c::r) _ (by omega)
    cases hx
  split at hx <;> cases hx
 unfold kindStep at h
 split at h
 · split at h
   · simp only[Option.some.injEq]at h;unfold stepLongLit at h
     split at h
     · rename_i x hx;exact hcom x hx h
     exact absurd h (hitself _ _ _)
   simp only[Option.some.injEq]at h;unfold stepLongBas at h
   split at h
   · rename_i x hx;exact hcom x hx h
   split at h
   · cases h
   rename_i c r _
   split at h
   · split at h
     · have:=escSR_over _ _ _ _ _ h;cases this
     split at h
     · have:=foldSR_len _ _ _ _ (by simp) h;have:=this.2.2.2.1;cases this
     have:=escSR_over _ _ _ _ _ h;cases this
   exact absurd h (hitself _ _ _)
 split at h
 · simp only[Option.some.injEq]at h;unfold stepLit at h
   split at h
   · cases h
   rename_i c r
   split at h
   · rename_i hc
     cases h;exact⟨c,rfl,by simpa using hc⟩
   exact absurd h (hitself _ _ _)
 unfold stepBas at h
 split at h
 · cases h
 rename_i c r
 split at h
 · rename_i hc
   cases h;exact⟨c,rfl,by simpa using hc⟩
 split at h
 · simp only[Option.some.injEq]at h;have:=escSR_over _ _ _ _ _ h;cases this
 simp only[Option.some.injEq]at h;exact absurd h (hitself _ _ _)
theorem readF_last (T) (long:Bool) (q:UInt8) (l:Bs):∀(f n:Nat) (out t:Bs) (k:Nat),readF (kindStep T long q) l f n out = .ok (t,k)→∃c,l[k-1]?=some c∧c.toNat=q.toNat:=by
 intro f
 induction f with
 | zero=>intro n out t k h;simp[readF]at h
 | succ f ih =>
  intro n out t k h;unfold readF at h
  split at h
  · cases h
  rename_i c r hd
  split at h
  · cases h
  · cases h
  rename_i m t' over hs
  split at h
  · rename_i ho
    subst ho;have hm:=kindStep_len T long q _ m t' true hs;obtain⟨c',h1,h2⟩:=over_quote T long q _ m t' hs;simp only[Res.ok.injEq,Prod.mk.injEq]at h;refine⟨c',?_,h2⟩;rw[←h1,←hd,List.getElem?_drop];congr 1;omega
  exact ih _ _ _ _ h
theorem strS_last (T) (l t:Bs) (k:Nat) (h:strS T l = .ok (t,k)):l[k-1]?≠some 10:=by
 intro h10;have key:∀q:UInt8,isQ q→(∃c,l[k-1]?=some c∧c.toNat=q.toNat)→False:=by
  rintro q hq ⟨c,h1,h2⟩;rw[h10]at h1;cases h1;rcases hq with rfl|rfl <;> cases h2
 unfold strS at h
 split at h
 · cases h
 rename_i c r
 split at h
 · rename_i hq
   have hQ:isQ c:=by
    simp only[Bool.or_eq_true,beq_iff_eq]at hq;rcases hq with e|e
    · left;rw[←UInt8.toNat_inj];exact e
    right;rw[←UInt8.toNat_inj];exact e
   split at h
   · split at h
     · cases h
     exact key c hQ (readF_last T true c _ _ _ _ _ _ h)
   exact key c hQ (readF_last T false c _ _ _ _ _ _ h)
 cases h
theorem stops_feed (t:Bs):Stops (10::t) := .inr ⟨10,t,rfl,by simp,fun h=>by (cases h)⟩
theorem split_at (l:Bs) (n:Nat) (c:UInt8) (h:l[n]?=some c):l=l.take n++c::l.drop (n+1):=by
 have hlt:=(List.getElem?_eq_some_iff.1 h)
 rw[←hlt.2,List.getElem_cons_drop,List.take_append_drop]
theorem scalS_last (l:Bs) (k:Nat) (t:Bs) (m:Nat) (h:scalS l = .ok (k,t,m)):l[m-1]?≠some 10:=by
 intro h10;have h1:=(scalS_all l).2.1 k t m h;have hs:=split_at l (m-1) 10 h10;have h2:scalS (l.take (m-1)) = .ok (k,t,m):=by
  rw[←scalS_stops (l.take (m-1)) (stops_feed (l.drop (m-1+1))),←hs];exact h
 have h3:=(scalS_all _).2.1 k t m h2;rw[List.length_take]at h3;omega
structure EnvEnd (E:Env):Prop where
 str:∀l t k,E.str l = .ok (t,k)→l[k-1]?≠some 10
 scal:∀l k t m,E.scal l = .ok (k,t,m)→l[m-1]?≠some 10
theorem envT_end (T):EnvEnd (envT T):=⟨strS_last T,scalS_last⟩
theorem byteAt_ten {s:Bs} {n:Nat} (h:byteAt s n=10):s[n]?=some 10:=by
 have hlt:=byteAt_lt h (by decide);rw[byteAt_get hlt]at h;rw[List.getElem?_eq_getElem hlt];congr 1;rw[←UInt8.toNat_inj];exact h
theorem listF_last {s:Bs} {V:ValF} (d:Nat):∀(f n:Nat) (subs:List Nat) (st:Nds) (l:List Nat) (e:Nat) (st':Nds),listF V s d f n subs st = .ok (l,e,st')→byteAt s e=93:=by
 intro f
 induction f with
 | zero=>intro n subs st l e st' h;simp[listF]at h
 | succ f ih =>
  intro n subs st l e st' h;unfold listF at h
  split at h
  · rename_i h93;simp only[Res.ok.injEq,Prod.mk.injEq]at h;rw[←h.2.1];exact h93
  split at h
  · cases h
  · cases h
  split at h
  · cases h
  split at h
  · cases h
  split at h
  · rename_i h93;simp only[Res.ok.injEq,Prod.mk.injEq]at h;rw[←h.2.1];exact h93
  split at h
  · split at h
    · cases h
    exact ih _ _ _ _ _ _ h
  cases h
theorem tabF_last {E:Env} {s:Bs} {V:ValF} (table d:Nat):∀(f n:Nat) (st:Nds) (e:Nat) (st':Nds),tabF E V s table d f n st = .ok (e,st')→byteAt s e=125:=by
 intro f
 induction f with
 | zero=>intro n st e st' h;simp[tabF]at h
 | succ f ih =>
  intro n st e st' h;unfold tabF at h
  split at h
  · cases h
  · cases h
  simp only at h
  split at h
  · rename_i h93;simp only[Res.ok.injEq,Prod.mk.injEq]at h;rw[←h.1];exact h93
  split at h
  · exact ih _ _ _ _ h
  cases h
theorem valueF_last {E:Env} (hE:EnvOk E) (hN:EnvEnd E) (s:Bs) (f d n:Nat) (st:Nds) (i e:Nat) (st':Nds) (hn:n≤s.length) (h:valueF E s f d n st = .ok (i,e,st')):byteAt s (e-1)≠10:=by
 cases f with
 | zero=>simp[valueF]at h
 | succ f =>
  unfold valueF at h;simp only at h
  split at h
  · cases hs:E.str (s.drop n) with
    | non=>rw[hs]at h;cases h
    | bad c p=>rw[hs]at h;cases h
    | ok v =>
     obtain⟨t,m⟩:=v;have h1:=hN.str _ _ _ hs;have h2:=hE.strK _ _ _ hs;rw[hs]at h;simp only at h
     split at h
     · simp only[Res.ok.injEq,Prod.mk.injEq]at h;intro h10;apply h1;rw[List.getElem?_drop,show n+(m-1)=e-1 by omega];exact byteAt_ten h10
     cases h
  split at h
  · unfold listS at h
    split at h
    · cases h
    split at h
    · cases h
    split at h
    · cases h
    · cases h
    rename_i hl
    have:=listF_last _ _ _ _ _ _ _ _ hl
    split at h
    · simp only[Res.ok.injEq,Prod.mk.injEq]at h;rw[←h.2.1,Nat.add_sub_cancel,this];decide
    cases h
  split at h
  · unfold tableS at h
    split at h
    · cases h
    split at h
    · simp only at h
      split at h
      · cases h
      · cases h
      rename_i e1 st1 hp
      split at h
      · simp only[Res.ok.injEq,Prod.mk.injEq]at h;have h125:byteAt s e1=125:=by
         split at hp
         · rename_i h125;simp only[Res.ok.injEq,Prod.mk.injEq]at hp;rw[←hp.1];exact h125
         exact tabF_last _ _ _ _ _ _ _ hp
        rw[←h.2.1,Nat.add_sub_cancel,h125];decide
      cases h
    cases h
  cases hs:E.scal (s.drop n) with
  | non=>rw[hs]at h;cases h
  | bad c p=>rw[hs]at h;cases h
  | ok v =>
   obtain⟨q,t,m⟩:=v;have h1:=hN.scal _ _ _ _ hs;have h2:=hE.scalK _ _ _ _ hs;rw[hs]at h;simp only at h
   split at h
   · simp only[Res.ok.injEq,Prod.mk.injEq]at h;intro h10;apply h1;rw[List.getElem?_drop,show n+(m-1)=e-1 by omega];exact byteAt_ten h10
   cases h
theorem isF_last (s:Bs) (want:Bs) (w:UInt8) (hw:w≠10):∀n m,isF s n (want++[w]) = .ok m→byteAt s (m-1)≠10:=by
 induction want with
 | nil =>
  intro n m h;simp only[List.nil_append]at h;unfold isF at h
  split at h
  · rename_i hg
    simp only[isF,Out.ok.injEq]at h;intro h10;have:=byteAt_ten h10;rw[←h,Nat.add_sub_cancel,hg]at this;simp only[Option.some.injEq]at this;exact hw this
  cases h
 | cons a l ih =>
  intro n m h;rw[List.cons_append]at h;unfold isF at h
  split at h
  · exact ih _ _ h
  cases h
theorem bodyS_last {E:Env} (hE:EnvOk E) (hN:EnvEnd E) (s:Bs) (n e:Nat) (it:It) (hn:n≤s.length) (h:bodyS E s n = .ok (e,it)):e=n∨byteAt s (e-1)≠10:=by
 have hh:∀kind want w,w≠10→headerS E s kind n (want++[w]) = .ok (e,it)→byteAt s (e-1)≠10:=by
  intro kind want w hw h;unfold headerS at h
  split at h
  · cases h
  · cases h
  split at h
  · cases h
  rename_i m hi
  cases h;exact isF_last s want w hw _ _ hi
 unfold bodyS at h
 split at h
 · exact .inr (hh 3 [93] 93 (by decide) h)
 split at h
 · exact .inr (hh 2 [] 93 (by decide) h)
 split at h
 · cases h;exact .inl rfl
 right;unfold pairI at h;cases hk:keyS E s n with
 | non=>rw[hk]at h;cases h
 | bad c p=>rw[hk]at h;cases h
 | ok r =>
  obtain⟨ws,e0⟩:=r;have hle:=(keyS_le hE hn).1 _ _ hk;have hb:=blanksAt_le s e0 hle.2.1;rw[hk]at h;simp only at h;cases hi:isF s (blanksAt s e0) [61] with
  | bad c p=>rw[hi]at h;cases h
  | ok m =>
   have hm:=(isF_le s [61] _ hb.2).1 _ hi;have hb2:=blanksAt_le s m hm.2;rw[hi]at h;simp only at h;cases hr:readS E s (blanksAt s m) 0 with
   | non=>rw[hr]at h;cases h
   | bad c p=>rw[hr]at h;cases h
   | ok v =>
    obtain⟨root,e2,nds⟩:=v;rw[hr]at h;cases h;exact valueF_last hE hN s 258 _ _ [] root _ nds hb2.2 hr
structure CutL (x s1 s2:Bs) (a1 a2:Nat):Prop where
 c1:∃t,s1.drop a1=x++10::t
 c2:∃t,s2.drop a2=x++10::t
namespace CutL
variable {x s1 s2:Bs} {a1 a2:Nat}
theorem symm (T:CutL x s1 s2 a1 a2):CutL x s2 s1 a2 a1:=⟨T.c2,T.c1⟩
theorem len1 (T:CutL x s1 s2 a1 a2):a1+x.length<s1.length:=by
 obtain⟨t,h⟩:=T.c1;have:=congrArg List.length h;rw[List.length_drop]at this;simp only[List.length_append,List.length_cons]at this;omega
theorem two (T:CutL x s1 s2 a1 a2):Two x s1 s2 a1 a2:=by
 obtain⟨t1,h1⟩:=T.c1;obtain⟨t2,h2⟩:=T.c2;exact⟨⟨_,stops_feed t1,h1⟩,⟨_,stops_feed t2,h2⟩,by have:=T.len1;omega,by have:=T.symm.len1;omega⟩
theorem d1 (T:CutL x s1 s2 a1 a2) {j:Nat} (hj:j≤x.length):∃t,s1.drop (a1+j)=x.drop j++10::t:=by
 obtain⟨t,h⟩:=T.c1;refine⟨t,?_⟩;rw[←List.drop_drop,h,List.drop_append,show j-x.length=0 by omega];rfl
theorem g1 (T:CutL x s1 s2 a1 a2) {j:Nat} (hj:j≤x.length):s1[a1+j]?=(x++[10])[j]?:=by
 obtain⟨t,h⟩:=T.c1;rw[←List.getElem?_drop,h];by_cases hl:j<x.length
 · rw[List.getElem?_append_left hl,List.getElem?_append_left hl]
 have:j=x.length:=by omega
 subst this;simp
theorem get (T:CutL x s1 s2 a1 a2) {j:Nat} (hj:j≤x.length):s2[a2+j]?=s1[a1+j]?:=by rw[T.g1 hj,T.symm.g1 hj]
theorem byte (T:CutL x s1 s2 a1 a2) {j:Nat} (hj:j≤x.length):byteAt s2 (a2+j)=byteAt s1 (a1+j):=by unfold byteAt;rw[T.get hj]
theorem bl1 (T:CutL x s1 s2 a1 a2) {j:Nat} (hj:j≤x.length):blanksAt s1 (a1+j)=a1+(j+Pl.blanks (x.drop j))∧j+Pl.blanks (x.drop j)≤x.length:=by
 obtain⟨t,h⟩:=T.d1 hj;have hle:=blanks_le (x.drop j);rw[List.length_drop]at hle;have:∀(u t:Bs),Pl.blanks (u++10::t)=Pl.blanks u:=by
  intro u t;unfold Pl.blanks;congr 1
  induction u with
  | nil=>rfl
  | cons a u ih=>rw[List.cons_append,List.takeWhile_cons,List.takeWhile_cons,ih]
 unfold blanksAt;rw[h,this];exact⟨by omega,by omega⟩
theorem co1 (T:CutL x s1 s2 a1 a2) {j:Nat} (hj:j≤x.length):commentAt s1 (a1+j)=a1+(j+Pl.comment (x.drop j))∧j+Pl.comment (x.drop j)≤x.length:=by
 obtain⟨t,h⟩:=T.d1 hj;have hle:=comment_le (x.drop j);rw[List.length_drop]at hle;have htw:∀(u t:Bs),(u++10::t).takeWhile (fun c => !isCtl c)=u.takeWhile (fun c => !isCtl c):=by
  intro u t
  induction u with
  | nil=>rfl
  | cons a u ih=>rw[List.cons_append,List.takeWhile_cons,List.takeWhile_cons,ih]
 have:∀(u t:Bs),Pl.comment (u++10::t)=Pl.comment u:=by
  intro u t
  match u with
  | []=>rfl
  | a::u =>
   rw[List.cons_append];by_cases ha:a=35
   · subst ha;simp only[Pl.comment,htw]
   unfold Pl.comment
   split
   · rename_i e;simp only[List.cons.injEq]at e;exact absurd e.1 ha
   split
   · rename_i e;simp only[List.cons.injEq]at e;exact absurd e.1 ha
   rfl
 unfold commentAt;rw[h,this];exact⟨by omega,by omega⟩
theorem isF (T:CutL x s1 s2 a1 a2) (want:Bs):∀(j m:Nat),isF s1 (a1+j) want = .ok m→m≤a1+x.length+1→m=a1+(j+want.length)∧Pl.isF s2 (a2+j) want = .ok (a2+(j+want.length)):=by
 induction want with
 | nil =>
  intro j m h hm;simp only[Pl.isF,Out.ok.injEq]at h;exact⟨by simp only[List.length_nil];omega,rfl⟩
 | cons w ws ih =>
  intro j m h hm;unfold Pl.isF at h ⊢
  split at h
  · rename_i hg
    have hlt:=(List.getElem?_eq_some_iff.1 hg).1;have hle:=((isF_le s1 ws (a1+j+1) (by omega)).1 _ h).1;rw[T.get (by omega),if_pos hg];rw[Nat.add_assoc]at h ⊢;obtain⟨h1,h2⟩:=ih (j+1) m h hm;refine⟨by simp only[List.length_cons];omega,?_⟩;rw[h2];simp only[List.length_cons];congr 1;omega
  cases h
theorem closed (T:CutL x s1 s2 a1 a2) {j m:Nat} (hj:j≤x.length) (h:closedS s1 (a1+j) = .ok m) (hm:m≤a1+x.length+1):∃q,m=a1+q∧closedS s2 (a2+j) = .ok (a2+q):=by
 obtain⟨b1,b2⟩:=T.bl1 hj;obtain⟨b3,b4⟩:=T.symm.bl1 hj;obtain⟨o1,o2⟩:=T.co1 b2;obtain⟨o3,o4⟩:=T.symm.co1 b2;have l1:=T.len1;have l2:=T.symm.len1;unfold closedS at h ⊢;simp only at h ⊢;rw[b1,o1]at h;rw[b3,o3];generalize j+Pl.blanks (x.drop j)+Pl.comment (x.drop (j+Pl.blanks (x.drop j)))=q at h o2 ⊢;rw[if_neg (by omega)]at h;rw[if_neg (by omega),T.byte o2]
 split at h
 · rename_i h10
   rw[if_pos h10];simp only[Out.ok.injEq]at h;exact⟨q+1,by omega,rfl⟩
 rename_i h10
 rw[if_neg h10]
 split at h
 · rename_i h13
   rw[if_pos h13];obtain⟨h1,h2⟩:=T.isF [13,10] q m h hm;exact⟨_,h1,h2⟩
 cases h
theorem pre (T:CutL x s1 s2 a1 a2) {j:Nat} (hj:j≤x.length) (p:Bs) (hp:∀c∈p,c≠10):Pl.pre (s2.drop (a2+j)) p=Pl.pre (s1.drop (a1+j)) p:=by
 obtain⟨t1,h1⟩:=T.d1 hj;obtain⟨t2,h2⟩:=T.symm.d1 hj;rw[h1,h2];generalize x.drop j=u
 induction p generalizing u with
 | nil=>cases u <;> rfl
 | cons a p ih =>
  cases u with
  | nil =>
   simp only[List.nil_append,Pl.pre];have:(10:UInt8)≠a:=fun e=>hp a (by simp) e.symm
   have h2:((10:UInt8)==a)=false:=by simpa using this
   rw[h2];rfl
  | cons c u =>
   simp only[List.cons_append,Pl.pre];rw[ih (fun c hc=>hp c (List.mem_cons_of_mem _ hc)) u]
end CutL
structure ItC (a1 a2:Nat) (x y:It):Prop where
 kind:y.kind=x.kind
 b:∃q,x.b=a1+q∧y.b=a2+q
 ws:All2 (KR a1 a2) x.ws y.ws
 val:x.kind=1→∃p q,x.va=a1+p∧y.va=a2+p∧x.vb=a1+q∧y.vb=a2+q
 root:y.root=x.root
 nds:RS 0 x.nds y.nds
structure BoC (a1 a2 e1 e2:Nat) (x y:It):Prop where
 kind:y.kind=x.kind
 e:∃q,e1=a1+q∧e2=a2+q
 ws:All2 (KR a1 a2) x.ws y.ws
 val:x.kind=1→∃p q,x.va=a1+p∧y.va=a2+p∧x.vb=a1+q∧y.vb=a2+q
 root:y.root=x.root
 nds:RS 0 x.nds y.nds
section
variable {E:Env} (hE:EnvOk E) {x s1 s2:Bs} {a1 a2:Nat} (T:CutL x s1 s2 a1 a2)
include hE T
theorem headerS_cut (kind j:Nat) (ends:Bs) (hk:kind=2∨kind=3) (he0:ends≠[]) (hends:∀c∈ends,c≠10) (hj:j+ends.length≤x.length) (e:Nat) (it:It) (h:headerS E s1 kind (a1+j) ends = .ok (e,it)) (he:e≤a1+x.length) :
    ∃e' it',headerS E s2 kind (a2+j) ends = .ok (e',it')∧BoC a1 a2 e e' it it':=by
 have l1:=T.len1;have l2:=T.symm.len1;obtain⟨b1,b2⟩:=T.bl1 hj;obtain⟨b3,b4⟩:=T.symm.bl1 hj;unfold headerS at h ⊢;rw[Nat.add_assoc,b1]at h;rw[Nat.add_assoc,b3];generalize j+ends.length+blanks (x.drop (j+ends.length))=q at h b2 ⊢;cases hk':keyS E s1 (a1+q) with
 | non=>rw[hk']at h;cases h
 | bad c p=>rw[hk']at h;cases h
 | ok r =>
  obtain⟨ws,e0⟩:=r;have hle:=(keyS_le hE (s:=s1) (n:=a1+q) (by omega)).1 _ _ hk';have hb:=blanksAt_le s1 e0 hle.2.1;rw[hk']at h;simp only at h;cases hi:isF s1 (blanksAt s1 e0) ends with
  | bad c p=>rw[hi]at h;cases h
  | ok m =>
   rw[hi]at h;cases h;have hm:=(isF_le s1 ends _ hb.2).1 _ hi;have hpos:0<ends.length:=List.length_pos_iff.2 he0;obtain⟨k0,ws2,g1,g2,g3,g4,g5⟩:=keyF_sim hE T.two (s1.length+2) (s2.length+2) q e0 [] [] ws b2 (by omega) .nil hk' (by omega);have g4':keyS E s2 (a2+q) = .ok (ws2,a2+k0):=g4;rw[g4'];subst g1;obtain⟨b5,b6⟩:=T.bl1 (j:=k0) (by omega);obtain⟨b7,b8⟩:=T.symm.bl1 (j:=k0) (by omega);rw[b5]at hi;simp only;rw[b7];obtain⟨i1,i2⟩:=T.isF ends _ _ hi (by omega);rw[i2];exact⟨_,_,rfl,rfl,⟨_,i1,rfl⟩,g5,fun h=>by (simp only at h;omega),rfl,RS.nil []⟩
theorem pairI_cut (j:Nat) (hj:j≤x.length) (e:Nat) (it:It) (h:pairI E s1 (a1+j) = .ok (e,it)) (he:e≤a1+x.length) :
    ∃e' it',pairI E s2 (a2+j) = .ok (e',it')∧BoC a1 a2 e e' it it':=by
 have l1:=T.len1;have l2:=T.symm.len1;unfold pairI at h ⊢;cases hk':keyS E s1 (a1+j) with
 | non=>rw[hk']at h;cases h
 | bad c p=>rw[hk']at h;cases h
 | ok r =>
  obtain⟨ws,e0⟩:=r;have hle:=(keyS_le hE (s:=s1) (n:=a1+j) (by omega)).1 _ _ hk';have hb:=blanksAt_le s1 e0 hle.2.1;rw[hk']at h;simp only at h;cases hi:isF s1 (blanksAt s1 e0) [61] with
  | bad c p=>rw[hi]at h;cases h
  | ok m =>
   have hm:=(isF_le s1 [61] _ hb.2).1 _ hi;simp only[List.length_cons,List.length_nil]at hm;have hb2:=blanksAt_le s1 m hm.2;rw[hi]at h;simp only at h;cases hr:readS E s1 (blanksAt s1 m) 0 with
   | non=>rw[hr]at h;cases h
   | bad c p=>rw[hr]at h;cases h
   | ok v =>
    obtain⟨root,e2,nds⟩:=v;have hve:=(valueF_le hE s1 258 _ _ [] hb2.2).1 _ _ _ hr;rw[hr]at h;cases h;obtain⟨k0,ws2,g1,g2,g3,g4,g5⟩:=keyF_sim hE T.two (s1.length+2) (s2.length+2) j e0 [] [] ws hj (by omega) .nil hk' (by omega);have g4':keyS E s2 (a2+j) = .ok (ws2,a2+k0):=g4;rw[g4'];subst g1;obtain⟨b5,b6⟩:=T.bl1 (j:=k0) (by omega);obtain⟨b7,b8⟩:=T.symm.bl1 (j:=k0) (by omega);rw[b5]at hi;simp only;rw[b7];obtain⟨i1,i2⟩:=T.isF [61] _ _ hi (by omega);rw[i2];simp only;generalize k0+blanks (x.drop k0)+[61].length=q at i1 ⊢;subst i1;obtain⟨b9,b10⟩:=T.bl1 (j:=q) (by omega);obtain⟨b11,b12⟩:=T.symm.bl1 (j:=q) (by omega);rw[b9]at hr;obtain⟨q2,st2,r1,r2,r3⟩:=readS_sim hE T.two b10 hr he;rw[b11,r2];exact⟨_,_,rfl,rfl,⟨q2,r1,rfl⟩,g5,fun _=>⟨_,q2,b9,rfl,r1,rfl⟩,rfl,r3⟩
theorem itemS_cut (hN:EnvEnd E) (it:It) (hs:s1.length≤20000000) (h:itemS E s1 a1 = .ok it) (hb:it.b=a1+x.length+1):∃it',itemS E s2 a2 = .ok it'∧ItC a1 a2 it it'∧it'.a=a2:=by
 have l1:=T.len1;have l2:=T.symm.len1;obtain⟨b1,b2⟩:=T.bl1 (j:=0) (by omega);obtain⟨b3,b4⟩:=T.symm.bl1 (j:=0) (by omega);simp only[Nat.add_zero]at b1 b3;unfold itemS at h ⊢;rw[b1]at h;rw[b3];generalize 0+blanks (x.drop 0)=j at h b2 b4 ⊢;obtain⟨o1,o2,o3⟩:=bodyS_ok hE s1 hs (a1+j) (by omega);cases hbd:bodyS E s1 (a1+j) with
 | non=>rw[hbd]at h;cases h
 | bad c p=>rw[hbd]at h;cases h
 | ok r =>
  obtain⟨e,it0⟩:=r;have hok:=o3 _ _ hbd;have hle:=hok.le;have hlast:=bodyS_last hE hN s1 (a1+j) e it0 (by omega) hbd;rw[hbd]at h;simp only at h;cases hc:closedS s1 e with
  | bad c p=>rw[hc]at h;cases h
  | ok m =>
   have hcl:=(closedS_le s1 e hle.2).1 _ hc;rw[hc]at h;cases h;simp only at hb;have he:e≤a1+x.length:=by
    by_cases hgt:e≤a1+x.length
    · exact hgt
    exfalso;have hee:e=a1+x.length+1:=by omega
    rcases hlast with h1|h1
    · omega
    apply h1;rw[hee,Nat.add_sub_cancel];have:=T.g1 (j:=x.length) (Nat.le_refl _);unfold byteAt;rw[this];simp
   have hbody:∃e' it',bodyS E s2 (a2+j) = .ok (e',it')∧BoC a1 a2 e e' it0 it':=by
    have hp1:=T.pre b2 [91,91] (by decide);have hp2:=T.pre b2 [91] (by decide);have hp3:isBlankI (s2.drop (a2+j))=isBlankI (s1.drop (a1+j)):=by
     obtain⟨t1,h1⟩:=T.d1 b2;obtain⟨t2,h2⟩:=T.symm.d1 b2;rw[h1,h2];cases x.drop j with
     | nil=>rfl
     | cons c u=>rfl
    unfold bodyS at hbd ⊢;rw[hp1,hp2,hp3];have hlen:∀p:Bs,(∀c∈p,c≠10)→Pl.pre (s1.drop (a1+j)) p=true→j+p.length≤x.length:=by
     intro p hp hpre;obtain⟨t1,h1⟩:=T.d1 b2;rw[h1]at hpre;have:∀(u p:Bs),(∀c∈p,c≠10)→Pl.pre (u++10::t1) p=true→p.length≤u.length:=by
      intro u
      induction u with
      | nil =>
       intro p hp hpre;cases p with
       | nil=>simp
       | cons a p =>
        simp only[List.nil_append,Pl.pre,Bool.and_eq_true,beq_iff_eq]at hpre;exact absurd hpre.1.symm (hp a (by simp))
      | cons c u ih =>
       intro p hp hpre;cases p with
       | nil=>simp
       | cons a p =>
        simp only[List.cons_append,Pl.pre,Bool.and_eq_true]at hpre;have:=ih p (fun c hc=>hp c (List.mem_cons_of_mem _ hc)) hpre.2;simp only[List.length_cons];omega
     have:=this _ p hp hpre;rw[List.length_drop]at this;omega
    split at hbd
    · rename_i hpre
      rw[if_pos hpre];exact headerS_cut hE T 3 j [93,93] (.inr rfl) (by simp) (by decide) (by have:=hlen [91,91] (by decide) hpre;simpa using this) e it0 hbd he
    rename_i hpre
    rw[if_neg hpre]
    split at hbd
    · rename_i hpre2
      rw[if_pos hpre2];exact headerS_cut hE T 2 j [93] (.inl rfl) (by simp) (by decide) (by have:=hlen [91] (by decide) hpre2;simpa using this) e it0 hbd he
    rename_i hpre2
    rw[if_neg hpre2]
    split at hbd
    · rename_i hbl
      rw[if_pos hbl];cases hbd;exact⟨_,_,rfl,rfl,⟨j,rfl,rfl⟩,.nil,fun h=>by (cases h),rfl,RS.nil []⟩
    rename_i hbl
    rw[if_neg hbl];exact pairI_cut hE T j b2 e it0 hbd he
   obtain⟨e',it',q1,q2⟩:=hbody;obtain⟨k,rfl,rfl⟩:=q2.e;rw[q1];simp only;obtain⟨q,r1,r2⟩:=T.closed (j:=k) (by omega) hc (by omega);rw[r2];exact⟨_,rfl,⟨q2.kind,⟨q,r1,rfl⟩,q2.ws,q2.val,q2.root,q2.nds⟩,rfl⟩
end
theorem itemS_self {E:Env} (hE:EnvOk E) (hN:EnvEnd E) (s:Bs) (hs:s.length≤20000000) (n:Nat) (hn:n<s.length) (it:It) (h:itemS E s n = .ok it) :
    ∃it',itemS E ((s.drop n).take (it.b-n)) 0 = .ok it'∧ItC n 0 it it':=by
 have q:=(itemS_ok hE s hs n hn).2.2 it h;have q1:=q.lt;have q2:=q.le;by_cases hend:it.b=s.length
 · -- the whole rest
   have ht:(s.drop n).take (it.b-n)=s.drop n:=by rw[hend,List.take_of_length_le (by rw[List.length_drop];omega)]
   rw[ht];have A:Ahead (s.drop n) s n:=⟨fun m=>by rw[List.drop_drop],by rw[List.length_drop];omega⟩
   have hr:=itemS_ahead hE A (by rw[List.length_drop];omega) 0 (by omega);rw[Nat.add_zero,h]at hr;revert hr;generalize itemS E (s.drop n) 0=X;intro hr;cases hr with
   | ok x y h12 =>
    refine⟨x,rfl,h12.kind.symm,⟨x.b,h12.b,by simp⟩,?_,fun hk=>?_,h12.root.symm,?_⟩
    · have:∀(l m:List KW),All2 (KR 0 n) l m→All2 (KR n 0) m l:=by
       intro l m h
       induction h with
       | nil=>exact .nil
       | cons h _ ih =>
        obtain⟨h1,p,q,h2,h3⟩:=h;exact .cons ⟨h1.symm,p,q,h3,h2⟩ ih
      exact this _ _ h12.ws
    · have:=h12.val (by rw[←h12.kind];exact hk);exact⟨x.va,x.vb,this.1,by simp,this.2,by simp⟩
    have h3:=h12.nds;refine⟨by rw[h3.len];simp,fun j y hy=>?_⟩;rcases h3.get j with⟨g1,g2⟩|⟨u,v,g1,g2,g3⟩
    · rw[Nat.zero_add]at g1;rw[g1]at hy;cases hy
    rw[Nat.zero_add]at g1 ⊢;rw[g1]at hy;cases hy;refine⟨v,g2,g3.kind.symm,g3.text.symm,g3.keys.symm,g3.spots.symm,?_,?_⟩
    · rw[g3.subs];simp
    have:=g3.own;rw[Nat.zero_add]at this
    split at this
    · rename_i h0;rw[this,h0];simp
    rename_i h0
    rw[this]
    split
    · omega
    omega
 -- a line's end
 have h10:byteAt s (it.b-1)=10:=q.fin.resolve_left hend;have hg:=byteAt_ten h10;have hx:((s.drop n).take (it.b-1-n)).length=it.b-1-n:=by rw[List.length_take,List.length_drop];omega
 have hdrop:s.drop n=(s.drop n).take (it.b-1-n)++10::s.drop it.b:=by
  have h1:(s.drop n)[it.b-1-n]?=some 10:=by rw[List.getElem?_drop,show n+(it.b-1-n)=it.b-1 by omega];exact hg
  have:=split_at (s.drop n) (it.b-1-n) 10 h1;rw[List.drop_drop,show n+(it.b-1-n+1)=it.b by omega]at this;exact this
 have htake:((s.drop n).take (it.b-n)).drop 0=(s.drop n).take (it.b-1-n)++10::[]:=by
  rw[List.drop_zero];have h1:(s.drop n)[it.b-1-n]?=some 10:=by rw[List.getElem?_drop,show n+(it.b-1-n)=it.b-1 by omega];exact hg
  rw[show it.b-n=it.b-1-n+1 by omega,List.take_succ,h1];rfl
 obtain⟨it',r1,r2,_⟩:=itemS_cut hE (x:=(s.drop n).take (it.b-1-n)) (s1:=s) (s2:=(s.drop n).take (it.b-n)) (a1:=n) (a2:=0) ⟨⟨_,hdrop⟩,⟨_,htake⟩⟩ hN it hs h (by rw[hx];omega);exact⟨it',r1,r2⟩
def ItS (k:Nat) (x y:It):Prop:=y.kind=x.kind∧y.a=k+x.a∧y.b=k+x.b∧y.ws.map (·.1)=x.ws.map (·.1)
theorem KR_words {a1 a2:Nat} {l m:List KW} (h:All2 (KR a1 a2) l m):m.map (·.1)=l.map (·.1):=by
 induction h with
 | nil=>rfl
 | cons h _ ih=>rw[List.map_cons,List.map_cons,ih,h.1]
theorem all_behind {E:Env} (hE:EnvOk E) {a b:Bs} (hs:b.length≤20000000):∀(f1 f2 n:Nat) (acc1 acc2:List It),n≤b.length→b.length<n+f1→b.length<n+f2 →
    (∀c p,allF E b f1 n acc1 = .bad c p→allF E (a++b) f2 (a.length+n) acc2 = .bad c (a.length+p)) ∧
    (∀l,allF E b f1 n acc1 = .ok l→∃t t2,l=acc1++t∧allF E (a++b) f2 (a.length+n) acc2 = .ok (acc2++t2)∧All2 (ItS a.length) t t2):=by
 intro f1;have A:=Ahead.mk' a b
 induction f1 with
 | zero=>intro f2 n acc1 acc2 h1 h2;omega
 | succ f1 ih =>
  intro f2 n acc1 acc2 hn h1 h2
  match f2,h2 with
  | 0,h2=>omega
  | f2+1,h2 =>
  unfold allF;by_cases hlt:n<b.length
  · rw[if_pos hlt,if_pos (by rw[List.length_append];omega)];have hok:=itemS_ok hE b hs n hlt;have hr:=itemS_ahead hE A hs n hn;generalize itemS E b n=X at hr hok ⊢;generalize itemS E (a++b) (a.length+n)=Y at hr ⊢;cases hr with
    | bad c p=>exact⟨fun c' p' h=>by (cases h;rfl),fun l h=>by (cases h)⟩
    | ok x y hxy =>
     have q:=hok.2.2 x rfl;have q1:=q.lt;have q2:=q.le;simp only;rw[hxy.b];obtain⟨i1,i2⟩:=ih f2 x.b (acc1++[x]) (acc2++[y]) q2 (by omega) (by omega);refine⟨i1,fun l h=>?_⟩;obtain⟨t,t2,r1,r2,r3⟩:=i2 l h;refine⟨x::t,y::t2,by rw[r1];simp,by rw[r2];simp,.cons ⟨hxy.kind,hxy.a,hxy.b,KR_words hxy.ws⟩ r3⟩
  rw[if_neg hlt,if_neg (by rw[List.length_append];omega)];exact⟨fun c p h=>by (cases h),fun l h=>by (cases h;exact⟨[],[],by simp,by simp,.nil⟩)⟩
theorem all_front {E:Env} (hE:EnvOk E) (hN:EnvEnd E) {a b:Bs} (hs:a.length≤20000000) (hfin:a=[]∨byteAt a (a.length-1)=10) (n:Nat) (l:List It) (hl:Tiles E a n l):∀(f:Nat) (acc:List It),a.length+b.length<n+f →
    ∃l' f',All2 (ItS 0) l l'∧allF E (a++b) f n acc=allF E (a++b) f' a.length (acc++l')∧b.length<f':=by
 induction hl with
 | nil=>intro f acc hf;exact⟨[],f,.nil,by simp,by omega⟩
 | cons n it l hn hi _ ih =>
  intro f acc hf;have q:=(itemS_ok hE a hs n hn).2.2 it hi;have q1:=q.lt;have q2:=q.le
  match f,hf with
  | 0,hf=>omega
  | f+1,hf =>
  have h10:byteAt a (it.b-1)=10:=by
   rcases q.fin with h|h
   · rw[h];rcases hfin with h2|h2
     · rw[h2]at hn;simp at hn
     exact h2
   exact h
  have hg:=byteAt_ten h10;have hx:((a.drop n).take (it.b-1-n)).length=it.b-1-n:=by rw[List.length_take,List.length_drop];omega
  have hdrop:a.drop n=(a.drop n).take (it.b-1-n)++10::a.drop it.b:=by
   have h1:(a.drop n)[it.b-1-n]?=some 10:=by rw[List.getElem?_drop,show n+(it.b-1-n)=it.b-1 by omega];exact hg
   have:=split_at (a.drop n) (it.b-1-n) 10 h1;rw[List.drop_drop,show n+(it.b-1-n+1)=it.b by omega]at this;exact this
  have hdrop2:(a++b).drop n=(a.drop n).take (it.b-1-n)++10::(a.drop it.b++b):=by
   rw[drop_app a b n (by omega)]
   conv=>lhs;rw[hdrop]
   simp
  obtain⟨it',r1,r2,r3⟩:=itemS_cut hE (x:=(a.drop n).take (it.b-1-n)) (s1:=a) (s2:=a++b) (a1:=n) (a2:=n) ⟨⟨_,hdrop⟩,⟨_,hdrop2⟩⟩ hN it hs hi (by rw[hx];omega);obtain⟨k,e1,e2⟩:=r2.b;have hb':it'.b=it.b:=by omega
  obtain⟨l',f',g1,g2,g3⟩:=ih f (acc++[it']) (by omega);refine⟨it'::l',f',.cons ⟨r2.kind,by rw[r3,q.a];simp,by rw[hb'];simp,KR_words r2.ws⟩ g1,?_,g3⟩
  conv=>lhs;unfold allF
  rw[if_pos (by rw[List.length_append];omega),r1];simp only;rw[hb',g2];simp
theorem all_join {E:Env} (hE:EnvOk E) (hN:EnvEnd E) {a b:Bs} (ha:a.length≤10000000) (hb:b.length≤10000000) (hfin:a=[]∨byteAt a (a.length-1)=10) (l:List It) (hl:allS E a = .ok l) :
    (∀c p,allS E b = .bad c p→allS E (a++b) = .bad c (a.length+p)) ∧
    (∀m,allS E b = .ok m→∃l' m',allS E (a++b) = .ok (l'++m')∧All2 (ItS 0) l l'∧All2 (ItS a.length) m m'):=by
 have ht:=(allS_ok hE a (by omega)).2.2 l hl;obtain⟨l',f',g1,g2,g3⟩:=all_front hE hN (b:=b) (by omega) hfin 0 l ht ((a++b).length+1) [] (by rw[List.length_append];omega);obtain⟨h1,h2⟩:=all_behind hE (a:=a) (b:=b) (by omega) (b.length+1) f' 0 [] ([]++l') (by omega) (by omega) (by omega);simp only[Nat.add_zero]at h1 h2;refine⟨fun c p h=>?_,fun m h=>?_⟩
 · unfold allS;rw[g2];exact h1 c p h
 obtain⟨t,t2,r1,r2,r3⟩:=h2 m h;rw[List.nil_append]at r1;subst r1;refine⟨l',t2,?_,g1,r3⟩;unfold allS;rw[g2,r2];rfl
end Go.Proofs.YtdgjgcepbkanhaaGreatDoor.Pl
