/-
 The walks and plain laws that the claim rests on, part 40.
-/
import Derived.Test.YtdgjgcepbkanhaaGreatDoorM39
set_option maxHeartbeats 16000000
set_option linter.all false
set_option linter.unusedVariables false
set_option linter.unusedSimpArgs false
namespace Go.Proofs.YtdgjgcepbkanhaaGreatDoor.Pl
def isF (s:Bs):Nat→Bs→Out Nat
 | n,[] => .ok n
 | n,w::ws=>if s[n]?=some w then isF s (n+1) ws else .bad 3 n
def closedS (s:Bs) (n:Nat):Out Nat :=
 let a:=commentAt s (blanksAt s n)
 if a=s.length then .ok a else
 if byteAt s a=10 then .ok (a+1) else
 if byteAt s a=13 then isF s a [13,10] else .bad 3 a
structure It where
 kind:Nat
 a:Nat
 b:Nat
 ws:List KW
 va:Nat
 vb:Nat
 root:Nat
 nds:Nds
def headerS (E:Env) (s:Bs) (kind n:Nat) (ends:Bs):Res (Nat × It) :=
 match keyS E s (blanksAt s (n+ends.length)) with
 | .non => .non
 | .bad c p => .bad c p
 | .ok (ws,e) =>
  match isF s (blanksAt s e) ends with
  | .bad c p => .bad c p
  | .ok m => .ok (m,⟨kind,0,0,ws,0,0,0,[]⟩)
def pairI (E:Env) (s:Bs) (n:Nat):Res (Nat × It) :=
 match keyS E s n with
 | .non => .non
 | .bad c p => .bad c p
 | .ok (ws,e) =>
  match isF s (blanksAt s e) [61] with
  | .bad c p => .bad c p
  | .ok m =>
   match readS E s (blanksAt s m) 0 with
   | .non => .non
   | .bad c p => .bad c p
   | .ok (root,e2,nds) => .ok (e2,⟨1,0,0,ws,blanksAt s m,e2,root,nds⟩)
def isBlankI (l:Bs):Bool:=match l with
 | []=>true
 | c::_=>c.toNat==35 || c.toNat==13 || c.toNat==10
def bodyS (E:Env) (s:Bs) (n:Nat):Res (Nat × It) :=
 if pre (s.drop n) [91,91] then headerS E s 3 n [93,93] else
 if pre (s.drop n) [91] then headerS E s 2 n [93] else
 if isBlankI (s.drop n) then .ok (n,⟨0,0,0,[],0,0,0,[]⟩) else pairI E s n
def itemS (E:Env) (s:Bs) (n:Nat):Res It :=
 match bodyS E s (blanksAt s n) with
 | .non => .non
 | .bad c p => .bad c p
 | .ok (e,it) =>
  match closedS s e with
  | .bad c p => .bad c p
  | .ok m => .ok { it with a:=n,b:=m }
def allF (E:Env) (s:Bs):Nat→Nat→List It→Res (List It)
 | 0,_,_ => .non
 | f+1,n,acc =>
  if n<s.length then
   match itemS E s n with
   | .non => .non
   | .bad c p => .bad c p
   | .ok it=>allF E s f it.b (acc++[it])
  else .ok acc
def allS (E:Env) (s:Bs):Res (List It):=allF E s (s.length+1) 0 []
theorem isF_le (s:Bs) (want:Bs):∀n,n≤s.length→(∀m,isF s n want = .ok m→m=n+want.length∧m≤s.length)∧(∀c p,isF s n want = .bad c p→p≤s.length∧c=3):=by
 induction want with
 | nil=>intro n hn;exact⟨fun m h=>by (simp only[isF,Out.ok.injEq]at h;subst h;exact⟨rfl,hn⟩),fun c p h=>by (simp[isF]at h)⟩
 | cons w ws ih =>
  intro n hn;unfold isF
  split
  · rename_i h
    have hlt:=(List.getElem?_eq_some_iff.1 h).1;obtain⟨i1,i2⟩:=ih (n+1) (by omega);exact⟨fun m h=>by (have:=i1 m h;simp only[List.length_cons];omega),i2⟩
  exact⟨fun m h=>by (simp at h),fun c p h=>by (cases h;exact⟨hn,rfl⟩)⟩
theorem closedS_le (s:Bs) (n:Nat) (hn:n≤s.length) :
    (∀m,closedS s n = .ok m→n≤m∧m≤s.length∧((m=s.length∧commentAt s (blanksAt s n)=m)∨(commentAt s (blanksAt s n)<m∧byteAt s (m-1)=10)))∧(∀c p,closedS s n = .bad c p→p≤s.length∧c≠0):=by
 have hb:=blanksAt_le s n hn;have hc:=commentAt_le s (blanksAt s n) hb.2;unfold closedS;simp only;generalize commentAt s (blanksAt s n)=a at hc ⊢
 split
 · rename_i h
   exact⟨fun m h=>by (cases h;exact⟨by omega,by omega,.inl ⟨by omega,rfl⟩⟩),fun c p h=>by (cases h)⟩
 split
 · rename_i h10
   have:=byteAt_lt h10 (by decide);exact⟨fun m h=>by (cases h;exact⟨by omega,by omega,.inr ⟨by omega,h10⟩⟩),fun c p h=>by (cases h)⟩
 split
 · rename_i h13
   have:=byteAt_lt h13 (by decide);obtain⟨i1,i2⟩:=isF_le s [13,10] a (by omega);refine⟨fun m h=>?_,fun c p h=>by (have:=i2 c p h;omega)⟩;obtain⟨h1,h2⟩:=i1 m h;simp only[List.length_cons,List.length_nil]at h1;refine⟨by omega,h2,.inr ⟨by omega,?_⟩⟩;unfold isF at h
   split at h
   · unfold isF at h
     split at h
     · rename_i h10
       subst h1;show byteAt s (a+1)=10;unfold byteAt;rw[h10];rfl
     cases h
   cases h
 exact⟨fun m h=>by (cases h),fun c p h=>by (cases h;exact⟨by omega,by decide⟩)⟩
structure BodyOk (E:Env) (s:Bs) (n e:Nat) (it:It):Prop where
 le:n≤e∧e≤s.length
 blank:it.kind=0→it.ws=[]∧e=n
 ws:it.kind≠0→it.ws≠[]
 pair:it.kind=1→(∃w,it.ws.getLast?=some w∧w.2.2<it.va)∧it.va<it.vb∧it.vb=e∧readS E s it.va 0 = .ok (it.root,it.vb,it.nds)∧VOkR [] it.root it.vb it.nds
 other:it.kind≠1→it.va=0∧it.vb=0∧it.root=0∧it.nds=[]
 kind:it.kind≤3
 spans:∀x∈it.ws,x.2.1≤x.2.2∧x.2.2≤e
section
variable {E:Env} (hE:EnvOk E) (s:Bs) (hs:s.length≤20000000)
include hE hs
theorem headerS_ok (kind n:Nat) (ends:Bs) (hk:kind=2∨kind=3) (hn:n+ends.length≤s.length):headerS E s kind n ends ≠ .non∧(∀c p,headerS E s kind n ends = .bad c p→p≤s.length∧c≠0)∧(∀e it,headerS E s kind n ends = .ok (e,it)→BodyOk E s n e it):=by
 have hb:=blanksAt_le s (n+ends.length) hn;obtain⟨k1,k2,k3⟩:=keyS_le hE hb.2;unfold headerS;cases hk':keyS E s (blanksAt s (n+ends.length)) with
 | non=>exact absurd hk' k3
 | bad c p=>exact⟨by simp,fun c' p' h=>by (cases h;exact k2 _ _ hk'),fun e it h=>by (cases h)⟩
 | ok r =>
  obtain⟨ws,e⟩:=r;obtain⟨h1,h2,h3,h4,h5⟩:=k1 _ _ hk';have hb2:=blanksAt_le s e h2;obtain⟨i1,i2⟩:=isF_le s ends (blanksAt s e) hb2.2;simp only;cases hi:isF s (blanksAt s e) ends with
  | bad c p=>exact⟨by simp,fun c' p' h=>by (cases h;have:=i2 _ _ hi;exact⟨this.1,by omega⟩),fun e it h=>by (cases h)⟩
  | ok m =>
   obtain⟨i3,i4⟩:=i1 _ hi;refine⟨by simp,fun c' p' h=>by (cases h),fun e' it h=>?_⟩;cases h;exact⟨⟨by omega,i4⟩,fun h=>by (simp only at h;omega),fun _=>h3,fun h=>by (simp only at h;omega),fun _=>⟨rfl,rfl,rfl,rfl⟩,by simp only;omega,fun x hx=>by (have:=h4 x hx;omega)⟩
theorem pairI_ok (n:Nat) (hn:n≤s.length):pairI E s n ≠ .non∧(∀c p,pairI E s n = .bad c p→p≤s.length∧c≠0)∧(∀e it,pairI E s n = .ok (e,it)→BodyOk E s n e it∧it.kind=1):=by
 obtain⟨k1,k2,k3⟩:=keyS_le hE hn;unfold pairI;cases hk':keyS E s n with
 | non=>exact absurd hk' k3
 | bad c p=>exact⟨by simp,fun c' p' h=>by (cases h;exact k2 _ _ hk'),fun e it h=>by (cases h)⟩
 | ok r =>
  obtain⟨ws,e⟩:=r;obtain⟨h1,h2,h3,h4,h5⟩:=k1 _ _ hk';have hb2:=blanksAt_le s e h2;obtain⟨i1,i2⟩:=isF_le s [61] (blanksAt s e) hb2.2;simp only;cases hi:isF s (blanksAt s e) [61] with
  | bad c p=>exact⟨by simp,fun c' p' h=>by (cases h;have:=i2 _ _ hi;exact⟨this.1,by omega⟩),fun e it h=>by (cases h)⟩
  | ok m =>
   obtain⟨i3,i4⟩:=i1 _ hi;simp only[List.length_cons,List.length_nil]at i3;have hb3:=blanksAt_le s m i4;obtain⟨r1,r2,r3⟩:=readS_tot hE s hs (blanksAt s m) 0 hb3.2;simp only;cases hr:readS E s (blanksAt s m) 0 with
   | non=>exact absurd hr r1
   | bad c p=>exact⟨by simp,fun c' p' h=>by (cases h;exact r2 _ _ hr),fun e it h=>by (cases h)⟩
   | ok v =>
    obtain⟨root,e2,nds⟩:=v;obtain⟨r4,r5,r6⟩:=r3 _ _ _ hr;refine⟨by simp,fun c' p' h=>by (cases h),fun e' it h=>?_⟩;cases h;refine⟨⟨⟨by omega,r5⟩,fun h=>by (cases h),fun _=>h3,fun _=>⟨?_,r4,rfl,hr,r6⟩,fun h=>absurd rfl h,by simp only;omega,fun x hx=>by (have:=h4 x hx;omega)⟩,rfl⟩;cases hl:ws.getLast? with
    | none=>rw[List.getLast?_eq_none_iff]at hl;exact absurd hl h3
    | some w =>
     rw[hl]at h5;simp only[Option.map_some,Option.some.injEq]at h5;exact⟨w,rfl,by simp only;omega⟩
theorem bodyS_ok (n:Nat) (hn:n≤s.length):bodyS E s n ≠ .non∧(∀c p,bodyS E s n = .bad c p→p≤s.length∧c≠0)∧(∀e it,bodyS E s n = .ok (e,it)→BodyOk E s n e it):=by
 unfold bodyS
 split
 · rename_i h
   have:=pre_length _ _ h;rw[List.length_drop]at this;simp only[List.length_cons,List.length_nil]at this;exact headerS_ok hE s hs 3 n [93,93] (.inr rfl) (by simp only[List.length_cons,List.length_nil];omega)
 split
 · rename_i h
   have:=pre_length _ _ h;rw[List.length_drop]at this;simp only[List.length_cons,List.length_nil]at this;exact headerS_ok hE s hs 2 n [93] (.inl rfl) (by simp only[List.length_cons,List.length_nil];omega)
 split
 · refine⟨by simp,fun c p h=>by (cases h),fun e it h=>?_⟩;cases h;exact⟨⟨Nat.le_refl _,hn⟩,fun _=>⟨rfl,rfl⟩,fun h=>absurd rfl h,fun h=>by (cases h),fun _=>⟨rfl,rfl,rfl,rfl⟩,by simp,fun x hx=>by (cases hx)⟩
 obtain⟨p1,p2,p3⟩:=pairI_ok hE s hs n hn;exact⟨p1,p2,fun e it h=>(p3 e it h).1⟩
structure ItemOk (E:Env) (s:Bs) (n:Nat) (it:It):Prop where
 a:it.a=n
 lt:n<it.b
 le:it.b≤s.length
 fin:it.b=s.length∨byteAt s (it.b-1)=10
 ws:it.kind≠0→it.ws≠[]
 blank:it.kind=0→it.ws=[]
 pair:it.kind=1→(∃w,it.ws.getLast?=some w∧w.2.2<it.va)∧it.va<it.vb∧it.vb≤it.b∧readS E s it.va 0 = .ok (it.root,it.vb,it.nds)∧VOkR [] it.root it.vb it.nds
 other:it.kind≠1→it.va=0∧it.vb=0∧it.root=0∧it.nds=[]
 kind:it.kind≤3
 spans:∀x∈it.ws,x.2.1≤x.2.2∧x.2.2≤s.length
theorem itemS_ok (n:Nat) (hn:n<s.length):itemS E s n ≠ .non∧(∀c p,itemS E s n = .bad c p→p≤s.length∧c≠0)∧(∀it,itemS E s n = .ok it→ItemOk E s n it):=by
 have hb:=blanksAt_le s n (by omega);obtain⟨b1,b2,b3⟩:=bodyS_ok hE s hs (blanksAt s n) hb.2;unfold itemS;cases hbd:bodyS E s (blanksAt s n) with
 | non=>exact absurd hbd b1
 | bad c p=>exact⟨by simp,fun c' p' h=>by (cases h;exact b2 _ _ hbd),fun it h=>by (cases h)⟩
 | ok r =>
  obtain⟨e,it⟩:=r;have q:=b3 _ _ hbd;obtain⟨c1,c2⟩:=closedS_le s e q.le.2;simp only;cases hc:closedS s e with
  | bad c p=>exact⟨by simp,fun c' p' h=>by (cases h;exact c2 _ _ hc),fun it h=>by (cases h)⟩
  | ok m =>
   obtain⟨c3,c4,c5⟩:=c1 _ hc;have hbe:=blanksAt_le s e q.le.2;have hce:=commentAt_le s (blanksAt s e) hbe.2;have hq:=q.le;refine⟨by simp,fun c' p' h=>by (cases h),fun it' h=>?_⟩;cases h;refine⟨rfl,?_,c4,?_,q.ws,fun h=>(q.blank h).1,fun h=>?_,q.other,q.kind,fun x hx=>by (have:=q.spans x hx;omega)⟩
   · simp only;omega
   · simp only;rcases c5 with h|h
     · exact .inl h.1
     exact .inr h.2
   obtain⟨p1,p2,p3,p4,p5⟩:=q.pair h;exact⟨p1,p2,by simp only;omega,p4,p5⟩
end
inductive Tiles (E:Env) (s:Bs):Nat→List It→Prop
 | nil:Tiles E s s.length []
 | cons (n:Nat) (it:It) (l:List It):n<s.length→itemS E s n = .ok it→Tiles E s it.b l→Tiles E s n (it::l)
theorem allF_ok {E:Env} (hE:EnvOk E) (s:Bs) (hs:s.length≤20000000):∀(f n:Nat) (acc:List It),n≤s.length→s.length<n+f →
    allF E s f n acc ≠ .non∧(∀c p,allF E s f n acc = .bad c p→p≤s.length∧c≠0)∧(∀l,allF E s f n acc = .ok l→∃t,l=acc++t∧Tiles E s n t):=by
 intro f
 induction f with
 | zero=>intro n acc h1 h2;omega
 | succ f ih =>
  intro n acc hn hf;unfold allF
  split
  · rename_i hlt
    obtain⟨i1,i2,i3⟩:=itemS_ok hE s hs n hlt;cases hi:itemS E s n with
    | non=>exact absurd hi i1
    | bad c p=>exact⟨by simp,fun c' p' h=>by (cases h;exact i2 _ _ hi),fun l h=>by (cases h)⟩
    | ok it =>
     have q:=i3 _ hi;have q1:=q.lt;have q2:=q.le;obtain⟨j1,j2,j3⟩:=ih it.b (acc++[it]) q2 (by omega);refine⟨j1,j2,fun l h=>?_⟩;obtain⟨t,rfl,ht⟩:=j3 l h;exact⟨it::t,by simp,.cons n it t hlt hi ht⟩
  rename_i hlt
  refine⟨by simp,fun c p h=>by (cases h),fun l h=>?_⟩;cases h;have:n=s.length:=by omega
  subst this;exact⟨[],by simp,.nil⟩
theorem allS_ok {E:Env} (hE:EnvOk E) (s:Bs) (hs:s.length≤20000000):allS E s ≠ .non∧(∀c p,allS E s = .bad c p→p≤s.length∧c≠0)∧(∀l,allS E s = .ok l→Tiles E s 0 l):=by
 obtain⟨h1,h2,h3⟩:=allF_ok hE s hs (s.length+1) 0 [] (by omega) (by omega);refine⟨h1,h2,fun l h=>?_⟩;obtain⟨t,rfl,ht⟩:=h3 l h;exact ht
structure ItR (k:Nat) (x y:It):Prop where
 kind:y.kind=x.kind
 a:y.a=k+x.a
 b:y.b=k+x.b
 ws:All2 (KR 0 k) x.ws y.ws
 val:x.kind=1→y.va=k+x.va∧y.vb=k+x.vb
 root:y.root=x.root
 nds:RS 0 x.nds y.nds
section
variable {E:Env} (hE:EnvOk E) {s1 s2:Bs} {k:Nat} (A:Ahead s1 s2 k) (hs:s1.length≤20000000)
theorem Ahead.get {s1 s2:Bs} {k:Nat} (A:Ahead s1 s2 k) (n:Nat):s2[k+n]?=s1[n]?:=by
 have h1:s2[k+n]?=(s2.drop (k+n))[0]?:=by rw[List.getElem?_drop];rfl
 have h2:s1[n]?=(s1.drop n)[0]?:=by rw[List.getElem?_drop];rfl
 rw[h1,h2,A.dr n]
theorem isF_ahead {s1 s2:Bs} {k:Nat} (A:Ahead s1 s2 k) (want:Bs):∀n,isF s2 (k+n) want=match isF s1 n want with
    | .ok m => .ok (k+m)
    | .bad c p => .bad c (k+p):=by
 induction want with
 | nil=>intro n;rfl
 | cons w ws ih =>
  intro n;unfold isF;rw[A.get]
  split
  · rw[Nat.add_assoc,ih]
  rfl
theorem closedS_ahead {s1 s2:Bs} {k:Nat} (A:Ahead s1 s2 k) (n:Nat):closedS s2 (k+n)=match closedS s1 n with
    | .ok m => .ok (k+m)
    | .bad c p => .bad c (k+p):=by
 unfold closedS;simp only;rw[A.blanks,A.comment,A.byte,A.len,isF_ahead A];by_cases h:commentAt s1 (blanksAt s1 n)=s1.length
 · rw[if_pos (by omega),if_pos h]
 rw[if_neg (by omega),if_neg h]
 split
 · rfl
 split
 · rfl
 rfl
inductive RI (k:Nat):Res It→Res It→Prop
 | bad (c p:Nat):RI k (.bad c p) (.bad c (k+p))
 | ok (x y:It):ItR k x y→RI k (.ok x) (.ok y)
inductive RB (k:Nat):Res (Nat × It)→Res (Nat × It)→Prop
 | bad (c p:Nat):RB k (.bad c p) (.bad c (k+p))
 | ok (e:Nat) (x y:It):y.kind=x.kind→All2 (KR 0 k) x.ws y.ws→(x.kind=1→y.va=k+x.va∧y.vb=k+x.vb)→y.root=x.root→RS 0 x.nds y.nds→RB k (.ok (e,x)) (.ok (k+e,y))
include hE A hs
theorem headerS_ahead (kind n:Nat) (ends:Bs) (hk:kind=2∨kind=3) (hn:n+ends.length≤s1.length):RB k (headerS E s1 kind n ends) (headerS E s2 kind (k+n) ends):=by
 have hb:=blanksAt_le s1 (n+ends.length) hn;obtain⟨k1,k2,k3⟩:=keyS_le hE hb.2;unfold headerS;rw[Nat.add_assoc,A.blanks,keyS_ahead hE A _ hb.2];cases hk':keyS E s1 (blanksAt s1 (n+ends.length)) with
 | non=>exact absurd hk' k3
 | bad c p=>exact .bad c p
 | ok r =>
  obtain⟨ws,e⟩:=r;simp only[shO];rw[A.blanks,isF_ahead A];cases hi:isF s1 (blanksAt s1 e) ends with
  | bad c p=>exact .bad c p
  | ok m=>exact .ok m _ _ rfl (KR_sh k ws) (fun h=>by (simp only at h;omega)) rfl (RS.nil [])
theorem pairI_ahead (n:Nat) (hn:n≤s1.length):RB k (pairI E s1 n) (pairI E s2 (k+n)):=by
 obtain⟨k1,k2,k3⟩:=keyS_le hE hn;unfold pairI;rw[keyS_ahead hE A _ hn];cases hk':keyS E s1 n with
 | non=>exact absurd hk' k3
 | bad c p=>exact .bad c p
 | ok r =>
  obtain⟨ws,e⟩:=r;obtain⟨h1,h2,h3,h4,h5⟩:=k1 _ _ hk';have hb2:=blanksAt_le s1 e h2;simp only[shO];rw[A.blanks,isF_ahead A];cases hi:isF s1 (blanksAt s1 e) [61] with
  | bad c p=>exact .bad c p
  | ok m =>
   obtain⟨i3,i4⟩:=(isF_le s1 [61] (blanksAt s1 e) hb2.2).1 _ hi;have hb3:=blanksAt_le s1 m i4;simp only;rw[A.blanks];have hr:=readS_ahead hE A hs (blanksAt s1 m) 0 hb3.2;generalize readS E s1 (blanksAt s1 m) 0=X at hr ⊢;generalize readS E s2 (k+blanksAt s1 m) 0=Y at hr ⊢;cases hr with
   | bad c p=>exact .bad c p
   | ok i e2 st1 st2 h12=>exact .ok e2 _ _ rfl (KR_sh k ws) (fun _=>⟨rfl,rfl⟩) rfl h12
theorem bodyS_ahead (n:Nat) (hn:n≤s1.length):RB k (bodyS E s1 n) (bodyS E s2 (k+n)):=by
 unfold bodyS;rw[A.dr]
 split
 · rename_i h
   have:=pre_length _ _ h;rw[List.length_drop]at this;simp only[List.length_cons,List.length_nil]at this;exact headerS_ahead hE A hs 3 n [93,93] (.inr rfl) (by simp only[List.length_cons,List.length_nil];omega)
 split
 · rename_i h
   have:=pre_length _ _ h;rw[List.length_drop]at this;simp only[List.length_cons,List.length_nil]at this;exact headerS_ahead hE A hs 2 n [93] (.inl rfl) (by simp only[List.length_cons,List.length_nil];omega)
 split
 · exact .ok n _ _ rfl .nil (fun h=>by (cases h)) rfl (RS.nil [])
 exact pairI_ahead hE A hs n hn
theorem itemS_ahead (n:Nat) (hn:n≤s1.length):RI k (itemS E s1 n) (itemS E s2 (k+n)):=by
 have hb:=blanksAt_le s1 n hn;have hbd:=bodyS_ahead hE A hs (blanksAt s1 n) hb.2;unfold itemS;rw[A.blanks];generalize bodyS E s1 (blanksAt s1 n)=X at hbd ⊢;generalize bodyS E s2 (k+blanksAt s1 n)=Y at hbd ⊢;cases hbd with
 | bad c p=>exact .bad c p
 | ok e x y h1 h2 h3 h4 h5 =>
  simp only;rw[closedS_ahead A];cases closedS s1 e with
  | bad c p=>exact .bad c p
  | ok m=>exact .ok _ _ ⟨h1,rfl,rfl,h2,h3,h4,h5⟩
end
end Go.Proofs.YtdgjgcepbkanhaaGreatDoor.Pl
