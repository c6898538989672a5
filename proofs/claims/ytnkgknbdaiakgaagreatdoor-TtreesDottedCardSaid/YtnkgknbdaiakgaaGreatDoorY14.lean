/- The proof's part 14. -/
import Derived.Test.YtnkgknbdaiakgaaGreatDoorY11
set_option maxHeartbeats 16000000
set_option linter.all false
namespace Go.Proofs.YtnkgknbdaiakgaaGreatDoor.Pl
structure Vc where
 nds:Ve
 srt:List (Nat×Nat)
 sec:Nat
 dep:Nat
 many:Nat
 its:List It
 ns:List Int
def Vf(g:Vc)(i:Nat):Nat×Nat:=g.srt.getD i (0,0)
def V1r(k:Nat):Nd:=⟨k,[],[],[],[],(-1,-1),0⟩
def V2j(g:Vc)(k:Nat)(s:Nat×Nat):Vc:={ g with nds:=g.nds++[V1r k],srt:=g.srt++[s] }
def V2s(g:Vc)(t:Nat)(w:Bs)(sp:Nat×Nat)(i:Nat):Vc:={ g with nds:=Vj g.nds t w sp i }
def V2v(g:Vc)(i:Nat):Bool:=kind8 g.nds i&&(Vf g i).1 != 0
inductive Ov where
 |non
 |no
 |go (n d:Nat)
def V1p(g:Vc)(at' d:Nat)(w:Bs)(a b:Nat)(s:Nat×Nat)(over:Nat->Ov):Va (Nat×Nat×Vc) :=
 match V16 g.nds at' w with
 |.non => .non
 |.yes i =>
  match over i with
  |.non => .non
  |.no => .bad 5 a
  |.go n d' => .ok (n,d',g)
 |.no =>
  if 256<d+1 then .bad 4 a else
  if V2v g at'&&room g.nds then .ok (g.nds.length,d+1,V2s (V2j g 8 s) at' w (a,b) g.nds.length) else .non
def V39(g:Vc)(d i:Nat):Ov :=
 if (Vf g i).1=0 then .no else
 if (Vf g i).1=4 then
  match g.nds[i]? with
  |some nd =>
   match nd.subs.getLast? with
   |some l => .go l (d+2)
   |none => .non
  |none => .non
 else .go i (d+1)
def V1v(g:Vc)(d i:Nat):Ov:=if Vf g i=(3,g.many) then .go i (d+1) else .no
def V2a(s:Nat×Nat)(over:Vc->Nat->Nat->Ov):List KW->Nat->Nat->Vc->Va (Nat×Nat×Vc)
 |[],at',d,g => .ok (at',d,g)
 |(w,a,b)::rest,at',d,g =>
  match V1p g at' d w a b s (over g d) with
  |.non => .non
  |.bad c p => .bad c p
  |.ok (n,d2,g2)=>V2a s over rest n d2 g2
def V27(g:Vc)(k:List KW):Va Vc :=
 match V2a (2,0) V39 k.dropLast 0 1 g with
 |.non => .non
 |.bad c p => .bad c p
 |.ok (at',d,g1) =>
  match k.getLast? with
  |none => .non
  |some (w,a,b) =>
   match V1p g1 at' d w a b (1,0) (λ i=>if (Vf g1 i).1=2 then .go i (d+1) else .no) with
   |.non => .non
   |.bad c p => .bad c p
   |.ok (tz,d2,g2) => .ok { g2 with srt:=g2.srt.set tz (1,0),sec:=tz,dep:=d2,many:=g2.many+1 }
def V42(g:Vc)(i d:Nat):Vc :=
 { V2j g 8 (1,0) with nds:=(g.nds++[V1r 8]).modify i λ nd=>{ nd with subs:=nd.subs++[g.nds.length] },sec:=g.nds.length,dep:=d+2,many:=g.many+1 }
def subsOk(g:Vc)(i:Nat):Bool:=match g.nds[i]? with
 |some nd=>decide (nd.subs.length<=30000000)
 |none=>false
def V3l(g:Vc)(k:List KW):Va Vc :=
 match V2a (2,0) V39 k.dropLast 0 1 g with
 |.non => .non
 |.bad c p => .bad c p
 |.ok (at',d,g1) =>
  match k.getLast? with
  |none => .non
  |some (w,a,b) =>
   match V16 g1.nds at' w with
   |.non => .non
   |.yes i =>
    if (Vf g1 i).1=4 then
     if 256<d+2 then .bad 4 a else
     if subsOk g1 i&&room g1.nds then .ok (V42 g1 i d) else .non
    else .bad 5 a
   |.no =>
    if 256<d+2 then .bad 4 a else
    if V2v g1 at'&&room g1.nds then .ok (V42 (V2s (V2j g1 7 (4,0)) at' w (a,b) g1.nds.length) g1.nds.length d) else .non
def V14(g:Vc)(nds:Ve):Vc :=
 { g with nds:=g.nds++nds.map λ nd=>{ nd with subs:=nd.subs.map (· + g.nds.length),owner:=0 },srt:=g.srt++nds.map λ _=>(0,0) }
def V2z(g:Vc)(k:List KW):Va (Nat×Nat×Vc) :=
 match V2a (3,g.many) V1v k.dropLast g.sec g.dep g with
 |.non => .non
 |.bad c p => .bad c p
 |.ok (at',d,g1) =>
  match k.getLast? with
  |none => .non
  |some (w,a,_) =>
   match V16 g1.nds at' w with
   |.non => .non
   |.yes _ => .bad 5 a
   |.no => .ok (at',d,g1)
def V2d(E:V19)(s:Bs)(n:Nat)(g:Vc):Va (Nat×Nat×Ve×Vc) :=
 let n1:=V7 s n
 if V1c (s.drop n1) then .ok (0,0,[],g) else
 let m:=if pre (s.drop n1) [91,91] then 2 else if pre (s.drop n1) [91] then 1 else 0
 match V23 E s (V7 s (n1+m)) with
 |.non => .non
 |.bad c p => .bad c p
 |.ok (ws,e) =>
  if m=2 then
   match V3l g ws with
   |.non => .non
   |.bad c p => .bad c p
   |.ok g1 => .ok (0,0,[],g1)
  else if m=1 then
   match V27 g ws with
   |.non => .non
   |.bad c p => .bad c p
   |.ok g1 => .ok (0,0,[],g1)
  else
   match V2z g ws with
   |.non => .non
   |.bad c p => .bad c p
   |.ok (into,d,g1) =>
    let e1:=V7 s e
    if V9 s e1=61 then
     match V1j E s (V7 s (e1+1)) d with
     |.non => .non
     |.bad c p => .bad c p
     |.ok (root,_,nds) => .ok (into,root,nds,g1)
    else .ok (into,0,[],g1)
def V4x(nds:Ve)(root:Nat):Bool:=decide (root<=30000000)&&nds.all λ nd=>decide (nd.subs.length<=30000000)&&nd.subs.all λ u=>decide (u<=30000000)
def V2o(E:V19)(s:Bs)(n:Nat)(g:Vc):Va (Nat×Vc) :=
 match V2d E s n g with
 |.non => .non
 |.bad c p => .bad c p
 |.ok (into,root,nds,g1) =>
  match V41 E s n with
  |.non => .non
  |.bad c p => .bad c p
  |.ok it =>
   if it.kind=0 then .ok (it.b,{ g1 with its:=g1.its++[it],ns:=g1.ns++[-1] })
   else if it.kind=1 then
    match it.ws.getLast? with
    |none => .non
    |some (w,a,b) =>
     let g2:=V14 g1 nds
     if V4x nds root&&V2v g2 into&&room g2.nds then .ok (it.b,{ V2s g2 into w (a,b) (root+g1.nds.length) with its:=g2.its++[it],ns:=g2.ns++[((root+g1.nds.length:Nat):Int)] }) else .non
   else .ok (it.b,{ g1 with its:=g1.its++[it],ns:=g1.ns++[((g1.sec:Nat):Int)] })
def V78(g:Vc):Bool:=decide (g.nds.length<=20000001)&&decide (g.many<=20000000)&&decide (g.dep<=100000000)&&decide (g.its.length<=30000000)
def grownF(E:V19)(s:Bs):Nat->Nat->Vc->Va Vc
 |0,_,_ => .non
 |f+1,n,g =>
  if n<s.length then
   if V78 g then
    match V2o E s n g with
    |.non => .non
    |.bad c p => .bad c p
    |.ok (e,g1)=>grownF E s f e g1
   else .non
  else .ok g
def V3n:Vc:=⟨[V1r 8],[(1,0)],0,1,0,[],[]⟩
def V1f(E:V19)(s:Bs):Va Vc:=grownF E s (s.length+1) 0 V3n
end Go.Proofs.YtnkgknbdaiakgaaGreatDoor.Pl
namespace Go.Proofs.YtnkgknbdaiakgaaGreatDoor
open Pl 
def Its(g g2:Vc):Prop:=(g2.its=g.its/\g2.ns=g.ns)/\g.nds.length<=g2.nds.length
theorem Its.trans{a b c:Vc}(h:Its a b)(k:Its b c):Its a c:=⟨⟨k.1.1.trans h.1.1,k.1.2.trans h.1.2⟩,U1k h.2 k.2⟩
theorem Och{g g2:Vc}{an d n d2:Nat}{w:Pl.Bs}{a b:Nat}{t:Nat×Nat}{over:Nat->Pl.Ov}(h:V1p g an d w a b t over=.ok (n,d2,g2)):Its g g2:=by
 unfold V1p at h
 split at h;cases h
 split at h;cases h
 cases h
 cases h;exact⟨⟨rfl,rfl⟩,U12 _⟩
 split at h;cases h
 split at h;cases h;exact⟨⟨rfl,rfl⟩,by simp[V2s,V2j,Vj]⟩
 cases h
theorem O6u(t:Nat×Nat)(over:Vc->Nat->Nat->Pl.Ov):∀(ks:List Pl.KW)(an d:Nat)(g:Vc)(n d2:Nat)(g2:Vc),V2a t over ks an d g=.ok (n,d2,g2)->Its g g2
 | [],an,d,g,n,d2,g2,h=>by
  unfold V2a at h;cases h;exact⟨⟨rfl,rfl⟩,U12 _⟩
 | (w,a,b)::ks,an,d,g,n,d2,g2,h=>by
  unfold V2a at h
  split at h;cases h
  cases h
  rename_i n1 d1 g1 hs
  exact (Och hs).trans (O6u t over ks n1 d1 g1 n d2 g2 h)
theorem Oi1{g g2:Vc}{k:List Pl.KW}(h:V27 g k=.ok g2):Its g g2:=by
 unfold V27 at h
 split at h;cases h
 cases h
 rename_i h1
 split at h;cases h
 split at h;cases h
 cases h
 rename_i h2
 cases h;have h3:=(O6u _ _ _ _ _ _ _ _ _ h1).trans (Och h2);exact⟨h3.1,h3.2⟩
theorem Ok5{g g2:Vc}{k:List Pl.KW}(h:V3l g k=.ok g2):Its g g2:=by
 unfold V3l at h
 split at h;cases h
 cases h
 rename_i h1
 have h3:=O6u _ _ _ _ _ _ _ _ _ h1
 split at h;cases h
 split at h;cases h
 split at h
 split at h;cases h
 split at h;cases h;exact⟨h3.1,U1k h3.2 (by simp[V42,V2j])⟩
 cases h
 cases h
 split at h;cases h
 split at h;cases h;exact⟨h3.1,U1k h3.2 (by simp[V42,V2j,V2s,Vj];omega)⟩
 cases h
theorem Ok6{g g2:Vc}{k:List Pl.KW}{n d:Nat}(h:V2z g k=.ok (n,d,g2)):Its g g2:=by
 unfold V2z at h
 split at h;cases h
 cases h
 rename_i h1
 have h3:=O6u _ _ _ _ _ _ _ _ _ h1
 split at h;cases h
 split at h;cases h
 cases h
 cases h;exact h3
theorem O44{E:V19}{l:Pl.Bs}{n:Nat}{g g2:Vc}{i r:Nat}{nds:Ve}(h:V2d E l n g=.ok (i,r,nds,g2)):Its g g2:=by
 unfold V2d at h;simp only at h;generalize V7 l n=n1 at h;generalize (if Pl.pre (l.drop n1) [91,91]=true then 2 else if Pl.pre (l.drop n1) [91]=true then 1 else 0)=m at h;generalize V23 E l (V7 l (n1+m))=K at h;by_cases hb:V1c (l.drop n1)=true;rw[U18 hb]at h;cases h;exact⟨⟨rfl,rfl⟩,U12 _⟩
 rw[U1b hb]at h;cases K with
 |non=>cases h
 |bad c p=>cases h
 |ok kk =>
  obtain⟨ws,e⟩:=kk;simp only at h;by_cases h2:m=2
  rw[U18 h2]at h;cases hm:V3l g ws with
  |non=>rw[hm]at h;cases h
  |bad c p=>rw[hm]at h;cases h
  |ok g1=>rw[hm]at h;cases h;exact Ok5 hm
  rw[U1b h2]at h;by_cases h1:m=1
  rw[U18 h1]at h;cases hm:V27 g ws with
  |non=>rw[hm]at h;cases h
  |bad c p=>rw[hm]at h;cases h
  |ok g1=>rw[hm]at h;cases h;exact Oi1 hm
  rw[U1b h1]at h;cases hm:V2z g ws with
  |non=>rw[hm]at h;cases h
  |bad c p=>rw[hm]at h;cases h
  |ok rr =>
   obtain⟨into,d,g1⟩:=rr;rw[hm]at h;simp only at h;have h3:=Ok6 hm
   split at h
   split at h;cases h
   cases h
   cases h;exact h3
   cases h;exact h3
