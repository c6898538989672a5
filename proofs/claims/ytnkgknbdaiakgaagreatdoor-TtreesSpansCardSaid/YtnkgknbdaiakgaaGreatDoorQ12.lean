/- The proof's part 12. -/
import Derived.Test.YtnkgknbdaiakgaaGreatDoorQ10
set_option maxHeartbeats 16000000
set_option linter.all false
namespace Go.Proofs.YtnkgknbdaiakgaaGreatDoor.Pl
structure Vb where
 nds:Vc
 srt:List (Nat×Nat)
 sec:Nat
 dep:Nat
 many:Nat
 its:List It
 ns:List Int
def Vd(g:Vb)(i:Nat):Nat×Nat:=g.srt.getD i (0,0)
def V14(k:Nat):Nd:=⟨k,[],[],[],[],(-1,-1),0⟩
def V1o(g:Vb)(k:Nat)(s:Nat×Nat):Vb:={ g with nds:=g.nds++[V14 k],srt:=g.srt++[s] }
def V1r(g:Vb)(t:Nat)(w:Bs)(sp:Nat×Nat)(i:Nat):Vb:={ g with nds:=Vf g.nds t w sp i }
def V2o(g:Vb)(i:Nat):Bool:=kind8 g.nds i&&(Vd g i).1 != 0
inductive Ov where
 |non
 |no
 |go (n d:Nat)
def V1p(g:Vb)(at' d:Nat)(w:Bs)(a b:Nat)(s:Nat×Nat)(over:Nat->Ov):V9 (Nat×Nat×Vb) :=
 match V1a g.nds at' w with
 |.non => .non
 |.yes i =>
  match over i with
  |.non => .non
  |.no => .bad 5 a
  |.go n d' => .ok (n,d',g)
 |.no =>
  if 256<d+1 then .bad 4 a else
  if V2o g at'&&room g.nds then .ok (g.nds.length,d+1,V1r (V1o g 8 s) at' w (a,b) g.nds.length) else .non
def V37(g:Vb)(d i:Nat):Ov :=
 if (Vd g i).1=0 then .no else
 if (Vd g i).1=4 then
  match g.nds[i]? with
  |some nd =>
   match nd.subs.getLast? with
   |some l => .go l (d+2)
   |none => .non
  |none => .non
 else .go i (d+1)
def V27(g:Vb)(d i:Nat):Ov:=if Vd g i=(3,g.many) then .go i (d+1) else .no
def V24(s:Nat×Nat)(over:Vb->Nat->Nat->Ov):List KW->Nat->Nat->Vb->V9 (Nat×Nat×Vb)
 |[],at',d,g => .ok (at',d,g)
 |(w,a,b)::rest,at',d,g =>
  match V1p g at' d w a b s (over g d) with
  |.non => .non
  |.bad c p => .bad c p
  |.ok (n,d2,g2)=>V24 s over rest n d2 g2
def V2f(g:Vb)(k:List KW):V9 Vb :=
 match V24 (2,0) V37 k.dropLast 0 1 g with
 |.non => .non
 |.bad c p => .bad c p
 |.ok (at',d,g1) =>
  match k.getLast? with
  |none => .non
  |some (w,a,b) =>
   match V1p g1 at' d w a b (1,0) (λ i=>if (Vd g1 i).1=2 then .go i (d+1) else .no) with
   |.non => .non
   |.bad c p => .bad c p
   |.ok (tV,d2,g2) => .ok { g2 with srt:=g2.srt.set tV (1,0),sec:=tV,dep:=d2,many:=g2.many+1 }
def V31(g:Vb)(i d:Nat):Vb :=
 { V1o g 8 (1,0) with nds:=(g.nds++[V14 8]).modify i λ nd=>{ nd with subs:=nd.subs++[g.nds.length] },sec:=g.nds.length,dep:=d+2,many:=g.many+1 }
def subsOk(g:Vb)(i:Nat):Bool:=match g.nds[i]? with
 |some nd=>decide (nd.subs.length<=30000000)
 |none=>false
def V2v(g:Vb)(k:List KW):V9 Vb :=
 match V24 (2,0) V37 k.dropLast 0 1 g with
 |.non => .non
 |.bad c p => .bad c p
 |.ok (at',d,g1) =>
  match k.getLast? with
  |none => .non
  |some (w,a,b) =>
   match V1a g1.nds at' w with
   |.non => .non
   |.yes i =>
    if (Vd g1 i).1=4 then
     if 256<d+2 then .bad 4 a else
     if subsOk g1 i&&room g1.nds then .ok (V31 g1 i d) else .non
    else .bad 5 a
   |.no =>
    if 256<d+2 then .bad 4 a else
    if V2o g1 at'&&room g1.nds then .ok (V31 (V1r (V1o g1 7 (4,0)) at' w (a,b) g1.nds.length) g1.nds.length d) else .non
def V12(g:Vb)(nds:Vc):Vb :=
 { g with nds:=g.nds++nds.map λ nd=>{ nd with subs:=nd.subs.map (· + g.nds.length),owner:=0 },srt:=g.srt++nds.map λ _=>(0,0) }
def V2w(g:Vb)(k:List KW):V9 (Nat×Nat×Vb) :=
 match V24 (3,g.many) V27 k.dropLast g.sec g.dep g with
 |.non => .non
 |.bad c p => .bad c p
 |.ok (at',d,g1) =>
  match k.getLast? with
  |none => .non
  |some (w,a,_) =>
   match V1a g1.nds at' w with
   |.non => .non
   |.yes _ => .bad 5 a
   |.no => .ok (at',d,g1)
def V2n(E:Vv)(s:Bs)(n:Nat)(g:Vb):V9 (Nat×Nat×Vc×Vb) :=
 let n1:=V7 s n
 if V1c (s.drop n1) then .ok (0,0,[],g) else
 let m:=if pre (s.drop n1) [91,91] then 2 else if pre (s.drop n1) [91] then 1 else 0
 match V1q E s (V7 s (n1+m)) with
 |.non => .non
 |.bad c p => .bad c p
 |.ok (ws,e) =>
  if m=2 then
   match V2v g ws with
   |.non => .non
   |.bad c p => .bad c p
   |.ok g1 => .ok (0,0,[],g1)
  else if m=1 then
   match V2f g ws with
   |.non => .non
   |.bad c p => .bad c p
   |.ok g1 => .ok (0,0,[],g1)
  else
   match V2w g ws with
   |.non => .non
   |.bad c p => .bad c p
   |.ok (into,d,g1) =>
    let e1:=V7 s e
    if Va s e1=61 then
     match V1g E s (V7 s (e1+1)) d with
     |.non => .non
     |.bad c p => .bad c p
     |.ok (root,_,nds) => .ok (into,root,nds,g1)
    else .ok (into,0,[],g1)
def V5c(nds:Vc)(root:Nat):Bool:=decide (root<=30000000)&&nds.all λ nd=>decide (nd.subs.length<=30000000)&&nd.subs.all λ u=>decide (u<=30000000)
def V32(E:Vv)(s:Bs)(n:Nat)(g:Vb):V9 (Nat×Vb) :=
 match V2n E s n g with
 |.non => .non
 |.bad c p => .bad c p
 |.ok (into,root,nds,g1) =>
  match V3v E s n with
  |.non => .non
  |.bad c p => .bad c p
  |.ok it =>
   if it.kind=0 then .ok (it.b,{ g1 with its:=g1.its++[it],ns:=g1.ns++[-1] })
   else if it.kind=1 then
    match it.ws.getLast? with
    |none => .non
    |some (w,a,b) =>
     let g2:=V12 g1 nds
     if V5c nds root&&V2o g2 into&&room g2.nds then .ok (it.b,{ V1r g2 into w (a,b) (root+g1.nds.length) with its:=g2.its++[it],ns:=g2.ns++[((root+g1.nds.length:Nat):Int)] }) else .non
   else .ok (it.b,{ g1 with its:=g1.its++[it],ns:=g1.ns++[((g1.sec:Nat):Int)] })
def V7k(g:Vb):Bool:=decide (g.nds.length<=20000001)&&decide (g.many<=20000000)&&decide (g.dep<=100000000)&&decide (g.its.length<=30000000)
def grownF(E:Vv)(s:Bs):Nat->Nat->Vb->V9 Vb
 |0,_,_ => .non
 |f+1,n,g =>
  if n<s.length then
   if V7k g then
    match V32 E s n g with
    |.non => .non
    |.bad c p => .bad c p
    |.ok (e,g1)=>grownF E s f e g1
   else .non
  else .ok g
def V4p:Vb:=⟨[V14 8],[(1,0)],0,1,0,[],[]⟩
def V1e(E:Vv)(s:Bs):V9 Vb:=grownF E s (s.length+1) 0 V4p
end Go.Proofs.YtnkgknbdaiakgaaGreatDoor.Pl
namespace Go.Proofs.YtnkgknbdaiakgaaGreatDoor
open Pl 
def Its(g g2:Vb):Prop:=(g2.its=g.its/\g2.ns=g.ns)/\g.nds.length<=g2.nds.length
theorem Its.trans{a b c:Vb}(h:Its a b)(k:Its b c):Its a c:=⟨⟨k.1.1.trans h.1.1,k.1.2.trans h.1.2⟩,U1l h.2 k.2⟩
theorem Obu{g g2:Vb}{an d n d2:Nat}{w:Pl.Bs}{a b:Nat}{t:Nat×Nat}{over:Nat->Pl.Ov}(h:V1p g an d w a b t over=.ok (n,d2,g2)):Its g g2:=by
 unfold V1p at h
 split at h;cases h
 split at h;cases h
 cases h
 cases h;exact⟨⟨rfl,rfl⟩,U12 _⟩
 split at h;cases h
 split at h;cases h;exact⟨⟨rfl,rfl⟩,by simp[V1r,V1o,Vf]⟩
 cases h
theorem O6c(t:Nat×Nat)(over:Vb->Nat->Nat->Pl.Ov):∀(ks:List Pl.KW)(an d:Nat)(g:Vb)(n d2:Nat)(g2:Vb),V24 t over ks an d g=.ok (n,d2,g2)->Its g g2
 | [],an,d,g,n,d2,g2,h=>by
  unfold V24 at h;cases h;exact⟨⟨rfl,rfl⟩,U12 _⟩
 | (w,a,b)::ks,an,d,g,n,d2,g2,h=>by
  unfold V24 at h
  split at h;cases h
  cases h
  rename_i n1 d1 g1 hs
  exact (Obu hs).trans (O6c t over ks n1 d1 g1 n d2 g2 h)
theorem Oha{g g2:Vb}{k:List Pl.KW}(h:V2f g k=.ok g2):Its g g2:=by
 unfold V2f at h
 split at h;cases h
 cases h
 rename_i h1
 split at h;cases h
 split at h;cases h
 cases h
 rename_i h2
 cases h;have h3:=(O6c _ _ _ _ _ _ _ _ _ h1).trans (Obu h2);exact⟨h3.1,h3.2⟩
theorem Ojq{g g2:Vb}{k:List Pl.KW}(h:V2v g k=.ok g2):Its g g2:=by
 unfold V2v at h
 split at h;cases h
 cases h
 rename_i h1
 have h3:=O6c _ _ _ _ _ _ _ _ _ h1
 split at h;cases h
 split at h;cases h
 split at h
 split at h;cases h
 split at h;cases h;exact⟨h3.1,U1l h3.2 (by simp[V31,V1o])⟩
 cases h
 cases h
 split at h;cases h
 split at h;cases h;exact⟨h3.1,U1l h3.2 (by simp[V31,V1o,V1r,Vf];omega)⟩
 cases h
theorem Ojr{g g2:Vb}{k:List Pl.KW}{n d:Nat}(h:V2w g k=.ok (n,d,g2)):Its g g2:=by
 unfold V2w at h
 split at h;cases h
 cases h
 rename_i h1
 have h3:=O6c _ _ _ _ _ _ _ _ _ h1
 split at h;cases h
 split at h;cases h
 cases h
 cases h;exact h3
theorem O3x{E:Vv}{l:Pl.Bs}{n:Nat}{g g2:Vb}{i r:Nat}{nds:Vc}(h:V2n E l n g=.ok (i,r,nds,g2)):Its g g2:=by
 unfold V2n at h;simp only at h;generalize V7 l n=n1 at h;generalize (if Pl.pre (l.drop n1) [91,91]=true then 2 else if Pl.pre (l.drop n1) [91]=true then 1 else 0)=m at h;generalize V1q E l (V7 l (n1+m))=K at h;by_cases hb:V1c (l.drop n1)=true;rw[U1a hb]at h;cases h;exact⟨⟨rfl,rfl⟩,U12 _⟩
 rw[U1c hb]at h;cases K with
 |non=>cases h
 |bad c p=>cases h
 |ok kk =>
  obtain⟨ws,e⟩:=kk;simp only at h;by_cases h2:m=2
  rw[U1a h2]at h;cases hm:V2v g ws with
  |non=>rw[hm]at h;cases h
  |bad c p=>rw[hm]at h;cases h
  |ok g1=>rw[hm]at h;cases h;exact Ojq hm
  rw[U1c h2]at h;by_cases h1:m=1
  rw[U1a h1]at h;cases hm:V2f g ws with
  |non=>rw[hm]at h;cases h
  |bad c p=>rw[hm]at h;cases h
  |ok g1=>rw[hm]at h;cases h;exact Oha hm
  rw[U1c h1]at h;cases hm:V2w g ws with
  |non=>rw[hm]at h;cases h
  |bad c p=>rw[hm]at h;cases h
  |ok rr =>
   obtain⟨into,d,g1⟩:=rr;rw[hm]at h;simp only at h;have h3:=Ojr hm
   split at h
   split at h;cases h
   cases h
   cases h;exact h3
   cases h;exact h3
