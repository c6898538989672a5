/- The proof's part 12. -/
import Derived.Test.YtnkgknbdaiakgaaGreatDoorP35
set_option maxHeartbeats 16000000
set_option linter.all false
set_option maxRecDepth 100000
namespace Go.Proofs.YtnkgknbdaiakgaaGreatDoor.Pl
structure Vb where
 nds:Vc
 srt:List (Nat×Nat)
 sec:Nat
 dep:Nat
 many:Nat
 its:List It
 ns:List Int
def Vl(g:Vb)(i:Nat):Nat×Nat:=g.srt.getD i (0,0)
def V1t(k:Nat):Nd:=⟨k,[],[],[],[],(-1,-1),0⟩
def V2l(g:Vb)(k:Nat)(s:Nat×Nat):Vb:={ g with nds:=g.nds++[V1t k],srt:=g.srt++[s] }
def V2r(g:Vb)(t:Nat)(w:Bs)(sp:Nat×Nat)(i:Nat):Vb:={ g with nds:=Vo g.nds t w sp i }
def V32(g:Vb)(i:Nat):Bool:=kind8 g.nds i&&(Vl g i).1 != 0
inductive Ov where
 |non
 |no
 |go (n d:Nat)
def V1n(g:Vb)(at' d:Nat)(w:Bs)(a b:Nat)(s:Nat×Nat)(over:Nat->Ov):Va (Nat×Nat×Vb) :=
 match V12 g.nds at' w with
 |.non => .non
 |.yes i =>
  match over i with
  |.non => .non
  |.no => .bad 5 a
  |.go n d' => .ok (n,d',g)
 |.no =>
  if 256<d+1 then .bad 4 a else
  if V32 g at'&&room g.nds then .ok (g.nds.length,d+1,V2r (V2l g 8 s) at' w (a,b) g.nds.length) else .non
def V2u(g:Vb)(d i:Nat):Ov :=
 if (Vl g i).1=0 then .no else
 if (Vl g i).1=4 then
  match g.nds[i]? with
  |some nd =>
   match nd.subs.getLast? with
   |some l => .go l (d+2)
   |none => .non
  |none => .non
 else .go i (d+1)
def V1j(g:Vb)(d i:Nat):Ov:=if Vl g i=(3,g.many) then .go i (d+1) else .no
def V20(s:Nat×Nat)(over:Vb->Nat->Nat->Ov):List KW->Nat->Nat->Vb->Va (Nat×Nat×Vb)
 |[],at',d,g => .ok (at',d,g)
 |(w,a,b)::rest,at',d,g =>
  match V1n g at' d w a b s (over g d) with
  |.non => .non
  |.bad c p => .bad c p
  |.ok (n,d2,g2)=>V20 s over rest n d2 g2
def V2a(g:Vb)(k:List KW):Va Vb :=
 match V20 (2,0) V2u k.dropLast 0 1 g with
 |.non => .non
 |.bad c p => .bad c p
 |.ok (at',d,g1) =>
  match k.getLast? with
  |none => .non
  |some (w,a,b) =>
   match V1n g1 at' d w a b (1,0) (λ i=>if (Vl g1 i).1=2 then .go i (d+1) else .no) with
   |.non => .non
   |.bad c p => .bad c p
   |.ok (sJ,d2,g2) => .ok { g2 with srt:=g2.srt.set sJ (1,0),sec:=sJ,dep:=d2,many:=g2.many+1 }
def V3g(g:Vb)(i d:Nat):Vb :=
 { V2l g 8 (1,0) with nds:=(g.nds++[V1t 8]).modify i λ nd=>{ nd with subs:=nd.subs++[g.nds.length] },sec:=g.nds.length,dep:=d+2,many:=g.many+1 }
def subsOk(g:Vb)(i:Nat):Bool:=match g.nds[i]? with
 |some nd=>decide (nd.subs.length<=30000000)
 |none=>false
def V2y(g:Vb)(k:List KW):Va Vb :=
 match V20 (2,0) V2u k.dropLast 0 1 g with
 |.non => .non
 |.bad c p => .bad c p
 |.ok (at',d,g1) =>
  match k.getLast? with
  |none => .non
  |some (w,a,b) =>
   match V12 g1.nds at' w with
   |.non => .non
   |.yes i =>
    if (Vl g1 i).1=4 then
     if 256<d+2 then .bad 4 a else
     if subsOk g1 i&&room g1.nds then .ok (V3g g1 i d) else .non
    else .bad 5 a
   |.no =>
    if 256<d+2 then .bad 4 a else
    if V32 g1 at'&&room g1.nds then .ok (V3g (V2r (V2l g1 7 (4,0)) at' w (a,b) g1.nds.length) g1.nds.length d) else .non
def V1c(g:Vb)(nds:Vc):Vb :=
 { g with nds:=g.nds++nds.map λ nd=>{ nd with subs:=nd.subs.map (· + g.nds.length),owner:=0 },srt:=g.srt++nds.map λ _=>(0,0) }
def V2z(g:Vb)(k:List KW):Va (Nat×Nat×Vb) :=
 match V20 (3,g.many) V1j k.dropLast g.sec g.dep g with
 |.non => .non
 |.bad c p => .bad c p
 |.ok (at',d,g1) =>
  match k.getLast? with
  |none => .non
  |some (w,a,_) =>
   match V12 g1.nds at' w with
   |.non => .non
   |.yes _ => .bad 5 a
   |.no => .ok (at',d,g1)
def V27(E:Vz)(s:Bs)(n:Nat)(g:Vb):Va (Nat×Nat×Vc×Vb) :=
 let n1:=V7 s n
 if V14 (s.drop n1) then .ok (0,0,[],g) else
 let m:=if pre (s.drop n1) [91,91] then 2 else if pre (s.drop n1) [91] then 1 else 0
 match V1k E s (V7 s (n1+m)) with
 |.non => .non
 |.bad c p => .bad c p
 |.ok (ws,e) =>
  if m=2 then
   match V2y g ws with
   |.non => .non
   |.bad c p => .bad c p
   |.ok g1 => .ok (0,0,[],g1)
  else if m=1 then
   match V2a g ws with
   |.non => .non
   |.bad c p => .bad c p
   |.ok g1 => .ok (0,0,[],g1)
  else
   match V2z g ws with
   |.non => .non
   |.bad c p => .bad c p
   |.ok (into,d,g1) =>
    let e1:=V7 s e
    if V9 s e1=61 then
     match V1l E s (V7 s (e1+1)) d with
     |.non => .non
     |.bad c p => .bad c p
     |.ok (root,_,nds) => .ok (into,root,nds,g1)
    else .ok (into,0,[],g1)
def V4o(nds:Vc)(root:Nat):Bool:=decide (root<=30000000)&&nds.all λ nd=>decide (nd.subs.length<=30000000)&&nd.subs.all λ u=>decide (u<=30000000)
def V23(E:Vz)(s:Bs)(n:Nat)(g:Vb):Va (Nat×Vb) :=
 match V27 E s n g with
 |.non => .non
 |.bad c p => .bad c p
 |.ok (into,root,nds,g1) =>
  match V2h E s n with
  |.non => .non
  |.bad c p => .bad c p
  |.ok it =>
   if it.kind=0 then .ok (it.b,{ g1 with its:=g1.its++[it],ns:=g1.ns++[-1] })
   else if it.kind=1 then
    match it.ws.getLast? with
    |none => .non
    |some (w,a,b) =>
     let g2:=V1c g1 nds
     if V4o nds root&&V32 g2 into&&room g2.nds then .ok (it.b,{ V2r g2 into w (a,b) (root+g1.nds.length) with its:=g2.its++[it],ns:=g2.ns++[((root+g1.nds.length:Nat):Int)] }) else .non
   else .ok (it.b,{ g1 with its:=g1.its++[it],ns:=g1.ns++[((g1.sec:Nat):Int)] })
def V6t(g:Vb):Bool:=decide (g.nds.length<=20000001)&&decide (g.many<=20000000)&&decide (g.dep<=100000000)&&decide (g.its.length<=30000000)
def grownF(E:Vz)(s:Bs):Nat->Nat->Vb->Va Vb
 |0,_,_ => .non
 |f+1,n,g =>
  if n<s.length then
   if V6t g then
    match V23 E s n g with
    |.non => .non
    |.bad c p => .bad c p
    |.ok (e,g1)=>grownF E s f e g1
   else .non
  else .ok g
def V4w:Vb:=⟨[V1t 8],[(1,0)],0,1,0,[],[]⟩
def V11(E:Vz)(s:Bs):Va Vb:=grownF E s (s.length+1) 0 V4w
end Go.Proofs.YtnkgknbdaiakgaaGreatDoor.Pl
namespace Go.Proofs.YtnkgknbdaiakgaaGreatDoor
open Pl Go.Proofs.Tryz 
def Its(g g2:Vb):Prop:=(g2.its=g.its/\g2.ns=g.ns)/\g.nds.length<=g2.nds.length
theorem Its.trans{a b c:Vb}(h:Its a b)(k:Its b c):Its a c:=⟨⟨k.1.1.trans h.1.1,k.1.2.trans h.1.2⟩,Uj h.2 k.2⟩
theorem Ocf{g g2:Vb}{an d n d2:Nat}{w:Pl.Bs}{a b:Nat}{t:Nat×Nat}{over:Nat->Pl.Ov}(h:V1n g an d w a b t over = .ok (n,d2,g2)):Its g g2:=by
 unfold V1n at h
 split at h;cases h
 split at h;cases h
 cases h
 cases h;exact⟨⟨rfl,rfl⟩,U2 _⟩
 split at h;cases h
 split at h;cases h;exact⟨⟨rfl,rfl⟩,by simp[V2r,V2l,Vo]⟩
 cases h
theorem O6o(t:Nat×Nat)(over:Vb->Nat->Nat->Pl.Ov):∀(ks:List Pl.KW)(an d:Nat)(g:Vb)(n d2:Nat)(g2:Vb),V20 t over ks an d g = .ok (n,d2,g2)->Its g g2
 | [],an,d,g,n,d2,g2,h=>by
  unfold V20 at h;cases h;exact⟨⟨rfl,rfl⟩,U2 _⟩
 | (w,a,b)::ks,an,d,g,n,d2,g2,h=>by
  unfold V20 at h
  split at h;cases h
  cases h
  rename_i n1 d1 g1 hs
  exact (Ocf hs).trans (O6o t over ks n1 d1 g1 n d2 g2 h)
theorem Ohs{g g2:Vb}{k:List Pl.KW}(h:V2a g k = .ok g2):Its g g2:=by
 unfold V2a at h
 split at h;cases h
 cases h
 rename_i h1
 split at h;cases h
 split at h;cases h
 cases h
 rename_i h2
 cases h;have h3:=(O6o _ _ _ _ _ _ _ _ _ h1).trans (Ocf h2);exact⟨h3.1,h3.2⟩
theorem Ok2{g g2:Vb}{k:List Pl.KW}(h:V2y g k = .ok g2):Its g g2:=by
 unfold V2y at h
 split at h;cases h
 cases h
 rename_i h1
 have h3:=O6o _ _ _ _ _ _ _ _ _ h1
 split at h;cases h
 split at h;cases h
 split at h
 split at h;cases h
 split at h;cases h;exact⟨h3.1,Uj h3.2 (by simp[V3g,V2l])⟩
 cases h
 cases h
 split at h;cases h
 split at h;cases h;exact⟨h3.1,Uj h3.2 (by simp[V3g,V2l,V2r,Vo];omega)⟩
 cases h
theorem Ok3{g g2:Vb}{k:List Pl.KW}{n d:Nat}(h:V2z g k = .ok (n,d,g2)):Its g g2:=by
 unfold V2z at h
 split at h;cases h
 cases h
 rename_i h1
 have h3:=O6o _ _ _ _ _ _ _ _ _ h1
 split at h;cases h
 split at h;cases h
 cases h
 cases h;exact h3
theorem O2z{E:Vz}{l:Pl.Bs}{n:Nat}{g g2:Vb}{i r:Nat}{nds:Vc}(h:V27 E l n g = .ok (i,r,nds,g2)):Its g g2:=by
 unfold V27 at h;simp only at h;generalize V7 l n=n1 at h;generalize (if Pl.pre (l.drop n1) [91,91]=true then 2 else if Pl.pre (l.drop n1) [91]=true then 1 else 0)=m at h;generalize V1k E l (V7 l (n1+m))=K at h;by_cases hb:V14 (l.drop n1)=true;rw[Ua hb]at h;cases h;exact⟨⟨rfl,rfl⟩,U2 _⟩
 rw[Ud hb]at h;cases K with
 |non=>cases h
 |bad c p=>cases h
 |ok kk =>
  obtain⟨ws,e⟩:=kk;simp only at h;by_cases h2:m=2
  rw[Ua h2]at h;cases hm:V2y g ws with
  |non=>rw[hm]at h;cases h
  |bad c p=>rw[hm]at h;cases h
  |ok g1=>rw[hm]at h;cases h;exact Ok2 hm
  rw[Ud h2]at h;by_cases h1:m=1
  rw[Ua h1]at h;cases hm:V2a g ws with
  |non=>rw[hm]at h;cases h
  |bad c p=>rw[hm]at h;cases h
  |ok g1=>rw[hm]at h;cases h;exact Ohs hm
  rw[Ud h1]at h;cases hm:V2z g ws with
  |non=>rw[hm]at h;cases h
  |bad c p=>rw[hm]at h;cases h
  |ok rr =>
   obtain⟨into,d,g1⟩:=rr;rw[hm]at h;simp only at h;have h3:=Ok3 hm
   split at h
   split at h;cases h
   cases h
   cases h;exact h3
   cases h;exact h3
end Go.Proofs.YtnkgknbdaiakgaaGreatDoor
namespace Go.Proofs.YtnkgknbdaiakgaaGreatDoor
open Pl Go.Proofs.Tryz Go.RowKit Go.Joins
def O1z(s:Nat×Nat):Value := .agg #[.int .u8 s.1,s.2]
def O2l(s:Nat×Nat):V5s := .agg [.lit (.int .u8 s.1),.lit s.2]
theorem Ohi{s s':Nat×Nat}(h:O2l s=O2l s'):s=s':=by
 obtain⟨a,b⟩:=s;obtain⟨c,d⟩:=s';simp only[O2l,DataW.agg.injEq,U1a,DataW.lit.injEq,Lit.int.injEq,true_and,and_true]at h;rw[U6];omega
theorem Ohj{s s':Nat×Nat}(h:O1z s=O1z s'):s=s':=by
 obtain⟨a,b⟩:=s;obtain⟨c,d⟩:=s';simp only[O1z,Value.agg.injEq,Array.mk.injEq,U1a,Value.int.injEq,true_and,and_true]at h;rw[U6];omega
open Classical in
noncomputable def sortR (v:Value):Option (V5s×List MemPlace):=if h:∃s,v=O1z s then some (O2l h.choose,[]) else none
theorem O7i(s:Nat×Nat):sortR (O1z s)=some (O2l s,[]):=by
 have h:∃s',O1z s=O1z s':=⟨s,rfl⟩
 unfold sortR;rw[dif_pos h,<-Ohj h.choose_spec]
theorem Ohk{v:Value}{s:Nat×Nat}{p:List MemPlace}(h:sortR v=some (O2l s,p)):v=O1z s:=by
 unfold sortR at h
 split at h
 rename_i hv
 simp only[Uc,U6]at h;rw[<-Ohi h.1];exact hv.choose_spec
 cases h
def O2t(D:V5s)(so:List (Nat×Nat)):Prop:=Maps.IsMap D/\∀i:Nat,D.atKey i (O2l (0,0))=O2l (so.getD i (0,0))
theorem O2t.more{D:V5s}{so:List (Nat×Nat)}(h:O2t D so):O2t D (so++[(0,0)]) :=
 ⟨h.1,λ i=>by
  rw[h.2 i];congr 1;rw[Ui,Ui,U2m]
  split;rfl
  rename_i hi
  rw[U1m (by omega)];cases hj:i-so.length with
  |zero=>rfl
  |succ j=>rfl⟩
structure GrX where
 sec:Nat
 dep:Nat
 many:Nat
 iv:Value
 nsv:Value
structure V7e(w:World)(base:Nat)(own:Nat->Nat)(i:Nat)(r:Vw)(gr:Prop):Prop where
 k:V26 w base 9 1 r.kv r.nd.keys.length (Oh r.nd.keys)
 s:V26 w base 38 2 r.sv r.nd.spots.length (Oc r.nd.spots)
 u:V26 w base 3 1 r.uv r.nd.subs.length (O7 r.nd.subs)
 k8:gr->w.ownsRow base 9 1 r.kv r.nd.keys.length (Oh r.nd.keys)
 s8:gr->w.ownsRow base 38 2 r.sv r.nd.spots.length (Oc r.nd.spots)
 u8:gr->w.ownsRow base 3 1 r.uv r.nd.subs.length (O7 r.nd.subs)
 tk:Oi own r.kv (4+3*i)
 ts:Oi own r.sv (5+3*i)
 tu:Oi own r.uv (6+3*i)
abbrev Og(so:List (Nat×Nat))(i:Nat):Prop:=(so.getD i (0,0)).1≠0
structure GrV(w:World)(R B base:Nat)(s:ByteArray)(root:Int)(nv:Value)(L:List Vw)(own:Nat->Nat)(so:List (Nat×Nat))(x:GrX):Prop where
 blk:w.heap[R]?=some (.cells #[nv,root,.string s,.map (some B),x.sec,x.dep,x.many,x.iv,x.nsv] 69 (0,0))
 oR:own R=1
 oB:own B=2
 nodes:w.ownsRow base 40 7 nv L.length (V35 L)
 oN:Oi own nv 3
 map:∃D:V5s,w.ownsMap prog 3 sortR B (so.length+x.many) D/\O2t D so
 rows:∀(i:Nat) r,L[i]?=some r->V7e w base own i r (Og so i)
 lt:∀k,own k≠0->base<=k/\k<w.heap.size
 sl:so.length=L.length
theorem Oe{w w':World}{k b n:Nat}{D:V5s}(h:w.ownsMap prog k sortR b n D)(hb:w'.heap[b]?=w.heap[b]?):w'.ownsMap prog k sortR b n D:=by
 exact J1
theorem V7e.kept{w w':World}{base:Nat}{own:Nat->Nat}{i:Nat}{r:Vw}{gr:Prop}(h:V7e w base own i r gr)(hb:∀k,FV own k->w'.heap[k]?=w.heap[k]?):V7e w' base own i r gr:=by
 have bk:∀k,r.kv.ownBlock=some k->w'.heap[k]?=w.heap[k]?:=λ k e=>hb k (by unfold FV;rw[h.tk k e];omega)
 have L6:∀k,r.sv.ownBlock=some k->w'.heap[k]?=w.heap[k]?:=λ k e=>hb k (by unfold FV;rw[h.ts k e];omega)
 have bu:∀k,r.uv.ownBlock=some k->w'.heap[k]?=w.heap[k]?:=λ k e=>hb k (by unfold FV;rw[h.tu k e];omega)
 exact⟨h.k.of_block bk,h.s.of_block L6,h.u.of_block bu,λ g=>O1 (h.k8 g) bk,λ g=>O1 (h.s8 g) L6,λ g=>O1 (h.u8 g) bu,h.tk,h.ts,h.tu⟩
section
variable {w w':World}{R B base:Nat}{s:ByteArray}{root:Int}{nv:Value}{L:List Vw}{own:Nat->Nat}{so:List (Nat×Nat)}{x:GrX}
theorem GrV.kept(h:GrV w R B base s root nv L own so x)(hb:∀k,FV own k->w'.heap[k]?=w.heap[k]?)(hz:w.heap.size<=w'.heap.size):GrV w' R B base s root nv L own so x:=by
 obtain⟨D,h1,h2⟩:=h.map;exact⟨by rw[hb R (by unfold FV;rw[h.oR];omega)];exact h.blk,h.oR,h.oB,O1 h.nodes λ k e=>hb k (by unfold FV;rw[h.oN k e];omega),h.oN,
  ⟨D,Oe h1 (hb B (by unfold FV;rw[h.oB];omega)),h2⟩,λ i r hr=>(h.rows i r hr).kept hb,λ k hk=>⟨(h.lt k hk).1,U4 (h.lt k hk).2 hz⟩,h.sl⟩
theorem GrV.gr(h:GrV w R B base s root nv L own so x)(g:Gr w w'):GrV w' R B base s root nv L own so x:=h.kept (λ k hk=>g.block (h.lt k hk).2) g.size
theorem GrV.alloc(h:GrV w R B base s root nv L own so x)(o:Obj):GrV (w.alloc o) R B base s root nv L own so x:=h.gr ((Gr.refl w).alloc o)
theorem GrV.drew(h:GrV w R B base s root nv L own so x):GrV w.drew R B base s root nv L own so x:=h.gr (Gr.refl w).drew
theorem GrV.drewN(h:GrV w R B base s root nv L own so x)(n:Nat):GrV (w.drewN n) R B base s root nv L own so x:=h.gr ((Gr.refl w).drewN n)
theorem GrV.not_new(h:GrV w R B base s root nv L own so x){k:Nat}(hk:w.heap.size<=k):¬FV own k:=λ e=>by have:=h.lt k e;omega
theorem GrV.R_lt(h:GrV w R B base s root nv L own so x):base<=R/\R<w.heap.size:=h.lt R (by rw[h.oR];omega)
theorem GrV.B_lt(h:GrV w R B base s root nv L own so x):base<=B/\B<w.heap.size:=h.lt B (by rw[h.oB];omega)
theorem GrV.cells(h:GrV w R B base s root nv L own so x) :
    (w.cell? ⟨R,0,none⟩=some nv/\w.cell? ⟨R,1,none⟩=some (.int .i64 root)/\w.cell? ⟨R,2,none⟩=some (.string s)/\w.cell? ⟨R,3,none⟩=some (.map (some B))/\w.cell? ⟨R,4,none⟩=some (.int .i64 x.sec)/\w.cell? ⟨R,5,none⟩=some (.int .i64 x.dep)/\w.cell? ⟨R,6,none⟩=some (.int .i64 x.many)) /\
    w.cell? ⟨R,7,none⟩=some x.iv/\w.cell? ⟨R,8,none⟩=some x.nsv/\(∀i,w.frozen? ⟨R,i,none⟩=false) :=
 ⟨⟨by rw[cell_of_block h.blk];rfl,by rw[cell_of_block h.blk];rfl,by rw[cell_of_block h.blk];rfl,by rw[cell_of_block h.blk];rfl,by rw[cell_of_block h.blk];rfl,by rw[cell_of_block h.blk];rfl,by rw[cell_of_block h.blk];rfl⟩,by rw[cell_of_block h.blk];rfl,by rw[cell_of_block h.blk];rfl,λ i=>unfrozen_of_block h.blk i⟩
theorem GrV.look(h:GrV w R B base s root nv L own so x)(i:Nat)(hi:i<=9223372036854775807)(W:World)(hW:W.heap[B]?=w.heap[B]?) :
    (Instr.lookup 65 (.map (some B)) i false).run prog W = .ok (O1z (so.getD i (0,0))) W:=by
 obtain⟨D,h1,h2⟩:=h.map;have pm:=Oe (w':=W) h1 hW;have hz:(zeroValue 94).run prog W = .ok (O1z (0,0)) W:=by kernel_rfl
 obtain⟨c,p,e1,e2⟩:=pm.lookup (Maps.int_keyed underlying3) underlying65 hz (O7i (0,0)) (U3f underlying3 (show (Lit.int .i64 (i:Int)).wf=true by simp[Lit.wf,IntKind.min,IntKind.max,IntKind.signed,IntKind.bits];omega));rw[h2.2 i]at e2;rw[Ohk e2]at e1;exact e1
theorem GrV.form(h:GrV w R B base s root nv L own so x)(hL:0<L.length):∃g cap cur,nv = .slice (some ⟨g,0,none⟩) L.length cap/\base<=g/\g<w.heap.size/\own g=3/\g≠R/\g≠B /\
    w.heap[g]?=some (.cells cur 40 (0,0))/\cur.size=cap*7/\L.length<=cap/\cap<=maxLen/\cur.toList.take (L.length*7)=V35 L:=by
 exact J2
theorem GrV.ndCells(h:GrV w R B base s root nv L own so x){g cap:Nat}(hv:nv = .slice (some ⟨g,0,none⟩) L.length cap)(i:Nat)(r:Vw)(hr:L[i]?=some r) :
    w.cell? ⟨g,i*7,none⟩=some (.int .u8 r.nd.kind)/\w.cell? ⟨g,i*7+1,none⟩=some (V3a r.nd.text)/\w.cell? ⟨g,i*7+2,none⟩=some r.kv/\w.cell? ⟨g,i*7+3,none⟩=some r.sv/\w.cell? ⟨g,i*7+4,none⟩=some r.uv /\
    w.cell? ⟨g,i*7+5,none⟩=some (.int .i64 r.nd.sp.1)/\w.cell? ⟨g,i*7+6,none⟩=some (.int .i64 r.nd.sp.2)/\(∀o,w.frozen? ⟨g,o,none⟩=false):=by
 exact J145
end
end Go.Proofs.YtnkgknbdaiakgaaGreatDoor
namespace Go.Proofs.YtnkgknbdaiakgaaGreatDoor
open Pl Go.Proofs.Tryz Go.RowKit Go.Joins
theorem GrV.start3{w W:World}{R B base:Nat}{s:ByteArray}{root:Int}{nv:Value}{L:List Vw}{own:Nat->Nat}{so:List (Nat×Nat)}{x:GrX}(h:GrV w R B base s root nv L own so x)(g1:Gr w W)(i:Nat)(r:Vw)(hr:L[i]?=some r)(h8:Og so i) :
    V1x w W base (FI own i) r.kv r.sv r.uv r.nd.keys.length r.nd.spots.length r.nd.subs.length (Oh r.nd.keys) (Oc r.nd.spots) (O7 r.nd.subs):=by
 refine Z206 ?_;intro hx kp;refine⟨(g1.st).to (λ _ e=>e.elim),kp (hx.k8 h8) hx.tk (by omega),kp (hx.s8 h8) hx.ts (by omega),kp (hx.u8 h8) hx.tu (by omega),λ b e => .inl (.inl (hx.tk b e)),λ b e => .inl (.inr (.inl (hx.ts b e))),λ b e => .inl (.inr (.inr (hx.tu b e))),?_,?_,?_⟩;intro b e e2;have:=hx.tk b e;have:=hx.ts b e2;omega;intro b e e2;have:=hx.tk b e;have:=hx.tu b e2;omega
 intro b e e2;have:=hx.ts b e;have:=hx.tu b e2;omega
def O7j(w w2:World)(R B base:Nat)(s:ByteArray)(root:Int)(nv:Value)(L:List Vw)(own:Nat->Nat)(so:List (Nat×Nat))(x:GrX)(i:Nat)(nd:Pl.Nd):Prop :=
 ∃own' kv sv uv,GrV w2 R B base s root nv (L.set i ⟨nd,kv,sv,uv⟩) own' so x/\St (FV own) (FV own') w w2/\(∀k,own' k≠0->own k≠0\/w.heap.size<=k)
theorem GrV.putDone{w W:World}{R B base:Nat}{s:ByteArray}{root:Int}{L:List Vw}{own:Nat->Nat}{so:List (Nat×Nat)}{x:GrX}{g cap:Nat}(h:GrV w R B base s root (.slice (some ⟨g,0,none⟩) L.length cap) L own so x)(i:Nat)(r:Vw)(hr:L[i]?=some r)
    (nd:Pl.Nd)(bx:nd.kind=r.nd.kind)(cb:nd.text=r.nd.text)(fw:nd.sp=r.nd.sp){kv sv uv:Value}
    (H:V1x w W base (FI own i) kv sv uv nd.keys.length nd.spots.length nd.subs.length (Oh nd.keys) (Oc nd.spots) (O7 nd.subs)) :
    O7j w (((W.setCell ⟨g,i*7+2,none⟩ kv).setCell ⟨g,i*7+3,none⟩ sv).setCell ⟨g,i*7+4,none⟩ uv) R B base s root (.slice (some ⟨g,0,none⟩) L.length cap) L own so x i nd:=by
 have hi:i<L.length:=(U7.1 hr).1;refine Z223 ?_;intro dM aY hz hR hB WF am;have d5:WF.heap.size=W.heap.size:=by subst am;simp[World.setCell]
 refine Z273 ?_;intro aN;have jp:∀k,k<w.heap.size->k≠g->¬FI own i k->WF.heap[k]?=w.heap[k]?:=λ k hk h1 h2=>(aN k h1).trans (H.st.block k hk h2)
 have KJ:W.ownsRow base 40 7 (.slice (some ⟨g,0,none⟩) L.length cap) L.length (V35 L) :=
  O1 h.nodes λ k e=>by
   simp[Value.ownBlock]at e;subst e;exact H.st.block g aY.2 (λ e=>by unfold FI at e;omega)
 refine Z51 ?_;intro ao bN;refine⟨λ k=>if kv.ownBlock=some k then 4+3*i else if sv.ownBlock=some k then 5+3*i else if uv.ownBlock=some k then 6+3*i else own k,kv,sv,uv,?_,?_,?_⟩
 -- tags that are not this node's stay
 refine Z98 ?_;intro tg;have nF:∀k t,own k=t->t<4->¬FI own i k:=λ k t e h4 e2=>by unfold FI at e2;omega
 have nU:∀k,own k≠3->k≠g:=λ k e e2=>by subst e2;exact e dM
 have lc:∀{v:Value} {e size n xs},W.ownsRow base e size v n xs->(∀b,v.ownBlock=some b->FI own i b\/w.heap.size<=b)->∀k,v.ownBlock=some k->k≠g:=by
  intro v e size n xs _ hv k hk e2;subst e2;rcases hv k hk with h1|h1
  unfold FI at h1;omega
  omega
 refine⟨?_,?_,?_,?_,?_,?_,?_,?_,by rw[U1i];exact h.sl⟩;rw[jp R hR.2 (nU R (by rw[h.oR];omega)) (nF R 1 h.oR (by omega))];exact h.blk;rw[tg R (by rw[h.oR];omega) (nF R 1 h.oR (by omega))];exact h.oR;rw[tg B (by rw[h.oB];omega) (nF B 2 h.oB (by omega))];exact h.oB;rw[U1i];exact bN;exact J179;obtain⟨D,h1,h2⟩:=h.map;exact⟨D,Oe h1 (jp B hB.2 (nU B (by rw[h.oB];omega)) (nF B 2 h.oB (by omega))),h2⟩
 intro j y hx;rw[U1o]at hx
 split at hx
 rename_i eJ
 subst eJ;cases hx;have qk:=O1 H.k λ k e=>aN k (lc H.k H.fk k e)
 have qs:=O1 H.s λ k e=>aN k (lc H.s H.fs k e)
 have qu:=O1 H.u λ k e=>aN k (lc H.u H.fu k e)
 refine⟨O14 qk,O14 qs,O14 qu,λ _=>qk,λ _=>qs,λ _=>qu,?_,?_,?_⟩;intro k e;simp only at e;simp only[e,U1j];exact J183
 intro k e;simp only at e;have a1:kv.ownBlock≠some k:=λ e2=>H.ku k e2 e
 have a2:sv.ownBlock≠some k:=λ e2=>H.su k e2 e
 simp only[a1,a2,e,U1j,U1d]
 rename_i eJ
 have gh:=h.rows j y hx;have kp:∀{v:Value}{q:Nat},Oi own v q->4<=q->(q≠4+3*i/\q≠5+3*i/\q≠6+3*i) ->
     (∀k,v.ownBlock=some k->WF.heap[k]?=w.heap[k]?)/\Oi (λ k=>if kv.ownBlock=some k then 4+3*i else if sv.ownBlock=some k then 5+3*i else if uv.ownBlock=some k then 6+3*i else own k) v q:=by
  intro v q ht h4 a8;have hF:∀k,v.ownBlock=some k->¬FI own i k:=λ k e e2=>by have:=ht k e;unfold FI at e2;omega
  refine⟨λ k e=>jp k (h.lt k (by rw[ht k e];omega)).2 (nU k (by rw[ht k e];omega)) (hF k e),λ k e=>?_⟩;show (if _ then _ else _)=q;rw[tg k (by rw[ht k e];omega) (hF k e)];exact ht k e
 have a:=kp gh.tk (by omega) (by omega);have b:=kp gh.ts (by omega) (by omega);have c:=kp gh.tu (by omega) (by omega);exact⟨gh.k.of_block a.1,gh.s.of_block b.1,gh.u.of_block c.1,λ g8=>O1 (gh.k8 g8) a.1,λ g8=>O1 (gh.s8 g8) b.1,λ g8=>O1 (gh.u8 g8) c.1,a.2,b.2,c.2⟩
 exact J143;exact J7
 exact J127
def O9y(w w2:World)(R B base:Nat)(s:ByteArray)(root:Int)(L:List Vw)(own:Nat->Nat)(so:List (Nat×Nat))(x:GrX)(r:Vw)(nv':Value):Prop :=
 ∃own',GrV w2 R B base s root nv' (L++[r]) own' (so++[(0,0)]) x/\St (λ k=>FV own k\/r.kv.ownBlock=some k\/r.sv.ownBlock=some k\/r.uv.ownBlock=some k) (FV own') w w2 /\
  (∀k,own' k≠0->own k≠0\/(r.kv.ownBlock=some k\/r.sv.ownBlock=some k\/r.uv.ownBlock=some k)\/w.heap.size<=k)
structure V7f(w:World)(base:Nat)(own:Nat->Nat)(r:Vw):Prop where
 k:V26 w base 9 1 r.kv r.nd.keys.length (Oh r.nd.keys)
 s:V26 w base 38 2 r.sv r.nd.spots.length (Oc r.nd.spots)
 u:V26 w base 3 1 r.uv r.nd.subs.length (O7 r.nd.subs)
 ok:∀k,r.kv.ownBlock=some k->own k=0/\k<w.heap.size
 os:∀k,r.sv.ownBlock=some k->own k=0/\k<w.heap.size
 ou:∀k,r.uv.ownBlock=some k->own k=0/\k<w.heap.size
 ks:∀k,r.kv.ownBlock=some k->r.sv.ownBlock≠some k
 ku:∀k,r.kv.ownBlock=some k->r.uv.ownBlock≠some k
 su:∀k,r.sv.ownBlock=some k->r.uv.ownBlock≠some k
theorem GrV.appended{w W w1:World}{R B base:Nat}{s:ByteArray}{root:Int}{nv:Value}{L:List Vw}{own:Nat->Nat}{so:List (Nat×Nat)}{x:GrX}(h:GrV w R B base s root nv L own so x)(g1:Gr w W)
    (r:Vw)(hs:V7f w base own r)
    (g cap:Nat)(dD:w1.ownsRow base 40 7 (.slice (some ⟨g,0,none⟩) (L.length+1) cap) (L.length+1) (V35 L++ndV r))(hg:W.grownBy w1 nv.ownBlock)
    (cY:nv.ownBlock=some g\/g=W.heap.size)(aa:g<w1.heap.size) :
    O9y w (w1.setCell ⟨R,0,none⟩ (.slice (some ⟨g,0,none⟩) (L.length+1) cap)) R B base s root L own so x r (.slice (some ⟨g,0,none⟩) (L.length+1) cap):=by
 have hR:=h.R_lt;have hB:=h.B_lt;have hz:=g1.size;have ay:=hg.size;have uI:R≠B:=λ e=>by have h1:=h.oR;rw[e,h.oB]at h1;omega
 have et:own g=3\/(own g=0/\w.heap.size<=g):=by
  exact J6
 have nR:g≠R:=λ e=>by subst e;rw[h.oR]at et;omega
 have sB:g≠B:=λ e=>by subst e;rw[h.oB]at et;omega
 refine Z170 ?_;intro cG;obtain⟨w2,fh⟩:=ExZ (w1.setCell ⟨R,0,none⟩ (.slice (some ⟨g,0,none⟩) (L.length+1) cap))
 rw[fh]at cG⊢;have dC:w2.heap.size=w1.heap.size:=by rw[<-fh];simp[World.setCell]
 have nk:∀k,own k≠0->r.kv.ownBlock≠some k:=λ k h0 e=>h0 (hs.ok k e).1
 have ns:∀k,own k≠0->r.sv.ownBlock≠some k:=λ k h0 e=>h0 (hs.os k e).1
 have nu:∀k,own k≠0->r.uv.ownBlock≠some k:=λ k h0 e=>h0 (hs.ou k e).1
 have gn:∀k,own k=0/\k<w.heap.size->k≠g:=λ k h0 e=>by subst e;omega
 have tg:∀k,own k≠0->own k≠3->(if r.kv.ownBlock=some k then 4+3*L.length else if r.sv.ownBlock=some k then 5+3*L.length else if r.uv.ownBlock=some k then 6+3*L.length else if k=g then 3 else own k)=own k:=by
  intro k h0 h3;have:k≠g:=λ e=>by subst e;omega
  simp only[nk k h0,ns k h0,nu k h0,this,U1d]
 have NT:(if r.kv.ownBlock=some g then 4+3*L.length else if r.sv.ownBlock=some g then 5+3*L.length else if r.uv.ownBlock=some g then 6+3*L.length else if g=g then 3 else own g)=3:=by
  have a1:r.kv.ownBlock≠some g:=λ e=>gn g (hs.ok g e) rfl
  have a2:r.sv.ownBlock≠some g:=λ e=>gn g (hs.os g e) rfl
  have a3:r.uv.ownBlock≠some g:=λ e=>gn g (hs.ou g e) rfl
  simp only[a1,a2,a3,U1d,U1j]
 refine⟨λ k=>if r.kv.ownBlock=some k then 4+3*L.length else if r.sv.ownBlock=some k then 5+3*L.length else if r.uv.ownBlock=some k then 6+3*L.length else if k=g then 3 else own k,⟨?_,?_,?_,?_,?_,?_,?_,?_,?_⟩,?_,?_⟩
 have hb:w1.heap[R]?=some (.cells #[nv,root,.string s,.map (some B),x.sec,x.dep,x.many,x.iv,x.nsv] 69 (0,0)):=by
  exact J5
 rw[<-fh];exact J4;rw[tg R (by rw[h.oR];omega) (by rw[h.oR];omega)];exact h.oR;rw[tg B (by rw[h.oB];omega) (by rw[h.oB];omega)];exact h.oB
 have e:V35 (L++[r])=V35 L++ndV r:=by simp[V35]
 rw[e,Ug,U19,<-fh];exact J3;intro k hk;simp[Value.ownBlock]at hk;subst hk;exact NT;obtain⟨D,h1,h2⟩:=h.map;exact⟨D,Oe (h1.mono (by rw[Ug];omega)) (cG B hB.2 (U2k uI) (by rw[h.oB];omega)),h2.more⟩
 intro i y hx;have Gb:Og (so++[(0,0)]) i->Og so i:=λ hq=>by
  unfold Og at hq⊢;rw[Ui,U2m]at hq
  split at hq;rw[Ui];exact hq
  exfalso;cases hj:i-so.length with
  |zero=>rw[hj]at hq;exact hq rfl
  |succ j=>rw[hj]at hq;exact hq rfl
 rw[U2m]at hx
 split at hx
 have hr:=h.rows i y hx;have kp:∀{v:Value}{q:Nat},Oi own v q->4<=q->(∀k,v.ownBlock=some k->w2.heap[k]?=w.heap[k]?)/\Oi (λ k=>if r.kv.ownBlock=some k then 4+3*L.length else if r.sv.ownBlock=some k then 5+3*L.length else if r.uv.ownBlock=some k then 6+3*L.length else if k=g then 3 else own k) v q:=by
  intro v q ht h4;refine⟨λ k e=>cG k (h.lt k (by rw[ht k e];omega)).2 (λ e2=>by subst e2;have:=ht k e;rw[h.oR]at this;omega) (by rw[ht k e];omega),λ k e=>?_⟩;show (if _ then _ else _)=q;rw[tg k (by rw[ht k e];omega) (by rw[ht k e];omega)];exact ht k e
 have a:=kp hr.tk (by omega);have b:=kp hr.ts (by omega);have c:=kp hr.tu (by omega);exact⟨hr.k.of_block a.1,hr.s.of_block b.1,hr.u.of_block c.1,λ g8=>O1 (hr.k8 (Gb g8)) a.1,λ g8=>O1 (hr.s8 (Gb g8)) b.1,λ g8=>O1 (hr.u8 (Gb g8)) c.1,a.2,b.2,c.2⟩
 have FL:i=L.length:=by
  obtain⟨h5,_⟩:=U7.1 hx;simp at h5;omega
 subst FL;simp at hx;subst hx;have ng:¬Og (so++[(0,0)]) L.length:=λ hq=>by
  unfold Og at hq;rw[Ui,<-h.sl,U14 (U2 _),U34]at hq;exact hq rfl
 have ob:∀k,own k=0/\k<w.heap.size->w2.heap[k]?=w.heap[k]?:=λ k hk=>cG k hk.2 (λ e=>by have:=hk.1;subst e;rw[h.oR]at this;omega) (by omega)
 refine⟨hs.k.of_block λ k e=>ob k (hs.ok k e),hs.s.of_block λ k e=>ob k (hs.os k e),hs.u.of_block λ k e=>ob k (hs.ou k e),λ g8=>absurd g8 ng,λ g8=>absurd g8 ng,λ g8=>absurd g8 ng,?_,?_,?_⟩;intro k e;simp only[e,U1j]
 intro k e;have a1:r.kv.ownBlock≠some k:=λ e2=>hs.ks k e2 e
 simp only[a1,e,U1j,U1d]
 intro k e;have a1:r.kv.ownBlock≠some k:=λ e2=>hs.ku k e2 e
 have a2:r.sv.ownBlock≠some k:=λ e2=>hs.su k e2 e
 simp only[a1,a2,e,U1j,U1d]
 intro k hk;rw[dC]
 split at hk;rename_i e;exact⟨(hs.k.lt k e).1,by have:=(hs.ok k e).2;omega⟩
 split at hk;rename_i e;exact⟨(hs.s.lt k e).1,by have:=(hs.os k e).2;omega⟩
 split at hk;rename_i e;exact⟨(hs.u.lt k e).1,by have:=(hs.ou k e).2;omega⟩
 exact J155;rw[Ug,Ug,h.sl];rfl
 have key:∀k,(if r.kv.ownBlock=some k then 4+3*L.length else if r.sv.ownBlock=some k then 5+3*L.length else if r.uv.ownBlock=some k then 6+3*L.length else if k=g then 3 else own k)≠0->(FV own k\/r.kv.ownBlock=some k\/r.sv.ownBlock=some k\/r.uv.ownBlock=some k)\/w.heap.size<=k:=by
  intro k hk
  split at hk;rename_i e;exact .inl (.inr (.inl e))
  split at hk;rename_i e;exact .inl (.inr (.inr (.inl e)))
  split at hk;rename_i e;exact .inl (.inr (.inr (.inr e)))
  exact J173
 refine⟨?_,?_,?_,by omega,?_,λ k hk=>key k hk⟩;rw[<-fh];exact hg.os.trans (Below.os g1);rw[<-fh];exact hg.tape.trans (Below.tape g1);rw[<-fh];exact hg.output.trans (Below.output g1)
 exact J178
 intro k hk
 replace hk:(if r.kv.ownBlock=some k then 4+3*L.length else if r.sv.ownBlock=some k then 5+3*L.length else if r.uv.ownBlock=some k then 6+3*L.length else if k=g then 3 else own k)≠0:=hk
 split at hk;rename_i e;exact .inr (.inl (.inl e))
 split at hk;rename_i e;exact .inr (.inl (.inr (.inl e)))
 split at hk;rename_i e;exact .inr (.inl (.inr (.inr e)))
 exact J182
def Vco(r:Vw):Prop:=(r.kv = .slice none 0 0/\r.nd.keys=[])/\(r.sv = .slice none 0 0/\r.nd.spots=[])/\(r.uv = .slice none 0 0/\r.nd.subs=[])
theorem GrV.turn{w w':World}{R B base:Nat}{s:ByteArray}{root:Int}{nv:Value}{L:List Vw}{own:Nat->Nat}{so so':List (Nat×Nat)}{x x':GrX}(h:GrV w R B base s root nv L own so x)(hl:so'.length=so.length)
    (hR:w'.heap[R]?=some (.cells #[nv,root,.string s,.map (some B),x'.sec,x'.dep,x'.many,x'.iv,x'.nsv] 69 (0,0)))
    (hm:∃D:V5s,w'.ownsMap prog 3 sortR B (so'.length+x'.many) D/\O2t D so')(hb:∀k,FV own k->k≠R->k≠B->w'.heap[k]?=w.heap[k]?)(hz:w.heap.size<=w'.heap.size)
    (cH:∀(i:Nat) r,L[i]?=some r->Og so' i->Og so i\/Vco r):GrV w' R B base s root nv L own so' x':=by
 have hk:∀k t,own k=t->3<=t->w'.heap[k]?=w.heap[k]?:=λ k t e h3=>hb k (by unfold FV;omega) (λ e2=>by subst e2;have:=h.oR;omega) (λ e2=>by subst e2;have:=h.oB;omega)
 refine⟨hR,h.oR,h.oB,O1 h.nodes λ k e=>hk k 3 (h.oN k e) (by omega),h.oN,hm,λ i r hr=>?_,λ k h0=>⟨(h.lt k h0).1,U4 (h.lt k h0).2 hz⟩,by rw[hl,h.sl]⟩;have q:=h.rows i r hr;have a:∀k,r.kv.ownBlock=some k->w'.heap[k]?=w.heap[k]?:=λ k e=>hk k _ (q.tk k e) (by omega)
 have b:∀k,r.sv.ownBlock=some k->w'.heap[k]?=w.heap[k]?:=λ k e=>hk k _ (q.ts k e) (by omega)
 have c:∀k,r.uv.ownBlock=some k->w'.heap[k]?=w.heap[k]?:=λ k e=>hk k _ (q.tu k e) (by omega)
 refine⟨q.k.of_block a,q.s.of_block b,q.u.of_block c,λ g=>?_,λ g=>?_,λ g=>?_,q.tk,q.ts,q.tu⟩
 rcases cH i r hr g with g|⟨⟨e1,e2⟩,_⟩
 exact O1 (q.k8 g) a
 rw[e1,e2];exact On _ _ _ _
 rcases cH i r hr g with g|⟨_,⟨e1,e2⟩,_⟩
 exact O1 (q.s8 g) b
 rw[e1,e2];exact On _ _ _ _
 rcases cH i r hr g with g|⟨_,_,e1,e2⟩
 exact O1 (q.u8 g) c
 rw[e1,e2];exact On _ _ _ _
theorem O2t.put{D:V5s}{so so':List (Nat×Nat)}(h:O2t D so)(i:Nat)(t:Nat×Nat)(hi:so'.getD i (0,0)=t)(ho:∀j,j≠i->so'.getD j (0,0)=so.getD j (0,0)):O2t (D.put i (O2l t)) so' :=
 ⟨h.1.put _ _,λ j=>by
  by_cases hj:j=i;subst hj;rw[Maps.atKey_put_same (k := .int .i64 (j:Int)) h.1 U2d,hi]
  rw[Maps.atKey_put_other (λ e=>hj (by simp only[Lit.int.injEq,true_and]at e;omega)),h.2 j,ho j hj]⟩
theorem Oc8(w:World)(R B base:Nat)(s:ByteArray)(root:Int)(nv:Value)(L:List Vw)(own:Nat->Nat)(so:List (Nat×Nat))(x:GrX)(h:GrV w R B base s root nv L own so x)(hL:L.length<=30000000)
    (i:Nat)(r:Vw)(hr:L[i]?=some r)(h8:Og so i)(jM:r.nd.keys.length<=30000000)(jO:r.nd.spots.length<=30000000)(sD:r.nd.subs.length<=30000000)(key:ByteArray)(a b n:Nat) :
    Calls prog 62 #[.pointer (some ⟨R,0,none⟩),i,.string key,.agg #[a,b],n] w λ e w' =>
     e = .returned (.tuple #[])/\O7j w w' R B base s root nv L own so x i (Vy r.nd (bs key) (a,b) n):=by
 have hi:i<L.length:=(U7.1 hr).1;obtain⟨g,cap,cur,rfl,lW,aY,dM,nR,sB,ld,iY,DY,eL,lX⟩:=h.form (by omega);obtain⟨⟨c0,c1,c2,c3,c4,c5,c6⟩,c7,c8,fz⟩:=h.cells;obtain⟨n0,n1,n2,n3,n4,n5,n6,nf⟩:=h.ndCells rfl i r hr;have HC:Hid (V9e w own g i r):=⟨aY,dM,n2,n3,n4,nf⟩
 have hR:=h.R_lt;have bM:base<=w.heap.size:=by omega
 have mN:Hid (∀V kv sv uv,V1x w V base (FI own i) kv sv uv (r.nd.keys.length+1) (r.nd.spots.length+1) (r.nd.subs.length+1) (Oh r.nd.keys++[.string key]) (Oc r.nd.spots++[.int .i64 a,.int .i64 b]) (O7 r.nd.subs++[.int .i64 n]) ->
     O7j w (((V.setCell ⟨g,i*7+2,none⟩ kv).setCell ⟨g,i*7+3,none⟩ sv).setCell ⟨g,i*7+4,none⟩ uv) R B base s root (.slice (some ⟨g,0,none⟩) L.length cap) L own so x i (Vy r.nd (bs key) (a,b) n)):=by
  intro V kv sv uv H;refine h.putDone i r hr (Vy r.nd (bs key) (a,b) n) rfl rfl rfl ?_;exact J13
 refine Z101 ?_;intro bv iK k1 k2 k3 k4 iS s1 s2 s3 s4 iU u1 u2 u3 u4 fG eh fS mF ei;clear h8 k1 k2 k3 k4 s1 s2 s3 s4 u1 u2 u3 u4 fz h ld iY lX hr n0 n1 n2 n3 n4 n5 n6 nf;go_enter func62,ntmps62;exact J191
end Go.Proofs.YtnkgknbdaiakgaaGreatDoor
namespace Go.Proofs.YtnkgknbdaiakgaaGreatDoor
open Pl Go.Proofs.Tryz Go.RowKit Go.Shelf Go.Joins
attribute [local go_sem] Uy
def O2p:V7v->Value
 |.yes i => .int .i64 i
 |_ => .int .i64 (-1)
theorem Oc3(w:World)(R B base:Nat)(s:ByteArray)(root:Int)(nv:Value)(L:List Vw)(own:Nat->Nat)(so:List (Nat×Nat))(x:GrX)(h:GrV w R B base s root nv L own so x)
    (i:Nat)(key:ByteArray)(X:V7v)(hX:V12 (L.map (·.nd)) i (bs key)=X)(a8:X ≠ .non) :
    Calls prog 115 #[.pointer (some ⟨R,0,none⟩),i,.string key] w λ e w'=>e = .returned (O2p X)/\w=w':=by
 unfold V12 at hX;rw[Uq]at hX;cases hr:L[i]? with
 |none=>rw[hr]at hX;exact absurd hX.symm a8
 |some r =>
 rw[hr]at hX;simp only[U18]at hX;have hi:i<L.length:=(U7.1 hr).1;obtain⟨g,cap,cur,rfl,lW,aY,dM,nR,sB,ld,iY,DY,eL,lX⟩:=h.form (by omega);obtain⟨⟨c0,c1,c2,c3,c4,c5,c6⟩,c7,c8,fz⟩:=h.cells;obtain⟨n0,n1,n2,n3,n4,n5,n6,nf⟩:=h.ndCells rfl i r hr;refine Z140 ?_;intro mF ei;have hx:=h.rows i r hr;have HI:Hid (Calls prog 146 #[r.kv,.string key] w λ e w'=>e = .returned (.int .i64 (match r.nd.keys.findIdx? (λ k=>k==bs key) with|none => -1|some j=>(j:Int)))/\w=w'):=by
  refine Z214 ?_;intro dB;by_cases hn:0<r.nd.keys.length;obtain⟨b,c,hv,lZ,eL⟩:=hx.k.form hn;have cX:=hx.k.cells (g:=b) (by rw[hv];rfl);exact J138
  have h0:r.nd.keys=[]:=U1z (by omega);obtain⟨a,c,hv⟩:∃a c,r.kv = .slice a 0 c:=by
   rcases Or hx.k with⟨e,_⟩|⟨g',c',e,_,_⟩
   exact⟨none,0,e⟩
   exact⟨some ⟨g',0,none⟩,c',by rw[e,h0];rfl⟩
  exact J188
 cases hf:r.nd.keys.findIdx? (λ k=>k==bs key) with
 |none =>
  rw[hf]at hX HI;subst hX;clear hf hx h a8 c1 c2 c3 c4 c5 c6 c7 c8 fz n0 n1 n3 n4 n5 n6 nf ld lX iY;go_enter func115,ntmps115;go_wp2_with fail;refine HI.o.mono ?_;refine Z48 ?_;go_wp2_with fail;exact U1 (v := .int .i64 (-1)) (by simp[results,results115,go_sem]) rfl ⟨rfl,rfl⟩
 |some j =>
  rw[hf]at hX HI;simp only at hX HI;cases hu:r.nd.subs[j]? with
  |none=>rw[hu]at hX;exact absurd hX.symm a8
  |some u =>
  rw[hu]at hX;simp only at hX
  split at hX
  ·subst hX;have hj:j<r.nd.subs.length:=(U7.1 hu).1;obtain⟨b,c,hv,lZ,eL⟩:=hx.u.form (by omega);have cX:=hx.u.cells (g:=b) (by rw[hv];rfl) j u (by simp[O7,hu]);rw[hv]at n4;refine Z291 ?_;intro AS;have pv:(j:Int)<(r.nd.subs.length:Int):=by omega
   have NU:decide ((j:Int)<0)=false:=by simp
   clear hf hx h a8 c1 c2 c3 c4 c5 c6 c7 c8 fz n0 n1 n3 n5 n6 nf ld lX iY hu;go_enter func115,ntmps115;go_wp2_with fail;refine HI.o.mono ?_;refine Z48 ?_;go_wp2_with fail;exact U1 (v := .int .i64 u) (by simp[results,results115,go_sem]) rfl ⟨rfl,rfl⟩
  exact absurd hX.symm a8
def Of(k:Nat):Vw:=⟨V1t k,.slice none 0 0,.slice none 0 0,.slice none 0 0⟩
theorem Ohl(k:Nat):Vco (Of k):=⟨⟨rfl,rfl⟩,⟨rfl,rfl⟩,rfl,rfl⟩
theorem Oau(w:World)(base:Nat)(own:Nat->Nat)(k:Nat):V7f w base own (Of k) :=
 ⟨O14 (On _ _ _ _),O14 (On _ _ _ _),O14 (On _ _ _ _),λ _ e=>by (simp[Of,Value.ownBlock]at e),λ _ e=>by (simp[Of,Value.ownBlock]at e),λ _ e=>by (simp[Of,Value.ownBlock]at e),
  λ _ e=>by (simp[Of,Value.ownBlock]at e),λ _ e=>by (simp[Of,Value.ownBlock]at e),λ _ e=>by (simp[Of,Value.ownBlock]at e)⟩
def Oc4(w w2:World)(R B base:Nat)(s:ByteArray)(root:Int)(L:List Vw)(own:Nat->Nat)(so:List (Nat×Nat))(x:GrX)(k:Nat)(t:Nat×Nat):Prop :=
 ∃nv' own',GrV w2 R B base s root nv' (L++[Of k]) own' (so++[t]) x/\St (FV own) (FV own') w w2/\(∀k,own' k≠0->own k≠0\/w.heap.size<=k)
structure Vaw(R B b:Nat)(nv:Value)(t:Nat×Nat)(w:World):Prop where
 c0:w.cell? ⟨R,0,none⟩=some nv
 c3:w.cell? ⟨R,3,none⟩=some (.map (some B))
 t0:w.cell? ⟨b,0,none⟩=some (.int .u8 t.1)
 t1:w.cell? ⟨b,1,none⟩=some (.int .i64 t.2)
theorem GrV.grown{w W w1 w3:World}{R B base:Nat}{s:ByteArray}{root:Int}{nv:Value}{L:List Vw}{own:Nat->Nat}{so:List (Nat×Nat)}{x:GrX}(h:GrV w R B base s root nv L own so x)(g1:Gr w W)(k:Nat)(t:Nat×Nat)
    (g cap:Nat)(dD:w1.ownsRow base 40 7 (.slice (some ⟨g,0,none⟩) (L.length+1) cap) (L.length+1) (V35 L++ndV (Of k)))(hg:W.grownBy w1 nv.ownBlock)
    (cY:nv.ownBlock=some g\/g=W.heap.size)(aa:g<w1.heap.size){D:V5s}(hD:O2t D so)
    (hm:w3.ownsMap prog 3 sortR B (so.length+x.many+1) (D.put L.length (O2l t)))(h3:((w1.setCell ⟨R,0,none⟩ (.slice (some ⟨g,0,none⟩) (L.length+1) cap)).drew).grownBy w3 (some B)) :
    Oc4 w w3 R B base s root L own so x k t:=by
 obtain⟨own',h2,a9,bB⟩:=h.appended g1 (Of k) (Oau _ _ _ _) g cap dD hg cY aa;obtain⟨w2,fh⟩:=ExZ (w1.setCell ⟨R,0,none⟩ (.slice (some ⟨g,0,none⟩) (L.length+1) cap))
 rw[fh]at h2 a9 h3;have hb:∀k,k<w2.heap.size->k≠B->w3.heap[k]?=w2.heap[k]?:=λ k hk a8=>h3.block k hk (λ e=>a8 (U1x e))
 have sq:=h2.oB;refine⟨_,own',h2.turn (so':=so++[t]) (x':=x) (by simp) ?_ ⟨_,?_,hD.put L.length t ?_ ?_⟩ (λ k hk _ a8=>hb k (h2.lt k hk).2 a8) h3.size (λ i r hr hq=>?_),?_,λ k hk=>?_⟩;rw[hb R h2.R_lt.2 (λ e=>by have h1:=h2.oR;rw[e,sq]at h1;omega)];exact h2.blk;rw[Ug,U19,show so.length+1+x.many=so.length+x.many+1 by omega];exact hm;rw[Ui,<-h.sl,U14 (U2 _),U34];rfl
 intro j hj;rw[Ui,Ui,U2m]
 split;rfl
 rename_i aa
 rw[U1m (l:=[t]) (by rw[<-h.sl]at hj;simp;omega),U1m (l:=so) (by omega)]
 by_cases hi:i=L.length;right;subst hi;rw[U14 (U2 _),U34]at hr;simp at hr;subst hr;exact Ohl k
 left;have eK:i<L.length:=by have:=(U7.1 hr).1;simp at this;omega
 unfold Og at hq⊢;rw[Ui,U9 (by rw[h.sl];exact eK)]at hq;rw[Ui,U9 (by rw[h.sl];exact eK)];exact hq
 have cv:∀k',(FV own k'\/(Of k).kv.ownBlock=some k'\/(Of k).sv.ownBlock=some k'\/(Of k).uv.ownBlock=some k')->FV own k':=λ k' hk=>by
  rcases hk with hk|hk|hk|hk
  exact hk;simp[Of,Value.ownBlock]at hk;simp[Of,Value.ownBlock]at hk
  simp[Of,Value.ownBlock]at hk
 have aR:St (FV own) (FV own') w w2:=⟨a9.os,a9.tape,a9.output,a9.size,λ k' hk hn=>a9.block k' hk (λ e=>hn (cv k' e)),λ k' hk=>(a9.own k' hk).imp (cv k') id⟩
 exact aR.drew.grown h3 (λ k e=>by cases e;exact .inl (by unfold FV;rw[h.oB];omega))
 rcases bB k hk with e|e|e
 exact .inl e;exfalso;simp[Of,Value.ownBlock]at e
 exact .inr e
theorem Ofh(W:World)(L:List Value)(t:TypeId)(n:Nat)(hn:n=W.heap.size):∀(j:Nat) u,L[j]?=some u->(W.alloc (.cells L.toArray t)).cell? ((⟨n,0,none⟩:Addr).add j)=some u:=by
 subst hn;intro j u hu;rw[U3b,Uu,cell_of_block (U10 W _)]
 simpa using hu
theorem O6n(w:World)(R B base:Nat)(s:ByteArray)(root:Int)(nv:Value)(L:List Vw)(own:Nat->Nat)(so:List (Nat×Nat))(x:GrX)(h:GrV w R B base s root nv L own so x)(hL:L.length<=30000000)(hm:x.many<=30000000)(k:Nat)(t:Nat×Nat) :
    Calls prog 36 #[.pointer (some ⟨R,0,none⟩),.int .u8 k,.agg #[.int .u8 t.1,t.2]] w λ e w'=>e = .returned L.length/\Oc4 w w' R B base s root L own so x k t:=by
 obtain⟨iN,hi,fE,ay,aJ⟩:=U2u Ob4;obtain⟨⟨c0,c1,c2,c3,c4,c5,c6⟩,c7,c8,fz⟩:=h.cells;have zN:=fz 0;have hR:=h.R_lt;have bM:base<=w.heap.size:=by omega
 have a8:some R≠nv.ownBlock:=O2q h.oN (by rw[h.oR];omega);obtain⟨D,uN,rv⟩:=h.map;have H:=U0 h;have HI:=U0 (And.intro hi (And.intro fE (And.intro ay aJ)));have NV:=U0 uN;have NW:=U0 rv;have nY:=h.sl;have HB:=U0 (And.intro h.B_lt.2 (show B≠R from λ e=>by have h1:=h.oR;rw[<-e,h.oB]at h1;omega));have NY:=U0 (show some B≠nv.ownBlock from O2q h.oN (by rw[h.oB];omega));clear fz hi fE ay aJ h uN rv c1 c2 c4 c5 c6 c7 c8;go_enter func36,ntmps36
 go_upto_region 1 with fail
 obtain⟨W,hW⟩:=ExZ (w.alloc (.cells #[.int .u8 t.1,t.2] 94))
 have gW:Gr w W:=by rw[<-hW];exact (Gr.refl w).alloc _
 have zQ:W.heap[w.heap.size]?=some (.cells #[.int .u8 t.1,t.2] 94 (0,0)):=by rw[<-hW];exact U10 w _
 have b0:W.cell? ⟨w.heap.size,0,none⟩=some (.int .u8 t.1):=by rw[cell_of_block zQ];rfl
 have b1:W.cell? ⟨w.heap.size,1,none⟩=some (.int .i64 t.2):=by rw[cell_of_block zQ];rfl
 have aN:w.heap.size<W.heap.size:=(U8.1 zQ).1;have e0:W.cell? ⟨R,0,none⟩=some nv:=(gW.use.1 R 0 hR.2).trans c0;have e1:W.frozen? ⟨R,0,none⟩=false:=(gW.use.2.1 R 0 hR.2).trans zN;have e3:W.cell? ⟨R,3,none⟩=some (.map (some B)):=(gW.use.1 R 3 hR.2).trans c3;have zO:R<W.heap.size:=U4 hR.2 gW.size;have NM:base<=W.heap.size:=Uj bM gW.size;have DW:=U0 (O1 H.o.nodes λ k e=>gW.block (H.o.nodes.lt k e).2);have kM:=U0 gW
 try rw[hW]
 clear hW gW zQ c0 c3 zN
 go_upto_region 2 with (at_builtin;refine wpList_append_lies _ rfl (.tmp 12) (.tmp 16) 24 rfl base 40 iN (.agg #[.int .u8 0,.string ⟨#[]⟩,.slice none 0 0,.slice none 0 0,.slice none 0 0,(0:Int),(0:Int)]) 7 112 underlying24 HI.o.1 HI.o.2.1 HI.o.2.2.1 HI.o.2.2.2 rfl (by decide) _ L.length _ rfl (O1 DW.o λ k e=>((Gr.refl W).alloc _).block (DW.o.lt k e).2) ⟨_,0,none⟩ 1 1 [.int .u8 k,.string ⟨#[]⟩,.slice none 0 0,.slice none 0 0,.slice none 0 0,.int .i64 (-1),.int .i64 (-1)] rfl rfl (Ofh _ [.int .u8 k,.string ⟨#[]⟩,.slice none 0 0,.slice none 0 0,.slice none 0 0,.int .i64 (-1),.int .i64 (-1)] _ _ (by simp)) (by simp[Value.oneCell']) (by decide) (by unfold maxLen;omega) (by omega) (by simp;omega) _ rfl ?_;intro g cap w1 dm fO gj ay;have f3:w1.frozen? ⟨R,0,none⟩=false:=(fO.frozen_far ⟨R,0,none⟩ (by simp;omega) a8).trans ((((Gr.refl W).alloc _).use.2.1 R 0 zO).trans e1);have f4:w1.cell? ⟨R,0,none⟩=some nv:=(fO.cell_far ⟨R,0,none⟩ (by simp;omega) a8).trans ((((Gr.refl W).alloc _).use.1 R 0 zO).trans e0))
 have nN:some w.heap.size≠nv.ownBlock:=λ e=>by have:=(H.o.nodes.lt _ e.symm).2;omega
 have Gc:∀b,b<W.heap.size->b≠R->some b≠nv.ownBlock->∀j,(w1.setCell ⟨R,0,none⟩ (.slice (some ⟨g,0,none⟩) (L.length+1) cap)).cell? ⟨b,j,none⟩=W.cell? ⟨b,j,none⟩:=λ b hb Gd Ge j=>by
  rw[Um _ _ _ _ (by first|(simp;done)|(simp;omega))];exact (fO.cell_far ⟨b,j,none⟩ (by simp;omega) Ge).trans (((Gr.refl W).alloc _).use.1 b j hb)
 have bi:Vaw R B w.heap.size (.slice (some ⟨g,0,none⟩) (L.length+1) cap) t (w1.setCell ⟨R,0,none⟩ (.slice (some ⟨g,0,none⟩) (L.length+1) cap)).drew :=
  ⟨U1u _ _ _ (by rw[f4];rfl),by
   show (w1.setCell ⟨R,0,none⟩ _).cell? ⟨R,3,none⟩=_;rw[Um _ _ _ _ (by simp)];exact (fO.cell_far ⟨R,3,none⟩ (by simp;omega) a8).trans ((((Gr.refl W).alloc _).use.1 R 3 zO).trans e3),(Gc _ aN (by omega) nN 0).trans b0,(Gc _ aN (by omega) nN 1).trans b1⟩
 have jn:(w1.setCell ⟨R,0,none⟩ (.slice (some ⟨g,0,none⟩) (L.length+1) cap)).drew.ownsMap prog 3 sortR B (so.length+x.many) D:=Oe NV.o (by
  show (w1.setCell ⟨R,0,none⟩ _).heap[B]?=_;have zQ:B<W.heap.size:=U4 HB.o.1 kM.o.size;rw[U5 _ _ _ _ (by simpa using HB.o.2),fO.block B (by simp;omega) (λ e=>NY.o e),((Gr.refl W).alloc _).block zQ,kM.o.block HB.o.1])
 obtain⟨w3,xg,sI,dQ⟩:=jn.update (Maps.int_keyed underlying3) underlying65 (by unfold maxLen;omega) (key := .int .i64 (L.length:Int)) (kl := .int .i64 (L.length:Int)) (U3f underlying3 (by simp[Lit.wf,IntKind.min,IntKind.max,IntKind.signed,IntKind.bits];omega)) (O7i t);have mN:=U0 (H.o.grown (kM.o.alloc (.cells #[.int .u8 k,.string ⟨#[]⟩,.slice none 0 0,.slice none 0 0,.slice none 0 0,.int .i64 (-1),.int .i64 (-1)] 40)) k t g cap dm fO gj ay NW.o sI dQ);have uu:w3.cell? ⟨R,0,none⟩=some (.slice (some ⟨g,0,none⟩) (L.length+1) cap):=by
  have aO:w3.heap[R]?=((w1.setCell ⟨R,0,none⟩ (.slice (some ⟨g,0,none⟩) (L.length+1) cap)).drew).heap[R]?:=dQ.block R (by have:=((Gr.refl W).alloc (.cells #[.int .u8 k,.string ⟨#[]⟩,.slice none 0 0,.slice none 0 0,.slice none 0 0,.int .i64 (-1),.int .i64 (-1)] 40)).size;have:=fO.size;simp[World.setCell];omega) (λ e=>HB.o.2 (U1x e).symm);exact (Us (a:=⟨R,0,none⟩) aO).trans bi.c0
 have wk:IntKind.i64.wrap (((L.length+1:Nat):Int)-1)=(L.length:Int):=by rw[Uk _ ⟨by omega,by omega⟩];omega
 have Sr:IntKind.i64.wrap ((L.length:Int)+1-1)=(L.length:Int):=by rw[Uk _ ⟨by omega,by omega⟩];omega
 have Ss:IntKind.i64.wrap (L.length:Int)=(L.length:Int):=Uk _ ⟨by omega,by omega⟩;unfold O1z at xg;clear dm fO gj ay jn sI dQ Gc f3 f4 b0 b1 e0 e1 e3;refine Reg.begin' (W:=λ i=>i != 12) (S:=Vaw R B w.heap.size (.slice (some ⟨g,0,none⟩) (L.length+1) cap) t) (by kernel_rfl) ?_;refine Z32 ?_;refine Reg.tl 3 bi ?_ (hy:=by intro w ab;obtain⟨c0,c3,t0,t1⟩:=ab;go_simp;try with_reducible rfl);refine Z309 ?_;refine Reg.ty 7 ?_;refine Reg.tl 8 bi ?_ (hy:=by intro w ab;obtain⟨c0,c3,t0,t1⟩:=ab;go_simp;try with_reducible rfl);refine Reg.ty 9 ?_;refine Reg.ty 10 ?_;refine Reg.tl 11 bi ?_ (hy:=by intro w ab;obtain⟨c0,c3,t0,t1⟩:=ab;go_simp;try with_reducible rfl);refine Reg.on 12 ?_;go_simp;refine Z12 ?_;go_wp2_with fail;exact U1 (v := .int .i64 L.length) (by simp[results,results36,go_sem]) rfl ⟨rfl,mN.o⟩
