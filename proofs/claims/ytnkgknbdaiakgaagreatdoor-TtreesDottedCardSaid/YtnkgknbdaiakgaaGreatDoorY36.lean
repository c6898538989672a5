/- The proof's part 36. -/
import Derived.Test.YtnkgknbdaiakgaaGreatDoorY14
import Derived.Test.YtnkgknbdaiakgaaGreatDoorY38
set_option maxHeartbeats 16000000
set_option linter.all false
set_option maxRecDepth 100000
namespace Go.Proofs.YtnkgknbdaiakgaaGreatDoor
section
open Pl Go.Proofs.Tryz Go.RowKit Go.Joins
def O27(s:Nat×Nat):Value := .agg #[.int .u8 s.1,s.2]
def O2u(s:Nat×Nat):V6b := .agg [.lit (.int .u8 s.1),.lit s.2]
theorem Oj8{s s':Nat×Nat}(h:O2u s=O2u s'):s=s':=by
 obtain⟨a,b⟩:=s;obtain⟨c,d⟩:=s';simp only[O2u,DataW.agg.injEq,U24,DataW.lit.injEq,Lit.int.injEq,true_and,and_true]at h;rw[U19];omega
theorem Oj9{s s':Nat×Nat}(h:O27 s=O27 s'):s=s':=by
 obtain⟨a,b⟩:=s;obtain⟨c,d⟩:=s';simp only[O27,Value.agg.injEq,Array.mk.injEq,U24,Value.int.injEq,true_and,and_true]at h;rw[U19];omega
open Classical in
noncomputable def sortR (v:Value):Option (V6b×List MemPlace):=if h:∃s,v=O27 s then some (O2u h.choose,[]) else none
theorem O7w(s:Nat×Nat):sortR (O27 s)=some (O2u s,[]):=by
 have h:∃s',O27 s=O27 s':=⟨s,rfl⟩
 unfold sortR;rw[dif_pos h,<-Oj9 h.choose_spec]
theorem Oja{v:Value}{s:Nat×Nat}{p:List MemPlace}(h:sortR v=some (O2u s,p)):v=O27 s:=by
 unfold sortR at h
 split at h
 rename_i hv
 simp only[U1f,U19]at h;rw[<-Oj8 h.1];exact hv.choose_spec
 cases h
def O33(D:V6b)(so:List (Nat×Nat)):Prop:=Maps.IsMap D/\∀i:Nat,D.atKey i (O2u (0,0))=O2u (so.getD i (0,0))
theorem O33.more{D:V6b}{so:List (Nat×Nat)}(h:O33 D so):O33 D (so++[(0,0)]) :=
 ⟨h.1,λ i=>by
  rw[h.2 i];congr 1;rw[U1j,U1j,U3r]
  split;rfl
  rename_i hi
  rw[U2t Ya];cases hj:i-so.length with
  |zero=>rfl
  |succ j=>rfl⟩
structure GrX where
 sec:Nat
 dep:Nat
 many:Nat
 iv:Value
 nsv:Value
structure V86(w:World)(base:Nat)(own:Nat->Nat)(i:Nat)(r:NdR)(gr:Prop):Prop where
 k:V2f w base 9 1 r.kv r.nd.keys.length (Oj r.nd.keys)
 s:V2f w base 38 2 r.sv r.nd.spots.length (Oc r.nd.spots)
 u:V2f w base 3 1 r.uv r.nd.subs.length (O8 r.nd.subs)
 k8:gr->w.ownsRow base 9 1 r.kv r.nd.keys.length (Oj r.nd.keys)
 s8:gr->w.ownsRow base 38 2 r.sv r.nd.spots.length (Oc r.nd.spots)
 u8:gr->w.ownsRow base 3 1 r.uv r.nd.subs.length (O8 r.nd.subs)
 tk:Ok own r.kv (4+3*i)
 ts:Ok own r.sv (5+3*i)
 tu:Ok own r.uv (6+3*i)
abbrev Oh(so:List (Nat×Nat))(i:Nat):Prop:=(so.getD i (0,0)).1≠0
structure GrV(w:World)(R B base:Nat)(s:ByteArray)(root:Int)(nv:Value)(L:List NdR)(own:Nat->Nat)(so:List (Nat×Nat))(x:GrX):Prop where
 blk:w.heap[R]?=some (.cells #[nv,root,.string s,.map (some B),x.sec,x.dep,x.many,x.iv,x.nsv] 69 (0,0))
 oR:own R=1
 oB:own B=2
 nodes:w.ownsRow base 40 7 nv L.length (V3a L)
 oN:Ok own nv 3
 map:∃D:V6b,w.ownsMap prog 3 sortR B (so.length+x.many) D/\O33 D so
 rows:∀(i:Nat) r,L[i]?=some r->V86 w base own i r (Oh so i)
 lt:∀k,own k≠0->base<=k/\k<w.heap.size
 sl:so.length=L.length
theorem Oe{w w':World}{k b n:Nat}{D:V6b}(h:w.ownsMap prog k sortR b n D)(hb:w'.heap[b]?=w.heap[b]?):w'.ownsMap prog k sortR b n D:=by
 exact J41
theorem V86.kept{w w':World}{base:Nat}{own:Nat->Nat}{i:Nat}{r:NdR}{gr:Prop}(h:V86 w base own i r gr)(hb:∀k,FV own k->w'.heap[k]?=w.heap[k]?):V86 w' base own i r gr:=by
 have bk:∀k,r.kv.ownBlock=some k->w'.heap[k]?=w.heap[k]?:=λ k e=>hb k (by unfold FV;rw[h.tk k e];omega)
 have M':∀k,r.sv.ownBlock=some k->w'.heap[k]?=w.heap[k]?:=λ k e=>hb k (by unfold FV;rw[h.ts k e];omega)
 have bu:∀k,r.uv.ownBlock=some k->w'.heap[k]?=w.heap[k]?:=λ k e=>hb k (by unfold FV;rw[h.tu k e];omega)
 exact⟨h.k.of_block bk,h.s.of_block M',h.u.of_block bu,λ g=>O1 (h.k8 g) bk,λ g=>O1 (h.s8 g) M',λ g=>O1 (h.u8 g) bu,h.tk,h.ts,h.tu⟩
section
variable {w w':World}{R B base:Nat}{s:ByteArray}{root:Int}{nv:Value}{L:List NdR}{own:Nat->Nat}{so:List (Nat×Nat)}{x:GrX}
theorem GrV.kept(h:GrV w R B base s root nv L own so x)(hb:∀k,FV own k->w'.heap[k]?=w.heap[k]?)(hz:w.heap.size<=w'.heap.size):GrV w' R B base s root nv L own so x:=by
 obtain⟨D,h1,h2⟩:=h.map;exact⟨by rw[hb R (by unfold FV;rw[h.oR];omega)];exact h.blk,h.oR,h.oB,O1 h.nodes λ k e=>hb k (by unfold FV;rw[h.oN k e];omega),h.oN,
  ⟨D,Oe h1 (hb B (by unfold FV;rw[h.oB];omega)),h2⟩,λ i r hr=>(h.rows i r hr).kept hb,λ k hk=>⟨(h.lt k hk).1,U13 (h.lt k hk).2 hz⟩,h.sl⟩
theorem GrV.gr(h:GrV w R B base s root nv L own so x)(g:Gr w w'):GrV w' R B base s root nv L own so x:=h.kept (λ k hk=>g.block (h.lt k hk).2) g.size
theorem GrV.alloc(h:GrV w R B base s root nv L own so x)(o:Obj):GrV (w.alloc o) R B base s root nv L own so x:=h.gr ((Gr.refl w).alloc o)
theorem GrV.drew(h:GrV w R B base s root nv L own so x):GrV w.drew R B base s root nv L own so x:=h.gr (Gr.refl w).drew
theorem GrV.drewN(h:GrV w R B base s root nv L own so x)(n:Nat):GrV (w.drewN n) R B base s root nv L own so x:=h.gr ((Gr.refl w).drewN n)
theorem GrV.not_new(h:GrV w R B base s root nv L own so x){k:Nat}(hk:w.heap.size<=k):¬FV own k:=λ e=>by have:=h.lt k e;omega
theorem GrV.R_lt(h:GrV w R B base s root nv L own so x):base<=R/\R<w.heap.size:=h.lt R (by rw[h.oR];omega)
theorem GrV.B_lt(h:GrV w R B base s root nv L own so x):base<=B/\B<w.heap.size:=h.lt B (by rw[h.oB];omega)
theorem GrV.cells(h:GrV w R B base s root nv L own so x):(w.cell? R=some nv/\w.cell? ⟨R,1,none⟩=some (.int .i64 root)/\w.cell? ⟨R,2,none⟩=some (.string s)/\w.cell? ⟨R,3,none⟩=some (.map (some B))/\w.cell? ⟨R,4,none⟩=some (.int .i64 x.sec)/\w.cell? ⟨R,5,none⟩=some (.int .i64 x.dep)/\w.cell? ⟨R,6,none⟩=some (.int .i64 x.many)) /\w.cell? ⟨R,7,none⟩=some x.iv/\w.cell? ⟨R,8,none⟩=some x.nsv/\(∀i,w.frozen? ⟨R,i,none⟩=false) :=
 ⟨⟨by rw[cell_of_block h.blk];rfl,by rw[cell_of_block h.blk];rfl,by rw[cell_of_block h.blk];rfl,by rw[cell_of_block h.blk];rfl,by rw[cell_of_block h.blk];rfl,by rw[cell_of_block h.blk];rfl,by rw[cell_of_block h.blk];rfl⟩,by rw[cell_of_block h.blk];rfl,by rw[cell_of_block h.blk];rfl,λ i=>unfrozen_of_block h.blk i⟩
theorem GrV.look(h:GrV w R B base s root nv L own so x)(i:Nat)(hi:i<=9223372036854775807)(W:World)(hW:W.heap[B]?=w.heap[B]?):(Instr.lookup 65 (.map (some B)) i false).run prog W=.ok (O27 (so.getD i (0,0))) W:=by
 obtain⟨D,h1,h2⟩:=h.map;have pv:=Oe (w':=W) h1 hW;have hz:(zeroValue 94).run prog W=.ok (O27 (0,0)) W:=Yc;obtain⟨c,p,e1,e2⟩:=pv.lookup (Maps.int_keyed underlying3) underlying65 hz (O7w (0,0)) (U4k underlying3 (show (Lit.int .i64 (i:Int)).wf=true by simp[Lit.wf,IntKind.min,IntKind.max,IntKind.signed,IntKind.bits];omega));rw[h2.2 i]at e2;rw[Oja e2]at e1;exact e1
theorem GrV.form(h:GrV w R B base s root nv L own so x)(hL:0<L.length):∃g cap cur,nv=.slice (some ⟨g,0,none⟩) L.length cap/\base<=g/\g<w.heap.size/\own g=3/\g≠R/\g≠B /\w.heap[g]?=some (.cells cur 40 (0,0))/\cur.size=cap*7/\L.length<=cap/\cap<=maxLen/\cur.toList.take (L.length*7)=V3a L:=by
 exact J42
theorem GrV.ndCells(h:GrV w R B base s root nv L own so x){g cap:Nat}(hv:nv=.slice g L.length cap)(i:Nat)(r:NdR)(hr:L[i]?=some r):w.cell? ⟨g,i*7,none⟩=some (.int .u8 r.nd.kind)/\w.cell? ⟨g,i*7+1,none⟩=some (V3h r.nd.text)/\w.cell? ⟨g,i*7+2,none⟩=some r.kv/\w.cell? ⟨g,i*7+3,none⟩=some r.sv/\w.cell? ⟨g,i*7+4,none⟩=some r.uv /\w.cell? ⟨g,i*7+5,none⟩=some (.int .i64 r.nd.sp.1)/\w.cell? ⟨g,i*7+6,none⟩=some (.int .i64 r.nd.sp.2)/\(∀o,w.frozen? ⟨g,o,none⟩=false):=by
 exact J143
end
end
section
open Pl Go.Proofs.Tryz Go.RowKit Go.Joins
theorem GrV.start3{w W:World}{R B base:Nat}{s:ByteArray}{root:Int}{nv:Value}{L:List NdR}{own:Nat->Nat}{so:List (Nat×Nat)}{x:GrX}(h:GrV w R B base s root nv L own so x)(g1:Gr w W)(i:Nat)(r:NdR)(hr:L[i]?=some r)(h8:Oh so i):V24 w W base (FI own i) r.kv r.sv r.uv r.nd.keys.length r.nd.spots.length r.nd.subs.length (Oj r.nd.keys) (Oc r.nd.spots) (O8 r.nd.subs):=by
 refine Z207 ?_;intro hx kp;refine⟨(g1.st).to (λ _ e=>e.elim),kp (hx.k8 h8) hx.tk Ya,kp (hx.s8 h8) hx.ts Ya,kp (hx.u8 h8) hx.tu Ya,λ b e => .inl (.inl (hx.tk b e)),λ b e => .inl (.inr (.inl (hx.ts b e))),λ b e => .inl (.inr (.inr (hx.tu b e))),?_,?_,?_⟩;intro b e e2;have:=hx.tk b e;have:=hx.ts b e2;omega;intro b e e2;have:=hx.tk b e;have:=hx.tu b e2;omega
 intro b e e2;have:=hx.ts b e;have:=hx.tu b e2;omega
def O7x(w w2:World)(R B base:Nat)(s:ByteArray)(root:Int)(nv:Value)(L:List NdR)(own:Nat->Nat)(so:List (Nat×Nat))(x:GrX)(i:Nat)(nd:Pl.Nd):Prop :=
 ∃own' kv sv uv,GrV w2 R B base s root nv (L.set i ⟨nd,kv,sv,uv⟩) own' so x/\St (FV own) (FV own') w w2/\(∀k,own' k≠0->own k≠0\/w.heap.size<=k)
theorem GrV.putDone{w W:World}{R B base:Nat}{s:ByteArray}{root:Int}{L:List NdR}{own:Nat->Nat}{so:List (Nat×Nat)}{x:GrX}{g cap:Nat}(h:GrV w R B base s root (.slice g L.length cap) L own so x)(i:Nat)(r:NdR)(hr:L[i]?=some r)(nd:Pl.Nd)(bx:nd.kind=r.nd.kind)(cd:nd.text=r.nd.text)(fw:nd.sp=r.nd.sp){kv sv uv:Value}(H:V24 w W base (FI own i) kv sv uv nd.keys.length nd.spots.length nd.subs.length (Oj nd.keys) (Oc nd.spots) (O8 nd.subs)):O7x w (((W.setCell ⟨g,i*7+2,none⟩ kv).setCell ⟨g,i*7+3,none⟩ sv).setCell ⟨g,i*7+4,none⟩ uv) R B base s root (.slice g L.length cap) L own so x i nd:=by
 have hi:i<L.length:=(U16.1 hr).1;refine Z224 ?_;intro dI aZ hz hR hB WF am;have bY:WF.heap.size=W.heap.size:=by subst am;simp[World.setCell]
 refine Z279 ?_;intro aO;have jx:∀k,k<w.heap.size->k≠g->¬FI own i k->WF.heap[k]?=w.heap[k]?:=λ k hk h1 h2=>(aO k h1).trans (H.st.block k hk h2)
 have Lz:W.ownsRow base 40 7 (.slice g L.length cap) L.length (V3a L) :=
  O1 h.nodes λ k e=>by
   simp[Value.ownBlock]at e;subst e;exact H.st.block g aZ.2 (λ e=>by unfold FI at e;omega)
 refine Z50 ?_;intro ad bO;refine⟨λ k=>if kv.ownBlock=some k then 4+3*i else if sv.ownBlock=some k then 5+3*i else if uv.ownBlock=some k then 6+3*i else own k,kv,sv,uv,?_,?_,?_⟩
 -- tags that are not this node's stay
 refine Z97 ?_;intro tg;have nF:∀k t,own k=t->t<4->¬FI own i k:=λ k t e h4 e2=>by unfold FI at e2;omega
 have vm:∀k,own k≠3->k≠g:=λ k e e2=>by subst e2;exact e dI
 have li:∀{v:Value} {e size n xs},W.ownsRow base e size v n xs->(∀b,v.ownBlock=some b->FI own i b\/w.heap.size<=b)->∀k,v.ownBlock=some k->k≠g:=by
  intro v e size n xs _ hv k hk e2;subst e2;rcases hv k hk with h1|h1
  unfold FI at h1;omega
  omega
 refine⟨?_,?_,?_,?_,?_,?_,?_,?_,by rw[U2k];exact h.sl⟩;rw[jx R hR.2 (vm R (by rw[h.oR];omega)) (nF R 1 h.oR Ya)];exact h.blk;rw[tg R (by rw[h.oR];omega) (nF R 1 h.oR Ya)];exact h.oR;rw[tg B (by rw[h.oB];omega) (nF B 2 h.oB Ya)];exact h.oB;rw[U2k];exact bO;exact J177;obtain⟨D,h1,h2⟩:=h.map;exact⟨D,Oe h1 (jx B hB.2 (vm B (by rw[h.oB];omega)) (nF B 2 h.oB Ya)),h2⟩
 intro j y hx;rw[U2n]at hx
 split at hx
 rename_i dv
 subst dv;cases hx;have qk:=O1 H.k λ k e=>aO k (li H.k H.fk k e)
 have qs:=O1 H.s λ k e=>aO k (li H.s H.fs k e)
 have qu:=O1 H.u λ k e=>aO k (li H.u H.fu k e)
 refine⟨O16 qk,O16 qs,O16 qu,λ _=>qk,λ _=>qs,λ _=>qu,?_,?_,?_⟩;intro k e;simp only at e;simp only[e,U2i];exact J181
 intro k e;simp only at e;have a1:kv.ownBlock≠some k:=λ e2=>H.ku k e2 e
 have a2:sv.ownBlock≠some k:=λ e2=>H.su k e2 e
 simp only[a1,a2,e,U2i,U2c]
 rename_i dv
 have gj:=h.rows j y hx;have kp:∀{v:Value}{q:Nat},Ok own v q->4<=q->(q≠4+3*i/\q≠5+3*i/\q≠6+3*i) ->
     (∀k,v.ownBlock=some k->WF.heap[k]?=w.heap[k]?)/\Ok (λ k=>if kv.ownBlock=some k then 4+3*i else if sv.ownBlock=some k then 5+3*i else if uv.ownBlock=some k then 6+3*i else own k) v q:=by
  intro v q ht h4 a8;have hF:∀k,v.ownBlock=some k->¬FI own i k:=λ k e e2=>by have:=ht k e;unfold FI at e2;omega
  refine⟨λ k e=>jx k (h.lt k (by rw[ht k e];omega)).2 (vm k (by rw[ht k e];omega)) (hF k e),λ k e=>?_⟩;show (if _ then _ else _)=q;rw[tg k (by rw[ht k e];omega) (hF k e)];exact ht k e
 have a:=kp gj.tk Ya Ya;have b:=kp gj.ts Ya Ya;have c:=kp gj.tu Ya Ya;exact⟨gj.k.of_block a.1,gj.s.of_block b.1,gj.u.of_block c.1,λ g8=>O1 (gj.k8 g8) a.1,λ g8=>O1 (gj.s8 g8) b.1,λ g8=>O1 (gj.u8 g8) c.1,a.2,b.2,c.2⟩
 exact J141;exact J56
 exact J125
def Oap(w w2:World)(R B base:Nat)(s:ByteArray)(root:Int)(L:List NdR)(own:Nat->Nat)(so:List (Nat×Nat))(x:GrX)(r:NdR)(nv':Value):Prop :=
 ∃own',GrV w2 R B base s root nv' (L++[r]) own' (so++[(0,0)]) x/\St (λ k=>FV own k\/r.kv.ownBlock=some k\/r.sv.ownBlock=some k\/r.uv.ownBlock=some k) (FV own') w w2 /\
  (∀k,own' k≠0->own k≠0\/(r.kv.ownBlock=some k\/r.sv.ownBlock=some k\/r.uv.ownBlock=some k)\/w.heap.size<=k)
structure V87(w:World)(base:Nat)(own:Nat->Nat)(r:NdR):Prop where
 k:V2f w base 9 1 r.kv r.nd.keys.length (Oj r.nd.keys)
 s:V2f w base 38 2 r.sv r.nd.spots.length (Oc r.nd.spots)
 u:V2f w base 3 1 r.uv r.nd.subs.length (O8 r.nd.subs)
 ok:∀k,r.kv.ownBlock=some k->own k=0/\k<w.heap.size
 os:∀k,r.sv.ownBlock=some k->own k=0/\k<w.heap.size
 ou:∀k,r.uv.ownBlock=some k->own k=0/\k<w.heap.size
 ks:∀k,r.kv.ownBlock=some k->r.sv.ownBlock≠some k
 ku:∀k,r.kv.ownBlock=some k->r.uv.ownBlock≠some k
 su:∀k,r.sv.ownBlock=some k->r.uv.ownBlock≠some k
theorem GrV.appended{w W w1:World}{R B base:Nat}{s:ByteArray}{root:Int}{nv:Value}{L:List NdR}{own:Nat->Nat}{so:List (Nat×Nat)}{x:GrX}(h:GrV w R B base s root nv L own so x)(g1:Gr w W)(r:NdR)(hs:V87 w base own r)(g cap:Nat)(bZ:w1.ownsRow base 40 7 (.slice g (L.length+1) cap) (L.length+1) (V3a L++ndV r))(hg:W.grownBy w1 nv.ownBlock)(cR:nv.ownBlock=some g\/g=W.heap.size)(aa:g<w1.heap.size):Oap w (w1.setCell R (.slice g (L.length+1) cap)) R B base s root L own so x r (.slice g (L.length+1) cap):=by
 have hR:=h.R_lt;have hB:=h.B_lt;have hz:=g1.size;have ax:=hg.size;have vk:R≠B:=λ e=>by have h1:=h.oR;rw[e,h.oB]at h1;omega
 have ei:own g=3\/(own g=0/\w.heap.size<=g):=by
  exact J55
 have nY:g≠R:=λ e=>by subst e;rw[h.oR]at ei;omega
 have ti:g≠B:=λ e=>by subst e;rw[h.oB]at ei;omega
 refine Z170 ?_;intro cC;obtain⟨w2,fj⟩:=ExZ (w1.setCell R (.slice g (L.length+1) cap))
 rw[fj]at cC⊢;have eM:w2.heap.size=w1.heap.size:=by rw[<-fj];simp[World.setCell]
 have nk:∀k,own k≠0->r.kv.ownBlock≠some k:=λ k h0 e=>h0 (hs.ok k e).1
 have ns:∀k,own k≠0->r.sv.ownBlock≠some k:=λ k h0 e=>h0 (hs.os k e).1
 have nu:∀k,own k≠0->r.uv.ownBlock≠some k:=λ k h0 e=>h0 (hs.ou k e).1
 have gn:∀k,own k=0/\k<w.heap.size->k≠g:=λ k h0 e=>by subst e;omega
 have tg:∀k,own k≠0->own k≠3->(if r.kv.ownBlock=some k then 4+3*L.length else if r.sv.ownBlock=some k then 5+3*L.length else if r.uv.ownBlock=some k then 6+3*L.length else if k=g then 3 else own k)=own k:=by
  intro k h0 h3;have:k≠g:=λ e=>by subst e;omega
  simp only[nk k h0,ns k h0,nu k h0,this,U2c]
 have Rf:(if r.kv.ownBlock=some g then 4+3*L.length else if r.sv.ownBlock=some g then 5+3*L.length else if r.uv.ownBlock=some g then 6+3*L.length else if g=g then 3 else own g)=3:=by
  have a1:r.kv.ownBlock≠some g:=λ e=>gn g (hs.ok g e) rfl
  have a2:r.sv.ownBlock≠some g:=λ e=>gn g (hs.os g e) rfl
  have a3:r.uv.ownBlock≠some g:=λ e=>gn g (hs.ou g e) rfl
  simp only[a1,a2,a3,U2c,U2i]
 refine⟨λ k=>if r.kv.ownBlock=some k then 4+3*L.length else if r.sv.ownBlock=some k then 5+3*L.length else if r.uv.ownBlock=some k then 6+3*L.length else if k=g then 3 else own k,⟨?_,?_,?_,?_,?_,?_,?_,?_,?_⟩,?_,?_⟩
 have hb:w1.heap[R]?=some (.cells #[nv,root,.string s,.map (some B),x.sec,x.dep,x.many,x.iv,x.nsv] 69 (0,0)):=by
  exact J54
 rw[<-fj];exact J53;rw[tg R (by rw[h.oR];omega) (by rw[h.oR];omega)];exact h.oR;rw[tg B (by rw[h.oB];omega) (by rw[h.oB];omega)];exact h.oB
 have e:V3a (L++[r])=V3a L++ndV r:=by simp[V3a]
 rw[e,U1c,U25,<-fj];exact J52;intro k hk;simp[Value.ownBlock]at hk;subst hk;exact Rf;obtain⟨D,h1,h2⟩:=h.map;exact⟨D,Oe (h1.mono (by rw[U1c];omega)) (cC B hB.2 (U3p vk) (by rw[h.oB];omega)),h2.more⟩
 ·intro i y hx;have Ji:Oh (so++[(0,0)]) i->Oh so i:=λ hq=>by
   unfold Oh at hq⊢;rw[U1j,U3r]at hq
   split at hq;rw[U1j];exact hq
   exfalso;cases hj:i-so.length with
   |zero=>rw[hj]at hq;exact hq rfl
   |succ j=>rw[hj]at hq;exact hq rfl
  rw[U3r]at hx
  split at hx
  have hr:=h.rows i y hx;have kp:∀{v:Value}{q:Nat},Ok own v q->4<=q->(∀k,v.ownBlock=some k->w2.heap[k]?=w.heap[k]?)/\Ok (λ k=>if r.kv.ownBlock=some k then 4+3*L.length else if r.sv.ownBlock=some k then 5+3*L.length else if r.uv.ownBlock=some k then 6+3*L.length else if k=g then 3 else own k) v q:=by
   intro v q ht h4;refine⟨λ k e=>cC k (h.lt k (by rw[ht k e];omega)).2 (λ e2=>by subst e2;have:=ht k e;rw[h.oR]at this;omega) (by rw[ht k e];omega),λ k e=>?_⟩;show (if _ then _ else _)=q;rw[tg k (by rw[ht k e];omega) (by rw[ht k e];omega)];exact ht k e
  have a:=kp hr.tk Ya;have b:=kp hr.ts Ya;have c:=kp hr.tu Ya;exact⟨hr.k.of_block a.1,hr.s.of_block b.1,hr.u.of_block c.1,λ g8=>O1 (hr.k8 (Ji g8)) a.1,λ g8=>O1 (hr.s8 (Ji g8)) b.1,λ g8=>O1 (hr.u8 (Ji g8)) c.1,a.2,b.2,c.2⟩
  have GJ:i=L.length:=by
   obtain⟨h5,_⟩:=U16.1 hx;simp at h5;omega
  subst GJ;simp at hx;subst hx;have ng:¬Oh (so++[(0,0)]) L.length:=λ hq=>by
   unfold Oh at hq;rw[U1j,<-h.sl,U21 (U12 _),U3y]at hq;exact hq rfl
  have ob:∀k,own k=0/\k<w.heap.size->w2.heap[k]?=w.heap[k]?:=λ k hk=>cC k hk.2 (λ e=>by have:=hk.1;subst e;rw[h.oR]at this;omega) Ya
  refine⟨hs.k.of_block λ k e=>ob k (hs.ok k e),hs.s.of_block λ k e=>ob k (hs.os k e),hs.u.of_block λ k e=>ob k (hs.ou k e),λ g8=>absurd g8 ng,λ g8=>absurd g8 ng,λ g8=>absurd g8 ng,?_,?_,?_⟩;intro k e;simp only[e,U2i]
  intro k e;have a1:r.kv.ownBlock≠some k:=λ e2=>hs.ks k e2 e
  simp only[a1,e,U2i,U2c]
  intro k e;have a1:r.kv.ownBlock≠some k:=λ e2=>hs.ku k e2 e
  have a2:r.sv.ownBlock≠some k:=λ e2=>hs.su k e2 e
  simp only[a1,a2,e,U2i,U2c]
 intro k hk;rw[eM]
 split at hk;rename_i e;exact⟨(hs.k.lt k e).1,by have:=(hs.ok k e).2;omega⟩
 split at hk;rename_i e;exact⟨(hs.s.lt k e).1,by have:=(hs.os k e).2;omega⟩
 split at hk;rename_i e;exact⟨(hs.u.lt k e).1,by have:=(hs.ou k e).2;omega⟩
 exact J153;rw[U1c,U1c,h.sl];rfl
 have key:∀k,(if r.kv.ownBlock=some k then 4+3*L.length else if r.sv.ownBlock=some k then 5+3*L.length else if r.uv.ownBlock=some k then 6+3*L.length else if k=g then 3 else own k)≠0->(FV own k\/r.kv.ownBlock=some k\/r.sv.ownBlock=some k\/r.uv.ownBlock=some k)\/w.heap.size<=k:=by
  intro k hk
  split at hk;rename_i e;exact .inl (.inr (.inl e))
  split at hk;rename_i e;exact .inl (.inr (.inr (.inl e)))
  split at hk;rename_i e;exact .inl (.inr (.inr (.inr e)))
  exact J171
 refine⟨?_,?_,?_,Ya,?_,λ k hk=>key k hk⟩;rw[<-fj];exact hg.os.trans (Below.os g1);rw[<-fj];exact hg.tape.trans (Below.tape g1);rw[<-fj];exact hg.output.trans (Below.output g1)
 exact J176
 intro k hk
 replace hk:(if r.kv.ownBlock=some k then 4+3*L.length else if r.sv.ownBlock=some k then 5+3*L.length else if r.uv.ownBlock=some k then 6+3*L.length else if k=g then 3 else own k)≠0:=hk
 split at hk;rename_i e;exact .inr (.inl (.inl e))
 split at hk;rename_i e;exact .inr (.inl (.inr (.inl e)))
 split at hk;rename_i e;exact .inr (.inl (.inr (.inr e)))
 exact J180
def Vef(r:NdR):Prop:=(r.kv=.slice none 0 0/\r.nd.keys=[])/\(r.sv=.slice none 0 0/\r.nd.spots=[])/\(r.uv=.slice none 0 0/\r.nd.subs=[])
theorem GrV.turn{w w':World}{R B base:Nat}{s:ByteArray}{root:Int}{nv:Value}{L:List NdR}{own:Nat->Nat}{so so':List (Nat×Nat)}{x x':GrX}(h:GrV w R B base s root nv L own so x)(hl:so'.length=so.length)(hR:w'.heap[R]?=some (.cells #[nv,root,.string s,.map (some B),x'.sec,x'.dep,x'.many,x'.iv,x'.nsv] 69 (0,0)))(hm:∃D:V6b,w'.ownsMap prog 3 sortR B (so'.length+x'.many) D/\O33 D so')(hb:∀k,FV own k->k≠R->k≠B->w'.heap[k]?=w.heap[k]?)(hz:w.heap.size<=w'.heap.size)(cS:∀(i:Nat) r,L[i]?=some r->Oh so' i->Oh so i\/Vef r):GrV w' R B base s root nv L own so' x':=by
 have hk:∀k t,own k=t->3<=t->w'.heap[k]?=w.heap[k]?:=λ k t e h3=>hb k (by unfold FV;omega) (λ e2=>by subst e2;have:=h.oR;omega) (λ e2=>by subst e2;have:=h.oB;omega)
 refine⟨hR,h.oR,h.oB,O1 h.nodes λ k e=>hk k 3 (h.oN k e) Ya,h.oN,hm,λ i r hr=>?_,λ k h0=>⟨(h.lt k h0).1,U13 (h.lt k h0).2 hz⟩,by rw[hl,h.sl]⟩;have q:=h.rows i r hr;have a:∀k,r.kv.ownBlock=some k->w'.heap[k]?=w.heap[k]?:=λ k e=>hk k _ (q.tk k e) Ya
 have b:∀k,r.sv.ownBlock=some k->w'.heap[k]?=w.heap[k]?:=λ k e=>hk k _ (q.ts k e) Ya
 have c:∀k,r.uv.ownBlock=some k->w'.heap[k]?=w.heap[k]?:=λ k e=>hk k _ (q.tu k e) Ya
 refine⟨q.k.of_block a,q.s.of_block b,q.u.of_block c,λ g=>?_,λ g=>?_,λ g=>?_,q.tk,q.ts,q.tu⟩
 rcases cS i r hr g with g|⟨⟨e1,e2⟩,_⟩
 exact O1 (q.k8 g) a
 rw[e1,e2];exact Or _ _ _ _
 rcases cS i r hr g with g|⟨_,⟨e1,e2⟩,_⟩
 exact O1 (q.s8 g) b
 rw[e1,e2];exact Or _ _ _ _
 rcases cS i r hr g with g|⟨_,_,e1,e2⟩
 exact O1 (q.u8 g) c
 rw[e1,e2];exact Or _ _ _ _
theorem O33.put{D:V6b}{so so':List (Nat×Nat)}(h:O33 D so)(i:Nat)(t:Nat×Nat)(hi:so'.getD i (0,0)=t)(ho:∀j,j≠i->so'.getD j (0,0)=so.getD j (0,0)):O33 (D.put i (O2u t)) so' :=
 ⟨h.1.put _ _,λ j=>by
  by_cases hj:j=i;subst hj;rw[Maps.atKey_put_same (k:=.int .i64 (j:Int)) h.1 U3i,hi]
  rw[Maps.atKey_put_other (λ e=>hj (by simp only[Lit.int.injEq,true_and]at e;omega)),h.2 j,ho j hj]⟩
theorem Odi(w:World)(R B base:Nat)(s:ByteArray)(root:Int)(nv:Value)(L:List NdR)(own:Nat->Nat)(so:List (Nat×Nat))(x:GrX)(h:GrV w R B base s root nv L own so x)(hL:L.length<=30000000)(i:Nat)(r:NdR)(hr:L[i]?=some r)(h8:Oh so i)(jN:r.nd.keys.length<=30000000)(iM:r.nd.spots.length<=30000000)(tp:r.nd.subs.length<=30000000)(key:ByteArray)(a b n:Nat):Calls prog 62 #[.pointer (some ⟨R,0,none⟩),i,.string key,.agg #[a,b],n] w λ e w' => e=.returned (.tuple #[])/\O7x w w' R B base s root nv L own so x i (V12 r.nd (bs key) (a,b) n):=by
 have hi:i<L.length:=(U16.1 hr).1;obtain⟨g,cap,cur,rfl,px,aZ,dI,nY,ti,lj,il,ED,eF,jQ⟩:=h.form Ya;obtain⟨⟨c0,c1,c2,c3,c4,c5,c6⟩,c7,c8,fz⟩:=h.cells;obtain⟨n0,n1,n2,n3,n4,n5,n6,nf⟩:=h.ndCells rfl i r hr;have HC:Hid (Va4 w own g i r):=⟨aZ,dI,n2,n3,n4,nf⟩
 have hR:=h.R_lt;have bA:base<=w.heap.size:=Ya;have mQ:Hid (∀V kv sv uv,V24 w V base (FI own i) kv sv uv (r.nd.keys.length+1) (r.nd.spots.length+1) (r.nd.subs.length+1) (Oj r.nd.keys++[.string key]) (Oc r.nd.spots++[.int .i64 a,.int .i64 b]) (O8 r.nd.subs++[.int .i64 n]) ->
     O7x w (((V.setCell ⟨g,i*7+2,none⟩ kv).setCell ⟨g,i*7+3,none⟩ sv).setCell ⟨g,i*7+4,none⟩ uv) R B base s root (.slice g L.length cap) L own so x i (V12 r.nd (bs key) (a,b) n)):=by
  intro V kv sv uv H;refine h.putDone i r hr (V12 r.nd (bs key) (a,b) n) rfl rfl rfl ?_;exact J60
 refine Z100 ?_;intro bv iK k1 k2 k3 k4 iS s1 s2 s3 s4 iU u1 u2 u3 u4 fH dX cQ nQ eY;clear h8 k1 k2 k3 k4 s1 s2 s3 s4 u1 u2 u3 u4 fz h lj il jQ hr n0 n1 n2 n3 n4 n5 n6 nf;go_enter func62,ntmps62;exact J191
end
section
open Pl Go.Proofs.Tryz Go.RowKit Go.Shelf Go.Joins
attribute [local go_sem] U28
def O2y:V8l->Value
 |.yes i => .int .i64 i
 |_ => .int .i64 (-1)
theorem Odd(w:World)(R B base:Nat)(s:ByteArray)(root:Int)(nv:Value)(L:List NdR)(own:Nat->Nat)(so:List (Nat×Nat))(x:GrX)(h:GrV w R B base s root nv L own so x)(i:Nat)(key:ByteArray)(X:V8l)(hX:V16 (L.map (·.nd)) i (bs key)=X)(a8:X≠.non):Calls prog 115 #[.pointer (some ⟨R,0,none⟩),i,.string key] w λ e w'=>e=.returned (O2y X)/\w=w':=by
 unfold V16 at hX;rw[U1m]at hX;cases hr:L[i]? with
 |none=>rw[hr]at hX;exact absurd hX.symm a8
 |some r =>
 rw[hr]at hX;simp only[U29]at hX;have hi:i<L.length:=(U16.1 hr).1;obtain⟨g,cap,cur,rfl,px,aZ,dI,nY,ti,lj,il,ED,eF,jQ⟩:=h.form Ya;obtain⟨⟨c0,c1,c2,c3,c4,c5,c6⟩,c7,c8,fz⟩:=h.cells;obtain⟨n0,n1,n2,n3,n4,n5,n6,nf⟩:=h.ndCells rfl i r hr;refine Z139 ?_;intro nQ eY;have hx:=h.rows i r hr;have HI:Hid (Calls prog 146 #[r.kv,.string key] w λ e w'=>e=.returned (.int .i64 (match r.nd.keys.findIdx? (λ k=>k==bs key) with|none => -1|some j=>(j:Int)))/\w=w'):=by
  refine Z215 ?_;intro du;by_cases hn:0<r.nd.keys.length;obtain⟨b,c,hv,rX,eF⟩:=hx.k.form hn;have bN:=hx.k.cells (g:=b) (by rw[hv];rfl);exact J135
  have h0:r.nd.keys=[]:=U2p Ya;obtain⟨a,c,hv⟩:∃a c,r.kv=.slice a 0 c:=by
   rcases Ou hx.k with⟨e,_⟩|⟨g',c',e,_,_⟩
   exact⟨none,0,e⟩
   exact⟨some ⟨g',0,none⟩,c',by rw[e,h0];rfl⟩
  exact J185
 cases hf:r.nd.keys.findIdx? (λ k=>k==bs key) with
 |none =>
  rw[hf]at hX HI;subst hX;clear hf hx h a8 c1 c2 c3 c4 c5 c6 c7 c8 fz n0 n1 n3 n4 n5 n6 nf lj jQ il;go_enter func115,ntmps115;go_wp2_with fail;refine HI.o.mono ?_;refine Z44 ?_;go_wp2_with fail;exact U11 (v:=.int .i64 (-1)) (by simp[results,results115,go_sem]) rfl ⟨rfl,rfl⟩
 |some j =>
  rw[hf]at hX HI;simp only at hX HI;cases hu:r.nd.subs[j]? with
  |none=>rw[hu]at hX;exact absurd hX.symm a8
  |some u =>
  rw[hu]at hX;simp only at hX
  split at hX
  ·subst hX;have hj:j<r.nd.subs.length:=(U16.1 hu).1;obtain⟨b,c,hv,rX,eF⟩:=hx.u.form Ya;have bN:=hx.u.cells (g:=b) (by rw[hv];rfl) j u (by simp[O8,hu]);rw[hv]at n4;refine Z252 ?_;intro He;have pT:(j:Int)<(r.nd.subs.length:Int):=by omega
   have Qj:decide ((j:Int)<0)=false:=Yb;clear hf hx h a8 c1 c2 c3 c4 c5 c6 c7 c8 fz n0 n1 n3 n5 n6 nf lj jQ il hu;go_enter func115,ntmps115;go_wp2_with fail;refine HI.o.mono ?_;refine Z44 ?_;go_wp2_with fail;exact U11 (v:=.int .i64 u) (by simp[results,results115,go_sem]) rfl ⟨rfl,rfl⟩
  exact absurd hX.symm a8
def Of(k:Nat):NdR:=⟨V1r k,.slice none 0 0,.slice none 0 0,.slice none 0 0⟩
theorem Ojb(k:Nat):Vef (Of k):=⟨⟨rfl,rfl⟩,⟨rfl,rfl⟩,rfl,rfl⟩
theorem Obc(w:World)(base:Nat)(own:Nat->Nat)(k:Nat):V87 w base own (Of k) :=
 ⟨O16 (Or _ _ _ _),O16 (Or _ _ _ _),O16 (Or _ _ _ _),λ _ e=>by (simp[Of,Value.ownBlock]at e),λ _ e=>by (simp[Of,Value.ownBlock]at e),λ _ e=>by (simp[Of,Value.ownBlock]at e),
  λ _ e=>by (simp[Of,Value.ownBlock]at e),λ _ e=>by (simp[Of,Value.ownBlock]at e),λ _ e=>by (simp[Of,Value.ownBlock]at e)⟩
def Ode(w w2:World)(R B base:Nat)(s:ByteArray)(root:Int)(L:List NdR)(own:Nat->Nat)(so:List (Nat×Nat))(x:GrX)(k:Nat)(t:Nat×Nat):Prop :=
 ∃nv' own',GrV w2 R B base s root nv' (L++[Of k]) own' (so++[t]) x/\St (FV own) (FV own') w w2/\(∀k,own' k≠0->own k≠0\/w.heap.size<=k)
structure Vc0(R B b:Nat)(nv:Value)(t:Nat×Nat)(w:World):Prop where
 c0:w.cell? R=some nv
 c3:w.cell? ⟨R,3,none⟩=some (.map (some B))
 t0:w.cell? b=some (.int .u8 t.1)
 t1:w.cell? ⟨b,1,none⟩=some (.int .i64 t.2)
theorem GrV.grown{w W w1 w3:World}{R B base:Nat}{s:ByteArray}{root:Int}{nv:Value}{L:List NdR}{own:Nat->Nat}{so:List (Nat×Nat)}{x:GrX}(h:GrV w R B base s root nv L own so x)(g1:Gr w W)(k:Nat)(t:Nat×Nat)(g cap:Nat)(bZ:w1.ownsRow base 40 7 (.slice g (L.length+1) cap) (L.length+1) (V3a L++ndV (Of k)))(hg:W.grownBy w1 nv.ownBlock)(cR:nv.ownBlock=some g\/g=W.heap.size)(aa:g<w1.heap.size){D:V6b}(hD:O33 D so)(hm:w3.ownsMap prog 3 sortR B (so.length+x.many+1) (D.put L.length (O2u t)))(h3:((w1.setCell R (.slice g (L.length+1) cap)).drew).grownBy w3 (some B)):Ode w w3 R B base s root L own so x k t:=by
 obtain⟨own',h2,a9,bB⟩:=h.appended g1 (Of k) (Obc _ _ _ _) g cap bZ hg cR aa;obtain⟨w2,fj⟩:=ExZ (w1.setCell R (.slice g (L.length+1) cap))
 rw[fj]at h2 a9 h3;have hb:∀k,k<w2.heap.size->k≠B->w3.heap[k]?=w2.heap[k]?:=λ k hk a8=>h3.block k hk (λ e=>a8 (U2u e))
 have sU:=h2.oB;refine⟨_,own',h2.turn (so':=so++[t]) (x':=x) Yb ?_ ⟨_,?_,hD.put L.length t ?_ ?_⟩ (λ k hk _ a8=>hb k (h2.lt k hk).2 a8) h3.size (λ i r hr hq=>?_),?_,λ k hk=>?_⟩;rw[hb R h2.R_lt.2 (λ e=>by have h1:=h2.oR;rw[e,sU]at h1;omega)];exact h2.blk;rw[U1c,U25,show so.length+1+x.many=so.length+x.many+1 by omega];exact hm;rw[U1j,<-h.sl,U21 (U12 _),U3y];rfl
 intro j hj;rw[U1j,U1j,U3r]
 split;rfl
 rename_i aa
 rw[U2t (l:=[t]) (by rw[<-h.sl]at hj;simp;omega),U2t (l:=so) Ya]
 by_cases hi:i=L.length;right;subst hi;rw[U21 (U12 _),U3y]at hr;simp at hr;subst hr;exact Ojb k
 left;have dO:i<L.length:=by have:=(U16.1 hr).1;simp at this;omega
 unfold Oh at hq⊢;rw[U1j,U1d (by rw[h.sl];exact dO)]at hq;rw[U1j,U1d (by rw[h.sl];exact dO)];exact hq
 have cv:∀k',(FV own k'\/(Of k).kv.ownBlock=some k'\/(Of k).sv.ownBlock=some k'\/(Of k).uv.ownBlock=some k')->FV own k':=λ k' hk=>by
  rcases hk with hk|hk|hk|hk
  exact hk;simp[Of,Value.ownBlock]at hk;simp[Of,Value.ownBlock]at hk
  simp[Of,Value.ownBlock]at hk
 have aM:St (FV own) (FV own') w w2:=⟨a9.os,a9.tape,a9.output,a9.size,λ k' hk hn=>a9.block k' hk (λ e=>hn (cv k' e)),λ k' hk=>(a9.own k' hk).imp (cv k') id⟩
 exact aM.drew.grown h3 (λ k e=>by cases e;exact .inl (by unfold FV;rw[h.oB];omega))
 rcases bB k hk with e|e|e
 exact .inl e;exfalso;simp[Of,Value.ownBlock]at e
 exact .inr e
theorem Ogs(W:World)(L:List Value)(t:TypeId)(n:Nat)(hn:n=W.heap.size):∀(j:Nat) u,L[j]?=some u->(W.alloc (.cells L.toArray t)).cell? ((⟨n,0,none⟩:Addr).add j)=some u:=by
 exact J187
theorem O74(w:World)(R B base:Nat)(s:ByteArray)(root:Int)(nv:Value)(L:List NdR)(own:Nat->Nat)(so:List (Nat×Nat))(x:GrX)(h:GrV w R B base s root nv L own so x)(hL:L.length<=30000000)(hm:x.many<=30000000)(k:Nat)(t:Nat×Nat):Calls prog 36 #[.pointer (some ⟨R,0,none⟩),.int .u8 k,.agg #[.int .u8 t.1,t.2]] w λ e w'=>e=.returned L.length/\Ode w w' R B base s root L own so x k t:=by
 obtain⟨iN,hi,dL,ax,aL⟩:=U3u Ocu;obtain⟨⟨c0,c1,c2,c3,c4,c5,c6⟩,c7,c8,fz⟩:=h.cells;have A8:=fz 0;have hR:=h.R_lt;have bA:base<=w.heap.size:=Ya;have a8:some R≠nv.ownBlock:=O30 h.oN (by rw[h.oR];omega);obtain⟨D,vx,rV⟩:=h.map;have H:=U10 h;have HI:=U10 (And.intro hi (And.intro dL (And.intro ax aL)));have Rg:=U10 vx;have Rh:=U10 rV;have nw:=h.sl;have HB:=U10 (And.intro h.B_lt.2 (show B≠R from λ e=>by have h1:=h.oR;rw[<-e,h.oB]at h1;omega));have Ri:=U10 (show some B≠nv.ownBlock from O30 h.oN (by rw[h.oB];omega));clear fz hi dL ax aL h vx rV c1 c2 c4 c5 c6 c7 c8;go_enter func36,ntmps36
 go_upto_region 1 with fail
 obtain⟨W,hW⟩:=ExZ (w.alloc (.cells #[.int .u8 t.1,t.2] 94))
 have gW:Gr w W:=by rw[<-hW];exact (Gr.refl w).alloc _
 have Au:W.heap[w.heap.size]?=some (.cells #[.int .u8 t.1,t.2] 94 (0,0)):=by rw[<-hW];exact U1z w _
 have b0:W.cell? w=some (.int .u8 t.1):=by rw[cell_of_block Au];rfl
 have b1:W.cell? ⟨w,1,none⟩=some (.int .i64 t.2):=by rw[cell_of_block Au];rfl
 have aO:w.heap.size<W.heap.size:=(U1a.1 Au).1;have e0:W.cell? R=some nv:=(gW.use.1 R 0 hR.2).trans c0;have e1:W.frozen? R=false:=(gW.use.2.1 R 0 hR.2).trans A8;have e3:W.cell? ⟨R,3,none⟩=some (.map (some B)):=(gW.use.1 R 3 hR.2).trans c3;have A9:R<W.heap.size:=U13 hR.2 gW.size;have Pv:base<=W.heap.size:=U1k bA gW.size;have EA:=U10 (O1 H.o.nodes λ k e=>gW.block (H.o.nodes.lt k e).2);have mL:=U10 gW
 try rw[hW]
 clear hW gW Au c0 c3 A8
 go_upto_region 2 with (at_builtin;refine U3z _ rfl (.tmp 12) (.tmp 16) 24 rfl base 40 iN (.agg #[.int .u8 0,.string ⟨#[]⟩,.slice none 0 0,.slice none 0 0,.slice none 0 0,(0:Int),(0:Int)]) 7 112 underlying24 HI.o.1 HI.o.2.1 HI.o.2.2.1 HI.o.2.2.2 rfl Yd _ L.length _ rfl (O1 EA.o λ k e=>((Gr.refl W).alloc _).block (EA.o.lt k e).2) ⟨_,0,none⟩ 1 1 [.int .u8 k,.string ⟨#[]⟩,.slice none 0 0,.slice none 0 0,.slice none 0 0,.int .i64 (-1),.int .i64 (-1)] rfl rfl (Ogs _ [.int .u8 k,.string ⟨#[]⟩,.slice none 0 0,.slice none 0 0,.slice none 0 0,.int .i64 (-1),.int .i64 (-1)] _ _ Yb) Yj Yd Yl Ya Ye _ rfl ?_;intro g cap w1 da fN fg ax;have f3:w1.frozen? R=false:=(fN.frozen_far ⟨R,0,none⟩ Ye a8).trans ((((Gr.refl W).alloc _).use.2.1 R 0 A9).trans e1);have f4:w1.cell? R=some nv:=(fN.cell_far ⟨R,0,none⟩ Ye a8).trans ((((Gr.refl W).alloc _).use.1 R 0 A9).trans e0))
 have l0:some w.heap.size≠nv.ownBlock:=λ e=>by have:=(H.o.nodes.lt _ e.symm).2;omega
 have Jj:∀b,b<W.heap.size->b≠R->some b≠nv.ownBlock->∀j,(w1.setCell R (.slice g (L.length+1) cap)).cell? ⟨b,j,none⟩=W.cell? ⟨b,j,none⟩:=λ b hb Hs Rj j=>by
  rw[U1p _ _ _ _ Yf];exact (fN.cell_far ⟨b,j,none⟩ Ye Rj).trans (((Gr.refl W).alloc _).use.1 b j hb)
 have bh:Vc0 R B w.heap.size (.slice g (L.length+1) cap) t (w1.setCell R (.slice g (L.length+1) cap)).drew :=
  ⟨U2v _ _ _ (by rw[f4];rfl),by
   show (w1.setCell R _).cell? ⟨R,3,none⟩=_;rw[U1p _ _ _ _ Yb];exact (fN.cell_far ⟨R,3,none⟩ Ye a8).trans ((((Gr.refl W).alloc _).use.1 R 3 A9).trans e3),(Jj _ aO Ya l0 0).trans b0,(Jj _ aO Ya l0 1).trans b1⟩
 have jw:(w1.setCell R (.slice g (L.length+1) cap)).drew.ownsMap prog 3 sortR B (so.length+x.many) D:=Oe Rg.o (by
  show (w1.setCell R _).heap[B]?=_;have Au:B<W.heap.size:=U13 HB.o.1 mL.o.size;rw[U14 _ _ _ _ (by simpa using HB.o.2),fN.block B Ye (λ e=>Ri.o e),((Gr.refl W).alloc _).block Au,mL.o.block HB.o.1])
 obtain⟨w3,yE,tx,dN⟩:=jw.update (Maps.int_keyed underlying3) underlying65 Yl (key:=.int .i64 (L.length:Int)) (kl:=.int .i64 (L.length:Int)) (U4k underlying3 (by simp[Lit.wf,IntKind.min,IntKind.max,IntKind.signed,IntKind.bits];omega)) (O7w t);have mQ:=U10 (H.o.grown (mL.o.alloc (.cells #[.int .u8 k,.string ⟨#[]⟩,.slice none 0 0,.slice none 0 0,.slice none 0 0,.int .i64 (-1),.int .i64 (-1)] 40)) k t g cap da fN fg ax Rh.o tx dN);have lU:w3.cell? R=some (.slice g (L.length+1) cap):=by
  have aR:w3.heap[R]?=((w1.setCell R (.slice g (L.length+1) cap)).drew).heap[R]?:=dN.block R (by have:=((Gr.refl W).alloc (.cells #[.int .u8 k,.string ⟨#[]⟩,.slice none 0 0,.slice none 0 0,.slice none 0 0,.int .i64 (-1),.int .i64 (-1)] 40)).size;have:=fN.size;simp[World.setCell];omega) (λ e=>HB.o.2 (U2u e).symm);exact (U1r (a:=R) aR).trans bh.c0
 have wk:IntKind.i64.wrap (((L.length+1:Nat):Int)-1)=(L.length:Int):=by rw[U1i _ ⟨Ya,Ya⟩];omega
 have UH:IntKind.i64.wrap ((L.length:Int)+1-1)=(L.length:Int):=by rw[U1i _ ⟨Ya,Ya⟩];omega
 have UI:IntKind.i64.wrap (L.length:Int)=(L.length:Int):=U1i _ ⟨Ya,Ya⟩;unfold O27 at yE;clear da fN fg ax jw tx dN Jj f3 f4 b0 b1 e0 e1 e3;refine Reg.begin' (W:=λ i=>i != 12) (S:=Vc0 R B w.heap.size (.slice g (L.length+1) cap) t) Yc ?_;refine Z31 ?_;refine Reg.tl 3 bh ?_ (hy:=by intro w ab;obtain⟨c0,c3,t0,t1⟩:=ab;go_simp;try with_reducible rfl);refine Z82 ?_;refine Reg.ty 7 ?_;refine Reg.tl 8 bh ?_ (hy:=by intro w ab;obtain⟨c0,c3,t0,t1⟩:=ab;go_simp;try with_reducible rfl);refine Reg.ty 9 ?_;refine Reg.ty 10 ?_;refine Reg.tl 11 bh ?_ (hy:=by intro w ab;obtain⟨c0,c3,t0,t1⟩:=ab;go_simp;try with_reducible rfl);refine Reg.on 12 ?_;go_simp;refine Z12 ?_;go_wp2_with fail;exact U11 (v:=.int .i64 L.length) (by simp[results,results36,go_sem]) rfl ⟨rfl,mQ.o⟩
def O1q(X:Pl.Ov)(e:Ending):Prop:=match X with
 |.non=>True
 |.go n d=>e=.returned (.tuple #[.agg #[n,d],.bool true])
 |.no=>∃n d:Int,e=.returned (.tuple #[.agg #[n,d],.bool false])
structure GM(w:World)(R B base:Nat)(s:ByteArray)(nv:Value)(L:List NdR)(own:Nat->Nat)(x:GrX)(g:Vc):Prop where
 v:GrV w R B base s 0 nv L own g.srt x
 nd:L.map (·.nd)=g.nds
 sec:x.sec=g.sec
 dep:x.dep=g.dep
 many:x.many=g.many
theorem GM.gr{w w':World}{R B base:Nat}{s:ByteArray}{nv:Value}{L:List NdR}{own:Nat->Nat}{x:GrX}{g:Vc}(h:GM w R B base s nv L own x g)(q:Gr w w'):GM w' R B base s nv L own x g :=
 ⟨h.v.gr q,h.nd,h.sec,h.dep,h.many⟩
structure Veg(b r gu m:Nat)(an d l:Nat)(w:World):Prop where
 c:w.cell? ⟨gu,m,none⟩=some (.int .i64 l)
 p:FX b an d w
 r:FX r (0:Int) (0:Int) w
theorem Opj(w:World)(R B base:Nat)(s:ByteArray)(nv:Value)(L:List NdR)(own:Nat->Nat)(x:GrX)(g:Vc)(h:GM w R B base s nv L own x g)(an d i:Nat)(hi:i<L.length)(hL:L.length<=30000000)(hd:d<=1000000000)(X:Pl.Ov)(hX:V39 g d i=X)(a8:X≠.non):Calls prog 114 #[.pointer (some ⟨R,0,none⟩),.agg #[an,d],i] w λ e w'=>O1q X e/\Gr w w':=by
 refine Z115 ?_;intro c0 c1 c2 c3 c4 c5 c6 c7 c8 fz hR sh sof cz hs mK;have H:=U10 h;have HX:=U10 hX;have HS:=U10 hs;clear h hX hs cz fz c1 c2 c4 c5 c6 c7 c8;go_enter func114,ntmps114
 go_upto_region 1 with fail
 obtain⟨W,hW⟩:=ExZ ((w.alloc (.cells #[an,d] 67)).alloc (.cells #[(0:Int),(0:Int)] 67))
 have gW:Gr w W:=by rw[<-hW];exact ((Gr.refl w).alloc _).alloc _
 have mo:FX w an d W:=by rw[<-hW];exact (FX.new w _ _ 67).gr ((Gr.refl _).alloc _)
 refine Z263 ?_;intro fI;have e0:W.cell? R=some nv:=(gW.use.1 R 0 hR.2).trans c0;have e3:W.cell? ⟨R,3,none⟩=some (.map (some B)):=(gW.use.1 R 3 hR.2).trans c3;have qM:(Instr.lookup 65 (.map (some B)) i false).run prog W=.ok (.agg #[.int .u8 sh,sof]) W:=mK.o W gW;obtain⟨p0,p1,pf,pl⟩:=mo;obtain⟨r0,r1,rf,rl⟩:=fI;have HG:=U10 gW;have bW:R<W.heap.size:=U13 hR.2 gW.size
 try rw[hW]
 clear hW gW c0 c3;by_cases h0:sh=0
 ·have s0:((sh:Int)==0)=true:=by simp;omega
  have Jk:X=.no:=by rw[<-HX.o];unfold V39;rw[HS.o,U18 h0]
  subst Jk;go_wp2_with fail;obtain⟨WF,am⟩:=ExZ (((W.setCell (w.heap.size+1:Nat) (0:Int)).setCell ⟨w+1,1,none⟩ (0:Int)))
  have hF:FX (w.heap.size+1) (0:Int) (0:Int) WF:=by rw[<-am];exact FX.set ⟨r0,r1,rf,rl⟩ _ _
  have gF:Gr w WF:=by rw[<-am];exact (HG.o.setCell (p:=⟨w+1,0,none⟩) (U2x _) _).setCell (p:=⟨w+1,1,none⟩) (U2x _) _
  rw[am];clear am;obtain⟨q0,q1,qf,ql⟩:=hF.gr ((Gr.refl WF).alloc (.cells #[.int .u8 0,sof] 94));have gE:=gF.alloc (.cells #[.int .u8 0,sof] 94);exact U11 (v:=.tuple #[.agg #[(0:Int),(0:Int)],.bool false]) (by simp[results,results114,go_sem,q0,q1,qf,ql]) rfl ⟨⟨0,0,rfl⟩,gE⟩
 have s0:((sh:Int)==0)=false:=Ye
 by_cases h4:sh=4
 ·have s4:((sh:Int)==4)=true:=by simp;omega
  obtain⟨r,hr⟩:∃r,L[i]?=some r:=⟨_,U1h hi⟩
  have bT:g.nds[i]?=some r.nd:=by rw[<-H.o.nd,U1m,hr];rfl
  have ag:=HX.o;unfold V39 at ag;rw[HS.o,U1b h0,U18 h4,bT]at ag;simp only at ag;cases hl:r.nd.subs.getLast? with
  |none=>rw[hl]at ag;exact absurd ag.symm a8
  |some l =>
   rw[hl]at ag;simp only at ag;subst ag;obtain⟨gn,cap,cur,yF,_,aZ,_⟩:=H.o.v.form Ya;obtain⟨_,_,_,_,n4,_⟩:=H.o.v.ndCells yF i r hr;have iJ:0<r.nd.subs.length:=by
    cases hs:r.nd.subs with
    |nil=>rw[hs]at hl;cases hl
    |cons=>simp
   have tp:=(H.o.v.rows i r hr).u;obtain⟨gu,cu,lW,rX,eF⟩:=tp.form iJ;have Fl:r.nd.subs[r.nd.subs.length-1]?=some l:=by rw[<-U3m];exact hl
   have bN:=tp.cells (g:=gu) (by rw[lW];rfl) (r.nd.subs.length-1) l (by simp[O8,Fl]);have Jl:=(tp.lt gu (by rw[lW];rfl)).2;rw[lW]at n4;have N4:=(HG.o.use.1 _ _ aZ).trans n4;have Rl:gn<W.heap.size:=U13 aZ HG.o.size;have Jm:gu<W.heap.size:=U13 Jl HG.o.size;have CL:=(HG.o.use.1 _ _ Jl).trans bN;obtain⟨m,hm⟩:∃m,r.nd.subs.length=m+1:=⟨r.nd.subs.length-1,Ya⟩
   rw[hm]at N4 CL rX;simp only[Nat.add_sub_cancel]at CL;refine Z139 ?_;intro j1 j2;have j3:(0:Int)<=(m:Int):=Ya
   have j4:(m:Int)<((m+1:Nat):Int):=Ya;have j5:(m:Int)<(m:Int)+1:=Ya;have Rm:m<9223372036854775807:=by unfold maxLen at eF;omega
   have wm:IntKind.i64.wrap (m:Int)=(m:Int):=U1i _ ⟨Ya,Ya⟩;have Rn:IntKind.i64.wrap (((m+1:Nat):Int)-1)=(m:Int):=by rw[U1i _ ⟨Ya,Ya⟩];omega
   have Ro:IntKind.i64.wrap ((d:Int)+2)=(d:Int)+2:=U1i _ ⟨Ya,Ya⟩;subst yF;clear bT hl Fl iJ tp lW bN n4 aZ Jl hr hm eF rX
   go_upto_region 7 with fail
   obtain⟨W9,zS⟩:=ExZ (W.alloc (.cells #[.int .u8 4,sof] 94))
   have g9:Gr W W9:=by rw[<-zS];exact (Gr.refl W).alloc _
   have hS:Veg w.heap.size (w.heap.size+1) gu m an d l W9.drew :=
    ⟨(g9.drew.use.1 _ _ Jm).trans CL,FX.gr ⟨p0,p1,pf,pl⟩ g9.drew,FX.gr ⟨r0,r1,rf,rl⟩ g9.drew⟩
   obtain⟨xo,xp,xq,xr⟩:=FX.gr ⟨r0,r1,rf,rl⟩ g9;have CO:=U10 (HG.o.trans g9);rw[zS];clear zS g9 N4 CL p0 p1 pf pl r0 r1 rf rl e0 e3 qM;refine Reg.begin' (W:=λ i=>i != 10) (S:=Veg w.heap.size (w.heap.size+1) gu m an d l) Yc ?_;refine Z31 ?_;refine Z40 ?_;refine Reg.tl 5 hS ?_ (hy:=by intro w ab;obtain⟨s1,⟨s2,s3,s4,s5⟩,s6⟩:=ab;go_simp;try with_reducible rfl);refine Reg.ty 6 ?_;refine Reg.tl 7 hS ?_ (hy:=by intro w ab;obtain⟨s1,⟨s2,s3,s4,s5⟩,s6⟩:=ab;go_simp;try with_reducible rfl);refine Z316 ?_;refine Reg.on 10 ?_;go_simp;refine Z2 ?_;refine Reg.ty 11 ?_;refine Z12 ?_;go_wp2_with fail;obtain⟨WF,am⟩:=ExZ (((W9.setCell (w.heap.size+1:Nat) l).setCell ⟨w+1,1,none⟩ (.int .i64 ((d:Int)+2))))
   have hF:FX (w.heap.size+1) l (.int .i64 ((d:Int)+2)) WF:=by rw[<-am];exact FX.set ⟨xo,xp,xq,xr⟩ _ _
   have gF:Gr w WF:=by rw[<-am];exact (CO.o.setCell (p:=⟨w+1,0,none⟩) (U2x _) _).setCell (p:=⟨w+1,1,none⟩) (U2x _) _
   rw[am];obtain⟨q0,q1,qf,ql⟩:=hF.gr (Gr.refl WF).drew;have gE:=gF.drew;clear am hF gF xo xp xq xr hS;exact U11 (v:=.tuple #[.agg #[l,.int .i64 ((d:Int)+2)],.bool true]) (by simp[results,results114,go_sem,q0,q1,qf,ql]) rfl ⟨by simp[O1q],gE⟩
 have s4:((sh:Int)==4)=false:=Ye;have Jn:X=.go i (d+1):=by rw[<-HX.o];unfold V39;rw[HS.o,U1b h0,U1b h4]
 subst Jn;refine Z151 ?_;intro Jo;go_wp2_with fail;refine Z294 ?_;intro WF am;have hF:FX (w.heap.size+1) i (.int .i64 ((d:Int)+1)) WF:=by rw[<-am];exact FX.set ⟨r0,r1,rf,rl⟩ _ _
 have gF:Gr w WF:=by rw[<-am];exact (HG.o.setCell (p:=⟨w+1,0,none⟩) (U2x _) _).setCell (p:=⟨w+1,1,none⟩) (U2x _) _
 rw[am];clear am;obtain⟨q0,q1,qf,ql⟩:=hF.gr ((Gr.refl WF).alloc (.cells #[.int .u8 sh,sof] 94));have gE:=gF.alloc (.cells #[.int .u8 sh,sof] 94);exact U11 (v:=.tuple #[.agg #[i,.int .i64 ((d:Int)+1)],.bool true]) (by simp[results,results114,go_sem,q0,q1,qf,ql]) rfl ⟨by simp[O1q],gE⟩
structure Vcn(R B b:Nat)(i an d many sh sof:Nat)(w:World):Prop where
 c3:w.cell? ⟨R,3,none⟩=some (.map (some B))
 c6:w.cell? ⟨R,6,none⟩=some (.int .i64 many)
 p1:w.cell? ⟨b,1,none⟩=some (.int .i64 d)
 lk:(Instr.lookup 65 (.map (some B)) i false).run prog w=.ok (.agg #[.int .u8 sh,sof]) w
theorem Olu(w:World)(R B base:Nat)(s:ByteArray)(nv:Value)(L:List NdR)(own:Nat->Nat)(x:GrX)(g:Vc)(h:GM w R B base s nv L own x g)(an d i:Nat)(hi:i<L.length)(hL:L.length<=30000000)(hd:d<=1000000000):Calls prog 119 #[.pointer (some ⟨R,0,none⟩),.agg #[an,d],i] w λ e w'=>O1q (V1v g d i) e/\Gr w w':=by
 refine Z115 ?_;intro c0 c1 c2 c3 c4 c5 c6 c7 c8 fz hR sh sof cz hs mK;have HS:=U10 hs;rw[h.many]at c6;obtain⟨many,Jp⟩:=ExZ (g.many)
 rw[Jp]at c6;have Jq:=U10 Jp;clear h hs cz fz c0 c1 c2 c4 c5 c7 c8 Jp;refine Z151 ?_;intro Jo;go_enter func119,ntmps119
 go_upto_region 1 with fail
 obtain⟨W,hW⟩:=ExZ ((w.alloc (.cells #[an,d] 67)).alloc (.cells #[(0:Int),(0:Int)] 67))
 have gW:Gr w W:=by rw[<-hW];exact ((Gr.refl w).alloc _).alloc _
 have mo:FX w an d W:=by rw[<-hW];exact (FX.new w _ _ 67).gr ((Gr.refl _).alloc _)
 refine Z263 ?_;intro fI;have hS:Vcn R B w.heap.size i an d many sh sof W.drew :=
  ⟨(gW.drew.use.1 R 3 hR.2).trans c3,(gW.drew.use.1 R 6 hR.2).trans c6,mo.2.1,mK.o W.drew gW.drew⟩
 obtain⟨r0,r1,rf,rl⟩:=fI;have HG:=U10 gW
 try rw[hW]
 clear hW gW;refine Z294 ?_;intro WF am;have hF:FX (w.heap.size+1) i (.int .i64 ((d:Int)+1)) WF:=by rw[<-am];exact FX.set ⟨r0,r1,rf,rl⟩ _ _
 have gF:Gr w WF:=by rw[<-am];exact (HG.o.setCell (p:=⟨w+1,0,none⟩) (U2x _) _).setCell (p:=⟨w+1,1,none⟩) (U2x _) _
 have bi:Vcn R B w.heap.size i an d many sh sof WF.drew:=by
  have p1:WF.cell? ⟨w,1,none⟩=some (.int .i64 d):=by
   rw[<-am,U1p _ _ _ _ Yb,U1p _ _ _ _ Yb];exact mo.2.1
  exact⟨(gF.drew.use.1 R 3 hR.2).trans c3,(gF.drew.use.1 R 6 hR.2).trans c6,p1,mK.o WF.drew gF.drew⟩
 have HF:=U10 hF;have Av:=U10 gF;have kA:=U10 bi;have oE:=U10 am;clear c3 c6 mo hF gF bi am;have hb:(∃b,b=(((sh:Int)==3)&&((sof:Int)==(many:Int)))):=⟨_,rfl⟩
 obtain⟨bb,cn⟩:=hb;have gv:(((sh:Int)==3)=false/\bb=false)\/(((sh:Int)==3)=true/\((sof:Int)==(many:Int))=false/\bb=false)\/(((sh:Int)==3)=true/\((sof:Int)==(many:Int))=true/\bb=true):=by
  cases h1:((sh:Int)==3) <;> cases h2:((sof:Int)==(many:Int)) <;> rw[h1,h2]at cn <;> simp[cn]
 have Ad:=U10 cn;clear cn;rcases gv with⟨e1,rfl⟩|⟨e1,e2,rfl⟩|⟨e1,e2,rfl⟩
 all_goals
  refine Reg.begin' (W:=λ _=>true) (S:=Vcn R B w.heap.size i an d many sh sof) Yc ?_;refine Z325 ?_;refine Reg.ty 5 ?_;refine Z140 ?_;refine Reg.ty 13 ?_;refine Reg.tl 14 hS ?_ (hy:=by intro w ab;obtain⟨s1,s2,s3,s4⟩:=ab;go_simp;try with_reducible rfl);refine Reg.ty 15 ?_;refine Reg.ty 16 ?_;refine Z188 ?_;rw[oE.o];refine⟨by first|exact kA.o|exact λ _=>kA.o|exact λ _ _=>kA.o,?_⟩;refine Reg.pt ?_;refine Reg.ty 18 ?_;refine Z12 ?_;go_wp2_with fail;obtain⟨q0,q1,qf,ql⟩:=HF.o.gr (Gr.refl WF).drew;have gE:=Av.o.drew
 have hX:V1v g d i=.no:=by
  unfold V1v;rw[HS.o,Jq.o,U1b (λ h=>by cases h;simp at e1)]
 exact J156
 have hX:V1v g d i=.no:=by
  unfold V1v;rw[HS.o,Jq.o,U1b (λ h=>by cases h;simp at e2)]
 exact J156
 have hX:V1v g d i=.go i (d+1):=by
  unfold V1v;rw[HS.o,Jq.o,U18 (by rw[U19];exact⟨by have h:=eq_of_beq e1;omega,by have h:=eq_of_beq e2;omega⟩)]
 rw[hX];exact U11 (v:=.tuple #[.agg #[i,.int .i64 ((d:Int)+1)],.bool true]) (by simp[results,results119,go_sem,q0,q1,qf,ql]) rfl ⟨by simp[O1q],gE⟩
theorem fx5(w:World)(a0 b0 a1 b1 a2 b2 a3 b3 a4 b4:Value)(T0 T1 T2 T3 T4:TypeId):FX w a0 b0 (((((w.alloc (.cells #[a0,b0] T0)).alloc (.cells #[a1,b1] T1)).alloc (.cells #[a2,b2] T2)).alloc (.cells #[a3,b3] T3)).alloc (.cells #[a4,b4] T4))/\FX (w.heap.size+1) a1 b1 (((((w.alloc (.cells #[a0,b0] T0)).alloc (.cells #[a1,b1] T1)).alloc (.cells #[a2,b2] T2)).alloc (.cells #[a3,b3] T3)).alloc (.cells #[a4,b4] T4)) /\FX (w.heap.size+1+1) a2 b2 (((((w.alloc (.cells #[a0,b0] T0)).alloc (.cells #[a1,b1] T1)).alloc (.cells #[a2,b2] T2)).alloc (.cells #[a3,b3] T3)).alloc (.cells #[a4,b4] T4))/\FX (w.heap.size+1+1+1) a3 b3 (((((w.alloc (.cells #[a0,b0] T0)).alloc (.cells #[a1,b1] T1)).alloc (.cells #[a2,b2] T2)).alloc (.cells #[a3,b3] T3)).alloc (.cells #[a4,b4] T4)) /\FX (w.heap.size+1+1+1+1) a4 b4 (((((w.alloc (.cells #[a0,b0] T0)).alloc (.cells #[a1,b1] T1)).alloc (.cells #[a2,b2] T2)).alloc (.cells #[a3,b3] T3)).alloc (.cells #[a4,b4] T4))/\Gr w (((((w.alloc (.cells #[a0,b0] T0)).alloc (.cells #[a1,b1] T1)).alloc (.cells #[a2,b2] T2)).alloc (.cells #[a3,b3] T3)).alloc (.cells #[a4,b4] T4)) /\(((((w.alloc (.cells #[a0,b0] T0)).alloc (.cells #[a1,b1] T1)).alloc (.cells #[a2,b2] T2)).alloc (.cells #[a3,b3] T3)).alloc (.cells #[a4,b4] T4)).heap.size=w.heap.size+1+1+1+1+1:=by
 obtain⟨w1,h1⟩:=ExZ (w.alloc (.cells #[a0,b0] T0))
 obtain⟨w2,h2⟩:=ExZ (w1.alloc (.cells #[a1,b1] T1))
 obtain⟨w3,h3⟩:=ExZ (w2.alloc (.cells #[a2,b2] T2))
 obtain⟨w4,h4⟩:=ExZ (w3.alloc (.cells #[a3,b3] T3))
 obtain⟨w5,h5⟩:=ExZ (w4.alloc (.cells #[a4,b4] T4))
 rw[h1,h2,h3,h4,h5];have z1:w1.heap.size=w.heap.size+1:=by rw[<-h1];simp
 have z2:w2.heap.size=w.heap.size+1+1:=by rw[<-h2];simp[z1]
 have z3:w3.heap.size=w.heap.size+1+1+1:=by rw[<-h3];simp[z2]
 have z4:w4.heap.size=w.heap.size+1+1+1+1:=by rw[<-h4];simp[z3]
 have z5:w5.heap.size=w.heap.size+1+1+1+1+1:=by rw[<-h5];simp[z4]
 have g1:Gr w w1:=by rw[<-h1];exact (Gr.refl _).alloc _
 have g2:Gr w1 w2:=by rw[<-h2];exact (Gr.refl _).alloc _
 have g3:Gr w2 w3:=by rw[<-h3];exact (Gr.refl _).alloc _
 have g4:Gr w3 w4:=by rw[<-h4];exact (Gr.refl _).alloc _
 have g5:Gr w4 w5:=by rw[<-h5];exact (Gr.refl _).alloc _
 have f0:FX w a0 b0 w1:=by rw[<-h1];exact FX.new w _ _ _
 have f1:FX w1 a1 b1 w2:=by rw[<-h2];exact FX.new w1 _ _ _
 have f2:FX w2 a2 b2 w3:=by rw[<-h3];exact FX.new w2 _ _ _
 have f3:FX w3 a3 b3 w4:=by rw[<-h4];exact FX.new w3 _ _ _
 have f4:FX w4 a4 b4 w5:=by rw[<-h5];exact FX.new w4 _ _ _
 rw[z1]at f1;rw[z2]at f2;rw[z3]at f3;rw[z4]at f4;exact⟨f0.gr (g2.trans (g3.trans (g4.trans g5))),f1.gr (g3.trans (g4.trans g5)),f2.gr (g4.trans g5),f3.gr g5,f4,g1.trans (g2.trans (g3.trans (g4.trans g5))),z5⟩
def O4c(w:World)(R B base:Nat)(s:ByteArray)(own:Nat->Nat)(x:GrX)(X:Va (Nat×Nat×Vc))(e:Ending)(w':World):Prop:=match X with
 |.non=>True
 |.bad c p=>(∃n d:Int,e=.returned (.tuple #[.agg #[n,d],fv c p]))/\c≠0/\∃own',St (FV own) (FV own') w w'/\w'.cell? ⟨R,2,none⟩=some (.string s)/\(∀k,own' k≠0->own k≠0\/w.heap.size<=k)
 |.ok (n,d,g')=>e=.returned (.tuple #[.agg #[n,d],f0])/\∃nv' L' own',GM w' R B base s nv' L' own' x g'/\St (FV own) (FV own') w w'/\(∀k,own' k≠0->own k≠0\/w.heap.size<=k)
theorem fx2{w W:World}{b3 b4:Nat}{x3 y3 x4 y4:Value}(h3:FX b3 x3 y3 W)(h4:FX b4 x4 y4 W)(hn:b3≠b4)(g:Gr w W)(l3:w.heap.size<=b3)(l4:w.heap.size<=b4)(p q u v:Value):FX b3 p q ((((W.setCell b3 p).setCell ⟨b3,1,none⟩ q).setCell b4 u).setCell ⟨b4,1,none⟩ v) /\FX b4 u v ((((W.setCell b3 p).setCell ⟨b3,1,none⟩ q).setCell b4 u).setCell ⟨b4,1,none⟩ v) /\Gr w ((((W.setCell b3 p).setCell ⟨b3,1,none⟩ q).setCell b4 u).setCell ⟨b4,1,none⟩ v) :=
 ⟨((FX.set h3 _ _).other (U3p hn) _).other (U3p hn) _,FX.set ((FX.other h4 hn _).other hn _) _ _,
  (((g.setCell (p:=b3) l3 _).setCell (p:=⟨b3,1,none⟩) l3 _).setCell (p:=b4) l4 _).setCell (p:=⟨b4,1,none⟩) l4 _⟩
theorem V6q{w W:World}{F F':Nat->Prop}{b3 b4:Nat}{x3 y3 x4 y4:Value}(h3:FX b3 x3 y3 W)(h4:FX b4 x4 y4 W)(hn:b3≠b4)(g:St F F' w W)(l3:w.heap.size<=b3)(l4:w.heap.size<=b4)(p q u v:Value):FX b3 p q ((((W.setCell b3 p).setCell ⟨b3,1,none⟩ q).setCell b4 u).setCell ⟨b4,1,none⟩ v) /\FX b4 u v ((((W.setCell b3 p).setCell ⟨b3,1,none⟩ q).setCell b4 u).setCell ⟨b4,1,none⟩ v) /\St F F' w ((((W.setCell b3 p).setCell ⟨b3,1,none⟩ q).setCell b4 u).setCell ⟨b4,1,none⟩ v) /\(∀k,k≠b3->k≠b4->((((W.setCell b3 p).setCell ⟨b3,1,none⟩ q).setCell b4 u).setCell ⟨b4,1,none⟩ v).heap[k]?=W.heap[k]?) /\W.heap.size<=((((W.setCell b3 p).setCell ⟨b3,1,none⟩ q).setCell b4 u).setCell ⟨b4,1,none⟩ v).heap.size :=
 ⟨((FX.set h3 _ _).other (U3p hn) _).other (U3p hn) _,FX.set ((FX.other h4 hn _).other hn _) _ _,
  (((g.setCell (p:=b3) (.inr l3) _).setCell (p:=⟨b3,1,none⟩) (.inr l3) _).setCell (p:=b4) (.inr l4) _).setCell (p:=⟨b4,1,none⟩) (.inr l4) _,
  λ k k3 k4=>by rw[U14 _ _ _ _ k4,U14 _ _ _ _ k4,U14 _ _ _ _ k3,U14 _ _ _ _ k3],
  by simp[World.setCell]⟩
theorem O9w(L:List NdR)(an:Nat)(r:NdR)(hr:L[an]?=some r)(w:Pl.Bs)(sp:Nat×Nat)(n:Nat)(kv sv uv:Value):(L.set an ⟨V12 r.nd w sp n,kv,sv,uv⟩).map (·.nd)=Vj (L.map (·.nd)) an w sp n:=by
 unfold Vj;refine U46 λ k=>?_
 rw[U3s,U1m,U1m,U2n];have hl:an<L.length:=(U16.1 hr).1;by_cases hk:an=k;subst hk;simp[hl,hr];have h2:=(U16.1 hr).2;rw[h2]
 simp[hk]
theorem Ofh(fo:Nat)(tL:∀args w,(callFunc fo args).run prog w=.ok (.enter fo args) w)(p1 p2:Value)(over:Nat->Pl.Ov)(w:World)(R B base:Nat)(s:ByteArray)(nv:Value)(L:List NdR)(own:Nat->Nat)(x:GrX)(g:Vc)(h:GM w R B base s nv L own x g)(HO:∀W,Gr w W->∀i,i<L.length->over i≠.non->Calls prog fo #[i,p1,p2] W λ e W'=>O1q (over i) e/\Gr W W')(an d:Nat)(wd:ByteArray)(a b:Nat)(t:Nat×Nat)(hL:L.length<=20000001)(hm:x.many<=30000000)(hd:d<=1000000000)(X:Va (Nat×Nat×Vc))(hX:V1p g an d (bs wd) a b t over=X)(a8:X≠.non):Calls prog 117 #[.pointer (some ⟨R,0,none⟩),.agg #[an,d],.string wd,.agg #[a,b],.agg #[.int .u8 t.1,t.2],.func (.func fo) #[] #[p1,p2]] w (O4c w R B base s own x X):=by
 obtain⟨XS,nE⟩:=ExZ (V16 g.nds an (bs wd))
 have km:XS≠.non:=λ e=>by
  subst e;unfold V1p at hX;rw[nE]at hX;exact a8 hX.symm
 have lH:=U10 (λ W (q:Gr w W)=>Odd W R B base s 0 nv L own g.srt x (h.v.gr q) an wd XS (by rw[h.nd];exact nE) km);have Aw:w.heap.size<=w.heap.size+1+1+1:=Ya;have Ax:w.heap.size<=w.heap.size+1+1+1+1:=Ya;have H:=U10 h;have HX:=U10 hX;have CP:=U10 nE;have CQ:=U10 HO;clear h hX nE HO;go_enter func117,ntmps117
 go_upto_region 1 with fail
 obtain⟨W,hW⟩:=ExZ (((((w.alloc (.cells #[an,d] 67)).alloc (.cells #[a,b] 38)).alloc (.cells #[.int .u8 t.1,t.2] 94)).alloc (.cells #[(0:Int),(0:Int)] 67)).alloc (.cells #[(0:Int),(0:Int)] 29))
 obtain⟨iG,bz,ay,aR,dH,gW,LN⟩:FX w an d W/\FX (w.heap.size+1) a b W/\FX (w.heap.size+1+1) (.int .u8 t.1) t.2 W/\FX (w.heap.size+1+1+1) (0:Int) (0:Int) W/\FX (w.heap.size+1+1+1+1) (0:Int) (0:Int) W/\Gr w W/\W.heap.size=w.heap.size+1+1+1+1+1:=by
  rw[<-hW];exact fx5 w _ _ _ _ _ _ _ _ _ _ _ _ _ _ _
 try rw[hW]
 clear hW;have Ay:=U10 iG;have iF:=U10 bz;have kV:=U10 ay;have ii:=U10 aR;have pH:=U10 dH;have HG:=U10 gW;obtain⟨CR,CS,CT,CU⟩:=iG;clear bz ay aR dH gW;go_wp2_with fail;refine (lH.o W HG.o).mono ?_;refine Z44 ?_;cases XS with
 |non=>exact absurd rfl km
 |yes i =>
  have Jr:i<L.length:=by
   have h1:=CP.o;unfold V16 at h1
   split at h1;cases h1
   split at h1;cases h1
   split at h1;cases h1
   split at h1
   rename_i h2
   cases h1;rw[<-H.o.nd,U1n]at h2;exact h2
   cases h1
  have s0:((i:Int) != -1)=true:=Yb;have ag:=HX.o;unfold V1p at ag;rw[CP.o]at ag;simp only at ag;have CV:over i≠.non:=λ e=>by rw[e]at ag;exact a8 ag.symm
  dsimp only [O2y];go_wp2_with fail;refine (CQ.o W HG.o i Jr CV).mono ?_;cases bR:over i with
  |non=>exact absurd bR CV
  |go n d' =>
   rw[bR]at ag;simp only at ag;subst ag;rintro e w2 ⟨he,g2⟩;have qh:e=.returned (.tuple #[.agg #[.int .i64 n,d'],.bool true]):=he;subst qh;have dN:=HG.o.trans g2;obtain⟨r0,r1,rf,rl⟩:=ii.o.gr g2;obtain⟨k0,k1,kf,kl⟩:=pH.o.gr g2;have ja:=U10 dN;clear g2 dN CR CS CT CU;go_wp2_with fail;have cy:=fx2 ⟨r0,r1,rf,rl⟩ ⟨k0,k1,kf,kl⟩ Ya ja.o Aw Ax n d' (0:Int) (0:Int);obtain⟨WF,am⟩:=ExZ (((((w2.setCell (w.heap.size+1+1+1:Nat) n).setCell ⟨w+1+1+1,1,none⟩ d').setCell (w.heap.size+1+1+1+1:Nat) (0:Int)).setCell ⟨w+1+1+1+1,1,none⟩ (0:Int)))
   rw[am]at cy;rw[am];obtain⟨d5,cV,gF⟩:=cy;clear am;obtain⟨q0,q1,qf,ql⟩:=d5.gr ((Gr.refl WF).alloc (.cells #[n,d'] 67));obtain⟨y0,y1,yf,yl⟩:=cV.gr ((Gr.refl WF).alloc (.cells #[n,d'] 67));have gE:=gF.alloc (.cells #[n,d'] 67);exact U11 (v:=.tuple #[.agg #[n,d'],f0]) (by simp[results,results117,go_sem,q0,q1,qf,ql,y0,y1,yf,yl]) rfl ⟨rfl,_,_,_,H.o.gr gE,(St.refl (FV own) w).gr gE,λ k hk => .inl hk⟩
  |no =>
   rw[bR]at ag;simp only at ag;subst ag;rintro e w2 ⟨he,g2⟩;obtain⟨n,d',qh⟩:∃n d':Int,e=.returned (.tuple #[.agg #[n,d'],.bool false]):=he;subst qh;have dN:=HG.o.trans g2;clear CR CS CT CU
   go_upto_region 6 with fail
   obtain⟨W5,jz⟩:=ExZ (w2.alloc (.cells #[n,d'] 67))
   have g5:Gr w2 W5:=by rw[<-jz];exact (Gr.refl _).alloc _
   have fI:=iF.o.gr (g2.trans g5);have cE:=ii.o.gr (g2.trans g5);have qN:=pH.o.gr (g2.trans g5);have qO:=U10 (dN.trans g5);rw[jz];have hS:FX (w.heap.size+1) a b W5.drew:=fI.gr (Gr.refl W5).drew;clear jz g5 g2 dN;obtain⟨r0,r1,rf,rl⟩:=id cE;obtain⟨k0,k1,kf,kl⟩:=id qN;refine Z41 ?_;refine Z12 ?_;go_wp2_with fail;have cy:=fx2 cE qN Ya qO.o Aw Ax (0:Int) (0:Int) (5:Int) a;obtain⟨WF,am⟩:=ExZ (((((W5.setCell (w.heap.size+1+1+1:Nat) (0:Int)).setCell ⟨w+1+1+1,1,none⟩ (0:Int)).setCell (w.heap.size+1+1+1+1:Nat) (5:Int)).setCell ⟨w+1+1+1+1,1,none⟩ a))
   rw[am]at cy;rw[am];obtain⟨d5,cV,gF⟩:=cy;clear am;obtain⟨q0,q1,qf,ql⟩:=d5.gr (Gr.refl WF).drew;obtain⟨y0,y1,yf,yl⟩:=cV.gr (Gr.refl WF).drew;have gE:=gF.drew;have hR:=H.o.v.R_lt;exact U11 (v:=.tuple #[.agg #[(0:Int),(0:Int)],fv 5 a]) (by simp[results,results117,go_sem,q0,q1,qf,ql,y0,y1,yf,yl]) rfl ⟨⟨0,0,rfl⟩,Yd,_,(St.refl (FV own) w).gr gE,(gE.use.1 R 2 hR.2).trans H.o.v.cells.1.2.2.1,λ k hk => .inl hk⟩
 |no =>
  have s0:((-1:Int) != -1)=false:=Yb;have ag:=HX.o;unfold V1p at ag;rw[CP.o]at ag;simp only at ag;dsimp only [O2y];refine Z151 ?_;intro Jo;by_cases gQ:256<d+1
  ·have s2:decide ((256:Int)<(d:Int)+1)=true:=by simp;omega
   rw[U18 gQ]at ag;subst ag
   go_upto_region 8 with fail
   have fI:=iF.o;have cE:=ii.o;have qN:=pH.o;have qO:=HG;have hS:FX (w.heap.size+1) a b W.drew:=fI.gr (Gr.refl W).drew;clear CR CS CT CU;obtain⟨r0,r1,rf,rl⟩:=id cE;obtain⟨k0,k1,kf,kl⟩:=id qN;refine Z41 ?_;refine Z12 ?_;go_wp2_with fail;have cy:=fx2 cE qN Ya qO.o Aw Ax (0:Int) (0:Int) (4:Int) a;obtain⟨WF,am⟩:=ExZ (((((W.setCell (w.heap.size+1+1+1:Nat) (0:Int)).setCell ⟨w+1+1+1,1,none⟩ (0:Int)).setCell (w.heap.size+1+1+1+1:Nat) (4:Int)).setCell ⟨w+1+1+1+1,1,none⟩ a))
   rw[am]at cy;rw[am];obtain⟨d5,cV,gF⟩:=cy;clear am;obtain⟨q0,q1,qf,ql⟩:=d5.gr (Gr.refl WF).drew;obtain⟨y0,y1,yf,yl⟩:=cV.gr (Gr.refl WF).drew;have gE:=gF.drew;have hR:=H.o.v.R_lt;exact U11 (v:=.tuple #[.agg #[(0:Int),(0:Int)],fv 4 a]) (by simp[results,results117,go_sem,q0,q1,qf,ql,y0,y1,yf,yl]) rfl ⟨⟨0,0,rfl⟩,Yd,_,(St.refl (FV own) w).gr gE,(gE.use.1 R 2 hR.2).trans H.o.v.cells.1.2.2.1,λ k hk => .inl hk⟩
  have s2:decide ((256:Int)<(d:Int)+1)=false:=Ye;rw[U1b gQ]at ag;by_cases cS:(V2v g an&&Pl.room g.nds)=true
  ·rw[U18 cS]at ag;subst ag;rw[U1g]at cS;obtain⟨kL,aB⟩:=cS;unfold V2v at kL;rw[U1g]at kL;obtain⟨aX,eT⟩:=kL;have N1:=H.o.gr HG.o;have Fm:∀k,own k≠0->k<w.heap.size:=λ k hk=>(H.o.v.lt k hk).2
   obtain⟨t0,t1,tf,tl⟩:=kV.o;have N2:=U10 (show g.nds.length=L.length by rw[<-H.o.nd,U1n]);go_wp2_with fail;refine (O74 W R B base s 0 nv L own g.srt x N1.v Ya hm 8 t).mono ?_;rintro e w3 ⟨Bc,ki,aA,gY,ix,mp⟩;subst Bc;have n0:own w.heap.size=0:=U1e λ h=>by have:=Fm _ h;omega
   have n1:own (w.heap.size+1)=0:=U1e λ h=>by have:=Fm _ h;omega
   have n3:own (w.heap.size+1+1+1)=0:=U1e λ h=>by have:=Fm _ h;omega
   have n4:own (w.heap.size+1+1+1+1)=0:=U1e λ h=>by have:=Fm _ h;omega
   have m0:aA w.heap.size=0:=U1e λ h=>(mp _ h).elim (λ h=>h n0) (λ h=>by omega)
   have m3:aA (w.heap.size+1+1+1)=0:=U1e λ h=>(mp _ h).elim (λ h=>h n3) (λ h=>by omega)
   have m4:aA (w.heap.size+1+1+1+1)=0:=U1e λ h=>(mp _ h).elim (λ h=>h n4) (λ h=>by omega)
   have x0:=Ay.o.st ix (λ h=>h n0);have x1:=iF.o.st ix (λ h=>h n1);have x3:=ii.o.st ix (λ h=>h n3);have x4:=pH.o.st ix (λ h=>h n4);have X0:=U10 x0;have X3:=U10 x3;have X4:=U10 x4;obtain⟨Rp,Rq,Rr,Rs⟩:=x0;obtain⟨Rt,Ru,Rv,Rw⟩:=x1;clear x3 x4 CR CS CT CU t0 t1 tf tl;have fq:=aX;unfold Pl.kind8 at fq;rw[U1g,U1x]at fq;obtain⟨Fn,cT⟩:=fq;obtain⟨r,hr⟩:∃r,L[an]?=some r:=by
    cases hr:L[an]? with
    |some r=>exact⟨r,rfl⟩
    |none =>
     rw[<-H.o.nd,U1m,hr]at cT;cases cT
   have vt:g.nds[an]?=some r.nd:=by rw[<-H.o.nd,U1m,hr];rfl
   rw[vt]at cT;simp only[U1g,U1x]at cT;obtain⟨⟨⟨_,ah⟩,aE⟩,kC⟩:=cT;have CW:an<L.length:=(U16.1 hr).1;have aS:(L++[Of 8])[an]?=some r:=by rw[U1d CW];exact hr
   have nw:g.srt.length=L.length:=H.o.v.sl;have cx:Oh (g.srt++[t]) an:=by
    have h1:(g.srt++[t]).getD an (0,0)=g.srt.getD an (0,0):=by
     exact J80
    unfold Oh;rw[h1];intro h2;unfold Vf at eT;rw[h2]at eT;cases eT
   have nG:=U10 (Odi w3 R B base s 0 ki (L++[Of 8]) aA (g.srt++[t]) x gY (by rw[U1c];simp only[U25];omega) an r aS cx ah aE kC wd a b L.length);have jk:=U10 ix;have yG:=U10 mp;clear aS cx vt eT aX gY ix mp ah aE kC Fn N1;go_wp2_with fail;refine nG.o.mono ?_;rintro e w4 ⟨Rx,ac,kv,sv,uv,iX,dP,sm⟩;subst Rx;have y0:=X0.o.st dP (λ h=>h m0);have y3:=X3.o.st dP (λ h=>h m3);have y4:=X4.o.st dP (λ h=>h m4);obtain⟨CR,CS,CT,CU⟩:=y0;have Y3:=U10 y3;have Y4:=U10 y4;obtain⟨r0,r1,rf,rl⟩:=y3;obtain⟨k0,k1,kf,kl⟩:=y4;go_wp2_with fail;have cy:=V6q Y3.o Y4.o Ya ((HG.o.st).trans (jk.o.trans dP)) Aw Ax L.length (.int .i64 ((d:Int)+1)) (0:Int) (0:Int);obtain⟨WF,am⟩:=ExZ (((((w4.setCell (w.heap.size+1+1+1:Nat) L.length).setCell ⟨w+1+1+1,1,none⟩ (.int .i64 ((d:Int)+1))).setCell (w.heap.size+1+1+1+1:Nat) (0:Int)).setCell ⟨w+1+1+1+1,1,none⟩ (0:Int)))
   rw[am]at cy;rw[am];obtain⟨d5,cV,sF,bF,zF⟩:=cy;clear am;obtain⟨q0,q1,qf,ql⟩:=d5;obtain⟨y0,y1,yf,yl⟩:=cV;have z3:ac (w.heap.size+1+1+1)=0:=U1e λ h=>(sm _ h).elim (λ h=>h m3) (λ h=>by have:=X3.o.2.2.2;omega)
   have z4:ac (w.heap.size+1+1+1+1)=0:=U1e λ h=>(sm _ h).elim (λ h=>h m4) (λ h=>by have:=X4.o.2.2.2;omega)
   have vQ:=iX.kept (w':=WF) (λ k hk=>bF k (λ e=>hk (by rw[e];exact z3)) (λ e=>hk (by rw[e];exact z4))) zF;have bM:=jk.o.size;have Ry:GM WF R B base s ki ((L++[Of 8]).set an ⟨V12 r.nd (bs wd) (a,b) L.length,kv,sv,uv⟩) ac x (V2s (V2j g 8 t) an (bs wd) (a,b) g.nds.length):=by
    refine⟨vQ,?_,H.o.sec,H.o.dep,H.o.many⟩;rw[O9w _ an r (by rw[U1d CW];exact hr),N2.o,U2o,H.o.nd];rfl
   refine U11 (v:=.tuple #[.agg #[L.length,.int .i64 ((d:Int)+1)],f0]) (by simp[results,results117,go_sem,q0,q1,qf,ql,y0,y1,yf,yl]) rfl ⟨by rw[N2.o];rfl,_,_,_,Ry,sF,λ k hk=>?_⟩;rcases sm k hk with h|h
   rcases yG.o k h with h|h
   exact .inl h
   exact J64
   exact J64
  exact J79
end
section
open Pl Go.Proofs.Tryz Go.RowKit Go.Joins
theorem V2f.set{w:World}{base e size n g cap:Nat}{xs:List Value}(h:V2f w base e size (.slice g n cap) n xs)(j:Nat)(hj:j<xs.length)(v:Value):V2f (w.setCell ⟨g,j,none⟩ v) base e size (.slice g n cap) n (xs.set j v):=by
 obtain⟨v0,h1,h2,h3⟩:=h;rcases h3 with rfl|⟨g',c,rfl,h4⟩
 exact O16 (Ox h1 j hj v)
 simp only[U3v,U1f,Addr.mk.injEq,true_and,and_true]at h4;obtain⟨rfl,rfl⟩:=h4;exact⟨_,Ox h1 j hj v,rfl,.inr ⟨g,c,rfl,rfl⟩⟩
def O11(n:Nat)(r:NdR):NdR:=⟨{ r.nd with subs:=r.nd.subs.map (· + n),owner:=0 },r.kv,r.sv,r.uv⟩
def V6r(n m:Nat)(l:List Nat):List Nat:=(l.take m).map (· + n)++l.drop m
theorem Olp(n:Nat)(l:List Nat):V6r n l.length l=l.map (· + n):=by simp[V6r]
theorem Oje(n:Nat)(l:List Nat):V6r n 0 l=l:=by simp[V6r]
theorem Olq(n m:Nat)(l:List Nat):(V6r n m l).length=l.length:=by simp[V6r];omega
theorem Olr(n m:Nat)(l:List Nat)(hm:m<l.length):(V6r n m l)[m]?=some l[m]:=by
 unfold V6r;rw[U21 Ye];simp;rw[show m-min m l.length=0 from by omega];simp[hm]
theorem Ols(n m:Nat)(l:List Nat)(hm:m<l.length):(V6r n m l).set m (l[m]+n)=V6r n (m+1) l:=by
 unfold V6r;have hl:((l.take m).map (· + n)).length=m:=Ye
 rw[U4i _ _ Ya,hl,U3y,U1u hm,U34,U4m,U1h hm,U2o,U3f];rfl
theorem Ojf(l:List Nat)(m k:Nat):(O8 l).set m k=O8 (l.set m k):=by
 unfold O8;rw[List.map_set]
def RB(r:NdR)(k:Nat):Prop:=r.kv.ownBlock=some k\/r.sv.ownBlock=some k\/r.uv.ownBlock=some k
def TB(T:List NdR)(j:Nat)(k:Nat):Prop:=∃(i:Nat)(r:NdR),i<j/\T[i]?=some r/\RB r k
theorem TB.mono{T:List NdR}{j j' k:Nat}(h:TB T j k)(hj:j<=j'):TB T j' k:=by
 obtain⟨i,r,h1,h2⟩:=h;exact⟨i,r,Ya,h2⟩
def O90(w:World)(base2:Nat)(v:Value)(T:List NdR):Prop:=(v=.slice none 0 0/\T=[])\/∃g,v=.slice (some ⟨g,0,none⟩) T.length T.length/\V2q w base2 g T
theorem RB.lt{w:World}{base2 g j k:Nat}{T:List NdR}{r:NdR}(h:V2q w base2 g T)(hr:T[j]?=some r)(hb:RB r k):base2<=k/\k<w.heap.size:=by
 obtain⟨a,b,c⟩:=h.rows j r hr;rcases hb with e|e|e
 exact a.lt k e;exact b.lt k e
 exact c.lt k e
theorem V2q.apart{w:World}{base2 g:Nat}{T:List NdR}(h:V2q w base2 g T){i j k:Nat}{r r':NdR}(hr:T[i]?=some r)(eD:T[j]?=some r')(hb:RB r k)(iP:RB r' k):i=j:=by
 obtain⟨tg,_,ht⟩:=h.tg;obtain⟨a,b,c⟩:=ht i r hr;obtain⟨a',b',c'⟩:=ht j r' eD;have h1:tg k=4+3*i\/tg k=5+3*i\/tg k=6+3*i:=hb.imp (a k) (λ e=>e.imp (b k) (c k));have h2:tg k=4+3*j\/tg k=5+3*j\/tg k=6+3*j:=iP.imp (a' k) (λ e=>e.imp (b' k) (c' k));omega
theorem V2q.root_apart{w:World}{base2 g:Nat}{T:List NdR}(h:V2q w base2 g T){i k:Nat}{r:NdR}(hr:T[i]?=some r)(hb:RB r k):k≠g:=by
 obtain⟨tg,h3,ht⟩:=h.tg;obtain⟨a,b,c⟩:=ht i r hr;have h1:tg k=4+3*i\/tg k=5+3*i\/tg k=6+3*i:=hb.imp (a k) (λ e=>e.imp (b k) (c k));intro e;subst e;omega
theorem V2q.rows_apart{w:World}{base2 g:Nat}{T:List NdR}(h:V2q w base2 g T){i:Nat}{r:NdR}(hr:T[i]?=some r):(∀k,r.kv.ownBlock=some k->r.sv.ownBlock≠some k)/\(∀k,r.kv.ownBlock=some k->r.uv.ownBlock≠some k)/\(∀k,r.sv.ownBlock=some k->r.uv.ownBlock≠some k):=by
 obtain⟨tg,h3,ht⟩:=h.tg;obtain⟨a,b,c⟩:=ht i r hr;exact⟨λ k e e2=>by have:=a k e;have:=b k e2;omega,λ k e e2=>by have:=a k e;have:=c k e2;omega,λ k e e2=>by have:=b k e;have:=c k e2;omega⟩
structure V49(w:World)(R B base base2 g0:Nat)(s:ByteArray)(L:List NdR)(own:Nat->Nat)(so:List (Nat×Nat))(x:GrX)(T:List NdR)(j:Nat)(nv':Value)(own':Nat->Nat)(wr:World):Prop where
 v:GrV wr R B base s 0 nv' (L++(T.take j).map (O11 L.length)) own' (so++List.replicate (T.take j).length (0,0)) x
 st:St (λ k=>FV own k\/TB T T.length k) (FV own') w wr
 on:∀k,own' k≠0->own k≠0\/TB T j k\/w.heap.size<k
 rest:∀(i:Nat) r,j<=i->T[i]?=some r->∀k,RB r k->wr.heap[k]?=w.heap[k]?
 g0:wr.heap[g0]?=w.heap[g0]?
section
variable {w wr W2 wF:World}{R B base base2 g0:Nat}{s:ByteArray}{L:List NdR}{own:Nat->Nat}{so:List (Nat×Nat)}{x:GrX}{T:List NdR}{j:Nat}{nv':Value}{own':Nat->Nat}{r:NdR}
theorem V49.start(nv:Value)(h:GrV w R B base s 0 nv L own so x)(q:Gr w wr)(g0:Nat)(hg:g0<w.heap.size)(hT:T=[]\/V2q w base2 g0 T):V49 w R B base base2 g0 s L own so x T 0 nv own wr :=
 ⟨by simpa using h.gr q,⟨Below.os q,Below.tape q,Below.output q,q.size,λ k hk _=>q.block hk,λ k hk => .inl (.inl hk)⟩,λ k hk => .inl hk,λ i r _ hr k hb=>by
  rcases hT with rfl|hT
  simp at hr
  exact q.block (hb.lt hT hr).2,q.block hg⟩
theorem V49.free(h:V49 w R B base base2 g0 s L own so x T j nv' own' wr)(hT:V2q w base2 g0 T)(ho:∀k,base2<=k->own k=0){i:Nat}{r:NdR}(hi:j<=i)(hr:T[i]?=some r){k:Nat}(hb:RB r k):own' k=0 :=
 U1e λ hk=>by
  have hl:=hb.lt hT hr;rcases h.on k hk with e|⟨i',r',h1,h2,h3⟩|e
  exact e (ho k hl.1);have:=hT.apart hr h2 hb h3;omega
  omega
theorem V49.free0(h:V49 w R B base base2 g0 s L own so x T j nv' own' wr)(hT:V2q w base2 g0 T)(ho:∀k,base2<=k->own k=0):own' g0=0 :=
 U1e λ hk=>by
  have hl:=hT.lt;rcases h.on g0 hk with e|⟨i',r',h1,h2,h3⟩|e
  exact e (ho g0 hl.1);exact hT.root_apart h2 h3 rfl
  omega
theorem V49.strange(h:V49 w R B base base2 g0 s L own so x T j nv' own' wr)(hT:V2q w base2 g0 T)(ho:∀k,base2<=k->own k=0)(cn:base<=base2)(hr:T[j]?=some r)(hW:St (λ k=>r.uv.ownBlock=some k) (λ _=>False) wr W2)(hu:V2f W2 base2 3 1 r.uv r.nd.subs.length (O8 (r.nd.subs.map (· + L.length)))):V87 W2 base own' (O11 L.length r):=by
 obtain⟨a1,a2,a3⟩:=hT.rows_apart hr;obtain⟨b1,b2,_⟩:=hT.rows j r hr;have hz:∀k,RB r k->k<wr.heap.size:=λ k hb=>U13 (hb.lt hT hr).2 h.st.size
 have hk:∀k,RB r k->r.uv.ownBlock≠some k->W2.heap[k]?=w.heap[k]?:=λ k hb hn=>(hW.block k (hz k hb) hn).trans (h.rest j r (U12 _) hr k hb)
 have hf:∀k,RB r k->own' k=0/\k<W2.heap.size:=λ k hb=>⟨h.free hT ho (U12 _) hr hb,U13 (hz k hb) hW.size⟩
 exact⟨(b1.of_block λ k e=>hk k (.inl e) (a2 k e)).low cn,(b2.of_block λ k e=>hk k (.inr (.inl e)) (a3 k e)).low cn,by simpa [O11]using hu.low cn,
  λ k e=>hf k (.inl e),λ k e=>hf k (.inr (.inl e)),λ k e=>hf k (.inr (.inr e)),a1,a2,a3⟩
theorem V49.kept(h:V49 w R B base base2 g0 s L own so x T j nv' own' wr)(hT:V2q w base2 g0 T)(ho:∀k,base2<=k->own k=0)(hr:T[j]?=some r)(hW:St (λ k=>r.uv.ownBlock=some k) (λ _=>False) wr W2):GrV W2 R B base s 0 nv' (L++(T.take j).map (O11 L.length)) own' (so++List.replicate (T.take j).length (0,0)) x :=
 h.v.kept (λ k hk=>hW.block k (h.v.lt k hk).2 (λ e=>hk (h.free hT ho (U12 _) hr (.inr (.inr e))))) hW.size
theorem V49.more(h:V49 w R B base base2 g0 s L own so x T j nv' own' wr)(hT:V2q w base2 g0 T)(ho:∀k,base2<=k->own k=0)(hr:T[j]?=some r)(hz:w.heap.size<wr.heap.size)(hW:St (λ k=>r.uv.ownBlock=some k) (λ _=>False) wr W2){ic:Value}(hm:Oap W2 wF R B base s 0 (L++(T.take j).map (O11 L.length)) own' (so++List.replicate (T.take j).length (0,0)) x (O11 L.length r) ic):∃ac,V49 w R B base base2 g0 s L own so x T (j+1) ic ac wF:=by
 obtain⟨ac,h1,h2,h3⟩:=hm;have hj:j<T.length:=(U16.1 hr).1;have dQ:=hW.size;have hF:=h2.size;have hO:∀k,ac k≠0->own k≠0\/TB T (j+1) k\/w.heap.size<k:=λ k hk=>by
  rcases h3 k hk with e|e|e
  rcases h.on k e with e|e|e
  exact .inl e;exact .inr (.inl (e.mono (U2x _)))
  exact .inr (.inr e);exact .inr (.inl ⟨j,r,Nat.lt_succ_self _,hr,e⟩)
  exact .inr (.inr Ya)
 have hB:∀k,k<wr.heap.size->¬FV own' k->¬RB r k->wF.heap[k]?=wr.heap[k]?:=λ k hk n1 n2 =>
  (h2.block k Ya (λ e=>e.elim n1 n2)).trans (hW.block k hk (λ e=>n2 (.inr (.inr e))))
 refine⟨ac,?_,⟨h2.os.trans (hW.os.trans h.st.os),h2.tape.trans (hW.tape.trans h.st.tape),h2.output.trans (hW.output.trans h.st.output),Ya,λ k hk hn=>?_,λ k hk=>?_⟩,hO,λ i r' hi eD k hb=>?_,?_⟩
 have e1:T.take (j+1)=T.take j++[r]:=by rw[U4m,hr];rfl
 have e2:L++(T.take (j+1)).map (O11 L.length)=(L++(T.take j).map (O11 L.length))++[O11 L.length r]:=by rw[e1];simp
 have e3:so++List.replicate (T.take (j+1)).length (0,0)=(so++List.replicate (T.take j).length (0,0))++[(0,0)]:=by
  rw[e1,U1c,U25,U4p,U3f]
 rw[e2,e3];exact h1
 refine (hB k Ya (λ e=>?_) (λ e=>hn (.inr ⟨j,r,hj,hr,e⟩))).trans (h.st.block k hk hn);rcases h.on k e with e|e|e
 exact hn (.inl e);exact hn (.inr (e.mono Ya))
 omega
 rcases hO k hk with e|e|e
 exact .inl (.inl e);exact .inl (.inr (e.mono Ya))
 exact J64;refine (hB k (by have:=(hb.lt hT eD).2;omega) (λ e=>e (h.free hT ho Ya eD hb)) (λ e=>?_)).trans (h.rest i r' Ya eD k hb);have:=hT.apart eD hr hb e;omega
 exact (hB g0 (by have:=hT.lt.2;omega) (λ e=>e (h.free0 hT ho)) (λ e=>hT.root_apart hr e rfl)).trans h.g0
end
end
section
open Pl Go.Proofs.Tryz Go.RowKit Go.Shelf Go.Joins
attribute [local go_sem] U28
theorem O1v(w:World):Calls prog 18 #[f0] w λ e w'=>e=.returned (.bool true)/\Gr w w':=by
 go_enter func18,ntmps18;exact J152
theorem O28(c p:Nat)(hc:¬(c:Int)=0)(w:World):Calls prog 18 #[fv c p] w λ e w'=>e=.returned (.bool false)/\Gr w w':=by
 go_enter func18,ntmps18;exact J152
theorem Oob(fo:Nat)(tL:∀args w,(callFunc fo args).run prog w=.ok (.enter fo args) w)(X:Pl.Ov)(a8:X≠.non)(w:World)(R bo bf:Nat)(an d i:Nat)(hO:w.cell? bo=some (.func (.func fo) #[.pointer (some ⟨R,0,none⟩)] #[]))(uk:bo<w.heap.size)(hF:FX bf an d w)(HO:∀W,Gr w W->Calls prog fo #[.pointer (some ⟨R,0,none⟩),.agg #[an,d],i] W λ e W'=>O1q X e/\Gr W W'):Calls prog 157 #[i,.pointer (some ⟨bo,0,none⟩),.pointer (some ⟨bf,0,none⟩)] w λ e w'=>O1q X e/\Gr w w':=by
 have CQ:=U10 HO;clear HO;go_enter func157,ntmps157
 go_upto_region 1 with fail
 obtain⟨W,hW⟩:=ExZ (w.alloc (.cells #[(0:Int),(0:Int)] 67))
 have gW:Gr w W:=by rw[<-hW];exact (Gr.refl w).alloc _
 have hB:FX w (0:Int) (0:Int) W:=by rw[<-hW];exact FX.new w _ _ _
 have Rz:=hF.gr gW;have UJ:=(gW.use.1 _ _ uk).trans hO;have pn:=U13 uk gW.size;rw[hW];clear hW;have HG:=U10 gW;have HB:=U10 hB;obtain⟨p0,p1,pf,pl⟩:=Rz;clear hB gW hO hF uk;go_wp2_with fail;refine (CQ.o W HG.o).mono ?_;cases X with
 |non=>exact absurd rfl a8
 |go n d' =>
  rintro e w2 ⟨he,g2⟩;have qh:e=.returned (.tuple #[.agg #[.int .i64 n,d'],.bool true]):=he;subst qh;have hb:=HB.o.gr g2;obtain⟨r0,r1,rf,rl⟩:=id hb;have dN:=HG.o.trans g2;have Eh:=U10 dN;have Hb:=U10 hb;clear dN g2 hb;go_wp2_with fail;refine Z120 ?_;intro WF q0 q1 qf ql gF;exact U11 (v:=.tuple #[.agg #[n,d'],.bool true]) (by simp[results,results157,go_sem,q0,q1,qf,ql]) rfl ⟨by simp[O1q],gF⟩
 |no =>
  rintro e w2 ⟨he,g2⟩;obtain⟨n,d',qh⟩:∃n d':Int,e=.returned (.tuple #[.agg #[n,d'],.bool false]):=he;subst qh;have hb:=HB.o.gr g2;obtain⟨r0,r1,rf,rl⟩:=id hb;have dN:=HG.o.trans g2;have Eh:=U10 dN;have Hb:=U10 hb;clear dN g2 hb;go_wp2_with fail;refine Z120 ?_;intro WF q0 q1 qf ql gF;exact U11 (v:=.tuple #[.agg #[n,d'],.bool false]) (by simp[results,results157,go_sem,q0,q1,qf,ql]) rfl ⟨by simp[O1q],gF⟩
structure Vc2(bK gk gs m ck cs:Nat)(wd:ByteArray)(a b:Nat)(w:World):Prop where
 k0:w.cell? bK=some (.slice gk (m+1) ck)
 k1:w.cell? ⟨bK,1,none⟩=some (.slice gs (m+1) cs)
 w0:w.cell? ⟨gk,m,none⟩=some (.string wd)
 a0:w.cell? ⟨gs,m*2,none⟩=some (.int .i64 a)
 b0:w.cell? ⟨gs,m*2+1,none⟩=some (.int .i64 b)
theorem Ofi(w:World)(gk gs m ck cs:Nat)(wd:ByteArray)(a b:Nat)(hm:m<=9223372036854775806)(fp:gk<w.heap.size)(dh:gs<w.heap.size)(hw:w.cell? ⟨gk,m,none⟩=some (.string wd))(ha:w.cell? ⟨gs,m*2,none⟩=some (.int .i64 a))(hb:w.cell? ⟨gs,m*2+1,none⟩=some (.int .i64 b)):Calls prog 61 #[.agg #[.slice gk (m+1) ck,.slice gs (m+1) cs]] w λ e w'=>e=.returned (.tuple #[.string wd,.agg #[a,b]])/\Gr w w':=by
 have j3:(0:Int)<=(m:Int):=Ya;have j4:(m:Int)<((m+1:Nat):Int):=Ya;have j5:(m:Int)<(m:Int)+1:=Ya;have Rm:m<9223372036854775807:=Ya;have wm:IntKind.i64.wrap (m:Int)=(m:Int):=U1i _ ⟨Ya,Ya⟩;have Rn:IntKind.i64.wrap (((m+1:Nat):Int)-1)=(m:Int):=by rw[U1i _ ⟨Ya,Ya⟩];omega
 go_enter func61,ntmps61
 go_upto_region 1 with fail
 obtain⟨W,hW⟩:=ExZ ((w.alloc (.cells #[.slice gk (m+1) ck,.slice gs (m+1) cs] 42)).alloc (.cells #[(0:Int),(0:Int)] 38))
 have gW:Gr w W:=by rw[<-hW];exact ((Gr.refl w).alloc _).alloc _
 have mo:FX w (.slice gk (m+1) ck) (.slice gs (m+1) cs) W:=by rw[<-hW];exact (FX.new w _ _ 42).gr ((Gr.refl _).alloc _)
 have fI:FX (w.heap.size+1) (0:Int) (0:Int) W:=by
  rw[<-hW];have:=FX.new (w.alloc (.cells #[.slice gk (m+1) ck,.slice gs (m+1) cs] 42)) (0:Int) (0:Int) 38;exact J4
 rw[hW];clear hW;have Js:=U13 fp gW.size;have Jt:=U13 dh gW.size;have hS:Vc2 w.heap.size gk gs m ck cs wd a b W.drew :=
  ⟨mo.1,mo.2.1,(gW.drew.use.1 _ _ fp).trans hw,(gW.drew.use.1 _ _ dh).trans ha,(gW.drew.use.1 _ _ dh).trans hb⟩
 have iF:=U10 fI;have HG:=U10 gW;obtain⟨r0,r1,rf,rl⟩:=fI;clear mo gW hw ha hb;refine Reg.begin' (W:=λ i=>i != 17) (S:=Vc2 w.heap.size gk gs m ck cs wd a b) Yc ?_;refine Reg.ty 0 ?_;refine Reg.tl 1 hS ?_ (hy:=by intro w ab;obtain⟨s1,s2,s3,s4,s5⟩:=ab;go_simp;try with_reducible rfl);refine Reg.ty 2 ?_;refine Reg.tl 3 hS ?_ (hy:=by intro w ab;obtain⟨s1,s2,s3,s4,s5⟩:=ab;go_simp;try with_reducible rfl);refine Z82 ?_;refine Reg.tl 7 hS ?_ (hy:=by intro w ab;obtain⟨s1,s2,s3,s4,s5⟩:=ab;go_simp;try with_reducible rfl);refine Reg.ty 8 ?_;refine Reg.tl 9 hS ?_ (hy:=by intro w ab;obtain⟨s1,s2,s3,s4,s5⟩:=ab;go_simp;try with_reducible rfl);refine Reg.ty 10 ?_;refine Reg.tl 11 hS ?_ (hy:=by intro w ab;obtain⟨s1,s2,s3,s4,s5⟩:=ab;go_simp;try with_reducible rfl);refine Z47 ?_;refine Reg.tl 15 hS ?_ (hy:=by intro w ab;obtain⟨s1,s2,s3,s4,s5⟩:=ab;go_simp;try with_reducible rfl);refine Reg.ty 16 ?_;refine Z188 ?_;refine Z2 ?_;refine Z12 ?_;go_wp2_with fail;have hF:=iF.o.set a b;have gF:Gr w _:=((HG.o).setCell (p:=⟨w+1,0,none⟩) (U2x _) a).setCell (p:=⟨w+1,1,none⟩) (U2x _) b;obtain⟨WF,am⟩:=ExZ (((W.setCell (w.heap.size+1:Nat) a).setCell ⟨w+1,1,none⟩ b))
 rw[am]at hF gF;rw[am];clear am;obtain⟨q0,q1,qf,ql⟩:=hF.gr (Gr.refl WF).drew;exact U11 (v:=.tuple #[.string wd,.agg #[a,b]]) (by simp[results,results61,go_sem,q0,q1,qf,ql]) rfl ⟨rfl,gF.drew⟩
theorem O5{w:World}{b o:Nat}{v:Value}(h:w.cell? ⟨b,o,none⟩=some v):w.setCell ⟨b,o,none⟩ v=w:=by
 unfold World.setCell;congr 1;refine Array.ext_getElem? λ k=>?_
 rw[Array.getElem?_modify]
 split
 rename_i hk
 have hk:b=k:=hk;subst hk;unfold World.cell? at h;simp only at h
 split at h
 rename_i c _ _ hb
 rw[hb];simp only[U29,Option.isSome_none,U1v,U2c]at h⊢;congr 2;refine Array.ext_getElem? λ j=>?_
 rw[Array.getElem?_setIfInBounds]
 split
 rename_i hj
 subst hj
 split;exact h.symm
 rename_i h2;rw[U4d Ya]
 rfl
 cases h
 rfl
theorem O7j{w:World}{k b n m:Nat}{D:V6b}(h:w.ownsMap prog k sortR b n D)(hm:n<=m):w.ownsMap prog k sortR b m D:=by
 obtain⟨es,ph,h1,F,hs,hD⟩:=h;exact⟨es,ph,h1,F,U1k hs hm,hD⟩
theorem Oar{w:World}{R:Nat}{c0 c1 c2 c3 c4 c5 c6 c7 c8:Value}{T:TypeId}(h:w.heap[R]?=some (.cells #[c0,c1,c2,c3,c4,c5,c6,c7,c8] T (0,0)))(a d m:Value):(((w.setCell ⟨R,4,none⟩ a).setCell ⟨R,5,none⟩ d).setCell ⟨R,6,none⟩ m).heap[R]?=some (.cells #[c0,c1,c2,c3,a,d,m,c7,c8] T (0,0)) /\(∀k,k≠R->(((w.setCell ⟨R,4,none⟩ a).setCell ⟨R,5,none⟩ d).setCell ⟨R,6,none⟩ m).heap[k]?=w.heap[k]?) /\(((w.setCell ⟨R,4,none⟩ a).setCell ⟨R,5,none⟩ d).setCell ⟨R,6,none⟩ m).heap.size=w.heap.size:=by
 have h4:(w.setCell ⟨R,4,none⟩ a).heap[R]?=some (.cells #[c0,c1,c2,c3,a,c5,c6,c7,c8] T (0,0)):=by rw[block_setCell h];rfl
 have h5:((w.setCell ⟨R,4,none⟩ a).setCell ⟨R,5,none⟩ d).heap[R]?=some (.cells #[c0,c1,c2,c3,a,d,c6,c7,c8] T (0,0)):=by rw[block_setCell h4];rfl
 exact⟨by rw[block_setCell h5];rfl,λ k hk=>by rw[U14 _ _ _ _ hk,U14 _ _ _ _ hk,U14 _ _ _ _ hk],by simp[World.setCell]⟩
theorem GrV.setSec{w:World}{R B base:Nat}{s:ByteArray}{root:Int}{nv:Value}{L:List NdR}{own:Nat->Nat}{so:List (Nat×Nat)}{x:GrX}(h:GrV w R B base s root nv L own so x)(a d m:Nat)(hm:x.many<=m):GrV (((w.setCell ⟨R,4,none⟩ a).setCell ⟨R,5,none⟩ d).setCell ⟨R,6,none⟩ m) R B base s root nv L own so { x with sec:=a,dep:=d,many:=m }:=by
 obtain⟨k1,k2,k3⟩:=Oar h.blk a d m;obtain⟨D,h1,h2⟩:=h.map;have Az:B≠R:=λ e=>by have h1:=h.oR;rw[<-e,h.oB]at h1;omega
 exact h.turn rfl k1 ⟨D,Oe (O7j h1 Yk) (k2 B Az),h2⟩ (λ k _ hk _=>k2 k hk) (U4e k3.symm) (λ i r hr hg => .inl hg)
theorem getD_set{so:List (Nat×Nat)}{i:Nat}(hi:i<so.length)(t:Nat×Nat)(j:Nat):(so.set i t).getD j (0,0)=if j=i then t else so.getD j (0,0):=by
 rw[U1j,U1j,U2n];by_cases h:i=j;subst h;simp[hi]
 rw[U1b h,U1b (λ e=>h e.symm)]
theorem Oh.lt{so:List (Nat×Nat)}{i:Nat}(h:Oh so i):i<so.length:=by
 refine U3a λ aQ=>h ?_
 rw[U1j,U2t aQ];rfl
theorem GrV.sectioned{w w3:World}{R B base:Nat}{s:ByteArray}{root:Int}{nv:Value}{L:List NdR}{own:Nat->Nat}{so:List (Nat×Nat)}{x:GrX}(h:GrV w R B base s root nv L own so x)(i:Nat)(hi:Oh so i){D:V6b}(hD:O33 D so)(hm:w3.ownsMap prog 3 sortR B (so.length+x.many+1) (D.put i (O2u (1,0))))(h3:w.grownBy w3 (some B))(a d:Nat):GrV (((w3.setCell ⟨R,4,none⟩ a).setCell ⟨R,5,none⟩ d).setCell ⟨R,6,none⟩ (.int .i64 ((x.many+1:Nat):Int))) R B base s root nv L own (so.set i (1,0)) { x with sec:=a,dep:=d,many:=x.many+1 }:=by
 have Az:B≠R:=λ e=>by have h1:=h.oR;rw[<-e,h.oB]at h1;omega
 have hb:∀k,k<w.heap.size->k≠B->w3.heap[k]?=w.heap[k]?:=λ k hk a8=>h3.block k hk (λ e=>a8 (U2u e))
 obtain⟨k1,k2,k3⟩:=Oar ((hb R h.R_lt.2 (U3p Az)).trans h.blk) a d (.int .i64 ((x.many+1:Nat):Int));have dO:=hi.lt;have UK:=h3.size;refine h.turn (by rw[U2k]) k1 ⟨_,Oe (O7j hm (by rw[U2k];simp only;omega)) (k2 B Az),hD.put i (1,0) ?_ λ j hj=>?_⟩ (λ k hk B4 RA=>(k2 k B4).trans (hb k (h.lt k hk).2 RA)) Ya (λ j r hr hg => .inl ?_);rw[getD_set dO,U18 rfl];rw[getD_set dO,U1b hj]
 unfold Oh at hg⊢;rw[getD_set dO]at hg
 split at hg;rename_i e;subst e;exact hi
 exact hg
theorem Ofj(L:List NdR)(i:Nat)(r:NdR)(hr:L[i]?=some r)(n:Nat)(kv sv uv:Value):(L.set i ⟨{ r.nd with subs:=r.nd.subs++[n] },kv,sv,uv⟩).map (·.nd)=(L.map (·.nd)).modify i λ nd=>{ nd with subs:=nd.subs++[n] }:=by
 refine U46 λ k=>?_
 rw[U3s,U1m,U1m,U2n];have hl:i<L.length:=(U16.1 hr).1;by_cases hk:i=k;subst hk;simp[hl,hr];have h2:=(U16.1 hr).2;rw[h2];exact⟨rfl,rfl,rfl,rfl,rfl,rfl,rfl⟩
 simp[hk]
def Odl(w w2:World)(R B base:Nat)(s:ByteArray)(L:List NdR)(own:Nat->Nat)(so:List (Nat×Nat))(x:GrX)(i:Nat)(nd:Pl.Nd):Prop :=
 ∃nv' own' kv sv uv,GrV w2 R B base s 0 nv' ((L++[Of 8]).set i ⟨nd,kv,sv,uv⟩) own' (so++[(1,0)]) x/\St (FV own) (FV own') w w2/\(∀k,own' k≠0->own k≠0\/w.heap.size<=k)
structure ElS(R g i:Nat)(nv uv:Value)(w:World):Prop where
 c0:w.cell? R=some nv
 u:w.cell? ⟨g,i*7+4,none⟩=some uv
theorem O92(w:World)(R B base:Nat)(s:ByteArray)(nv:Value)(L:List NdR)(own:Nat->Nat)(so:List (Nat×Nat))(x:GrX)(h:GrV w R B base s 0 nv L own so x)(hL:L.length<=20000002)(hm:x.many<=30000000)(i:Nat)(r:NdR)(hr:L[i]?=some r)(h8:Oh so i)(tp:r.nd.subs.length<=30000000):Calls prog 116 #[.pointer (some ⟨R,0,none⟩),i] w λ e w'=>e=.returned L.length/\Odl w w' R B base s L own so x i { r.nd with subs:=r.nd.subs++[L.length] }:=by
 have Ju:=U10 (O74 w R B base s 0 nv L own so x h Ya hm 8 (1,0));have H:=U10 h;have nw:=h.sl;have rB:=h.R_lt;clear h;go_enter func116,ntmps116;go_wp2_with fail;refine Ju.o.mono ?_;rintro e w1 ⟨he,ki,aA,gY,ix,mp⟩;subst he;have dO:=(U16.1 hr).1;have aS:(L++[Of 8])[i]?=some r:=by rw[U1d dO];exact hr
 have N3:Oh (so++[(1,0)]) i:=by
  unfold Oh at h8⊢;rw[U1j,U1d Ya,<-U1j];exact h8
 obtain⟨g,cap,cur,rfl,px,aZ,dI,nY,ti,lj,il,ED,eF,jQ⟩:=gY.form Yb;obtain⟨⟨c0,c1,c2,c3,c4,c5,c6⟩,c7,c8,fz⟩:=gY.cells;obtain⟨n0,n1,n2,n3,n4,n5,n6,nf⟩:=gY.ndCells rfl i r aS;have HC:Hid (Va4 w1 aA g i r):=⟨aZ,dI,n2,n3,n4,nf⟩
 have hR:=gY.R_lt;have bA:base<=w1.heap.size:=Ya;have Jv:∀e0:{ r.nd with subs:=r.nd.subs++[L.length]:Pl.Nd }.subs.length=r.nd.subs.length+1,True:=λ _=>trivial
 have mQ:Hid (∀V uv,V24 w1 V base (FI aA i) r.kv r.sv uv r.nd.keys.length r.nd.spots.length (r.nd.subs.length+1) (Oj r.nd.keys) (Oc r.nd.spots) (O8 r.nd.subs++[.int .i64 L.length]) ->
     Odl w (V.setCell ⟨g,i*7+4,none⟩ uv) R B base s L own so x i { r.nd with subs:=r.nd.subs++[L.length] }):=by
  intro V uv H3;have e3:({ r.nd with subs:=r.nd.subs++[L.length] }:Pl.Nd).subs.length=r.nd.subs.length+1:=Yb
  have e6:O8 ({ r.nd with subs:=r.nd.subs++[L.length] }:Pl.Nd).subs=O8 r.nd.subs++[.int .i64 L.length]:=by simp[O8]
  have hp:=gY.putDone i r aS { r.nd with subs:=r.nd.subs++[L.length] } rfl rfl rfl (kv:=r.kv) (sv:=r.sv) (uv:=uv) (W:=V) (by rw[e3,e6];exact H3);obtain⟨f2,f3,_,_⟩:=O4u H3 HC.o;rw[O5 f2,O5 f3]at hp;obtain⟨own',qP,qQ,Jw,q1,q2,q3⟩:=hp;exact⟨_,own',qP,qQ,Jw,q1,ix.trans q2,λ k hk=>(q3 k hk).elim (λ h=>mp k h) (λ h => .inr (U1k ix.size h))⟩
 have jD:V24 w1 w1.drew base (FI aA i) r.kv r.sv r.uv r.nd.keys.length r.nd.spots.length r.nd.subs.length (Oj r.nd.keys) (Oc r.nd.spots) (O8 r.nd.subs):=gY.start3 (Gr.refl w1).drew i r aS N3;have um:Hid (∀V kv sv uv nk ns nu xk xs xu,V24 w1 V base (FI aA i) kv sv uv nk ns nu xk xs xu->ElS R g i (.slice g (L++[Of 8]).length cap) r.uv V):=by
  intro V kv sv uv nk ns nu xk xs xu H3;exact⟨((H3.st.use R hR.2 (λ e=>by have:=gY.oR;unfold FI at e;omega)).1 0).trans c0,(O4u H3 HC.o).2.2.1⟩
 obtain⟨iU,u1,u2,u3,u4⟩:=U3u O6y;have cQ:=U10 (And.intro u1 (And.intro u2 (And.intro u3 u4)));have nQ:(0:Int)<=(i:Int):=Ya;have eY:(i:Int)<((L++[Of 8]).length:Int):=by rw[U1c];omega
 have bh:=um.o _ _ _ _ _ _ _ _ _ _ jD;obtain⟨RC,CX⟩:=ExZ ((L++[Of 8]).length)
 rw[CX]at bh eY um;clear Jv h8 N3 u1 u2 u3 u4 fz lj il jQ hr aS n0 n1 n2 n3 n4 n5 n6 nf c0 c1 c2 c3 c4 c5 c6 c7 c8 gY ix mp CX
 go_upto_region 2 with fail
 refine Reg.begin' (W:=λ i=>i != 20) (S:=ElS R g i (.slice g RC cap) r.uv) Yc ?_;obtain⟨V0,hV⟩:=ExZ (w1.drew)
 rw[hV]at jD bh⊢;clear hV;have gH:=U10 jD;clear jD;refine Z31 ?_;refine Reg.ty 3 ?_;refine Reg.tl 4 bh ?_ (hy:=by intro w ab;obtain⟨s0,s1⟩:=ab;go_simp;try with_reducible rfl);refine Reg.ty 5 ?_;refine Reg.ty 6 ?_;refine Z59 ?_;refine Reg.tl 10 bh ?_ (hy:=by intro w ab;obtain⟨s0,s1⟩:=ab;go_simp;try with_reducible rfl);refine Reg.ty 11 ?_;refine Reg.ty 12 ?_;refine Reg.ty 13 ?_;refine Reg.tl 14 bh ?_ (hy:=by intro w ab;obtain⟨s0,s1⟩:=ab;go_simp;try with_reducible rfl);refine Reg.ty 15 ?_;refine Reg.on 16 ?_;go_simp;have av:=gH.o.alloc (.cells #[L.length] 3);have Jy:=gH.o.newB #[L.length] 3;obtain⟨V1,hV⟩:=ExZ (V0.alloc (.cells #[L.length] 3))
 rw[hV]at av Jy⊢;clear hV;have aN:=U10 av;have RD:=U10 Jy;clear av Jy;have cF:=um.o _ _ _ _ _ _ _ _ _ _ aN.o;refine Z98 ?_;refine Reg.on 17 ?_;refine U2z _ (.tmp 23) (.tmp 25) 36 Yh base 3 iU _ 1 8 underlying36 cQ.o.1 cQ.o.2.1 cQ.o.2.2.1 cQ.o.2.2.2 Yh Yd r.uv r.nd.subs.length (O8 r.nd.subs) Yh aN.o.u _ 1 1 [.int .i64 L.length] Yh Yh (U2f RD.o.blk) Yj Yd Yl Ya (U1k bA aN.o.size) _ rfl ?_;intro gU ow V2 ho hg ha hz;have aP:=U10 (aN.o.appU ho hg ha);clear ho hg ha hz;have bi:=um.o _ _ _ _ _ _ _ _ _ _ aP.o;refine Z239 ?_;refine Reg.ty 18 ?_;refine Reg.ty 19 ?_;obtain⟨wL,wM,wN,AP⟩:=O4u aP.o HC.o;refine Reg.on 20 ?_;refine Z300 ?_;go_wp2_with fail;exact U11 (v:=.int .i64 L.length) (by simp[results,results116,go_sem]) rfl ⟨rfl,mQ.o _ _ aP.o⟩
theorem Odh{W:World}{I:Nat}{c0 c1 c2 c3 c4 c5 c6:Value}{T:TypeId}(h:W.heap[I]?=some (.cells #[c0,c1,c2,c3,c4,c5,c6] T (0,0))):(W.cell? I=some c0/\W.cell? ⟨I,1,none⟩=some c1/\W.cell? ⟨I,2,none⟩=some c2/\W.cell? ⟨I,3,none⟩=some c3/\W.cell? ⟨I,4,none⟩=some c4/\W.cell? ⟨I,5,none⟩=some c5/\W.cell? ⟨I,6,none⟩=some c6)/\(∀o,W.frozen? ⟨I,o,none⟩=false)/\I<W.heap.size :=
 ⟨⟨by rw[cell_of_block h];rfl,by rw[cell_of_block h];rfl,by rw[cell_of_block h];rfl,by rw[cell_of_block h];rfl,by rw[cell_of_block h];rfl,by rw[cell_of_block h];rfl,by rw[cell_of_block h];rfl⟩,λ o=>unfrozen_of_block h o,(U1a.1 h).1⟩
theorem V2f.unfrozen{w:World}{base e size n g c:Nat}{xs:List Value}(h:V2f w base e size (.slice g n c) n xs)(hn:0<n):∀o,w.frozen? ⟨g,o,none⟩=false:=by
 obtain⟨v0,h1,h2,h3⟩:=h;rcases h1.2 with⟨rfl,h0⟩|⟨g',cap,cur,rfl,_,hb,_⟩
 simp[Value.ownBlock]at h2
 simp[Value.ownBlock]at h2;subst h2;exact λ o=>unfrozen_of_block hb o
structure Van(R b:Nat)(nv:Value)(c0 c1 c2 c3 c4 c5 c6:Value)(w:World):Prop where
 c:w.cell? R=some nv
 b0:w.cell? b=some c0
 b1:w.cell? ⟨b,1,none⟩=some c1
 b2:w.cell? ⟨b,2,none⟩=some c2
 b3:w.cell? ⟨b,3,none⟩=some c3
 b4:w.cell? ⟨b,4,none⟩=some c4
 b5:w.cell? ⟨b,5,none⟩=some c5
 b6:w.cell? ⟨b,6,none⟩=some c6
theorem Van.gr{R b:Nat}{nv c0 c1 c2 c3 c4 c5 c6:Value}{w w':World}(h:Van R b nv c0 c1 c2 c3 c4 c5 c6 w)(g:Gr w w')(hR:R<w.heap.size)(hb:b<w.heap.size):Van R b nv c0 c1 c2 c3 c4 c5 c6 w' :=
 ⟨(g.use.1 _ _ hR).trans h.c,(g.use.1 _ _ hb).trans h.b0,(g.use.1 _ _ hb).trans h.b1,(g.use.1 _ _ hb).trans h.b2,(g.use.1 _ _ hb).trans h.b3,(g.use.1 _ _ hb).trans h.b4,(g.use.1 _ _ hb).trans h.b5,(g.use.1 _ _ hb).trans h.b6⟩
theorem Olt(w:World)(R B base:Nat)(s:ByteArray)(nv:Value)(L:List NdR)(own:Nat->Nat)(so:List (Nat×Nat))(x:GrX)(h:GrV w R B base s 0 nv L own so x)(tv:Value)(root base2:Nat)(T:List NdR)(hT:O90 w base2 tv T)(cn:base<=base2)(ho:∀k,base2<=k->own k=0)(hL:L.length+T.length<=30000000)(qR:root<=30000000)(dD:∀(i:Nat) r,T[i]?=some r->r.nd.subs.length<=30000000/\∀u∈r.nd.subs,u<=30000000):Calls prog 60 #[.pointer (some ⟨R,0,none⟩),.agg #[tv,root]] w λ e w'=>e=.returned (.int .i64 ((root+L.length:Nat):Int))/\∃nv' own',GrV w' R B base s 0 nv' (L++T.map (O11 L.length)) own' (so++List.replicate T.length (0,0)) x /\St (λ k=>FV own k\/TB T T.length k) (FV own') w w'/\(∀k,own' k≠0->own k≠0\/TB T T.length k\/w.heap.size<=k):=by
 have hR:=h.R_lt;have bA:base<=w.heap.size:=Ya;obtain⟨g0,ta,RE,RF,Hu⟩:∃g0 ta,tv=.slice ta T.length T.length/\g0<w.heap.size/\(T=[]\/(ta=some ⟨g0,0,none⟩/\V2q w base2 g0 T)):=by
  rcases hT with⟨rfl,rfl⟩|⟨g,rfl,hT⟩
  exact⟨R,none,rfl,hR.2,.inl rfl⟩
  exact⟨g,_,rfl,hT.lt.2,.inr ⟨rfl,hT⟩⟩
 subst RE;obtain⟨na,nc,yF⟩:∃a c,nv=.slice a L.length c:=by
  rcases O1b h.nodes with⟨rfl,e⟩|⟨g,cap,rfl,_,_⟩
  exact⟨none,0,by rw[e]⟩
  exact⟨_,_,rfl⟩
 obtain⟨⟨c0,c1,c2,c3,c4,c5,c6⟩,c7,c8,fz⟩:=h.cells;rw[yF]at c0;have H:=U10 h;have HS:=U10 dD;have HT:=U10 Hu;have HO:=U10 ho;clear h hT dD Hu ho c1 c2 c3 c4 c5 c6 c7 c8 fz yF;go_enter func60,ntmps60
 go_upto_region 2 with fail
 obtain⟨W,hW⟩:=ExZ (w.alloc (.cells #[.slice ta T.length T.length,root] 26))
 obtain⟨AA,gW,hz⟩:FX w (.slice ta T.length T.length) root W/\Gr w W/\W.heap.size=w.heap.size+1:=by
  rw[<-hW];exact⟨FX.new w _ _ _,(Gr.refl w).alloc _,Yb⟩
 rw[hW];clear hW c0;have rD:=U10 AA;have HG:=U10 gW;obtain⟨p0,p1,pf,pl⟩:=AA;have eh:=V49.start (T:=T) (base2:=base2) (nv) H.o gW g0 RF (HT.o.imp id And.right);have ui:=U10 eh;clear eh gW;go_wp2_with fail
 go_loopw [18] (λ v wr=>∃(j:Nat)(nv':Value)(own':Nat->Nat),v=.int .i64 j/\j<=T.length/\V49 w R B base base2 g0 s L own so x T j nv' own' wr/\FX w (.slice ta T.length T.length) root wr) (λ v _=>T.length-(intOf v).toNat)
 case atStart=>exact⟨0,nv,own,rfl,Ya,ui.o,rD.o⟩
 case round =>
  obtain⟨j,nv',own',rfl,hj,uo,kK⟩:=hrel;have kM:=U10 uo;have e9:=U10 kK;by_cases vP:j<T.length
  ·have d1:decide ((j:Int)<(T.length:Int))=true:=by simp;omega
   have d2:decide (j<T.length)=true:=Ye;refine Z252 ?_;intro i1;have i2:(j:Int)<(T.length:Int):=Ya;refine Z194 ?_;intro wj;have vR:ta=some ⟨g0,0,none⟩/\V2q w base2 g0 T:=by
    rcases HT.o with e|e
    rw[e]at vP;simp at vP
    exact e
   obtain⟨rfl,vR⟩:=vR;obtain⟨r,hr⟩:∃r,T[j]?=some r:=⟨_,U1h vP⟩
   have bN:∀i v,(ndV r)[i]?=some v->wr.cell? ⟨g0,j*7+i,none⟩=some v:=λ i v hv=>(U1r (w:=w) (a:=⟨g0,j*7+i,none⟩) uo.g0).trans (vR.cell j r hr i v hv)
   obtain⟨ka,kc,sO⟩:∃a c,r.kv=.slice a r.nd.keys.length c:=by
    rcases Ou (vR.rows j r hr).1 with⟨e,e2⟩|⟨g,c,e,_,_⟩
    exact J78
    exact⟨_,_,e⟩
   obtain⟨sa,sc,kT⟩:∃a c,r.sv=.slice a r.nd.spots.length c:=by
    rcases Ou (vR.rows j r hr).2.1 with⟨e,e2⟩|⟨g,c,e,_,_⟩
    exact J78
    exact⟨_,_,e⟩
   obtain⟨ua,uc,lW⟩:∃a c,r.uv=.slice a r.nd.subs.length c:=by
    rcases Ou (vR.rows j r hr).2.2 with⟨e,e2⟩|⟨g,c,e,_,_⟩
    exact J78
    exact⟨_,_,e⟩
   have q0:wr.cell? ⟨g0,j*7,none⟩=some (.int .u8 r.nd.kind):=bN 0 (.int .u8 r.nd.kind) rfl;refine Z162 ?_;intro q1 q2 q3 q4 q5 q6;have uq:=U10 vR;have HR:=U10 hr;have RH:=U10 sO;have RI:=U10 kT;have AB:=U10 lW;clear uo kK bN vR hr sO kT lW
   go_upto_region 5 with fail
   obtain⟨W1,aK⟩:=ExZ (wr.alloc (.cells #[.int .u8 r.nd.kind,.string ⟨r.nd.text.toArray⟩,.slice ka r.nd.keys.length kc,.slice sa r.nd.spots.length sc,.slice ua r.nd.subs.length uc,r.nd.sp.1,r.nd.sp.2] 40))
   have vS:=U1z wr (.cells #[.int .u8 r.nd.kind,.string ⟨r.nd.text.toArray⟩,.slice ka r.nd.keys.length kc,.slice sa r.nd.spots.length sc,.slice ua r.nd.subs.length uc,r.nd.sp.1,r.nd.sp.2] 40);have g1:Gr wr W1:=by rw[<-aK];exact (Gr.refl wr).alloc _
   have z1:W1.heap.size=wr.heap.size+1:=by rw[<-aK];simp
   rw[aK]at vS⊢;clear aK q0 q1 q2 q3 q4 q5 q6;obtain⟨wo,Jz⟩:∃wo,wo=wr:=⟨_,rfl⟩
   subst Jz;have N5:=U10 vS;obtain⟨⟨m0,m1,m2,m3,m4,m5,m6⟩,mf,ml⟩:=Odh vS;have G1:=U10 g1;have N6:w.heap.size<wo.heap.size:=e9.o.2.2.2;have CY:∀k,(Value.slice ua r.nd.subs.length uc).ownBlock=some k->RB r k:=λ k e => .inr (.inr (by rw[AB.o];exact e))
   have ur:∀k,(Value.slice ua r.nd.subs.length uc).ownBlock=some k->k<w.heap.size:=λ k e=>((CY k e).lt uq.o HR.o).2
   have vT:V2f W1 base2 3 1 (.slice ua r.nd.subs.length uc) r.nd.subs.length (O8 (V6r L.length 0 r.nd.subs)):=by
    rw[Oje];have h1:=(uq.o.rows j r HR.o).2.2;rw[AB.o]at h1;exact h1.of_block λ k e=>(g1.block (Nat.lt_trans (ur k e) N6)).trans (kM.o.rest j r (U12 _) HR.o k (CY k e))
   have CZ:=U10 vT;clear vS g1 vT;go_wp2_with fail
   go_loopw [25] (λ v W=>∃m:Nat,v=.int .i64 m/\m<=r.nd.subs.length/\St (λ k=>(Value.slice ua r.nd.subs.length uc).ownBlock=some k) (λ _=>False) W1 W/\V2f W base2 3 1 (.slice ua r.nd.subs.length uc) r.nd.subs.length (O8 (V6r L.length m r.nd.subs))) (λ v _=>r.nd.subs.length-(intOf v).toNat)
   case atStart=>exact⟨0,rfl,U2y _,⟨rfl,rfl,rfl,U12 _,λ _ _ _=>rfl,λ _ e=>e.elim⟩,CZ.o⟩
   case round =>
    obtain⟨m,rfl,hm,a9,bZ⟩:=hrel;have RJ:=a9.use wo.heap.size ml (λ e=>by have:=ur _ e;omega);have RL:=(RJ.1 4).trans m4;have bv:=U10 a9;by_cases iL:m<r.nd.subs.length
    ·obtain⟨gu,cu,qS,rX,eF⟩:=bZ.form Ya;simp only[U3v,true_and]at qS;obtain⟨rfl,rfl⟩:=qS;obtain⟨nw,Fo⟩:=HS.o j r HR.o;have GG:r.nd.subs[m]<=30000000:=Fo _ (U4a iL);have hc:=bZ.cells (g:=gu) rfl m (.int .i64 r.nd.subs[m]) (by simp[O8,Olr _ _ _ iL]);have UL:=bZ.unfrozen Ya m;obtain⟨u,hu⟩:=ExZ (r.nd.subs[m])
     rw[hu]at hc GG;have e1:decide ((m:Int)<(r.nd.subs.length:Int))=true:=Ye
     have e2:decide (m<r.nd.subs.length)=true:=Ye;refine Z250 ?_;intro k1 k2 wm;have wu:IntKind.i64.wrap ((u:Int)+(L.length:Int))=(u:Int)+(L.length:Int):=U1i _ ⟨Ya,Ya⟩;have yH:=bZ.set m (by simp[O8,Olq];omega) (.int .i64 ((u+L.length:Nat):Int));rw[Ojf,<-hu,Ols _ _ _ iL,hu]at yH;have JA:=U10 yH;have HU:=U10 hu;clear a9 bZ yH hu;go_wp2_with fail
     go_roundw
     case rel=>exact⟨m+1,rfl,Ya,bv.o.setCell (p:=⟨gu,m,none⟩) (.inl rfl) _,JA.o⟩
     case measure=>simp[intOf];omega
    have pE:m=r.nd.subs.length:=Ya;subst pE;have e1:decide ((r.nd.subs.length:Int)<(r.nd.subs.length:Int))=false:=Yb;have e2:decide (r.nd.subs.length<r.nd.subs.length)=false:=Yb;rw[Olp]at bZ;have pd:=U10 bZ;clear bZ a9;obtain⟨W2,dQ⟩:∃W2,W2=wr:=⟨_,rfl⟩
    subst dQ;have ut:St (λ k=>r.uv.ownBlock=some k) (λ _=>False) wo W2:=by
     rw[AB.o];exact (G1.o.st).trans bv.o
    have qT:=pd.o;rw[<-AB.o]at qT;have iX:=kM.o.kept uq.o HO.o HR.o ut;have ir:=kM.o.strange uq.o HO.o cn HR.o ut qT;have C':W2.heap[wo.heap.size]?=some (.cells #[.int .u8 r.nd.kind,.string ⟨r.nd.text.toArray⟩,.slice ka r.nd.keys.length kc,.slice sa r.nd.spots.length sc,.slice ua r.nd.subs.length uc,r.nd.sp.1,r.nd.sp.2] 40 (0,0)):=(bv.o.block wo.heap.size ml (λ e=>by have:=ur _ e;omega)).trans N5.o;obtain⟨⟨x0,x1,x2,x3,x4,x5,x6⟩,xf,xl⟩:=Odh C';obtain⟨⟨c0,_⟩,_,_,fz⟩:=iX.cells;have JB:=iX.R_lt;have bh:Van R wo.heap.size nv' (.int .u8 r.nd.kind) (.string ⟨r.nd.text.toArray⟩) (.slice ka r.nd.keys.length kc) (.slice sa r.nd.spots.length sc) (.slice ua r.nd.subs.length uc) r.nd.sp.1 r.nd.sp.2 W2.drew:=⟨c0,x0,x1,x2,x3,x4,x5,x6⟩
    have D0:=U10 ut;have jl:=U10 iX;have nj:=U10 ir;have A8:=fz 0;obtain⟨iN,hi,dL,ax,aL⟩:=U3u Ocu;have HI:=U10 (And.intro hi (And.intro dL (And.intro ax aL)));have a8:some R≠nv'.ownBlock:=O30 iX.oN (by rw[iX.oR];omega);have yI:(L++(T.take j).map (O11 L.length)).length<=30000000:=Ye;have yJ:base<=W2.heap.size:=Ya;have bT:ndV (O11 L.length r)=[.int .u8 r.nd.kind,.string ⟨r.nd.text.toArray⟩,.slice ka r.nd.keys.length kc,.slice sa r.nd.spots.length sc,.slice ua r.nd.subs.length uc,.int .i64 r.nd.sp.1,.int .i64 r.nd.sp.2]:=by
     simp only[ndV,O11,RH.o,RI.o,AB.o]
    have RM:=U10 bT;clear ut qT iX ir C' x0 x1 x2 x3 x4 x5 x6 xf fz hi dL ax aL bT m0 m1 m2 m3 m4 m5 m6 mf RL
    go_upto_region 10 with fail
    refine Reg.begin' (W:=λ i=>i != 8&&i != 12) (S:=Van R wo.heap.size nv' (.int .u8 r.nd.kind) (.string ⟨r.nd.text.toArray⟩) (.slice ka r.nd.keys.length kc) (.slice sa r.nd.spots.length sc) (.slice ua r.nd.subs.length uc) r.nd.sp.1 r.nd.sp.2) Yc ?_;obtain⟨V0,hV⟩:=ExZ (W2.drew)
    have RN:Gr W2 V0:=by rw[<-hV];exact (Gr.refl W2).drew
    have D1:=U10 (show V0.heap.size=W2.heap.size by rw[<-hV];rfl);rw[hV]at bh⊢;clear hV;refine Z31 ?_;refine Z40 ?_;refine Reg.tl 5 bh ?_ (hy:=by intro w ab;obtain⟨s0,s1,s2,s3,s4,s5,s6,s7⟩:=ab;go_simp;try with_reducible rfl);refine Reg.tl 6 bh ?_ (hy:=by intro w ab;obtain⟨s0,s1,s2,s3,s4,s5,s6,s7⟩:=ab;go_simp;try with_reducible rfl);refine Reg.on 7 ?_;go_simp;have N7:=U1z V0 (.cells #[.int .u8 r.nd.kind,.string ⟨r.nd.text.toArray⟩,.slice ka r.nd.keys.length kc,.slice sa r.nd.spots.length sc,.slice ua r.nd.subs.length uc,r.nd.sp.1,r.nd.sp.2] 40);have JC:Gr V0 (V0.alloc (.cells #[.int .u8 r.nd.kind,.string ⟨r.nd.text.toArray⟩,.slice ka r.nd.keys.length kc,.slice sa r.nd.spots.length sc,.slice ua r.nd.subs.length uc,r.nd.sp.1,r.nd.sp.2] 40)):=(Gr.refl V0).alloc _;have JD:(V0.alloc (.cells #[.int .u8 r.nd.kind,.string ⟨r.nd.text.toArray⟩,.slice ka r.nd.keys.length kc,.slice sa r.nd.spots.length sc,.slice ua r.nd.subs.length uc,r.nd.sp.1,r.nd.sp.2] 40)).heap.size=V0.heap.size+1:=Yb;obtain⟨V1,hV⟩:=ExZ (V0.alloc (.cells #[.int .u8 r.nd.kind,.string ⟨r.nd.text.toArray⟩,.slice ka r.nd.keys.length kc,.slice sa r.nd.spots.length sc,.slice ua r.nd.subs.length uc,r.nd.sp.1,r.nd.sp.2] 40))
    rw[hV]at N7 JC JD⊢;clear hV;have JE:=U10 JD;have cF:=bh.gr JC (by have:=D1.o;omega) (by have:=D1.o;omega);clear JD;refine Z64 ?_;have gV:=RN.trans JC;have D2:=O1 jl.o.nodes λ k e=>gV.block (jl.o.nodes.lt k e).2
    refine Reg.all (rs:=[8]) Yc Yb ?_;intro j' N8;obtain rfl:=U22.1 N8;clear N8;refine Reg.one (i:=8) rfl Yh ?_;refine U2z _ (.tmp 42) (.tmp 44) 24 Yh base 40 iN _ 7 112 underlying24 HI.o.1 HI.o.2.1 HI.o.2.2.1 HI.o.2.2.2 Yh Yd nv' (L++(T.take j).map (O11 L.length)).length (V3a (L++(T.take j).map (O11 L.length))) Yh D2 _ 1 1 [.int .u8 r.nd.kind,.string ⟨r.nd.text.toArray⟩,.slice ka r.nd.keys.length kc,.slice sa r.nd.spots.length sc,.slice ua r.nd.subs.length uc,.int .i64 r.nd.sp.1,.int .i64 r.nd.sp.2] Yh Yh (U2f N7) Yj Yd Yl Ya (U1k yJ gV.size) _ rfl ?_;intro gN i9 V2 bB hg ha iD;have hm:=jl.o.appended gV (O11 L.length r) nj.o gN i9 (by rw[RM.o];exact bB) hg ha iD;have f4:V2.cell? R=some nv':=(hg.cell_far ⟨R,0,none⟩ (by have:=D1.o;have:=JE.o;simp;omega) a8).trans cF.c;have f3:V2.frozen? R=false:=(hg.frozen_far ⟨R,0,none⟩ (by have:=D1.o;have:=JE.o;simp;omega) a8).trans ((gV.use.2.1 R 0 JB.2).trans A8);have RO:R<V2.heap.size:=by have:=hg.size;have:=D1.o;have:=JE.o;omega
    have HM:=U10 hm;clear bB hg ha iD hm;refine⟨λ h=>absurd h Yd,?_⟩;refine Z2 ?_;refine Reg.ty 9 ?_;refine Z65 ?_;refine Reg.on 12 ?_;refine Z300 ?_;go_wp2_with fail
    go_roundw
    case rel =>
     have hm:=HM.o;rw[show (L++(T.take j).map (O11 L.length)).length=L.length+j by simp;omega]at hm;obtain⟨ac,uu⟩:=kM.o.more uq.o HO.o HR.o N6 D0.o hm;obtain⟨yK,_,kQ,_⟩:=hm;refine⟨j+1,_,ac,rfl,Ya,uu,?_⟩;refine ((e9.o.st D0.o (λ e=>by have:=ur w.heap.size (by rw[<-AB.o];exact e);omega)).st kQ (λ e=>?_));have yL:∀k,RB r k->k<w.heap.size:=λ k e=>(RB.lt uq.o HR.o e).2
     rcases e with e|e|e|e
     rcases kM.o.on _ e with h|⟨i',r',_,h2,h3⟩|h
     have:=(H.o.lt _ h).2;omega;have:=(RB.lt uq.o h2 h3).2;omega
     omega;have:=yL _ (.inl e);omega;have:=yL _ (.inr (.inl e));omega
     have:=yL _ (.inr (.inr e));omega
    case measure=>simp[intOf];omega
  have RP:j=T.length:=Ya;have d1:decide ((j:Int)<(T.length:Int))=false:=Ye;have d2:decide (j<T.length)=false:=Ye;obtain⟨UM,UN,fD,fE⟩:=kK;have UO:IntKind.i64.wrap ((root:Int)+(L.length:Int))=(root:Int)+(L.length:Int):=U1i _ ⟨Ya,Ya⟩;subst RP;clear uo;go_wp2_with fail;have hv:=kM.o.v;rw[List.take_length]at hv;exact U11 (v:=.int .i64 ((root:Int)+(L.length:Int))) (by simp[results,results60,go_sem]) rfl ⟨rfl,nv',own',hv,kM.o.st,λ k hk=>(kM.o.on k hk).imp id (λ h=>h.imp id (λ h=>by omega))⟩
end
