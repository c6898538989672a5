/- The proof's part 34. -/
import Derived.Test.YtnkgknbdaiakgaaGreatDoorQ12
import Derived.Test.YtnkgknbdaiakgaaGreatDoorQ36
set_option maxHeartbeats 16000000
set_option linter.all false
set_option maxRecDepth 100000
namespace Go.Proofs.YtnkgknbdaiakgaaGreatDoor
section
open Pl Go.Proofs.Tryz Go.RowKit Go.Joins
def O20(s:Nat×Nat):Value := .agg #[.int .u8 s.1,s.2]
def O2o(s:Nat×Nat):V5o := .agg [.lit (.int .u8 s.1),.lit s.2]
theorem Oie{s s':Nat×Nat}(h:O2o s=O2o s'):s=s':=by
 obtain⟨a,b⟩:=s;obtain⟨c,d⟩:=s';simp only[O2o,DataW.agg.injEq,U27,DataW.lit.injEq,Lit.int.injEq,true_and,and_true]at h;rw[U17];omega
theorem Oif{s s':Nat×Nat}(h:O20 s=O20 s'):s=s':=by
 obtain⟨a,b⟩:=s;obtain⟨c,d⟩:=s';simp only[O20,Value.agg.injEq,Array.mk.injEq,U27,Value.int.injEq,true_and,and_true]at h;rw[U17];omega
open Classical in
noncomputable def sortR (v:Value):Option (V5o×List MemPlace):=if h:∃s,v=O20 s then some (O2o h.choose,[]) else none
theorem O7f(s:Nat×Nat):sortR (O20 s)=some (O2o s,[]):=by
 have h:∃s',O20 s=O20 s':=⟨s,rfl⟩
 unfold sortR;rw[dif_pos h,<-Oif h.choose_spec]
theorem Oig{v:Value}{s:Nat×Nat}{p:List MemPlace}(h:sortR v=some (O2o s,p)):v=O20 s:=by
 unfold sortR at h
 split at h
 rename_i hv
 simp only[U1f,U17]at h;rw[<-Oie h.1];exact hv.choose_spec
 cases h
def O2x(D:V5o)(so:List (Nat×Nat)):Prop:=Maps.IsMap D/\∀i:Nat,D.atKey i (O2o (0,0))=O2o (so.getD i (0,0))
theorem O2x.more{D:V5o}{so:List (Nat×Nat)}(h:O2x D so):O2x D (so++[(0,0)]) :=
 ⟨h.1,λ i=>by
  rw[h.2 i];congr 1;rw[U1i,U1i,U3o]
  split;rfl
  rename_i hi
  rw[U2g Ya];cases hj:i-so.length with
  |zero=>rfl
  |succ j=>rfl⟩
structure GrX where
 sec:Nat
 dep:Nat
 many:Nat
 iv:Value
 nsv:Value
structure V7f(w:World)(base:Nat)(own:Nat->Nat)(i:Nat)(r:Vy)(gr:Prop):Prop where
 k:V26 w base 9 1 r.kv r.nd.keys.length (Oh r.nd.keys)
 s:V26 w base 38 2 r.sv r.nd.spots.length (Oc r.nd.spots)
 u:V26 w base 3 1 r.uv r.nd.subs.length (O6 r.nd.subs)
 k8:gr->w.ownsRow base 9 1 r.kv r.nd.keys.length (Oh r.nd.keys)
 s8:gr->w.ownsRow base 38 2 r.sv r.nd.spots.length (Oc r.nd.spots)
 u8:gr->w.ownsRow base 3 1 r.uv r.nd.subs.length (O6 r.nd.subs)
 tk:Ok own r.kv (4+3*i)
 ts:Ok own r.sv (5+3*i)
 tu:Ok own r.uv (6+3*i)
abbrev Oi(so:List (Nat×Nat))(i:Nat):Prop:=(so.getD i (0,0)).1≠0
structure GrV(w:World)(R B base:Nat)(s:ByteArray)(root:Int)(nv:Value)(L:List Vy)(own:Nat->Nat)(so:List (Nat×Nat))(x:GrX):Prop where
 blk:w.heap[R]?=some (.cells #[nv,root,.string s,.map (some B),x.sec,x.dep,x.many,x.iv,x.nsv] 69 (0,0))
 oR:own R=1
 oB:own B=2
 nodes:w.ownsRow base 40 7 nv L.length (V34 L)
 oN:Ok own nv 3
 map:∃D:V5o,w.ownsMap prog 3 sortR B (so.length+x.many) D/\O2x D so
 rows:∀(i:Nat) r,L[i]?=some r->V7f w base own i r (Oi so i)
 lt:∀k,own k≠0->base<=k/\k<w.heap.size
 sl:so.length=L.length
theorem Oe{w w':World}{k b n:Nat}{D:V5o}(h:w.ownsMap prog k sortR b n D)(hb:w'.heap[b]?=w.heap[b]?):w'.ownsMap prog k sortR b n D:=by
 exact J45
theorem V7f.kept{w w':World}{base:Nat}{own:Nat->Nat}{i:Nat}{r:Vy}{gr:Prop}(h:V7f w base own i r gr)(hb:∀k,FV own k->w'.heap[k]?=w.heap[k]?):V7f w' base own i r gr:=by
 have bk:∀k,r.kv.ownBlock=some k->w'.heap[k]?=w.heap[k]?:=λ k e=>hb k (by unfold FV;rw[h.tk k e];omega)
 have Nr:∀k,r.sv.ownBlock=some k->w'.heap[k]?=w.heap[k]?:=λ k e=>hb k (by unfold FV;rw[h.ts k e];omega)
 have bu:∀k,r.uv.ownBlock=some k->w'.heap[k]?=w.heap[k]?:=λ k e=>hb k (by unfold FV;rw[h.tu k e];omega)
 exact⟨h.k.of_block bk,h.s.of_block Nr,h.u.of_block bu,λ g=>O1 (h.k8 g) bk,λ g=>O1 (h.s8 g) Nr,λ g=>O1 (h.u8 g) bu,h.tk,h.ts,h.tu⟩
section
variable {w w':World}{R B base:Nat}{s:ByteArray}{root:Int}{nv:Value}{L:List Vy}{own:Nat->Nat}{so:List (Nat×Nat)}{x:GrX}
theorem GrV.kept(h:GrV w R B base s root nv L own so x)(hb:∀k,FV own k->w'.heap[k]?=w.heap[k]?)(hz:w.heap.size<=w'.heap.size):GrV w' R B base s root nv L own so x:=by
 obtain⟨D,h1,h2⟩:=h.map;exact⟨by rw[hb R (by unfold FV;rw[h.oR];omega)];exact h.blk,h.oR,h.oB,O1 h.nodes λ k e=>hb k (by unfold FV;rw[h.oN k e];omega),h.oN,
  ⟨D,Oe h1 (hb B (by unfold FV;rw[h.oB];omega)),h2⟩,λ i r hr=>(h.rows i r hr).kept hb,λ k hk=>⟨(h.lt k hk).1,U13 (h.lt k hk).2 hz⟩,h.sl⟩
theorem GrV.gr(h:GrV w R B base s root nv L own so x)(g:Gr w w'):GrV w' R B base s root nv L own so x:=h.kept (λ k hk=>g.block (h.lt k hk).2) g.size
theorem GrV.alloc(h:GrV w R B base s root nv L own so x)(o:Obj):GrV (w.alloc o) R B base s root nv L own so x:=h.gr ((Gr.refl w).alloc o)
theorem GrV.drew(h:GrV w R B base s root nv L own so x):GrV w.drew R B base s root nv L own so x:=h.gr (Gr.refl w).drew
theorem GrV.drewN(h:GrV w R B base s root nv L own so x)(n:Nat):GrV (w.drewN n) R B base s root nv L own so x:=h.gr ((Gr.refl w).drewN n)
theorem GrV.not_new(h:GrV w R B base s root nv L own so x){k:Nat}(hk:w.heap.size<=k):¬FV own k:=λ e=>by have:=h.lt k e;omega
theorem GrV.R_lt(h:GrV w R B base s root nv L own so x):base<=R/\R<w.heap.size:=h.lt R (by rw[h.oR];omega)
theorem GrV.B_lt(h:GrV w R B base s root nv L own so x):base<=B/\B<w.heap.size:=h.lt B (by rw[h.oB];omega)
theorem GrV.cells(h:GrV w R B base s root nv L own so x):(w.cell? R=some nv/\w.cell? ⟨R,1,none⟩=some (.int .i64 root)/\w.cell? ⟨R,2,none⟩=some (.string s)/\w.cell? ⟨R,3,none⟩=some (.map (some B))/\w.cell? ⟨R,4,none⟩=some (.int .i64 x.sec)/\w.cell? ⟨R,5,none⟩=some (.int .i64 x.dep)/\w.cell? ⟨R,6,none⟩=some (.int .i64 x.many)) /\w.cell? ⟨R,7,none⟩=some x.iv/\w.cell? ⟨R,8,none⟩=some x.nsv/\(∀i,w.frozen? ⟨R,i,none⟩=false) :=
 ⟨⟨by rw[cell_of_block h.blk];rfl,by rw[cell_of_block h.blk];rfl,by rw[cell_of_block h.blk];rfl,by rw[cell_of_block h.blk];rfl,by rw[cell_of_block h.blk];rfl,by rw[cell_of_block h.blk];rfl,by rw[cell_of_block h.blk];rfl⟩,by rw[cell_of_block h.blk];rfl,by rw[cell_of_block h.blk];rfl,λ i=>unfrozen_of_block h.blk i⟩
theorem GrV.look(h:GrV w R B base s root nv L own so x)(i:Nat)(hi:i<=9223372036854775807)(W:World)(hW:W.heap[B]?=w.heap[B]?):(Instr.lookup 65 (.map (some B)) i false).run prog W=.ok (O20 (so.getD i (0,0))) W:=by
 obtain⟨D,h1,h2⟩:=h.map;have qd:=Oe (w':=W) h1 hW;have hz:(zeroValue 94).run prog W=.ok (O20 (0,0)) W:=Yc;obtain⟨c,p,e1,e2⟩:=qd.lookup (Maps.int_keyed underlying3) underlying65 hz (O7f (0,0)) (U4d underlying3 (show (Lit.int .i64 (i:Int)).wf=true by simp[Lit.wf,IntKind.min,IntKind.max,IntKind.signed,IntKind.bits];omega));rw[h2.2 i]at e2;rw[Oig e2]at e1;exact e1
theorem GrV.form(h:GrV w R B base s root nv L own so x)(hL:0<L.length):∃g cap cur,nv=.slice (some ⟨g,0,none⟩) L.length cap/\base<=g/\g<w.heap.size/\own g=3/\g≠R/\g≠B /\w.heap[g]?=some (.cells cur 40 (0,0))/\cur.size=cap*7/\L.length<=cap/\cap<=maxLen/\cur.toList.take (L.length*7)=V34 L:=by
 exact J46
theorem GrV.ndCells(h:GrV w R B base s root nv L own so x){g cap:Nat}(hv:nv=.slice g L.length cap)(i:Nat)(r:Vy)(hr:L[i]?=some r):w.cell? ⟨g,i*7,none⟩=some (.int .u8 r.nd.kind)/\w.cell? ⟨g,i*7+1,none⟩=some (V2s r.nd.text)/\w.cell? ⟨g,i*7+2,none⟩=some r.kv/\w.cell? ⟨g,i*7+3,none⟩=some r.sv/\w.cell? ⟨g,i*7+4,none⟩=some r.uv /\w.cell? ⟨g,i*7+5,none⟩=some (.int .i64 r.nd.sp.1)/\w.cell? ⟨g,i*7+6,none⟩=some (.int .i64 r.nd.sp.2)/\(∀o,w.frozen? ⟨g,o,none⟩=false):=by
 exact J149
end
end
section
open Pl Go.Proofs.Tryz Go.RowKit Go.Joins
theorem GrV.start3{w W:World}{R B base:Nat}{s:ByteArray}{root:Int}{nv:Value}{L:List Vy}{own:Nat->Nat}{so:List (Nat×Nat)}{x:GrX}(h:GrV w R B base s root nv L own so x)(g1:Gr w W)(i:Nat)(r:Vy)(hr:L[i]?=some r)(h8:Oi so i):V20 w W base (FI own i) r.kv r.sv r.uv r.nd.keys.length r.nd.spots.length r.nd.subs.length (Oh r.nd.keys) (Oc r.nd.spots) (O6 r.nd.subs):=by
 refine Z206 ?_;intro hx kp;refine⟨(g1.st).to (λ _ e=>e.elim),kp (hx.k8 h8) hx.tk Ya,kp (hx.s8 h8) hx.ts Ya,kp (hx.u8 h8) hx.tu Ya,λ b e => .inl (.inl (hx.tk b e)),λ b e => .inl (.inr (.inl (hx.ts b e))),λ b e => .inl (.inr (.inr (hx.tu b e))),?_,?_,?_⟩;intro b e e2;have:=hx.tk b e;have:=hx.ts b e2;omega;intro b e e2;have:=hx.tk b e;have:=hx.tu b e2;omega
 intro b e e2;have:=hx.ts b e;have:=hx.tu b e2;omega
def O7g(w w2:World)(R B base:Nat)(s:ByteArray)(root:Int)(nv:Value)(L:List Vy)(own:Nat->Nat)(so:List (Nat×Nat))(x:GrX)(i:Nat)(nd:Pl.Nd):Prop :=
 ∃own' kv sv uv,GrV w2 R B base s root nv (L.set i ⟨nd,kv,sv,uv⟩) own' so x/\St (FV own) (FV own') w w2/\(∀k,own' k≠0->own k≠0\/w.heap.size<=k)
theorem GrV.putDone{w W:World}{R B base:Nat}{s:ByteArray}{root:Int}{L:List Vy}{own:Nat->Nat}{so:List (Nat×Nat)}{x:GrX}{g cap:Nat}(h:GrV w R B base s root (.slice g L.length cap) L own so x)(i:Nat)(r:Vy)(hr:L[i]?=some r)(nd:Pl.Nd)(bB:nd.kind=r.nd.kind)(bX:nd.text=r.nd.text)(fy:nd.sp=r.nd.sp){kv sv uv:Value}(H:V20 w W base (FI own i) kv sv uv nd.keys.length nd.spots.length nd.subs.length (Oh nd.keys) (Oc nd.spots) (O6 nd.subs)):O7g w (((W.setCell ⟨g,i*7+2,none⟩ kv).setCell ⟨g,i*7+3,none⟩ sv).setCell ⟨g,i*7+4,none⟩ uv) R B base s root (.slice g L.length cap) L own so x i nd:=by
 have hi:i<L.length:=(U14.1 hr).1;refine Z223 ?_;intro dR aW hz hR hB WF ao;have dc:WF.heap.size=W.heap.size:=by subst ao;simp[World.setCell]
 refine Z278 ?_;intro bv;have jP:∀k,k<w.heap.size->k≠g->¬FI own i k->WF.heap[k]?=w.heap[k]?:=λ k hk h1 h2=>(bv k h1).trans (H.st.block k hk h2)
 have M7:W.ownsRow base 40 7 (.slice g L.length cap) L.length (V34 L) :=
  O1 h.nodes λ k e=>by
   simp[Value.ownBlock]at e;subst e;exact H.st.block g aW.2 (λ e=>by unfold FI at e;omega)
 refine Z51 ?_;intro ap bT;refine⟨λ k=>if kv.ownBlock=some k then 4+3*i else if sv.ownBlock=some k then 5+3*i else if uv.ownBlock=some k then 6+3*i else own k,kv,sv,uv,?_,?_,?_⟩
 -- tags that are not this node's stay
 refine Z98 ?_;intro tg;have nF:∀k t,own k=t->t<4->¬FI own i k:=λ k t e h4 e2=>by unfold FI at e2;omega
 have vP:∀k,own k≠3->k≠g:=λ k e e2=>by subst e2;exact e dR
 refine Z248 ?_;intro ki;refine⟨?_,?_,?_,?_,?_,?_,?_,?_,by rw[U2c];exact h.sl⟩;rw[jP R hR.2 (vP R (by rw[h.oR];omega)) (nF R 1 h.oR Ya)];exact h.blk;rw[tg R (by rw[h.oR];omega) (nF R 1 h.oR Ya)];exact h.oR;rw[tg B (by rw[h.oB];omega) (nF B 2 h.oB Ya)];exact h.oB;rw[U2c];exact bT;exact J181;obtain⟨D,h1,h2⟩:=h.map;exact⟨D,Oe h1 (jP B hB.2 (vP B (by rw[h.oB];omega)) (nF B 2 h.oB Ya)),h2⟩
 intro j y hx;rw[U2h]at hx
 split at hx
 rename_i dY
 subst dY;cases hx;have qk:=O1 H.k λ k e=>bv k (ki H.k H.fk k e)
 have qs:=O1 H.s λ k e=>bv k (ki H.s H.fs k e)
 have qu:=O1 H.u λ k e=>bv k (ki H.u H.fu k e)
 refine⟨O16 qk,O16 qs,O16 qu,λ _=>qk,λ _=>qs,λ _=>qu,?_,?_,?_⟩;intro k e;simp only at e;simp only[e,U2o];exact J187
 intro k e;simp only at e;have a1:kv.ownBlock≠some k:=λ e2=>H.ku k e2 e
 have a2:sv.ownBlock≠some k:=λ e2=>H.su k e2 e
 simp only[a1,a2,e,U2o,U2f]
 rename_i dY
 have gl:=h.rows j y hx;have kp:∀{v:Value}{q:Nat},Ok own v q->4<=q->(q≠4+3*i/\q≠5+3*i/\q≠6+3*i) ->
     (∀k,v.ownBlock=some k->WF.heap[k]?=w.heap[k]?)/\Ok (λ k=>if kv.ownBlock=some k then 4+3*i else if sv.ownBlock=some k then 5+3*i else if uv.ownBlock=some k then 6+3*i else own k) v q:=by
  intro v q ht h4 a8;have hF:∀k,v.ownBlock=some k->¬FI own i k:=λ k e e2=>by have:=ht k e;unfold FI at e2;omega
  refine⟨λ k e=>jP k (h.lt k (by rw[ht k e];omega)).2 (vP k (by rw[ht k e];omega)) (hF k e),λ k e=>?_⟩;show (if _ then _ else _)=q;rw[tg k (by rw[ht k e];omega) (hF k e)];exact ht k e
 have a:=kp gl.tk Ya Ya;have b:=kp gl.ts Ya Ya;have c:=kp gl.tu Ya Ya;exact⟨gl.k.of_block a.1,gl.s.of_block b.1,gl.u.of_block c.1,λ g8=>O1 (gl.k8 g8) a.1,λ g8=>O1 (gl.s8 g8) b.1,λ g8=>O1 (gl.u8 g8) c.1,a.2,b.2,c.2⟩
 exact J146;exact J61
 exact J128
def Oa2(w w2:World)(R B base:Nat)(s:ByteArray)(root:Int)(L:List Vy)(own:Nat->Nat)(so:List (Nat×Nat))(x:GrX)(r:Vy)(nv':Value):Prop :=
 ∃own',GrV w2 R B base s root nv' (L++[r]) own' (so++[(0,0)]) x/\St (λ k=>FV own k\/r.kv.ownBlock=some k\/r.sv.ownBlock=some k\/r.uv.ownBlock=some k) (FV own') w w2 /\
  (∀k,own' k≠0->own k≠0\/(r.kv.ownBlock=some k\/r.sv.ownBlock=some k\/r.uv.ownBlock=some k)\/w.heap.size<=k)
structure V7g(w:World)(base:Nat)(own:Nat->Nat)(r:Vy):Prop where
 k:V26 w base 9 1 r.kv r.nd.keys.length (Oh r.nd.keys)
 s:V26 w base 38 2 r.sv r.nd.spots.length (Oc r.nd.spots)
 u:V26 w base 3 1 r.uv r.nd.subs.length (O6 r.nd.subs)
 ok:∀k,r.kv.ownBlock=some k->own k=0/\k<w.heap.size
 os:∀k,r.sv.ownBlock=some k->own k=0/\k<w.heap.size
 ou:∀k,r.uv.ownBlock=some k->own k=0/\k<w.heap.size
 ks:∀k,r.kv.ownBlock=some k->r.sv.ownBlock≠some k
 ku:∀k,r.kv.ownBlock=some k->r.uv.ownBlock≠some k
 su:∀k,r.sv.ownBlock=some k->r.uv.ownBlock≠some k
theorem GrV.appended{w W w1:World}{R B base:Nat}{s:ByteArray}{root:Int}{nv:Value}{L:List Vy}{own:Nat->Nat}{so:List (Nat×Nat)}{x:GrX}(h:GrV w R B base s root nv L own so x)(g1:Gr w W)(r:Vy)(hs:V7g w base own r)(g cap:Nat)(dG:w1.ownsRow base 40 7 (.slice g (L.length+1) cap) (L.length+1) (V34 L++ndV r))(hg:W.grownBy w1 nv.ownBlock)(cX:nv.ownBlock=some g\/g=W.heap.size)(a9:g<w1.heap.size):Oa2 w (w1.setCell R (.slice g (L.length+1) cap)) R B base s root L own so x r (.slice g (L.length+1) cap):=by
 have hR:=h.R_lt;have hB:=h.B_lt;have hz:=g1.size;have az:=hg.size;have vO:R≠B:=λ e=>by have h1:=h.oR;rw[e,h.oB]at h1;omega
 have eC:own g=3\/(own g=0/\w.heap.size<=g):=by
  exact J60
 have oZ:g≠R:=λ e=>by subst e;rw[h.oR]at eC;omega
 have tM:g≠B:=λ e=>by subst e;rw[h.oB]at eC;omega
 refine Z172 ?_;intro cG;obtain⟨w2,fq⟩:=ExZ (w1.setCell R (.slice g (L.length+1) cap))
 rw[fq]at cG⊢;have dX:w2.heap.size=w1.heap.size:=by rw[<-fq];simp[World.setCell]
 have nk:∀k,own k≠0->r.kv.ownBlock≠some k:=λ k h0 e=>h0 (hs.ok k e).1
 have ns:∀k,own k≠0->r.sv.ownBlock≠some k:=λ k h0 e=>h0 (hs.os k e).1
 have nu:∀k,own k≠0->r.uv.ownBlock≠some k:=λ k h0 e=>h0 (hs.ou k e).1
 have gn:∀k,own k=0/\k<w.heap.size->k≠g:=λ k h0 e=>by subst e;omega
 have tg:∀k,own k≠0->own k≠3->(if r.kv.ownBlock=some k then 4+3*L.length else if r.sv.ownBlock=some k then 5+3*L.length else if r.uv.ownBlock=some k then 6+3*L.length else if k=g then 3 else own k)=own k:=by
  intro k h0 h3;have:k≠g:=λ e=>by subst e;omega
  simp only[nk k h0,ns k h0,nu k h0,this,U2f]
 have Rw:(if r.kv.ownBlock=some g then 4+3*L.length else if r.sv.ownBlock=some g then 5+3*L.length else if r.uv.ownBlock=some g then 6+3*L.length else if g=g then 3 else own g)=3:=by
  have a1:r.kv.ownBlock≠some g:=λ e=>gn g (hs.ok g e) rfl
  have a2:r.sv.ownBlock≠some g:=λ e=>gn g (hs.os g e) rfl
  have a3:r.uv.ownBlock≠some g:=λ e=>gn g (hs.ou g e) rfl
  simp only[a1,a2,a3,U2f,U2o]
 refine⟨λ k=>if r.kv.ownBlock=some k then 4+3*L.length else if r.sv.ownBlock=some k then 5+3*L.length else if r.uv.ownBlock=some k then 6+3*L.length else if k=g then 3 else own k,⟨?_,?_,?_,?_,?_,?_,?_,?_,?_⟩,?_,?_⟩
 have hb:w1.heap[R]?=some (.cells #[nv,root,.string s,.map (some B),x.sec,x.dep,x.many,x.iv,x.nsv] 69 (0,0)):=by
  exact J59
 rw[<-fq];exact J58;rw[tg R (by rw[h.oR];omega) (by rw[h.oR];omega)];exact h.oR;rw[tg B (by rw[h.oB];omega) (by rw[h.oB];omega)];exact h.oB
 have e:V34 (L++[r])=V34 L++ndV r:=by simp[V34]
 rw[e,U1b,U1z,<-fq];exact J57;intro k hk;simp[Value.ownBlock]at hk;subst hk;exact Rw;obtain⟨D,h1,h2⟩:=h.map;exact⟨D,Oe (h1.mono (by rw[U1b];omega)) (cG B hB.2 (U3l vO) (by rw[h.oB];omega)),h2.more⟩
 ·intro i y hx;have JG:Oi (so++[(0,0)]) i->Oi so i:=λ hq=>by
   unfold Oi at hq⊢;rw[U1i,U3o]at hq
   split at hq;rw[U1i];exact hq
   exfalso;cases hj:i-so.length with
   |zero=>rw[hj]at hq;exact hq rfl
   |succ j=>rw[hj]at hq;exact hq rfl
  rw[U3o]at hx
  split at hx
  have hr:=h.rows i y hx;have kp:∀{v:Value}{q:Nat},Ok own v q->4<=q->(∀k,v.ownBlock=some k->w2.heap[k]?=w.heap[k]?)/\Ok (λ k=>if r.kv.ownBlock=some k then 4+3*L.length else if r.sv.ownBlock=some k then 5+3*L.length else if r.uv.ownBlock=some k then 6+3*L.length else if k=g then 3 else own k) v q:=by
   intro v q ht h4;refine⟨λ k e=>cG k (h.lt k (by rw[ht k e];omega)).2 (λ e2=>by subst e2;have:=ht k e;rw[h.oR]at this;omega) (by rw[ht k e];omega),λ k e=>?_⟩;show (if _ then _ else _)=q;rw[tg k (by rw[ht k e];omega) (by rw[ht k e];omega)];exact ht k e
  have a:=kp hr.tk Ya;have b:=kp hr.ts Ya;have c:=kp hr.tu Ya;exact⟨hr.k.of_block a.1,hr.s.of_block b.1,hr.u.of_block c.1,λ g8=>O1 (hr.k8 (JG g8)) a.1,λ g8=>O1 (hr.s8 (JG g8)) b.1,λ g8=>O1 (hr.u8 (JG g8)) c.1,a.2,b.2,c.2⟩
  have Ho:i=L.length:=by
   obtain⟨h5,_⟩:=U14.1 hx;simp at h5;omega
  subst Ho;simp at hx;subst hx;have ng:¬Oi (so++[(0,0)]) L.length:=λ hq=>by
   unfold Oi at hq;rw[U1i,<-h.sl,U1y (U12 _),U42]at hq;exact hq rfl
  have ob:∀k,own k=0/\k<w.heap.size->w2.heap[k]?=w.heap[k]?:=λ k hk=>cG k hk.2 (λ e=>by have:=hk.1;subst e;rw[h.oR]at this;omega) Ya
  refine⟨hs.k.of_block λ k e=>ob k (hs.ok k e),hs.s.of_block λ k e=>ob k (hs.os k e),hs.u.of_block λ k e=>ob k (hs.ou k e),λ g8=>absurd g8 ng,λ g8=>absurd g8 ng,λ g8=>absurd g8 ng,?_,?_,?_⟩;intro k e;simp only[e,U2o]
  intro k e;have a1:r.kv.ownBlock≠some k:=λ e2=>hs.ks k e2 e
  simp only[a1,e,U2o,U2f]
  intro k e;have a1:r.kv.ownBlock≠some k:=λ e2=>hs.ku k e2 e
  have a2:r.sv.ownBlock≠some k:=λ e2=>hs.su k e2 e
  simp only[a1,a2,e,U2o,U2f]
 intro k hk;rw[dX]
 split at hk;rename_i e;exact⟨(hs.k.lt k e).1,by have:=(hs.ok k e).2;omega⟩
 split at hk;rename_i e;exact⟨(hs.s.lt k e).1,by have:=(hs.os k e).2;omega⟩
 split at hk;rename_i e;exact⟨(hs.u.lt k e).1,by have:=(hs.ou k e).2;omega⟩
 exact J159;rw[U1b,U1b,h.sl];rfl
 have key:∀k,(if r.kv.ownBlock=some k then 4+3*L.length else if r.sv.ownBlock=some k then 5+3*L.length else if r.uv.ownBlock=some k then 6+3*L.length else if k=g then 3 else own k)≠0->(FV own k\/r.kv.ownBlock=some k\/r.sv.ownBlock=some k\/r.uv.ownBlock=some k)\/w.heap.size<=k:=by
  intro k hk
  split at hk;rename_i e;exact .inl (.inr (.inl e))
  split at hk;rename_i e;exact .inl (.inr (.inr (.inl e)))
  split at hk;rename_i e;exact .inl (.inr (.inr (.inr e)))
  exact J174
 refine⟨?_,?_,?_,Ya,?_,λ k hk=>key k hk⟩;rw[<-fq];exact hg.os.trans (Below.os g1);rw[<-fq];exact hg.tape.trans (Below.tape g1);rw[<-fq];exact hg.output.trans (Below.output g1)
 exact J179
 intro k hk
 replace hk:(if r.kv.ownBlock=some k then 4+3*L.length else if r.sv.ownBlock=some k then 5+3*L.length else if r.uv.ownBlock=some k then 6+3*L.length else if k=g then 3 else own k)≠0:=hk
 split at hk;rename_i e;exact .inr (.inl (.inl e))
 split at hk;rename_i e;exact .inr (.inl (.inr (.inl e)))
 split at hk;rename_i e;exact .inr (.inl (.inr (.inr e)))
 exact J184
def Vdh(r:Vy):Prop:=(r.kv=.slice none 0 0/\r.nd.keys=[])/\(r.sv=.slice none 0 0/\r.nd.spots=[])/\(r.uv=.slice none 0 0/\r.nd.subs=[])
theorem GrV.turn{w w':World}{R B base:Nat}{s:ByteArray}{root:Int}{nv:Value}{L:List Vy}{own:Nat->Nat}{so so':List (Nat×Nat)}{x x':GrX}(h:GrV w R B base s root nv L own so x)(hl:so'.length=so.length)(hR:w'.heap[R]?=some (.cells #[nv,root,.string s,.map (some B),x'.sec,x'.dep,x'.many,x'.iv,x'.nsv] 69 (0,0)))(hm:∃D:V5o,w'.ownsMap prog 3 sortR B (so'.length+x'.many) D/\O2x D so')(hb:∀k,FV own k->k≠R->k≠B->w'.heap[k]?=w.heap[k]?)(hz:w.heap.size<=w'.heap.size)(cY:∀(i:Nat) r,L[i]?=some r->Oi so' i->Oi so i\/Vdh r):GrV w' R B base s root nv L own so' x':=by
 have hk:∀k t,own k=t->3<=t->w'.heap[k]?=w.heap[k]?:=λ k t e h3=>hb k (by unfold FV;omega) (λ e2=>by subst e2;have:=h.oR;omega) (λ e2=>by subst e2;have:=h.oB;omega)
 refine⟨hR,h.oR,h.oB,O1 h.nodes λ k e=>hk k 3 (h.oN k e) Ya,h.oN,hm,λ i r hr=>?_,λ k h0=>⟨(h.lt k h0).1,U13 (h.lt k h0).2 hz⟩,by rw[hl,h.sl]⟩;have q:=h.rows i r hr;have a:∀k,r.kv.ownBlock=some k->w'.heap[k]?=w.heap[k]?:=λ k e=>hk k _ (q.tk k e) Ya
 have b:∀k,r.sv.ownBlock=some k->w'.heap[k]?=w.heap[k]?:=λ k e=>hk k _ (q.ts k e) Ya
 have c:∀k,r.uv.ownBlock=some k->w'.heap[k]?=w.heap[k]?:=λ k e=>hk k _ (q.tu k e) Ya
 refine⟨q.k.of_block a,q.s.of_block b,q.u.of_block c,λ g=>?_,λ g=>?_,λ g=>?_,q.tk,q.ts,q.tu⟩
 rcases cY i r hr g with g|⟨⟨e1,e2⟩,_⟩
 exact O1 (q.k8 g) a
 rw[e1,e2];exact Ot _ _ _ _
 rcases cY i r hr g with g|⟨_,⟨e1,e2⟩,_⟩
 exact O1 (q.s8 g) b
 rw[e1,e2];exact Ot _ _ _ _
 rcases cY i r hr g with g|⟨_,_,e1,e2⟩
 exact O1 (q.u8 g) c
 rw[e1,e2];exact Ot _ _ _ _
theorem O2x.put{D:V5o}{so so':List (Nat×Nat)}(h:O2x D so)(i:Nat)(t:Nat×Nat)(hi:so'.getD i (0,0)=t)(ho:∀j,j≠i->so'.getD j (0,0)=so.getD j (0,0)):O2x (D.put i (O2o t)) so' :=
 ⟨h.1.put _ _,λ j=>by
  by_cases hj:j=i;subst hj;rw[Maps.atKey_put_same (k:=.int .i64 (j:Int)) h.1 U3f,hi]
  rw[Maps.atKey_put_other (λ e=>hj (by simp only[Lit.int.injEq,true_and]at e;omega)),h.2 j,ho j hj]⟩
theorem Oco(w:World)(R B base:Nat)(s:ByteArray)(root:Int)(nv:Value)(L:List Vy)(own:Nat->Nat)(so:List (Nat×Nat))(x:GrX)(h:GrV w R B base s root nv L own so x)(hL:L.length<=30000000)(i:Nat)(r:Vy)(hr:L[i]?=some r)(h8:Oi so i)(gY:r.nd.keys.length<=30000000)(iZ:r.nd.spots.length<=30000000)(tO:r.nd.subs.length<=30000000)(key:ByteArray)(a b n:Nat):Calls prog 62 #[.pointer (some ⟨R,0,none⟩),i,.string key,.agg #[a,b],n] w λ e w' => e=.returned (.tuple #[])/\O7g w w' R B base s root nv L own so x i (V10 r.nd (bs key) (a,b) n):=by
 have hi:i<L.length:=(U14.1 hr).1;obtain⟨g,cap,cur,rfl,qe,aW,dR,oZ,tM,lF,jr,F7,eP,jt⟩:=h.form Ya;obtain⟨⟨c0,c1,c2,c3,c4,c5,c6⟩,c7,c8,fz⟩:=h.cells;obtain⟨n0,n1,n2,n3,n4,n5,n6,nf⟩:=h.ndCells rfl i r hr;have HC:Hid (V9f w own g i r):=⟨aW,dR,n2,n3,n4,nf⟩
 have hR:=h.R_lt;have bS:base<=w.heap.size:=Ya;have nG:Hid (∀V kv sv uv,V20 w V base (FI own i) kv sv uv (r.nd.keys.length+1) (r.nd.spots.length+1) (r.nd.subs.length+1) (Oh r.nd.keys++[.string key]) (Oc r.nd.spots++[.int .i64 a,.int .i64 b]) (O6 r.nd.subs++[.int .i64 n]) ->
     O7g w (((V.setCell ⟨g,i*7+2,none⟩ kv).setCell ⟨g,i*7+3,none⟩ sv).setCell ⟨g,i*7+4,none⟩ uv) R B base s root (.slice g L.length cap) L own so x i (V10 r.nd (bs key) (a,b) n)):=by
  intro V kv sv uv H;refine h.putDone i r hr (V10 r.nd (bs key) (a,b) n) rfl rfl rfl ?_;exact J65
 refine Z101 ?_;intro bG iK k1 k2 k3 k4 iS s1 s2 s3 s4 iU u1 u2 u3 u4 fL et fV pI fh;clear h8 k1 k2 k3 k4 s1 s2 s3 s4 u1 u2 u3 u4 fz h lF jr jt hr n0 n1 n2 n3 n4 n5 n6 nf;go_enter func62,ntmps62;exact J196
end
section
open Pl Go.Proofs.Tryz Go.RowKit Go.Shelf Go.Joins
attribute [local go_sem] U22
def O2t:V7u->Value
 |.yes i => .int .i64 i
 |_ => .int .i64 (-1)
theorem Ock(w:World)(R B base:Nat)(s:ByteArray)(root:Int)(nv:Value)(L:List Vy)(own:Nat->Nat)(so:List (Nat×Nat))(x:GrX)(h:GrV w R B base s root nv L own so x)(i:Nat)(key:ByteArray)(X:V7u)(hX:V1a (L.map (·.nd)) i (bs key)=X)(a8:X≠.non):Calls prog 115 #[.pointer (some ⟨R,0,none⟩),i,.string key] w λ e w'=>e=.returned (O2t X)/\w=w':=by
 unfold V1a at hX;rw[U1m]at hX;cases hr:L[i]? with
 |none=>rw[hr]at hX;exact absurd hX.symm a8
 |some r =>
 rw[hr]at hX;simp only[U25]at hX;have hi:i<L.length:=(U14.1 hr).1;obtain⟨g,cap,cur,rfl,qe,aW,dR,oZ,tM,lF,jr,F7,eP,jt⟩:=h.form Ya;obtain⟨⟨c0,c1,c2,c3,c4,c5,c6⟩,c7,c8,fz⟩:=h.cells;obtain⟨n0,n1,n2,n3,n4,n5,n6,nf⟩:=h.ndCells rfl i r hr;refine Z141 ?_;intro pI fh;have hx:=h.rows i r hr;have HI:Hid (Calls prog 146 #[r.kv,.string key] w λ e w'=>e=.returned (.int .i64 (match r.nd.keys.findIdx? (λ k=>k==bs key) with|none => -1|some j=>(j:Int)))/\w=w'):=by
  refine Z214 ?_;intro dF;by_cases hn:0<r.nd.keys.length;obtain⟨b,c,hv,mB,eP⟩:=hx.k.form hn;have cA:=hx.k.cells (g:=b) (by rw[hv];rfl);exact J139
  have h0:r.nd.keys=[]:=U31 Ya;obtain⟨a,c,hv⟩:∃a c,r.kv=.slice a 0 c:=by
   rcases Oo hx.k with⟨e,_⟩|⟨g',c',e,_,_⟩
   exact⟨none,0,e⟩
   exact⟨some ⟨g',0,none⟩,c',by rw[e,h0];rfl⟩
  exact J193
 cases hf:r.nd.keys.findIdx? (λ k=>k==bs key) with
 |none =>
  rw[hf]at hX HI;subst hX;clear hf hx h a8 c1 c2 c3 c4 c5 c6 c7 c8 fz n0 n1 n3 n4 n5 n6 nf lF jt jr;go_enter func115,ntmps115;go_wp2_with fail;refine HI.o.mono ?_;refine Z48 ?_;go_wp2_with fail;exact U11 (v:=.int .i64 (-1)) (by simp[results,results115,go_sem]) rfl ⟨rfl,rfl⟩
 |some j =>
  rw[hf]at hX HI;simp only at hX HI;cases hu:r.nd.subs[j]? with
  |none=>rw[hu]at hX;exact absurd hX.symm a8
  |some u =>
  rw[hu]at hX;simp only at hX
  split at hX
  ·subst hX;have hj:j<r.nd.subs.length:=(U14.1 hu).1;obtain⟨b,c,hv,mB,eP⟩:=hx.u.form Ya;have cA:=hx.u.cells (g:=b) (by rw[hv];rfl) j u (by simp[O6,hu]);rw[hv]at n4;refine Z230 ?_;intro I7;have qH:(j:Int)<(r.nd.subs.length:Int):=by omega
   have QF:decide ((j:Int)<0)=false:=Yb;clear hf hx h a8 c1 c2 c3 c4 c5 c6 c7 c8 fz n0 n1 n3 n5 n6 nf lF jt jr hu;go_enter func115,ntmps115;go_wp2_with fail;refine HI.o.mono ?_;refine Z48 ?_;go_wp2_with fail;exact U11 (v:=.int .i64 u) (by simp[results,results115,go_sem]) rfl ⟨rfl,rfl⟩
  exact absurd hX.symm a8
def Og(k:Nat):Vy:=⟨V14 k,.slice none 0 0,.slice none 0 0,.slice none 0 0⟩
theorem Oih(k:Nat):Vdh (Og k):=⟨⟨rfl,rfl⟩,⟨rfl,rfl⟩,rfl,rfl⟩
theorem Oam(w:World)(base:Nat)(own:Nat->Nat)(k:Nat):V7g w base own (Og k) :=
 ⟨O16 (Ot _ _ _ _),O16 (Ot _ _ _ _),O16 (Ot _ _ _ _),λ _ e=>by (simp[Og,Value.ownBlock]at e),λ _ e=>by (simp[Og,Value.ownBlock]at e),λ _ e=>by (simp[Og,Value.ownBlock]at e),
  λ _ e=>by (simp[Og,Value.ownBlock]at e),λ _ e=>by (simp[Og,Value.ownBlock]at e),λ _ e=>by (simp[Og,Value.ownBlock]at e)⟩
def Ocl(w w2:World)(R B base:Nat)(s:ByteArray)(root:Int)(L:List Vy)(own:Nat->Nat)(so:List (Nat×Nat))(x:GrX)(k:Nat)(t:Nat×Nat):Prop :=
 ∃nv' own',GrV w2 R B base s root nv' (L++[Og k]) own' (so++[t]) x/\St (FV own) (FV own') w w2/\(∀k,own' k≠0->own k≠0\/w.heap.size<=k)
structure Vb4(R B b:Nat)(nv:Value)(t:Nat×Nat)(w:World):Prop where
 c0:w.cell? R=some nv
 c3:w.cell? ⟨R,3,none⟩=some (.map (some B))
 t0:w.cell? b=some (.int .u8 t.1)
 t1:w.cell? ⟨b,1,none⟩=some (.int .i64 t.2)
theorem GrV.grown{w W w1 w3:World}{R B base:Nat}{s:ByteArray}{root:Int}{nv:Value}{L:List Vy}{own:Nat->Nat}{so:List (Nat×Nat)}{x:GrX}(h:GrV w R B base s root nv L own so x)(g1:Gr w W)(k:Nat)(t:Nat×Nat)(g cap:Nat)(dG:w1.ownsRow base 40 7 (.slice g (L.length+1) cap) (L.length+1) (V34 L++ndV (Og k)))(hg:W.grownBy w1 nv.ownBlock)(cX:nv.ownBlock=some g\/g=W.heap.size)(a9:g<w1.heap.size){D:V5o}(hD:O2x D so)(hm:w3.ownsMap prog 3 sortR B (so.length+x.many+1) (D.put L.length (O2o t)))(h3:((w1.setCell R (.slice g (L.length+1) cap)).drew).grownBy w3 (some B)):Ocl w w3 R B base s root L own so x k t:=by
 obtain⟨own',h2,aa,bL⟩:=h.appended g1 (Og k) (Oam _ _ _ _) g cap dG hg cX a9;obtain⟨w2,fq⟩:=ExZ (w1.setCell R (.slice g (L.length+1) cap))
 rw[fq]at h2 aa h3;have hb:∀k,k<w2.heap.size->k≠B->w3.heap[k]?=w2.heap[k]?:=λ k hk a8=>h3.block k hk (λ e=>a8 (U2m e))
 have tF:=h2.oB;refine⟨_,own',h2.turn (so':=so++[t]) (x':=x) Yb ?_ ⟨_,?_,hD.put L.length t ?_ ?_⟩ (λ k hk _ a8=>hb k (h2.lt k hk).2 a8) h3.size (λ i r hr hq=>?_),?_,λ k hk=>?_⟩;rw[hb R h2.R_lt.2 (λ e=>by have h1:=h2.oR;rw[e,tF]at h1;omega)];exact h2.blk;rw[U1b,U1z,show so.length+1+x.many=so.length+x.many+1 by omega];exact hm;rw[U1i,<-h.sl,U1y (U12 _),U42];rfl
 intro j hj;rw[U1i,U1i,U3o]
 split;rfl
 rename_i a9
 rw[U2g (l:=[t]) (by rw[<-h.sl]at hj;simp;omega),U2g (l:=so) Ya]
 by_cases hi:i=L.length;right;subst hi;rw[U1y (U12 _),U42]at hr;simp at hr;subst hr;exact Oih k
 left;have dT:i<L.length:=by have:=(U14.1 hr).1;simp at this;omega
 unfold Oi at hq⊢;rw[U1i,U19 (by rw[h.sl];exact dT)]at hq;rw[U1i,U19 (by rw[h.sl];exact dT)];exact hq
 have cv:∀k',(FV own k'\/(Og k).kv.ownBlock=some k'\/(Og k).sv.ownBlock=some k'\/(Og k).uv.ownBlock=some k')->FV own k':=λ k' hk=>by
  rcases hk with hk|hk|hk|hk
  exact hk;simp[Og,Value.ownBlock]at hk;simp[Og,Value.ownBlock]at hk
  simp[Og,Value.ownBlock]at hk
 have aX:St (FV own) (FV own') w w2:=⟨aa.os,aa.tape,aa.output,aa.size,λ k' hk hn=>aa.block k' hk (λ e=>hn (cv k' e)),λ k' hk=>(aa.own k' hk).imp (cv k') id⟩
 exact aX.drew.grown h3 (λ k e=>by cases e;exact .inl (by unfold FV;rw[h.oB];omega))
 rcases bL k hk with e|e|e
 exact .inl e;exfalso;simp[Og,Value.ownBlock]at e
 exact .inr e
theorem Oft(W:World)(L:List Value)(t:TypeId)(n:Nat)(hn:n=W.heap.size):∀(j:Nat) u,L[j]?=some u->(W.alloc (.cells L.toArray t)).cell? ((⟨n,0,none⟩:Addr).add j)=some u:=by
 subst hn;intro j u hu;rw[U49,U1v,cell_of_block (U1w W _)]
 simpa using hu
theorem O6k(w:World)(R B base:Nat)(s:ByteArray)(root:Int)(nv:Value)(L:List Vy)(own:Nat->Nat)(so:List (Nat×Nat))(x:GrX)(h:GrV w R B base s root nv L own so x)(hL:L.length<=30000000)(hm:x.many<=30000000)(k:Nat)(t:Nat×Nat):Calls prog 36 #[.pointer (some ⟨R,0,none⟩),.int .u8 k,.agg #[.int .u8 t.1,t.2]] w λ e w'=>e=.returned L.length/\Ocl w w' R B base s root L own so x k t:=by
 obtain⟨iN,hi,fI,az,aM⟩:=U3w Oc0;obtain⟨⟨c0,c1,c2,c3,c4,c5,c6⟩,c7,c8,fz⟩:=h.cells;have AD:=fz 0;have hR:=h.R_lt;have bS:base<=w.heap.size:=Ya;have a8:some R≠nv.ownBlock:=O2u h.oN (by rw[h.oR];omega);obtain⟨D,vZ,sJ⟩:=h.map;have H:=U10 h;have HI:=U10 (And.intro hi (And.intro fI (And.intro az aM)));have Rx:=U10 vZ;have Ry:=U10 sJ;have oa:=h.sl;have HB:=U10 (And.intro h.B_lt.2 (show B≠R from λ e=>by have h1:=h.oR;rw[<-e,h.oB]at h1;omega));have Rz:=U10 (show some B≠nv.ownBlock from O2u h.oN (by rw[h.oB];omega));clear fz hi fI az aM h vZ sJ c1 c2 c4 c5 c6 c7 c8;go_enter func36,ntmps36
 go_upto_region 1 with fail
 obtain⟨W,hW⟩:=ExZ (w.alloc (.cells #[.int .u8 t.1,t.2] 94))
 have gW:Gr w W:=by rw[<-hW];exact (Gr.refl w).alloc _
 have AU:W.heap[w.heap.size]?=some (.cells #[.int .u8 t.1,t.2] 94 (0,0)):=by rw[<-hW];exact U1w w _
 have b0:W.cell? w=some (.int .u8 t.1):=by rw[cell_of_block AU];rfl
 have b1:W.cell? ⟨w,1,none⟩=some (.int .i64 t.2):=by rw[cell_of_block AU];rfl
 have bv:w.heap.size<W.heap.size:=(U18.1 AU).1;have e0:W.cell? R=some nv:=(gW.use.1 R 0 hR.2).trans c0;have e1:W.frozen? R=false:=(gW.use.2.1 R 0 hR.2).trans AD;have e3:W.cell? ⟨R,3,none⟩=some (.map (some B)):=(gW.use.1 R 3 hR.2).trans c3;have AE:R<W.heap.size:=U13 hR.2 gW.size;have PS:base<=W.heap.size:=U1l bS gW.size;have F3:=U10 (O1 H.o.nodes λ k e=>gW.block (H.o.nodes.lt k e).2);have nz:=U10 gW
 try rw[hW]
 clear hW gW AU c0 c3 AD
 go_upto_region 2 with (at_builtin;refine wpList_append_lies _ rfl (.tmp 12) (.tmp 16) 24 rfl base 40 iN (.agg #[.int .u8 0,.string ⟨#[]⟩,.slice none 0 0,.slice none 0 0,.slice none 0 0,(0:Int),(0:Int)]) 7 112 underlying24 HI.o.1 HI.o.2.1 HI.o.2.2.1 HI.o.2.2.2 rfl Yd _ L.length _ rfl (O1 F3.o λ k e=>((Gr.refl W).alloc _).block (F3.o.lt k e).2) ⟨_,0,none⟩ 1 1 [.int .u8 k,.string ⟨#[]⟩,.slice none 0 0,.slice none 0 0,.slice none 0 0,.int .i64 (-1),.int .i64 (-1)] rfl rfl (Oft _ [.int .u8 k,.string ⟨#[]⟩,.slice none 0 0,.slice none 0 0,.slice none 0 0,.int .i64 (-1),.int .i64 (-1)] _ _ Yb) Ym Yd Yk Ya Ye _ rfl ?_;intro g cap w1 dm fU gm az;have f3:w1.frozen? R=false:=(fU.frozen_far ⟨R,0,none⟩ Ye a8).trans ((((Gr.refl W).alloc _).use.2.1 R 0 AE).trans e1);have f4:w1.cell? R=some nv:=(fU.cell_far ⟨R,0,none⟩ Ye a8).trans ((((Gr.refl W).alloc _).use.1 R 0 AE).trans e0))
 have oU:some w.heap.size≠nv.ownBlock:=λ e=>by have:=(H.o.nodes.lt _ e.symm).2;omega
 have JH:∀b,b<W.heap.size->b≠R->some b≠nv.ownBlock->∀j,(w1.setCell R (.slice g (L.length+1) cap)).cell? ⟨b,j,none⟩=W.cell? ⟨b,j,none⟩:=λ b hb Il FL j=>by
  rw[U1n _ _ _ _ Yf];exact (fU.cell_far ⟨b,j,none⟩ Ye FL).trans (((Gr.refl W).alloc _).use.1 b j hb)
 have bj:Vb4 R B w.heap.size (.slice g (L.length+1) cap) t (w1.setCell R (.slice g (L.length+1) cap)).drew :=
  ⟨U2v _ _ _ (by rw[f4];rfl),by
   show (w1.setCell R _).cell? ⟨R,3,none⟩=_;rw[U1n _ _ _ _ Yb];exact (fU.cell_far ⟨R,3,none⟩ Ye a8).trans ((((Gr.refl W).alloc _).use.1 R 3 AE).trans e3),(JH _ bv Ya oU 0).trans b0,(JH _ bv Ya oU 1).trans b1⟩
 have jM:(w1.setCell R (.slice g (L.length+1) cap)).drew.ownsMap prog 3 sortR B (so.length+x.many) D:=Oe Rx.o (by
  show (w1.setCell R _).heap[B]?=_;have AU:B<W.heap.size:=U13 HB.o.1 nz.o.size;rw[U15 _ _ _ _ (by simpa using HB.o.2),fU.block B Ye (λ e=>Rz.o e),((Gr.refl W).alloc _).block AU,nz.o.block HB.o.1])
 obtain⟨w3,zh,tU,dp⟩:=jM.update (Maps.int_keyed underlying3) underlying65 Yk (key:=.int .i64 (L.length:Int)) (kl:=.int .i64 (L.length:Int)) (U4d underlying3 (by simp[Lit.wf,IntKind.min,IntKind.max,IntKind.signed,IntKind.bits];omega)) (O7f t);have nG:=U10 (H.o.grown (nz.o.alloc (.cells #[.int .u8 k,.string ⟨#[]⟩,.slice none 0 0,.slice none 0 0,.slice none 0 0,.int .i64 (-1),.int .i64 (-1)] 40)) k t g cap dm fU gm az Ry.o tU dp);have vA:w3.cell? R=some (.slice g (L.length+1) cap):=by
  have aV:w3.heap[R]?=((w1.setCell R (.slice g (L.length+1) cap)).drew).heap[R]?:=dp.block R (by have:=((Gr.refl W).alloc (.cells #[.int .u8 k,.string ⟨#[]⟩,.slice none 0 0,.slice none 0 0,.slice none 0 0,.int .i64 (-1),.int .i64 (-1)] 40)).size;have:=fU.size;simp[World.setCell];omega) (λ e=>HB.o.2 (U2m e).symm);exact (U1r (a:=R) aV).trans bj.c0
 have wk:IntKind.i64.wrap (((L.length+1:Nat):Int)-1)=(L.length:Int):=by rw[U1k _ ⟨Ya,Ya⟩];omega
 have RA:IntKind.i64.wrap ((L.length:Int)+1-1)=(L.length:Int):=by rw[U1k _ ⟨Ya,Ya⟩];omega
 have UR:IntKind.i64.wrap (L.length:Int)=(L.length:Int):=U1k _ ⟨Ya,Ya⟩;unfold O20 at zh;clear dm fU gm az jM tU dp JH f3 f4 b0 b1 e0 e1 e3;refine Reg.begin' (W:=λ i=>i != 12) (S:=Vb4 R B w.heap.size (.slice g (L.length+1) cap) t) Yc ?_;refine Z32 ?_;refine Reg.tl 3 bj ?_ (hy:=by intro w ab;obtain⟨c0,c3,t0,t1⟩:=ab;go_simp;try with_reducible rfl);refine Z83 ?_;refine Reg.ty 7 ?_;refine Reg.tl 8 bj ?_ (hy:=by intro w ab;obtain⟨c0,c3,t0,t1⟩:=ab;go_simp;try with_reducible rfl);refine Reg.ty 9 ?_;refine Reg.ty 10 ?_;refine Reg.tl 11 bj ?_ (hy:=by intro w ab;obtain⟨c0,c3,t0,t1⟩:=ab;go_simp;try with_reducible rfl);refine Reg.on 12 ?_;go_simp;refine Z12 ?_;go_wp2_with fail;exact U11 (v:=.int .i64 L.length) (by simp[results,results36,go_sem]) rfl ⟨rfl,nG.o⟩
def O1i(X:Pl.Ov)(e:Ending):Prop:=match X with
 |.non=>True
 |.go n d=>e=.returned (.tuple #[.agg #[n,d],.bool true])
 |.no=>∃n d:Int,e=.returned (.tuple #[.agg #[n,d],.bool false])
structure GM(w:World)(R B base:Nat)(s:ByteArray)(nv:Value)(L:List Vy)(own:Nat->Nat)(x:GrX)(g:Vb):Prop where
 v:GrV w R B base s 0 nv L own g.srt x
 nd:L.map (·.nd)=g.nds
 sec:x.sec=g.sec
 dep:x.dep=g.dep
 many:x.many=g.many
theorem GM.gr{w w':World}{R B base:Nat}{s:ByteArray}{nv:Value}{L:List Vy}{own:Nat->Nat}{x:GrX}{g:Vb}(h:GM w R B base s nv L own x g)(q:Gr w w'):GM w' R B base s nv L own x g :=
 ⟨h.v.gr q,h.nd,h.sec,h.dep,h.many⟩
structure Vdi(b r gu m:Nat)(an d l:Nat)(w:World):Prop where
 c:w.cell? ⟨gu,m,none⟩=some (.int .i64 l)
 p:FX b an d w
 r:FX r (0:Int) (0:Int) w
theorem Ook(w:World)(R B base:Nat)(s:ByteArray)(nv:Value)(L:List Vy)(own:Nat->Nat)(x:GrX)(g:Vb)(h:GM w R B base s nv L own x g)(an d i:Nat)(hi:i<L.length)(hL:L.length<=30000000)(hd:d<=1000000000)(X:Pl.Ov)(hX:V37 g d i=X)(a8:X≠.non):Calls prog 114 #[.pointer (some ⟨R,0,none⟩),.agg #[an,d],i] w λ e w'=>O1i X e/\Gr w w':=by
 refine Z115 ?_;intro c0 c1 c2 c3 c4 c5 c6 c7 c8 fz hR sh sof bR hs ny;have H:=U10 h;have HX:=U10 hX;have HS:=U10 hs;clear h hX hs bR fz c1 c2 c4 c5 c6 c7 c8;go_enter func114,ntmps114
 go_upto_region 1 with fail
 obtain⟨W,hW⟩:=ExZ ((w.alloc (.cells #[an,d] 67)).alloc (.cells #[(0:Int),(0:Int)] 67))
 have gW:Gr w W:=by rw[<-hW];exact ((Gr.refl w).alloc _).alloc _
 have mI:FX w an d W:=by rw[<-hW];exact (FX.new w _ _ 67).gr ((Gr.refl _).alloc _)
 refine Z260 ?_;intro fM;have e0:W.cell? R=some nv:=(gW.use.1 R 0 hR.2).trans c0;have e3:W.cell? ⟨R,3,none⟩=some (.map (some B)):=(gW.use.1 R 3 hR.2).trans c3;have rC:(Instr.lookup 65 (.map (some B)) i false).run prog W=.ok (.agg #[.int .u8 sh,sof]) W:=ny.o W gW;obtain⟨p0,p1,pf,pl⟩:=mI;obtain⟨r0,r1,rf,rl⟩:=fM;have HG:=U10 gW;have bU:R<W.heap.size:=U13 hR.2 gW.size
 try rw[hW]
 clear hW gW c0 c3;by_cases h0:sh=0
 ·have s0:((sh:Int)==0)=true:=by simp;omega
  have JI:X=.no:=by rw[<-HX.o];unfold V37;rw[HS.o,U1a h0]
  subst JI;go_wp2_with fail;obtain⟨WF,ao⟩:=ExZ (((W.setCell (w.heap.size+1:Nat) (0:Int)).setCell ⟨w+1,1,none⟩ (0:Int)))
  have hF:FX (w.heap.size+1) (0:Int) (0:Int) WF:=by rw[<-ao];exact FX.set ⟨r0,r1,rf,rl⟩ _ _
  have gF:Gr w WF:=by rw[<-ao];exact (HG.o.setCell (p:=⟨w+1,0,none⟩) (U2t _) _).setCell (p:=⟨w+1,1,none⟩) (U2t _) _
  rw[ao];clear ao;obtain⟨q0,q1,qf,ql⟩:=hF.gr ((Gr.refl WF).alloc (.cells #[.int .u8 0,sof] 94));have gE:=gF.alloc (.cells #[.int .u8 0,sof] 94);exact U11 (v:=.tuple #[.agg #[(0:Int),(0:Int)],.bool false]) (by simp[results,results114,go_sem,q0,q1,qf,ql]) rfl ⟨⟨0,0,rfl⟩,gE⟩
 have s0:((sh:Int)==0)=false:=Ye
 by_cases h4:sh=4
 ·have s4:((sh:Int)==4)=true:=by simp;omega
  obtain⟨r,hr⟩:∃r,L[i]?=some r:=⟨_,U1e hi⟩
  have aL:g.nds[i]?=some r.nd:=by rw[<-H.o.nd,U1m,hr];rfl
  have ae:=HX.o;unfold V37 at ae;rw[HS.o,U1c h0,U1a h4,aL]at ae;simp only at ae;cases hl:r.nd.subs.getLast? with
  |none=>rw[hl]at ae;exact absurd ae.symm a8
  |some l =>
   rw[hl]at ae;simp only at ae;subst ae;obtain⟨gn,cap,cur,sO,_,aW,_⟩:=H.o.v.form Ya;obtain⟨_,_,_,_,n4,_⟩:=H.o.v.ndCells sO i r hr;have iY:0<r.nd.subs.length:=by
    cases hs:r.nd.subs with
    |nil=>rw[hs]at hl;cases hl
    |cons=>simp
   have tO:=(H.o.v.rows i r hr).u;obtain⟨gu,cu,mo,mB,eP⟩:=tO.form iY;have FM:r.nd.subs[r.nd.subs.length-1]?=some l:=by rw[<-U3i];exact hl
   have cA:=tO.cells (g:=gu) (by rw[mo];rfl) (r.nd.subs.length-1) l (by simp[O6,FM]);have FN:=(tO.lt gu (by rw[mo];rfl)).2;rw[mo]at n4;have N4:=(HG.o.use.1 _ _ aW).trans n4;have uO:gn<W.heap.size:=U13 aW HG.o.size;have JJ:gu<W.heap.size:=U13 FN HG.o.size;have CL:=(HG.o.use.1 _ _ FN).trans cA;obtain⟨m,hm⟩:∃m,r.nd.subs.length=m+1:=⟨r.nd.subs.length-1,Ya⟩
   rw[hm]at N4 CL mB;simp only[Nat.add_sub_cancel]at CL;refine Z141 ?_;intro j1 j2;have j3:(0:Int)<=(m:Int):=Ya
   have j4:(m:Int)<((m+1:Nat):Int):=Ya;have j5:(m:Int)<(m:Int)+1:=Ya;have FO:m<9223372036854775807:=by unfold maxLen at eP;omega
   have wm:IntKind.i64.wrap (m:Int)=(m:Int):=U1k _ ⟨Ya,Ya⟩;have RC:IntKind.i64.wrap (((m+1:Nat):Int)-1)=(m:Int):=by rw[U1k _ ⟨Ya,Ya⟩];omega
   have RD:IntKind.i64.wrap ((d:Int)+2)=(d:Int)+2:=U1k _ ⟨Ya,Ya⟩;subst sO;clear aL hl FM iY tO mo cA n4 aW FN hr hm eP mB
   go_upto_region 7 with fail
   obtain⟨W9,An⟩:=ExZ (W.alloc (.cells #[.int .u8 4,sof] 94))
   have g9:Gr W W9:=by rw[<-An];exact (Gr.refl W).alloc _
   have hS:Vdi w.heap.size (w.heap.size+1) gu m an d l W9.drew :=
    ⟨(g9.drew.use.1 _ _ JJ).trans CL,FX.gr ⟨p0,p1,pf,pl⟩ g9.drew,FX.gr ⟨r0,r1,rf,rl⟩ g9.drew⟩
   obtain⟨xX,xY,xZ,y8⟩:=FX.gr ⟨r0,r1,rf,rl⟩ g9;have RE:=U10 (HG.o.trans g9);rw[An];clear An g9 N4 CL p0 p1 pf pl r0 r1 rf rl e0 e3 rC;refine Reg.begin' (W:=λ i=>i != 10) (S:=Vdi w.heap.size (w.heap.size+1) gu m an d l) Yc ?_;refine Z32 ?_;refine Z41 ?_;refine Reg.tl 5 hS ?_ (hy:=by intro w ab;obtain⟨s1,⟨s2,s3,s4,s5⟩,s6⟩:=ab;go_simp;try with_reducible rfl);refine Reg.ty 6 ?_;refine Reg.tl 7 hS ?_ (hy:=by intro w ab;obtain⟨s1,⟨s2,s3,s4,s5⟩,s6⟩:=ab;go_simp;try with_reducible rfl);refine Z313 ?_;refine Reg.on 10 ?_;go_simp;refine Z2 ?_;refine Reg.ty 11 ?_;refine Z12 ?_;go_wp2_with fail;obtain⟨WF,ao⟩:=ExZ (((W9.setCell (w.heap.size+1:Nat) l).setCell ⟨w+1,1,none⟩ (.int .i64 ((d:Int)+2))))
   have hF:FX (w.heap.size+1) l (.int .i64 ((d:Int)+2)) WF:=by rw[<-ao];exact FX.set ⟨xX,xY,xZ,y8⟩ _ _
   have gF:Gr w WF:=by rw[<-ao];exact (RE.o.setCell (p:=⟨w+1,0,none⟩) (U2t _) _).setCell (p:=⟨w+1,1,none⟩) (U2t _) _
   rw[ao];obtain⟨q0,q1,qf,ql⟩:=hF.gr (Gr.refl WF).drew;have gE:=gF.drew;clear ao hF gF xX xY xZ y8 hS;exact U11 (v:=.tuple #[.agg #[l,.int .i64 ((d:Int)+2)],.bool true]) (by simp[results,results114,go_sem,q0,q1,qf,ql]) rfl ⟨by simp[O1i],gE⟩
 have s4:((sh:Int)==4)=false:=Ye;have JK:X=.go i (d+1):=by rw[<-HX.o];unfold V37;rw[HS.o,U1c h0,U1c h4]
 subst JK;refine Z152 ?_;intro JL;go_wp2_with fail;refine Z292 ?_;intro WF ao;have hF:FX (w.heap.size+1) i (.int .i64 ((d:Int)+1)) WF:=by rw[<-ao];exact FX.set ⟨r0,r1,rf,rl⟩ _ _
 have gF:Gr w WF:=by rw[<-ao];exact (HG.o.setCell (p:=⟨w+1,0,none⟩) (U2t _) _).setCell (p:=⟨w+1,1,none⟩) (U2t _) _
 rw[ao];clear ao;obtain⟨q0,q1,qf,ql⟩:=hF.gr ((Gr.refl WF).alloc (.cells #[.int .u8 sh,sof] 94));have gE:=gF.alloc (.cells #[.int .u8 sh,sof] 94);exact U11 (v:=.tuple #[.agg #[i,.int .i64 ((d:Int)+1)],.bool true]) (by simp[results,results114,go_sem,q0,q1,qf,ql]) rfl ⟨by simp[O1i],gE⟩
structure Vbu(R B b:Nat)(i an d many sh sof:Nat)(w:World):Prop where
 c3:w.cell? ⟨R,3,none⟩=some (.map (some B))
 c6:w.cell? ⟨R,6,none⟩=some (.int .i64 many)
 p1:w.cell? ⟨b,1,none⟩=some (.int .i64 d)
 lk:(Instr.lookup 65 (.map (some B)) i false).run prog w=.ok (.agg #[.int .u8 sh,sof]) w
theorem Ol3(w:World)(R B base:Nat)(s:ByteArray)(nv:Value)(L:List Vy)(own:Nat->Nat)(x:GrX)(g:Vb)(h:GM w R B base s nv L own x g)(an d i:Nat)(hi:i<L.length)(hL:L.length<=30000000)(hd:d<=1000000000):Calls prog 119 #[.pointer (some ⟨R,0,none⟩),.agg #[an,d],i] w λ e w'=>O1i (V27 g d i) e/\Gr w w':=by
 refine Z115 ?_;intro c0 c1 c2 c3 c4 c5 c6 c7 c8 fz hR sh sof bR hs ny;have HS:=U10 hs;rw[h.many]at c6;obtain⟨many,JM⟩:=ExZ (g.many)
 rw[JM]at c6;have JN:=U10 JM;clear h hs bR fz c0 c1 c2 c4 c5 c7 c8 JM;refine Z152 ?_;intro JL;go_enter func119,ntmps119
 go_upto_region 1 with fail
 obtain⟨W,hW⟩:=ExZ ((w.alloc (.cells #[an,d] 67)).alloc (.cells #[(0:Int),(0:Int)] 67))
 have gW:Gr w W:=by rw[<-hW];exact ((Gr.refl w).alloc _).alloc _
 have mI:FX w an d W:=by rw[<-hW];exact (FX.new w _ _ 67).gr ((Gr.refl _).alloc _)
 refine Z260 ?_;intro fM;have hS:Vbu R B w.heap.size i an d many sh sof W.drew :=
  ⟨(gW.drew.use.1 R 3 hR.2).trans c3,(gW.drew.use.1 R 6 hR.2).trans c6,mI.2.1,ny.o W.drew gW.drew⟩
 obtain⟨r0,r1,rf,rl⟩:=fM;have HG:=U10 gW
 try rw[hW]
 clear hW gW;refine Z292 ?_;intro WF ao;have hF:FX (w.heap.size+1) i (.int .i64 ((d:Int)+1)) WF:=by rw[<-ao];exact FX.set ⟨r0,r1,rf,rl⟩ _ _
 have gF:Gr w WF:=by rw[<-ao];exact (HG.o.setCell (p:=⟨w+1,0,none⟩) (U2t _) _).setCell (p:=⟨w+1,1,none⟩) (U2t _) _
 have br:Vbu R B w.heap.size i an d many sh sof WF.drew:=by
  have p1:WF.cell? ⟨w,1,none⟩=some (.int .i64 d):=by
   rw[<-ao,U1n _ _ _ _ Yb,U1n _ _ _ _ Yb];exact mI.2.1
  exact⟨(gF.drew.use.1 R 3 hR.2).trans c3,(gF.drew.use.1 R 6 hR.2).trans c6,p1,ny.o WF.drew gF.drew⟩
 have HF:=U10 hF;have AV:=U10 gF;have jo:=U10 br;have mY:=U10 ao;clear c3 c6 mI hF gF br ao;have hb:(∃b,b=(((sh:Int)==3)&&((sof:Int)==(many:Int)))):=⟨_,rfl⟩
 obtain⟨bb,cr⟩:=hb;have gy:(((sh:Int)==3)=false/\bb=false)\/(((sh:Int)==3)=true/\((sof:Int)==(many:Int))=false/\bb=false)\/(((sh:Int)==3)=true/\((sof:Int)==(many:Int))=true/\bb=true):=by
  cases h1:((sh:Int)==3) <;> cases h2:((sof:Int)==(many:Int)) <;> rw[h1,h2]at cr <;> simp[cr]
 have vX:=U10 cr;clear cr;rcases gy with⟨e1,rfl⟩|⟨e1,e2,rfl⟩|⟨e1,e2,rfl⟩
 all_goals
  refine Reg.begin' (W:=λ _=>true) (S:=Vbu R B w.heap.size i an d many sh sof) Yc ?_;refine Z322 ?_;refine Reg.ty 5 ?_;refine Z142 ?_;refine Reg.ty 13 ?_;refine Reg.tl 14 hS ?_ (hy:=by intro w ab;obtain⟨s1,s2,s3,s4⟩:=ab;go_simp;try with_reducible rfl);refine Reg.ty 15 ?_;refine Reg.ty 16 ?_;refine Z186 ?_;rw[mY.o];refine⟨by first|exact jo.o|exact λ _=>jo.o|exact λ _ _=>jo.o,?_⟩;refine Reg.pt ?_;refine Reg.ty 18 ?_;refine Z12 ?_;go_wp2_with fail;obtain⟨q0,q1,qf,ql⟩:=HF.o.gr (Gr.refl WF).drew;have gE:=AV.o.drew
 have hX:V27 g d i=.no:=by
  unfold V27;rw[HS.o,JN.o,U1c (λ h=>by cases h;simp at e1)]
 exact J162
 have hX:V27 g d i=.no:=by
  unfold V27;rw[HS.o,JN.o,U1c (λ h=>by cases h;simp at e2)]
 exact J162
 have hX:V27 g d i=.go i (d+1):=by
  unfold V27;rw[HS.o,JN.o,U1a (by rw[U17];exact⟨by have h:=eq_of_beq e1;omega,by have h:=eq_of_beq e2;omega⟩)]
 rw[hX];exact U11 (v:=.tuple #[.agg #[i,.int .i64 ((d:Int)+1)],.bool true]) (by simp[results,results119,go_sem,q0,q1,qf,ql]) rfl ⟨by simp[O1i],gE⟩
theorem fx5(w:World)(a0 b0 a1 b1 a2 b2 a3 b3 a4 b4:Value)(T0 T1 T2 T3 T4:TypeId):FX w a0 b0 (((((w.alloc (.cells #[a0,b0] T0)).alloc (.cells #[a1,b1] T1)).alloc (.cells #[a2,b2] T2)).alloc (.cells #[a3,b3] T3)).alloc (.cells #[a4,b4] T4))/\FX (w.heap.size+1) a1 b1 (((((w.alloc (.cells #[a0,b0] T0)).alloc (.cells #[a1,b1] T1)).alloc (.cells #[a2,b2] T2)).alloc (.cells #[a3,b3] T3)).alloc (.cells #[a4,b4] T4)) /\FX (w.heap.size+1+1) a2 b2 (((((w.alloc (.cells #[a0,b0] T0)).alloc (.cells #[a1,b1] T1)).alloc (.cells #[a2,b2] T2)).alloc (.cells #[a3,b3] T3)).alloc (.cells #[a4,b4] T4))/\FX (w.heap.size+1+1+1) a3 b3 (((((w.alloc (.cells #[a0,b0] T0)).alloc (.cells #[a1,b1] T1)).alloc (.cells #[a2,b2] T2)).alloc (.cells #[a3,b3] T3)).alloc (.cells #[a4,b4] T4)) /\FX (w.heap.size+1+1+1+1) a4 b4 (((((w.alloc (.cells #[a0,b0] T0)).alloc (.cells #[a1,b1] T1)).alloc (.cells #[a2,b2] T2)).alloc (.cells #[a3,b3] T3)).alloc (.cells #[a4,b4] T4))/\Gr w (((((w.alloc (.cells #[a0,b0] T0)).alloc (.cells #[a1,b1] T1)).alloc (.cells #[a2,b2] T2)).alloc (.cells #[a3,b3] T3)).alloc (.cells #[a4,b4] T4)) /\(((((w.alloc (.cells #[a0,b0] T0)).alloc (.cells #[a1,b1] T1)).alloc (.cells #[a2,b2] T2)).alloc (.cells #[a3,b3] T3)).alloc (.cells #[a4,b4] T4)).heap.size=w.heap.size+1+1+1+1+1:=by
 obtain⟨w1,h1⟩:=ExZ (w.alloc (.cells #[a0,b0] T0))
 obtain⟨w2,h2⟩:=ExZ (w1.alloc (.cells #[a1,b1] T1))
 obtain⟨w3,h3⟩:=ExZ (w2.alloc (.cells #[a2,b2] T2))
 obtain⟨w4,h4⟩:=ExZ (w3.alloc (.cells #[a3,b3] T3))
 obtain⟨w5,h5⟩:=ExZ (w4.alloc (.cells #[a4,b4] T4))
 rw[h1,h2,h3,h4,h5];have z1:w1.heap.size=w.heap.size+1:=by rw[<-h1];simp
 have z2:w2.heap.size=w.heap.size+1+1:=by rw[<-h2];simp[z1]
 have z3:w3.heap.size=w.heap.size+1+1+1:=by rw[<-h3];simp[z2]
 have z4:w4.heap.size=w.heap.size+1+1+1+1:=by rw[<-h4];simp[z3]
 have z5:w5.heap.size=w.heap.size+1+1+1+1+1:=by rw[<-h5];simp[z4]
 have g1:Gr w w1:=by rw[<-h1];exact (Gr.refl _).alloc _
 have g2:Gr w1 w2:=by rw[<-h2];exact (Gr.refl _).alloc _
 have g3:Gr w2 w3:=by rw[<-h3];exact (Gr.refl _).alloc _
 have g4:Gr w3 w4:=by rw[<-h4];exact (Gr.refl _).alloc _
 have g5:Gr w4 w5:=by rw[<-h5];exact (Gr.refl _).alloc _
 have f0:FX w a0 b0 w1:=by rw[<-h1];exact FX.new w _ _ _
 have f1:FX w1 a1 b1 w2:=by rw[<-h2];exact FX.new w1 _ _ _
 have f2:FX w2 a2 b2 w3:=by rw[<-h3];exact FX.new w2 _ _ _
 have f3:FX w3 a3 b3 w4:=by rw[<-h4];exact FX.new w3 _ _ _
 have f4:FX w4 a4 b4 w5:=by rw[<-h5];exact FX.new w4 _ _ _
 rw[z1]at f1;rw[z2]at f2;rw[z3]at f3;rw[z4]at f4;exact⟨f0.gr (g2.trans (g3.trans (g4.trans g5))),f1.gr (g3.trans (g4.trans g5)),f2.gr (g4.trans g5),f3.gr g5,f4,g1.trans (g2.trans (g3.trans (g4.trans g5))),z5⟩
def O44(w:World)(R B base:Nat)(s:ByteArray)(own:Nat->Nat)(x:GrX)(X:V9 (Nat×Nat×Vb))(e:Ending)(w':World):Prop:=match X with
 |.non=>True
 |.bad c p=>(∃n d:Int,e=.returned (.tuple #[.agg #[n,d],fv c p]))/\c≠0/\∃own',St (FV own) (FV own') w w'/\w'.cell? ⟨R,2,none⟩=some (.string s)/\(∀k,own' k≠0->own k≠0\/w.heap.size<=k)
 |.ok (n,d,g')=>e=.returned (.tuple #[.agg #[n,d],f0])/\∃nv' L' own',GM w' R B base s nv' L' own' x g'/\St (FV own) (FV own') w w'/\(∀k,own' k≠0->own k≠0\/w.heap.size<=k)
theorem fx2{w W:World}{b3 b4:Nat}{x3 y3 x4 y4:Value}(h3:FX b3 x3 y3 W)(h4:FX b4 x4 y4 W)(hn:b3≠b4)(g:Gr w W)(l3:w.heap.size<=b3)(l4:w.heap.size<=b4)(p q u v:Value):FX b3 p q ((((W.setCell b3 p).setCell ⟨b3,1,none⟩ q).setCell b4 u).setCell ⟨b4,1,none⟩ v) /\FX b4 u v ((((W.setCell b3 p).setCell ⟨b3,1,none⟩ q).setCell b4 u).setCell ⟨b4,1,none⟩ v) /\Gr w ((((W.setCell b3 p).setCell ⟨b3,1,none⟩ q).setCell b4 u).setCell ⟨b4,1,none⟩ v) :=
 ⟨((FX.set h3 _ _).other (U3l hn) _).other (U3l hn) _,FX.set ((FX.other h4 hn _).other hn _) _ _,
  (((g.setCell (p:=b3) l3 _).setCell (p:=⟨b3,1,none⟩) l3 _).setCell (p:=b4) l4 _).setCell (p:=⟨b4,1,none⟩) l4 _⟩
theorem V63{w W:World}{F F':Nat->Prop}{b3 b4:Nat}{x3 y3 x4 y4:Value}(h3:FX b3 x3 y3 W)(h4:FX b4 x4 y4 W)(hn:b3≠b4)(g:St F F' w W)(l3:w.heap.size<=b3)(l4:w.heap.size<=b4)(p q u v:Value):FX b3 p q ((((W.setCell b3 p).setCell ⟨b3,1,none⟩ q).setCell b4 u).setCell ⟨b4,1,none⟩ v) /\FX b4 u v ((((W.setCell b3 p).setCell ⟨b3,1,none⟩ q).setCell b4 u).setCell ⟨b4,1,none⟩ v) /\St F F' w ((((W.setCell b3 p).setCell ⟨b3,1,none⟩ q).setCell b4 u).setCell ⟨b4,1,none⟩ v) /\(∀k,k≠b3->k≠b4->((((W.setCell b3 p).setCell ⟨b3,1,none⟩ q).setCell b4 u).setCell ⟨b4,1,none⟩ v).heap[k]?=W.heap[k]?) /\W.heap.size<=((((W.setCell b3 p).setCell ⟨b3,1,none⟩ q).setCell b4 u).setCell ⟨b4,1,none⟩ v).heap.size :=
 ⟨((FX.set h3 _ _).other (U3l hn) _).other (U3l hn) _,FX.set ((FX.other h4 hn _).other hn _) _ _,
  (((g.setCell (p:=b3) (.inr l3) _).setCell (p:=⟨b3,1,none⟩) (.inr l3) _).setCell (p:=b4) (.inr l4) _).setCell (p:=⟨b4,1,none⟩) (.inr l4) _,
  λ k k3 k4=>by rw[U15 _ _ _ _ k4,U15 _ _ _ _ k4,U15 _ _ _ _ k3,U15 _ _ _ _ k3],
  by simp[World.setCell]⟩
theorem O98(L:List Vy)(an:Nat)(r:Vy)(hr:L[an]?=some r)(w:Pl.Bs)(sp:Nat×Nat)(n:Nat)(kv sv uv:Value):(L.set an ⟨V10 r.nd w sp n,kv,sv,uv⟩).map (·.nd)=Vf (L.map (·.nd)) an w sp n:=by
 unfold Vf;refine U4f λ k=>?_
 rw[U3p,U1m,U1m,U2h];have hl:an<L.length:=(U14.1 hr).1;by_cases hk:an=k;subst hk;simp[hl,hr];have h2:=(U14.1 hr).2;rw[h2]
 simp[hk]
theorem Oeh(fo:Nat)(um:∀args w,(callFunc fo args).run prog w=.ok (.enter fo args) w)(p1 p2:Value)(over:Nat->Pl.Ov)(w:World)(R B base:Nat)(s:ByteArray)(nv:Value)(L:List Vy)(own:Nat->Nat)(x:GrX)(g:Vb)(h:GM w R B base s nv L own x g)(HO:∀W,Gr w W->∀i,i<L.length->over i≠.non->Calls prog fo #[i,p1,p2] W λ e W'=>O1i (over i) e/\Gr W W')(an d:Nat)(wd:ByteArray)(a b:Nat)(t:Nat×Nat)(hL:L.length<=20000001)(hm:x.many<=30000000)(hd:d<=1000000000)(X:V9 (Nat×Nat×Vb))(hX:V1p g an d (bs wd) a b t over=X)(a8:X≠.non):Calls prog 117 #[.pointer (some ⟨R,0,none⟩),.agg #[an,d],.string wd,.agg #[a,b],.agg #[.int .u8 t.1,t.2],.func (.func fo) #[] #[p1,p2]] w (O44 w R B base s own x X):=by
 obtain⟨XS,oo⟩:=ExZ (V1a g.nds an (bs wd))
 have kQ:XS≠.non:=λ e=>by
  subst e;unfold V1p at hX;rw[oo]at hX;exact a8 hX.symm
 have lX:=U10 (λ W (q:Gr w W)=>Ock W R B base s 0 nv L own g.srt x (h.v.gr q) an wd XS (by rw[h.nd];exact oo) kQ);have AW:w.heap.size<=w.heap.size+1+1+1:=Ya;have AX:w.heap.size<=w.heap.size+1+1+1+1:=Ya;have H:=U10 h;have HX:=U10 hX;have Dd:=U10 oo;have De:=U10 HO;clear h hX oo HO;go_enter func117,ntmps117
 go_upto_region 1 with fail
 obtain⟨W,hW⟩:=ExZ (((((w.alloc (.cells #[an,d] 67)).alloc (.cells #[a,b] 38)).alloc (.cells #[.int .u8 t.1,t.2] 94)).alloc (.cells #[(0:Int),(0:Int)] 67)).alloc (.cells #[(0:Int),(0:Int)] 29))
 obtain⟨kj,bJ,aA,aV,dE,gW,Mi⟩:FX w an d W/\FX (w.heap.size+1) a b W/\FX (w.heap.size+1+1) (.int .u8 t.1) t.2 W/\FX (w.heap.size+1+1+1) (0:Int) (0:Int) W/\FX (w.heap.size+1+1+1+1) (0:Int) (0:Int) W/\Gr w W/\W.heap.size=w.heap.size+1+1+1+1+1:=by
  rw[<-hW];exact fx5 w _ _ _ _ _ _ _ _ _ _ _ _ _ _ _
 try rw[hW]
 clear hW;have JO:=U10 kj;have iV:=U10 bJ;have oQ:=U10 aA;have ir:=U10 aV;have vW:=U10 dE;have HG:=U10 gW;obtain⟨Df,Dg,Dh,Di⟩:=kj;clear bJ aA aV dE gW;go_wp2_with fail;refine (lX.o W HG.o).mono ?_;refine Z48 ?_;cases XS with
 |non=>exact absurd rfl kQ
 |yes i =>
  have JP:i<L.length:=by
   have h1:=Dd.o;unfold V1a at h1
   split at h1;cases h1
   split at h1;cases h1
   split at h1;cases h1
   split at h1
   rename_i h2
   cases h1;rw[<-H.o.nd,U1j]at h2;exact h2
   cases h1
  have s0:((i:Int) != -1)=true:=Yb;have ae:=HX.o;unfold V1p at ae;rw[Dd.o]at ae;simp only at ae;have Dj:over i≠.non:=λ e=>by rw[e]at ae;exact a8 ae.symm
  dsimp only [O2t];go_wp2_with fail;refine (De.o W HG.o i JP Dj).mono ?_;cases bV:over i with
  |non=>exact absurd bV Dj
  |go n d' =>
   rw[bV]at ae;simp only at ae;subst ae;rintro e w2 ⟨he,g2⟩;have qS:e=.returned (.tuple #[.agg #[.int .i64 n,d'],.bool true]):=he;subst qS;have dp:=HG.o.trans g2;obtain⟨r0,r1,rf,rl⟩:=ir.o.gr g2;obtain⟨k0,k1,kf,kl⟩:=vW.o.gr g2;have nH:=U10 dp;clear g2 dp Df Dg Dh Di;go_wp2_with fail;have cD:=fx2 ⟨r0,r1,rf,rl⟩ ⟨k0,k1,kf,kl⟩ Ya nH.o AW AX n d' (0:Int) (0:Int);obtain⟨WF,ao⟩:=ExZ (((((w2.setCell (w.heap.size+1+1+1:Nat) n).setCell ⟨w+1+1+1,1,none⟩ d').setCell (w.heap.size+1+1+1+1:Nat) (0:Int)).setCell ⟨w+1+1+1+1,1,none⟩ (0:Int)))
   rw[ao]at cD;rw[ao];obtain⟨df,d6,gF⟩:=cD;clear ao;obtain⟨q0,q1,qf,ql⟩:=df.gr ((Gr.refl WF).alloc (.cells #[n,d'] 67));obtain⟨y0,y1,yf,yl⟩:=d6.gr ((Gr.refl WF).alloc (.cells #[n,d'] 67));have gE:=gF.alloc (.cells #[n,d'] 67);exact U11 (v:=.tuple #[.agg #[n,d'],f0]) (by simp[results,results117,go_sem,q0,q1,qf,ql,y0,y1,yf,yl]) rfl ⟨rfl,_,_,_,H.o.gr gE,(St.refl (FV own) w).gr gE,λ k hk => .inl hk⟩
  |no =>
   rw[bV]at ae;simp only at ae;subst ae;rintro e w2 ⟨he,g2⟩;obtain⟨n,d',qS⟩:∃n d':Int,e=.returned (.tuple #[.agg #[n,d'],.bool false]):=he;subst qS;have dp:=HG.o.trans g2;clear Df Dg Dh Di
   go_upto_region 6 with fail
   obtain⟨W5,fw⟩:=ExZ (w2.alloc (.cells #[n,d'] 67))
   have g5:Gr w2 W5:=by rw[<-fw];exact (Gr.refl _).alloc _
   have fM:=iV.o.gr (g2.trans g5);have cL:=ir.o.gr (g2.trans g5);have rD:=vW.o.gr (g2.trans g5);have rE:=U10 (dp.trans g5);rw[fw];have hS:FX (w.heap.size+1) a b W5.drew:=fM.gr (Gr.refl W5).drew;clear fw g5 g2 dp;obtain⟨r0,r1,rf,rl⟩:=id cL;obtain⟨k0,k1,kf,kl⟩:=id rD;refine Z43 ?_;refine Z12 ?_;go_wp2_with fail;have cD:=fx2 cL rD Ya rE.o AW AX (0:Int) (0:Int) (5:Int) a;obtain⟨WF,ao⟩:=ExZ (((((W5.setCell (w.heap.size+1+1+1:Nat) (0:Int)).setCell ⟨w+1+1+1,1,none⟩ (0:Int)).setCell (w.heap.size+1+1+1+1:Nat) (5:Int)).setCell ⟨w+1+1+1+1,1,none⟩ a))
   rw[ao]at cD;rw[ao];obtain⟨df,d6,gF⟩:=cD;clear ao;obtain⟨q0,q1,qf,ql⟩:=df.gr (Gr.refl WF).drew;obtain⟨y0,y1,yf,yl⟩:=d6.gr (Gr.refl WF).drew;have gE:=gF.drew;have hR:=H.o.v.R_lt;exact U11 (v:=.tuple #[.agg #[(0:Int),(0:Int)],fv 5 a]) (by simp[results,results117,go_sem,q0,q1,qf,ql,y0,y1,yf,yl]) rfl ⟨⟨0,0,rfl⟩,Yd,_,(St.refl (FV own) w).gr gE,(gE.use.1 R 2 hR.2).trans H.o.v.cells.1.2.2.1,λ k hk => .inl hk⟩
 |no =>
  have s0:((-1:Int) != -1)=false:=Yb;have ae:=HX.o;unfold V1p at ae;rw[Dd.o]at ae;simp only at ae;dsimp only [O2t];refine Z152 ?_;intro JL;by_cases hH:256<d+1
  ·have s2:decide ((256:Int)<(d:Int)+1)=true:=by simp;omega
   rw[U1a hH]at ae;subst ae
   go_upto_region 8 with fail
   have fM:=iV.o;have cL:=ir.o;have rD:=vW.o;have rE:=HG;have hS:FX (w.heap.size+1) a b W.drew:=fM.gr (Gr.refl W).drew;clear Df Dg Dh Di;obtain⟨r0,r1,rf,rl⟩:=id cL;obtain⟨k0,k1,kf,kl⟩:=id rD;refine Z43 ?_;refine Z12 ?_;go_wp2_with fail;have cD:=fx2 cL rD Ya rE.o AW AX (0:Int) (0:Int) (4:Int) a;obtain⟨WF,ao⟩:=ExZ (((((W.setCell (w.heap.size+1+1+1:Nat) (0:Int)).setCell ⟨w+1+1+1,1,none⟩ (0:Int)).setCell (w.heap.size+1+1+1+1:Nat) (4:Int)).setCell ⟨w+1+1+1+1,1,none⟩ a))
   rw[ao]at cD;rw[ao];obtain⟨df,d6,gF⟩:=cD;clear ao;obtain⟨q0,q1,qf,ql⟩:=df.gr (Gr.refl WF).drew;obtain⟨y0,y1,yf,yl⟩:=d6.gr (Gr.refl WF).drew;have gE:=gF.drew;have hR:=H.o.v.R_lt;exact U11 (v:=.tuple #[.agg #[(0:Int),(0:Int)],fv 4 a]) (by simp[results,results117,go_sem,q0,q1,qf,ql,y0,y1,yf,yl]) rfl ⟨⟨0,0,rfl⟩,Yd,_,(St.refl (FV own) w).gr gE,(gE.use.1 R 2 hR.2).trans H.o.v.cells.1.2.2.1,λ k hk => .inl hk⟩
  have s2:decide ((256:Int)<(d:Int)+1)=false:=Ye;rw[U1c hH]at ae;by_cases cY:(V2o g an&&Pl.room g.nds)=true
  ·rw[U1a cY]at ae;subst ae;rw[U1h]at cY;obtain⟨lc,bx⟩:=cY;unfold V2o at lc;rw[U1h]at lc;obtain⟨bh,f7⟩:=lc;have Ns:=H.o.gr HG.o;have FP:∀k,own k≠0->k<w.heap.size:=λ k hk=>(H.o.v.lt k hk).2
   obtain⟨t0,t1,tf,tl⟩:=oQ.o;have Nt:=U10 (show g.nds.length=L.length by rw[<-H.o.nd,U1j]);go_wp2_with fail;refine (O6k W R B base s 0 nv L own g.srt x Ns.v Ya hm 8 t).mono ?_;rintro e w3 ⟨BG,kO,aC,ig,iL,mJ⟩;subst BG;have n0:own w.heap.size=0:=U1g λ h=>by have:=FP _ h;omega
   have n1:own (w.heap.size+1)=0:=U1g λ h=>by have:=FP _ h;omega
   have n3:own (w.heap.size+1+1+1)=0:=U1g λ h=>by have:=FP _ h;omega
   have n4:own (w.heap.size+1+1+1+1)=0:=U1g λ h=>by have:=FP _ h;omega
   have m0:aC w.heap.size=0:=U1g λ h=>(mJ _ h).elim (λ h=>h n0) (λ h=>by omega)
   have m3:aC (w.heap.size+1+1+1)=0:=U1g λ h=>(mJ _ h).elim (λ h=>h n3) (λ h=>by omega)
   have m4:aC (w.heap.size+1+1+1+1)=0:=U1g λ h=>(mJ _ h).elim (λ h=>h n4) (λ h=>by omega)
   have x0:=JO.o.st iL (λ h=>h n0);have x1:=iV.o.st iL (λ h=>h n1);have x3:=ir.o.st iL (λ h=>h n3);have x4:=vW.o.st iL (λ h=>h n4);have X0:=U10 x0;have X3:=U10 x3;have X4:=U10 x4;obtain⟨RF,RH,RI,RJ⟩:=x0;obtain⟨RL,RM,RN,RO⟩:=x1;clear x3 x4 Df Dg Dh Di t0 t1 tf tl;have fx:=bh;unfold Pl.kind8 at fx;rw[U1h,U1x]at fx;obtain⟨sP,cI⟩:=fx;obtain⟨r,hr⟩:∃r,L[an]?=some r:=by
    cases hr:L[an]? with
    |some r=>exact⟨r,rfl⟩
    |none =>
     rw[<-H.o.nd,U1m,hr]at cI;cases cI
   have qp:g.nds[an]?=some r.nd:=by rw[<-H.o.nd,U1m,hr];rfl
   rw[qp]at cI;simp only[U1h,U1x]at cI;obtain⟨⟨⟨_,ag⟩,aF⟩,lC⟩:=cI;have Dk:an<L.length:=(U14.1 hr).1;have aZ:(L++[Og 8])[an]?=some r:=by rw[U19 Dk];exact hr
   have oa:g.srt.length=L.length:=H.o.v.sl;have cB:Oi (g.srt++[t]) an:=by
    have h1:(g.srt++[t]).getD an (0,0)=g.srt.getD an (0,0):=by
     exact J85
    unfold Oi;rw[h1];intro h2;unfold Vd at f7;rw[h2]at f7;cases f7
   have oq:=U10 (Oco w3 R B base s 0 kO (L++[Og 8]) aC (g.srt++[t]) x ig (by rw[U1b];simp only[U1z];omega) an r aZ cB ag aF lC wd a b L.length);have jC:=U10 iL;have zi:=U10 mJ;clear aZ cB qp f7 bh ig iL mJ ag aF lC sP Ns;go_wp2_with fail;refine oq.o.mono ?_;rintro e w4 ⟨RP,ac,kv,sv,uv,je,dZ,sQ⟩;subst RP;have y0:=X0.o.st dZ (λ h=>h m0);have y3:=X3.o.st dZ (λ h=>h m3);have y4:=X4.o.st dZ (λ h=>h m4);obtain⟨Df,Dg,Dh,Di⟩:=y0;have Y3:=U10 y3;have Y4:=U10 y4;obtain⟨r0,r1,rf,rl⟩:=y3;obtain⟨k0,k1,kf,kl⟩:=y4;go_wp2_with fail;have cD:=V63 Y3.o Y4.o Ya ((HG.o.st).trans (jC.o.trans dZ)) AW AX L.length (.int .i64 ((d:Int)+1)) (0:Int) (0:Int);obtain⟨WF,ao⟩:=ExZ (((((w4.setCell (w.heap.size+1+1+1:Nat) L.length).setCell ⟨w+1+1+1,1,none⟩ (.int .i64 ((d:Int)+1))).setCell (w.heap.size+1+1+1+1:Nat) (0:Int)).setCell ⟨w+1+1+1+1,1,none⟩ (0:Int)))
   rw[ao]at cD;rw[ao];obtain⟨df,d6,sF,bF,zF⟩:=cD;clear ao;obtain⟨q0,q1,qf,ql⟩:=df;obtain⟨y0,y1,yf,yl⟩:=d6;have z3:ac (w.heap.size+1+1+1)=0:=U1g λ h=>(sQ _ h).elim (λ h=>h m3) (λ h=>by have:=X3.o.2.2.2;omega)
   have z4:ac (w.heap.size+1+1+1+1)=0:=U1g λ h=>(sQ _ h).elim (λ h=>h m4) (λ h=>by have:=X4.o.2.2.2;omega)
   have wQ:=je.kept (w':=WF) (λ k hk=>bF k (λ e=>hk (by rw[e];exact z3)) (λ e=>hk (by rw[e];exact z4))) zF;have bH:=jC.o.size;have RQ:GM WF R B base s kO ((L++[Og 8]).set an ⟨V10 r.nd (bs wd) (a,b) L.length,kv,sv,uv⟩) ac x (V1r (V1o g 8 t) an (bs wd) (a,b) g.nds.length):=by
    refine⟨wQ,?_,H.o.sec,H.o.dep,H.o.many⟩;rw[O98 _ an r (by rw[U19 Dk];exact hr),Nt.o,U2x,H.o.nd];rfl
   refine U11 (v:=.tuple #[.agg #[L.length,.int .i64 ((d:Int)+1)],f0]) (by simp[results,results117,go_sem,q0,q1,qf,ql,y0,y1,yf,yl]) rfl ⟨by rw[Nt.o];rfl,_,_,_,RQ,sF,λ k hk=>?_⟩;rcases sQ k hk with h|h
   rcases zi.o k h with h|h
   exact .inl h
   exact J69
   exact J69
  exact J84
end
section
open Pl Go.Proofs.Tryz Go.RowKit Go.Joins
theorem V26.set{w:World}{base e size n g cap:Nat}{xs:List Value}(h:V26 w base e size (.slice g n cap) n xs)(j:Nat)(hj:j<xs.length)(v:Value):V26 (w.setCell ⟨g,j,none⟩ v) base e size (.slice g n cap) n (xs.set j v):=by
 obtain⟨v0,h1,h2,h3⟩:=h;rcases h3 with rfl|⟨g',c,rfl,h4⟩
 exact O16 (Oy h1 j hj v)
 simp only[U3h,U1f,Addr.mk.injEq,true_and,and_true]at h4;obtain⟨rfl,rfl⟩:=h4;exact⟨_,Oy h1 j hj v,rfl,.inr ⟨g,c,rfl,rfl⟩⟩
def O10(n:Nat)(r:Vy):Vy:=⟨{ r.nd with subs:=r.nd.subs.map (· + n),owner:=0 },r.kv,r.sv,r.uv⟩
def V64(n m:Nat)(l:List Nat):List Nat:=(l.take m).map (· + n)++l.drop m
theorem Oky(n:Nat)(l:List Nat):V64 n l.length l=l.map (· + n):=by simp[V64]
theorem Oik(n:Nat)(l:List Nat):V64 n 0 l=l:=by simp[V64]
theorem Okz(n m:Nat)(l:List Nat):(V64 n m l).length=l.length:=by simp[V64];omega
theorem Ol0(n m:Nat)(l:List Nat)(hm:m<l.length):(V64 n m l)[m]?=some l[m]:=by
 unfold V64;rw[U1y Ye];simp;rw[show m-min m l.length=0 from by omega];simp[hm]
theorem Ol1(n m:Nat)(l:List Nat)(hm:m<l.length):(V64 n m l).set m (l[m]+n)=V64 n (m+1) l:=by
 unfold V64;have hl:((l.take m).map (· + n)).length=m:=Ye
 rw[U4a _ _ Ya,hl,U42,U1u hm,U34,List.take_add_one,U1e hm,U2x,U4e];rfl
theorem Oil(l:List Nat)(m k:Nat):(O6 l).set m k=O6 (l.set m k):=by
 unfold O6;rw[List.map_set]
def RB(r:Vy)(k:Nat):Prop:=r.kv.ownBlock=some k\/r.sv.ownBlock=some k\/r.uv.ownBlock=some k
def TB(T:List Vy)(j:Nat)(k:Nat):Prop:=∃(i:Nat)(r:Vy),i<j/\T[i]?=some r/\RB r k
theorem TB.mono{T:List Vy}{j j' k:Nat}(h:TB T j k)(hj:j<=j'):TB T j' k:=by
 obtain⟨i,r,h1,h2⟩:=h;exact⟨i,r,Ya,h2⟩
def O8e(w:World)(base2:Nat)(v:Value)(T:List Vy):Prop:=(v=.slice none 0 0/\T=[])\/∃g,v=.slice (some ⟨g,0,none⟩) T.length T.length/\V2b w base2 g T
theorem RB.lt{w:World}{base2 g j k:Nat}{T:List Vy}{r:Vy}(h:V2b w base2 g T)(hr:T[j]?=some r)(hb:RB r k):base2<=k/\k<w.heap.size:=by
 obtain⟨a,b,c⟩:=h.rows j r hr;rcases hb with e|e|e
 exact a.lt k e;exact b.lt k e
 exact c.lt k e
theorem V2b.apart{w:World}{base2 g:Nat}{T:List Vy}(h:V2b w base2 g T){i j k:Nat}{r r':Vy}(hr:T[i]?=some r)(eM:T[j]?=some r')(hb:RB r k)(j8:RB r' k):i=j:=by
 obtain⟨tg,_,ht⟩:=h.tg;obtain⟨a,b,c⟩:=ht i r hr;obtain⟨a',b',c'⟩:=ht j r' eM;have h1:tg k=4+3*i\/tg k=5+3*i\/tg k=6+3*i:=hb.imp (a k) (λ e=>e.imp (b k) (c k));have h2:tg k=4+3*j\/tg k=5+3*j\/tg k=6+3*j:=j8.imp (a' k) (λ e=>e.imp (b' k) (c' k));omega
theorem V2b.root_apart{w:World}{base2 g:Nat}{T:List Vy}(h:V2b w base2 g T){i k:Nat}{r:Vy}(hr:T[i]?=some r)(hb:RB r k):k≠g:=by
 obtain⟨tg,h3,ht⟩:=h.tg;obtain⟨a,b,c⟩:=ht i r hr;have h1:tg k=4+3*i\/tg k=5+3*i\/tg k=6+3*i:=hb.imp (a k) (λ e=>e.imp (b k) (c k));intro e;subst e;omega
theorem V2b.rows_apart{w:World}{base2 g:Nat}{T:List Vy}(h:V2b w base2 g T){i:Nat}{r:Vy}(hr:T[i]?=some r):(∀k,r.kv.ownBlock=some k->r.sv.ownBlock≠some k)/\(∀k,r.kv.ownBlock=some k->r.uv.ownBlock≠some k)/\(∀k,r.sv.ownBlock=some k->r.uv.ownBlock≠some k):=by
 obtain⟨tg,h3,ht⟩:=h.tg;obtain⟨a,b,c⟩:=ht i r hr;exact⟨λ k e e2=>by have:=a k e;have:=b k e2;omega,λ k e e2=>by have:=a k e;have:=c k e2;omega,λ k e e2=>by have:=b k e;have:=c k e2;omega⟩
structure V3t(w:World)(R B base base2 g0:Nat)(s:ByteArray)(L:List Vy)(own:Nat->Nat)(so:List (Nat×Nat))(x:GrX)(T:List Vy)(j:Nat)(nv':Value)(own':Nat->Nat)(wr:World):Prop where
 v:GrV wr R B base s 0 nv' (L++(T.take j).map (O10 L.length)) own' (so++List.replicate (T.take j).length (0,0)) x
 st:St (λ k=>FV own k\/TB T T.length k) (FV own') w wr
 on:∀k,own' k≠0->own k≠0\/TB T j k\/w.heap.size<k
 rest:∀(i:Nat) r,j<=i->T[i]?=some r->∀k,RB r k->wr.heap[k]?=w.heap[k]?
 g0:wr.heap[g0]?=w.heap[g0]?
section
variable {w wr W2 wF:World}{R B base base2 g0:Nat}{s:ByteArray}{L:List Vy}{own:Nat->Nat}{so:List (Nat×Nat)}{x:GrX}{T:List Vy}{j:Nat}{nv':Value}{own':Nat->Nat}{r:Vy}
theorem V3t.start(nv:Value)(h:GrV w R B base s 0 nv L own so x)(q:Gr w wr)(g0:Nat)(hg:g0<w.heap.size)(hT:T=[]\/V2b w base2 g0 T):V3t w R B base base2 g0 s L own so x T 0 nv own wr :=
 ⟨by simpa using h.gr q,⟨Below.os q,Below.tape q,Below.output q,q.size,λ k hk _=>q.block hk,λ k hk => .inl (.inl hk)⟩,λ k hk => .inl hk,λ i r _ hr k hb=>by
  rcases hT with rfl|hT
  simp at hr
  exact q.block (hb.lt hT hr).2,q.block hg⟩
theorem V3t.free(h:V3t w R B base base2 g0 s L own so x T j nv' own' wr)(hT:V2b w base2 g0 T)(ho:∀k,base2<=k->own k=0){i:Nat}{r:Vy}(hi:j<=i)(hr:T[i]?=some r){k:Nat}(hb:RB r k):own' k=0 :=
 U1g λ hk=>by
  have hl:=hb.lt hT hr;rcases h.on k hk with e|⟨i',r',h1,h2,h3⟩|e
  exact e (ho k hl.1);have:=hT.apart hr h2 hb h3;omega
  omega
theorem V3t.free0(h:V3t w R B base base2 g0 s L own so x T j nv' own' wr)(hT:V2b w base2 g0 T)(ho:∀k,base2<=k->own k=0):own' g0=0 :=
 U1g λ hk=>by
  have hl:=hT.lt;rcases h.on g0 hk with e|⟨i',r',h1,h2,h3⟩|e
  exact e (ho g0 hl.1);exact hT.root_apart h2 h3 rfl
  omega
theorem V3t.strange(h:V3t w R B base base2 g0 s L own so x T j nv' own' wr)(hT:V2b w base2 g0 T)(ho:∀k,base2<=k->own k=0)(cr:base<=base2)(hr:T[j]?=some r)(hW:St (λ k=>r.uv.ownBlock=some k) (λ _=>False) wr W2)(hu:V26 W2 base2 3 1 r.uv r.nd.subs.length (O6 (r.nd.subs.map (· + L.length)))):V7g W2 base own' (O10 L.length r):=by
 obtain⟨a1,a2,a3⟩:=hT.rows_apart hr;obtain⟨b1,b2,_⟩:=hT.rows j r hr;have hz:∀k,RB r k->k<wr.heap.size:=λ k hb=>U13 (hb.lt hT hr).2 h.st.size
 have hk:∀k,RB r k->r.uv.ownBlock≠some k->W2.heap[k]?=w.heap[k]?:=λ k hb hn=>(hW.block k (hz k hb) hn).trans (h.rest j r (U12 _) hr k hb)
 have hf:∀k,RB r k->own' k=0/\k<W2.heap.size:=λ k hb=>⟨h.free hT ho (U12 _) hr hb,U13 (hz k hb) hW.size⟩
 exact⟨(b1.of_block λ k e=>hk k (.inl e) (a2 k e)).low cr,(b2.of_block λ k e=>hk k (.inr (.inl e)) (a3 k e)).low cr,by simpa [O10]using hu.low cr,
  λ k e=>hf k (.inl e),λ k e=>hf k (.inr (.inl e)),λ k e=>hf k (.inr (.inr e)),a1,a2,a3⟩
theorem V3t.kept(h:V3t w R B base base2 g0 s L own so x T j nv' own' wr)(hT:V2b w base2 g0 T)(ho:∀k,base2<=k->own k=0)(hr:T[j]?=some r)(hW:St (λ k=>r.uv.ownBlock=some k) (λ _=>False) wr W2):GrV W2 R B base s 0 nv' (L++(T.take j).map (O10 L.length)) own' (so++List.replicate (T.take j).length (0,0)) x :=
 h.v.kept (λ k hk=>hW.block k (h.v.lt k hk).2 (λ e=>hk (h.free hT ho (U12 _) hr (.inr (.inr e))))) hW.size
theorem V3t.more(h:V3t w R B base base2 g0 s L own so x T j nv' own' wr)(hT:V2b w base2 g0 T)(ho:∀k,base2<=k->own k=0)(hr:T[j]?=some r)(hz:w.heap.size<wr.heap.size)(hW:St (λ k=>r.uv.ownBlock=some k) (λ _=>False) wr W2){io:Value}(hm:Oa2 W2 wF R B base s 0 (L++(T.take j).map (O10 L.length)) own' (so++List.replicate (T.take j).length (0,0)) x (O10 L.length r) io):∃ac,V3t w R B base base2 g0 s L own so x T (j+1) io ac wF:=by
 obtain⟨ac,h1,h2,h3⟩:=hm;have hj:j<T.length:=(U14.1 hr).1;have dy:=hW.size;have hF:=h2.size;have hO:∀k,ac k≠0->own k≠0\/TB T (j+1) k\/w.heap.size<k:=λ k hk=>by
  rcases h3 k hk with e|e|e
  rcases h.on k e with e|e|e
  exact .inl e;exact .inr (.inl (e.mono (U2t _)))
  exact .inr (.inr e);exact .inr (.inl ⟨j,r,Nat.lt_succ_self _,hr,e⟩)
  exact .inr (.inr Ya)
 have hB:∀k,k<wr.heap.size->¬FV own' k->¬RB r k->wF.heap[k]?=wr.heap[k]?:=λ k hk n1 n2 =>
  (h2.block k Ya (λ e=>e.elim n1 n2)).trans (hW.block k hk (λ e=>n2 (.inr (.inr e))))
 refine⟨ac,?_,⟨h2.os.trans (hW.os.trans h.st.os),h2.tape.trans (hW.tape.trans h.st.tape),h2.output.trans (hW.output.trans h.st.output),Ya,λ k hk hn=>?_,λ k hk=>?_⟩,hO,λ i r' hi eM k hb=>?_,?_⟩
 have e1:T.take (j+1)=T.take j++[r]:=by rw[List.take_add_one,hr];rfl
 have e2:L++(T.take (j+1)).map (O10 L.length)=(L++(T.take j).map (O10 L.length))++[O10 L.length r]:=by rw[e1];simp
 have e3:so++List.replicate (T.take (j+1)).length (0,0)=(so++List.replicate (T.take j).length (0,0))++[(0,0)]:=by
  rw[e1,U1b,U1z,List.replicate_succ',U4e]
 rw[e2,e3];exact h1
 refine (hB k Ya (λ e=>?_) (λ e=>hn (.inr ⟨j,r,hj,hr,e⟩))).trans (h.st.block k hk hn);rcases h.on k e with e|e|e
 exact hn (.inl e);exact hn (.inr (e.mono Ya))
 omega
 rcases hO k hk with e|e|e
 exact .inl (.inl e);exact .inl (.inr (e.mono Ya))
 exact J69;refine (hB k (by have:=(hb.lt hT eM).2;omega) (λ e=>e (h.free hT ho Ya eM hb)) (λ e=>?_)).trans (h.rest i r' Ya eM k hb);have:=hT.apart eM hr hb e;omega
 exact (hB g0 (by have:=hT.lt.2;omega) (λ e=>e (h.free0 hT ho)) (λ e=>hT.root_apart hr e rfl)).trans h.g0
end
end
section
open Pl Go.Proofs.Tryz Go.RowKit Go.Shelf Go.Joins
attribute [local go_sem] U22
theorem O1n(w:World):Calls prog 18 #[f0] w λ e w'=>e=.returned (.bool true)/\Gr w w':=by
 go_enter func18,ntmps18;exact J158
theorem O21(c p:Nat)(hc:¬(c:Int)=0)(w:World):Calls prog 18 #[fv c p] w λ e w'=>e=.returned (.bool false)/\Gr w w':=by
 go_enter func18,ntmps18;exact J158
theorem Onj(fo:Nat)(um:∀args w,(callFunc fo args).run prog w=.ok (.enter fo args) w)(X:Pl.Ov)(a8:X≠.non)(w:World)(R bo bf:Nat)(an d i:Nat)(hO:w.cell? bo=some (.func (.func fo) #[.pointer (some ⟨R,0,none⟩)] #[]))(uP:bo<w.heap.size)(hF:FX bf an d w)(HO:∀W,Gr w W->Calls prog fo #[.pointer (some ⟨R,0,none⟩),.agg #[an,d],i] W λ e W'=>O1i X e/\Gr W W'):Calls prog 157 #[i,.pointer (some ⟨bo,0,none⟩),.pointer (some ⟨bf,0,none⟩)] w λ e w'=>O1i X e/\Gr w w':=by
 have De:=U10 HO;clear HO;go_enter func157,ntmps157
 go_upto_region 1 with fail
 obtain⟨W,hW⟩:=ExZ (w.alloc (.cells #[(0:Int),(0:Int)] 67))
 have gW:Gr w W:=by rw[<-hW];exact (Gr.refl w).alloc _
 have hB:FX w (0:Int) (0:Int) W:=by rw[<-hW];exact FX.new w _ _ _
 have RR:=hF.gr gW;have US:=(gW.use.1 _ _ uP).trans hO;have kx:=U13 uP gW.size;rw[hW];clear hW;have HG:=U10 gW;have HB:=U10 hB;obtain⟨p0,p1,pf,pl⟩:=RR;clear hB gW hO hF uP;go_wp2_with fail;refine (De.o W HG.o).mono ?_;cases X with
 |non=>exact absurd rfl a8
 |go n d' =>
  rintro e w2 ⟨he,g2⟩;have qS:e=.returned (.tuple #[.agg #[.int .i64 n,d'],.bool true]):=he;subst qS;have hb:=HB.o.gr g2;obtain⟨r0,r1,rf,rl⟩:=id hb;have dp:=HG.o.trans g2;have kX:=U10 dp;have Hb:=U10 hb;clear dp g2 hb;go_wp2_with fail;refine Z120 ?_;intro WF q0 q1 qf ql gF;exact U11 (v:=.tuple #[.agg #[n,d'],.bool true]) (by simp[results,results157,go_sem,q0,q1,qf,ql]) rfl ⟨by simp[O1i],gF⟩
 |no =>
  rintro e w2 ⟨he,g2⟩;obtain⟨n,d',qS⟩:∃n d':Int,e=.returned (.tuple #[.agg #[n,d'],.bool false]):=he;subst qS;have hb:=HB.o.gr g2;obtain⟨r0,r1,rf,rl⟩:=id hb;have dp:=HG.o.trans g2;have kX:=U10 dp;have Hb:=U10 hb;clear dp g2 hb;go_wp2_with fail;refine Z120 ?_;intro WF q0 q1 qf ql gF;exact U11 (v:=.tuple #[.agg #[n,d'],.bool false]) (by simp[results,results157,go_sem,q0,q1,qf,ql]) rfl ⟨by simp[O1i],gF⟩
structure Vb6(bK gk gs m ck cs:Nat)(wd:ByteArray)(a b:Nat)(w:World):Prop where
 k0:w.cell? bK=some (.slice gk (m+1) ck)
 k1:w.cell? ⟨bK,1,none⟩=some (.slice gs (m+1) cs)
 w0:w.cell? ⟨gk,m,none⟩=some (.string wd)
 a0:w.cell? ⟨gs,m*2,none⟩=some (.int .i64 a)
 b0:w.cell? ⟨gs,m*2+1,none⟩=some (.int .i64 b)
theorem Oei(w:World)(gk gs m ck cs:Nat)(wd:ByteArray)(a b:Nat)(hm:m<=9223372036854775806)(ey:gk<w.heap.size)(cM:gs<w.heap.size)(hw:w.cell? ⟨gk,m,none⟩=some (.string wd))(ha:w.cell? ⟨gs,m*2,none⟩=some (.int .i64 a))(hb:w.cell? ⟨gs,m*2+1,none⟩=some (.int .i64 b)):Calls prog 61 #[.agg #[.slice gk (m+1) ck,.slice gs (m+1) cs]] w λ e w'=>e=.returned (.tuple #[.string wd,.agg #[a,b]])/\Gr w w':=by
 have j3:(0:Int)<=(m:Int):=Ya;have j4:(m:Int)<((m+1:Nat):Int):=Ya;have j5:(m:Int)<(m:Int)+1:=Ya;have FO:m<9223372036854775807:=Ya;have wm:IntKind.i64.wrap (m:Int)=(m:Int):=U1k _ ⟨Ya,Ya⟩;have RC:IntKind.i64.wrap (((m+1:Nat):Int)-1)=(m:Int):=by rw[U1k _ ⟨Ya,Ya⟩];omega
 go_enter func61,ntmps61
 go_upto_region 1 with fail
 obtain⟨W,hW⟩:=ExZ ((w.alloc (.cells #[.slice gk (m+1) ck,.slice gs (m+1) cs] 42)).alloc (.cells #[(0:Int),(0:Int)] 38))
 have gW:Gr w W:=by rw[<-hW];exact ((Gr.refl w).alloc _).alloc _
 have mI:FX w (.slice gk (m+1) ck) (.slice gs (m+1) cs) W:=by rw[<-hW];exact (FX.new w _ _ 42).gr ((Gr.refl _).alloc _)
 have fM:FX (w.heap.size+1) (0:Int) (0:Int) W:=by
  rw[<-hW];have:=FX.new (w.alloc (.cells #[.slice gk (m+1) ck,.slice gs (m+1) cs] 42)) (0:Int) (0:Int) 38;exact J5
 rw[hW];clear hW;have JQ:=U13 ey gW.size;have JR:=U13 cM gW.size;have hS:Vb6 w.heap.size gk gs m ck cs wd a b W.drew :=
  ⟨mI.1,mI.2.1,(gW.drew.use.1 _ _ ey).trans hw,(gW.drew.use.1 _ _ cM).trans ha,(gW.drew.use.1 _ _ cM).trans hb⟩
 have iV:=U10 fM;have HG:=U10 gW;obtain⟨r0,r1,rf,rl⟩:=fM;clear mI gW hw ha hb;refine Reg.begin' (W:=λ i=>i != 17) (S:=Vb6 w.heap.size gk gs m ck cs wd a b) Yc ?_;refine Reg.ty 0 ?_;refine Reg.tl 1 hS ?_ (hy:=by intro w ab;obtain⟨s1,s2,s3,s4,s5⟩:=ab;go_simp;try with_reducible rfl);refine Reg.ty 2 ?_;refine Reg.tl 3 hS ?_ (hy:=by intro w ab;obtain⟨s1,s2,s3,s4,s5⟩:=ab;go_simp;try with_reducible rfl);refine Z83 ?_;refine Reg.tl 7 hS ?_ (hy:=by intro w ab;obtain⟨s1,s2,s3,s4,s5⟩:=ab;go_simp;try with_reducible rfl);refine Reg.ty 8 ?_;refine Reg.tl 9 hS ?_ (hy:=by intro w ab;obtain⟨s1,s2,s3,s4,s5⟩:=ab;go_simp;try with_reducible rfl);refine Reg.ty 10 ?_;refine Reg.tl 11 hS ?_ (hy:=by intro w ab;obtain⟨s1,s2,s3,s4,s5⟩:=ab;go_simp;try with_reducible rfl);refine Z47 ?_;refine Reg.tl 15 hS ?_ (hy:=by intro w ab;obtain⟨s1,s2,s3,s4,s5⟩:=ab;go_simp;try with_reducible rfl);refine Reg.ty 16 ?_;refine Z186 ?_;refine Z2 ?_;refine Z12 ?_;go_wp2_with fail;have hF:=iV.o.set a b;have gF:Gr w _:=((HG.o).setCell (p:=⟨w+1,0,none⟩) (U2t _) a).setCell (p:=⟨w+1,1,none⟩) (U2t _) b;obtain⟨WF,ao⟩:=ExZ (((W.setCell (w.heap.size+1:Nat) a).setCell ⟨w+1,1,none⟩ b))
 rw[ao]at hF gF;rw[ao];clear ao;obtain⟨q0,q1,qf,ql⟩:=hF.gr (Gr.refl WF).drew;exact U11 (v:=.tuple #[.string wd,.agg #[a,b]]) (by simp[results,results61,go_sem,q0,q1,qf,ql]) rfl ⟨rfl,gF.drew⟩
theorem O5{w:World}{b o:Nat}{v:Value}(h:w.cell? ⟨b,o,none⟩=some v):w.setCell ⟨b,o,none⟩ v=w:=by
 unfold World.setCell;congr 1;refine Array.ext_getElem? λ k=>?_
 rw[Array.getElem?_modify]
 split
 rename_i hk
 have hk:b=k:=hk;subst hk;unfold World.cell? at h;simp only at h
 split at h
 rename_i c _ _ hb
 rw[hb];simp only[U25,Option.isSome_none,U23,U2f]at h⊢;congr 2;refine Array.ext_getElem? λ j=>?_
 rw[Array.getElem?_setIfInBounds]
 split
 rename_i hj
 subst hj
 split;exact h.symm
 rename_i h2;rw[U46 Ya]
 rfl
 cases h
 rfl
theorem O6y{w:World}{k b n m:Nat}{D:V5o}(h:w.ownsMap prog k sortR b n D)(hm:n<=m):w.ownsMap prog k sortR b m D:=by
 obtain⟨es,pV,h1,F,hs,hD⟩:=h;exact⟨es,pV,h1,F,U1l hs hm,hD⟩
theorem Oa4{w:World}{R:Nat}{c0 c1 c2 c3 c4 c5 c6 c7 c8:Value}{T:TypeId}(h:w.heap[R]?=some (.cells #[c0,c1,c2,c3,c4,c5,c6,c7,c8] T (0,0)))(a d m:Value):(((w.setCell ⟨R,4,none⟩ a).setCell ⟨R,5,none⟩ d).setCell ⟨R,6,none⟩ m).heap[R]?=some (.cells #[c0,c1,c2,c3,a,d,m,c7,c8] T (0,0)) /\(∀k,k≠R->(((w.setCell ⟨R,4,none⟩ a).setCell ⟨R,5,none⟩ d).setCell ⟨R,6,none⟩ m).heap[k]?=w.heap[k]?) /\(((w.setCell ⟨R,4,none⟩ a).setCell ⟨R,5,none⟩ d).setCell ⟨R,6,none⟩ m).heap.size=w.heap.size:=by
 have h4:(w.setCell ⟨R,4,none⟩ a).heap[R]?=some (.cells #[c0,c1,c2,c3,a,c5,c6,c7,c8] T (0,0)):=by rw[block_setCell h];rfl
 have h5:((w.setCell ⟨R,4,none⟩ a).setCell ⟨R,5,none⟩ d).heap[R]?=some (.cells #[c0,c1,c2,c3,a,d,c6,c7,c8] T (0,0)):=by rw[block_setCell h4];rfl
 exact⟨by rw[block_setCell h5];rfl,λ k hk=>by rw[U15 _ _ _ _ hk,U15 _ _ _ _ hk,U15 _ _ _ _ hk],by simp[World.setCell]⟩
theorem GrV.setSec{w:World}{R B base:Nat}{s:ByteArray}{root:Int}{nv:Value}{L:List Vy}{own:Nat->Nat}{so:List (Nat×Nat)}{x:GrX}(h:GrV w R B base s root nv L own so x)(a d m:Nat)(hm:x.many<=m):GrV (((w.setCell ⟨R,4,none⟩ a).setCell ⟨R,5,none⟩ d).setCell ⟨R,6,none⟩ m) R B base s root nv L own so { x with sec:=a,dep:=d,many:=m }:=by
 obtain⟨k1,k2,k3⟩:=Oa4 h.blk a d m;obtain⟨D,h1,h2⟩:=h.map;have AY:B≠R:=λ e=>by have h1:=h.oR;rw[<-e,h.oB]at h1;omega
 exact h.turn rfl k1 ⟨D,Oe (O6y h1 Yj) (k2 B AY),h2⟩ (λ k _ hk _=>k2 k hk) (U41 k3.symm) (λ i r hr hg => .inl hg)
theorem getD_set{so:List (Nat×Nat)}{i:Nat}(hi:i<so.length)(t:Nat×Nat)(j:Nat):(so.set i t).getD j (0,0)=if j=i then t else so.getD j (0,0):=by
 rw[U1i,U1i,U2h];by_cases h:i=j;subst h;simp[hi]
 rw[U1c h,U1c (λ e=>h e.symm)]
theorem Oi.lt{so:List (Nat×Nat)}{i:Nat}(h:Oi so i):i<so.length:=by
 refine U3a λ aP=>h ?_
 rw[U1i,U2g aP];rfl
theorem GrV.sectioned{w w3:World}{R B base:Nat}{s:ByteArray}{root:Int}{nv:Value}{L:List Vy}{own:Nat->Nat}{so:List (Nat×Nat)}{x:GrX}(h:GrV w R B base s root nv L own so x)(i:Nat)(hi:Oi so i){D:V5o}(hD:O2x D so)(hm:w3.ownsMap prog 3 sortR B (so.length+x.many+1) (D.put i (O2o (1,0))))(h3:w.grownBy w3 (some B))(a d:Nat):GrV (((w3.setCell ⟨R,4,none⟩ a).setCell ⟨R,5,none⟩ d).setCell ⟨R,6,none⟩ (.int .i64 ((x.many+1:Nat):Int))) R B base s root nv L own (so.set i (1,0)) { x with sec:=a,dep:=d,many:=x.many+1 }:=by
 have AY:B≠R:=λ e=>by have h1:=h.oR;rw[<-e,h.oB]at h1;omega
 have hb:∀k,k<w.heap.size->k≠B->w3.heap[k]?=w.heap[k]?:=λ k hk a8=>h3.block k hk (λ e=>a8 (U2m e))
 obtain⟨k1,k2,k3⟩:=Oa4 ((hb R h.R_lt.2 (U3l AY)).trans h.blk) a d (.int .i64 ((x.many+1:Nat):Int));have dT:=hi.lt;have UT:=h3.size;refine h.turn (by rw[U2c]) k1 ⟨_,Oe (O6y hm (by rw[U2c];simp only;omega)) (k2 B AY),hD.put i (1,0) ?_ λ j hj=>?_⟩ (λ k hk By RT=>(k2 k By).trans (hb k (h.lt k hk).2 RT)) Ya (λ j r hr hg => .inl ?_);rw[getD_set dT,U1a rfl];rw[getD_set dT,U1c hj]
 unfold Oi at hg⊢;rw[getD_set dT]at hg
 split at hg;rename_i e;subst e;exact hi
 exact hg
theorem Oej(L:List Vy)(i:Nat)(r:Vy)(hr:L[i]?=some r)(n:Nat)(kv sv uv:Value):(L.set i ⟨{ r.nd with subs:=r.nd.subs++[n] },kv,sv,uv⟩).map (·.nd)=(L.map (·.nd)).modify i λ nd=>{ nd with subs:=nd.subs++[n] }:=by
 refine U4f λ k=>?_
 rw[U3p,U1m,U1m,U2h];have hl:i<L.length:=(U14.1 hr).1;by_cases hk:i=k;subst hk;simp[hl,hr];have h2:=(U14.1 hr).2;rw[h2];exact⟨rfl,rfl,rfl,rfl,rfl,rfl,rfl⟩
 simp[hk]
def Ocr(w w2:World)(R B base:Nat)(s:ByteArray)(L:List Vy)(own:Nat->Nat)(so:List (Nat×Nat))(x:GrX)(i:Nat)(nd:Pl.Nd):Prop :=
 ∃nv' own' kv sv uv,GrV w2 R B base s 0 nv' ((L++[Og 8]).set i ⟨nd,kv,sv,uv⟩) own' (so++[(1,0)]) x/\St (FV own) (FV own') w w2/\(∀k,own' k≠0->own k≠0\/w.heap.size<=k)
structure ElS(R g i:Nat)(nv uv:Value)(w:World):Prop where
 c0:w.cell? R=some nv
 u:w.cell? ⟨g,i*7+4,none⟩=some uv
theorem O8g(w:World)(R B base:Nat)(s:ByteArray)(nv:Value)(L:List Vy)(own:Nat->Nat)(so:List (Nat×Nat))(x:GrX)(h:GrV w R B base s 0 nv L own so x)(hL:L.length<=20000002)(hm:x.many<=30000000)(i:Nat)(r:Vy)(hr:L[i]?=some r)(h8:Oi so i)(tO:r.nd.subs.length<=30000000):Calls prog 116 #[.pointer (some ⟨R,0,none⟩),i] w λ e w'=>e=.returned L.length/\Ocr w w' R B base s L own so x i { r.nd with subs:=r.nd.subs++[L.length] }:=by
 have JS:=U10 (O6k w R B base s 0 nv L own so x h Ya hm 8 (1,0));have H:=U10 h;have oa:=h.sl;have pF:=h.R_lt;clear h;go_enter func116,ntmps116;go_wp2_with fail;refine JS.o.mono ?_;rintro e w1 ⟨he,kO,aC,ig,iL,mJ⟩;subst he;have dT:=(U14.1 hr).1;have aZ:(L++[Og 8])[i]?=some r:=by rw[U19 dT];exact hr
 have Nu:Oi (so++[(1,0)]) i:=by
  unfold Oi at h8⊢;rw[U1i,U19 Ya,<-U1i];exact h8
 obtain⟨g,cap,cur,rfl,qe,aW,dR,oZ,tM,lF,jr,F7,eP,jt⟩:=ig.form Yb;obtain⟨⟨c0,c1,c2,c3,c4,c5,c6⟩,c7,c8,fz⟩:=ig.cells;obtain⟨n0,n1,n2,n3,n4,n5,n6,nf⟩:=ig.ndCells rfl i r aZ;have HC:Hid (V9f w1 aC g i r):=⟨aW,dR,n2,n3,n4,nf⟩
 have hR:=ig.R_lt;have bS:base<=w1.heap.size:=Ya;have JT:∀e0:{ r.nd with subs:=r.nd.subs++[L.length]:Pl.Nd }.subs.length=r.nd.subs.length+1,True:=λ _=>trivial
 have nG:Hid (∀V uv,V20 w1 V base (FI aC i) r.kv r.sv uv r.nd.keys.length r.nd.spots.length (r.nd.subs.length+1) (Oh r.nd.keys) (Oc r.nd.spots) (O6 r.nd.subs++[.int .i64 L.length]) ->
     Ocr w (V.setCell ⟨g,i*7+4,none⟩ uv) R B base s L own so x i { r.nd with subs:=r.nd.subs++[L.length] }):=by
  intro V uv H3;have e3:({ r.nd with subs:=r.nd.subs++[L.length] }:Pl.Nd).subs.length=r.nd.subs.length+1:=Yb
  have e6:O6 ({ r.nd with subs:=r.nd.subs++[L.length] }:Pl.Nd).subs=O6 r.nd.subs++[.int .i64 L.length]:=by simp[O6]
  have hp:=ig.putDone i r aZ { r.nd with subs:=r.nd.subs++[L.length] } rfl rfl rfl (kv:=r.kv) (sv:=r.sv) (uv:=uv) (W:=V) (by rw[e3,e6];exact H3);obtain⟨f2,f3,_,_⟩:=O4k H3 HC.o;rw[O5 f2,O5 f3]at hp;obtain⟨own',ot,pq,JU,q1,q2,q3⟩:=hp;exact⟨_,own',ot,pq,JU,q1,iL.trans q2,λ k hk=>(q3 k hk).elim (λ h=>mJ k h) (λ h => .inr (U1l iL.size h))⟩
 have jW:V20 w1 w1.drew base (FI aC i) r.kv r.sv r.uv r.nd.keys.length r.nd.spots.length r.nd.subs.length (Oh r.nd.keys) (Oc r.nd.spots) (O6 r.nd.subs):=ig.start3 (Gr.refl w1).drew i r aZ Nu;have uQ:Hid (∀V kv sv uv nk ns nu xk xs xu,V20 w1 V base (FI aC i) kv sv uv nk ns nu xk xs xu->ElS R g i (.slice g (L++[Og 8]).length cap) r.uv V):=by
  intro V kv sv uv nk ns nu xk xs xu H3;exact⟨((H3.st.use R hR.2 (λ e=>by have:=ig.oR;unfold FI at e;omega)).1 0).trans c0,(O4k H3 HC.o).2.2.1⟩
 obtain⟨iU,u1,u2,u3,u4⟩:=U3w O4j;have fV:=U10 (And.intro u1 (And.intro u2 (And.intro u3 u4)));have pI:(0:Int)<=(i:Int):=Ya;have fh:(i:Int)<((L++[Og 8]).length:Int):=by rw[U1b];omega
 have bj:=uQ.o _ _ _ _ _ _ _ _ _ _ jW;obtain⟨RU,Dl⟩:=ExZ ((L++[Og 8]).length)
 rw[Dl]at bj fh uQ;clear JT h8 Nu u1 u2 u3 u4 fz lF jr jt hr aZ n0 n1 n2 n3 n4 n5 n6 nf c0 c1 c2 c3 c4 c5 c6 c7 c8 ig iL mJ Dl
 go_upto_region 2 with fail
 refine Reg.begin' (W:=λ i=>i != 20) (S:=ElS R g i (.slice g RU cap) r.uv) Yc ?_;obtain⟨V0,hV⟩:=ExZ (w1.drew)
 rw[hV]at jW bj⊢;clear hV;have iP:=U10 jW;clear jW;refine Z32 ?_;refine Reg.ty 3 ?_;refine Reg.tl 4 bj ?_ (hy:=by intro w ab;obtain⟨s0,s1⟩:=ab;go_simp;try with_reducible rfl);refine Reg.ty 5 ?_;refine Reg.ty 6 ?_;refine Z59 ?_;refine Reg.tl 10 bj ?_ (hy:=by intro w ab;obtain⟨s0,s1⟩:=ab;go_simp;try with_reducible rfl);refine Reg.ty 11 ?_;refine Reg.ty 12 ?_;refine Reg.ty 13 ?_;refine Reg.tl 14 bj ?_ (hy:=by intro w ab;obtain⟨s0,s1⟩:=ab;go_simp;try with_reducible rfl);refine Reg.ty 15 ?_;refine Reg.on 16 ?_;go_simp;have ay:=iP.o.alloc (.cells #[L.length] 3);have JV:=iP.o.newB #[L.length] 3;obtain⟨V1,hV⟩:=ExZ (V0.alloc (.cells #[L.length] 3))
 rw[hV]at ay JV⊢;clear hV;have aN:=U10 ay;have RX:=U10 JV;clear ay JV;have ce:=uQ.o _ _ _ _ _ _ _ _ _ _ aN.o;refine Z99 ?_;refine Reg.on 17 ?_;refine U32 _ (.tmp 23) (.tmp 25) 36 Yi base 3 iU _ 1 8 underlying36 fV.o.1 fV.o.2.1 fV.o.2.2.1 fV.o.2.2.2 Yi Yd r.uv r.nd.subs.length (O6 r.nd.subs) Yi aN.o.u _ 1 1 [.int .i64 L.length] Yi Yi (U2e RX.o.blk) Ym Yd Yk Ya (U1l bS aN.o.size) _ rfl ?_;intro gU py V2 ho hg ha hz;have aO:=U10 (aN.o.appU ho hg ha);clear ho hg ha hz;have br:=uQ.o _ _ _ _ _ _ _ _ _ _ aO.o;refine Z239 ?_;refine Reg.ty 18 ?_;refine Reg.ty 19 ?_;obtain⟨xw,xx,xy,Bj⟩:=O4k aO.o HC.o;refine Reg.on 20 ?_;refine Z298 ?_;go_wp2_with fail;exact U11 (v:=.int .i64 L.length) (by simp[results,results116,go_sem]) rfl ⟨rfl,nG.o _ _ aO.o⟩
end
