/-
 The walks and plain laws that the claim rests on, part 35.
-/
import Derived.Test.YtfogfaagjpebcaaGreatDoorP00
import Derived.Test.YtfogfaagjpebcaaGreatDoorP04
import Derived.Test.YtfogfaagjpebcaaGreatDoorP05
import Derived.Test.YtfogfaagjpebcaaGreatDoorP12
import Derived.Test.YtfogfaagjpebcaaGreatDoorP15
import Derived.Test.YtfogfaagjpebcaaGreatDoorP28
import Derived.Test.YtfogfaagjpebcaaGreatDoorP34
import Derived.Maps.OwnSet
set_option maxHeartbeats 16000000
set_option linter.all false
set_option linter.unusedVariables false
set_option linter.unusedSimpArgs false
namespace Go.Proofs.YtfogfaagjpebcaaGreatDoor
open Go.RowKit Go.Joins
def sortV (s:Nat × Nat):Value := .agg #[.int .u8 s.1,.int .i64 s.2]
def sortD (s:Nat × Nat):mapD := .agg [.lit (.int .u8 s.1),.lit (.int .i64 s.2)]
theorem sortD_inj {s s':Nat × Nat} (h:sortD s=sortD s'):s=s':=by
 obtain⟨a,b⟩:=s;obtain⟨c,d⟩:=s';simp only[sortD,DataW.agg.injEq,List.cons.injEq,DataW.lit.injEq,Lit.int.injEq,true_and,and_true]at h;rw[Prod.mk.injEq];omega
theorem sortV_inj {s s':Nat × Nat} (h:sortV s=sortV s'):s=s':=by
 obtain⟨a,b⟩:=s;obtain⟨c,d⟩:=s';simp only[sortV,Value.agg.injEq,Array.mk.injEq,List.cons.injEq,Value.int.injEq,true_and,and_true]at h;rw[Prod.mk.injEq];omega
open Classical in
noncomputable def sortR (v:Value):Option (mapD × List MemPlace):=if h:∃s,v=sortV s then some (sortD h.choose,[]) else none
theorem sortR_mk (s:Nat × Nat):sortR (sortV s)=some (sortD s,[]):=by
 have h:∃s',sortV s=sortV s':=⟨s,rfl⟩
 unfold sortR;rw[dif_pos h,←sortV_inj h.choose_spec]
theorem sortR_inv {v:Value} {s:Nat × Nat} {p:List MemPlace} (h:sortR v=some (sortD s,p)):v=sortV s:=by
 unfold sortR at h
 split at h
 · rename_i hv
   simp only[Option.some.injEq,Prod.mk.injEq]at h;rw[←sortD_inj h.1];exact hv.choose_spec
 cases h
def Sorts (D:mapD) (so:List (Nat × Nat)):Prop:=Maps.IsMap D∧∀i:Nat,D.atKey (.int .i64 i) (sortD (0,0))=sortD (so.getD i (0,0))
theorem Sorts.more {D:mapD} {so:List (Nat × Nat)} (h:Sorts D so):Sorts D (so++[(0,0)]) :=
 ⟨h.1,fun i=>by
  rw[h.2 i];congr 1;rw[List.getD_eq_getElem?_getD,List.getD_eq_getElem?_getD,List.getElem?_append]
  split
  · rfl
  rename_i hi
  rw[List.getElem?_eq_none (by omega)];cases hj:i-so.length with
  | zero=>rfl
  | succ j=>rfl⟩
structure GrX where
 sec:Nat
 dep:Nat
 many:Nat
 iv:Value
 nsv:Value
structure GdRows (w:World) (base:Nat) (own:Nat→Nat) (i:Nat) (r:NdR) (gr:Prop):Prop where
 k:RowC w base 9 1 r.kv r.nd.keys.length (keysV r.nd.keys)
 s:RowC w base 73 2 r.sv r.nd.spots.length (spotsV r.nd.spots)
 u:RowC w base 3 1 r.uv r.nd.subs.length (subsV r.nd.subs)
 k8:gr→w.ownsRow base 9 1 r.kv r.nd.keys.length (keysV r.nd.keys)
 s8:gr→w.ownsRow base 73 2 r.sv r.nd.spots.length (spotsV r.nd.spots)
 u8:gr→w.ownsRow base 3 1 r.uv r.nd.subs.length (subsV r.nd.subs)
 tk:Tagged own r.kv (4+3*i)
 ts:Tagged own r.sv (5+3*i)
 tu:Tagged own r.uv (6+3*i)
abbrev Grown (so:List (Nat × Nat)) (i:Nat):Prop:=(so.getD i (0,0)).1≠0
structure GrV (w:World) (R B base:Nat) (s:ByteArray) (root:Int) (nv:Value) (L:List NdR) (own:Nat→Nat) (so:List (Nat × Nat)) (x:GrX):Prop where
 blk:w.heap[R]?=some (.cells #[nv,.int .i64 root,.string s,.map (some B),.int .i64 x.sec,.int .i64 x.dep,.int .i64 x.many,x.iv,x.nsv] 62 (0,0))
 oR:own R=1
 oB:own B=2
 nodes:w.ownsRow base 91 7 nv L.length (ndsV L)
 oN:Tagged own nv 3
 map:∃D:mapD,w.ownsMap Tryz.prog 3 sortR B (so.length+x.many) D∧Sorts D so
 rows:∀(i:Nat) r,L[i]?=some r→GdRows w base own i r (Grown so i)
 lt:∀k,own k≠0→base≤k∧k<w.heap.size
 sl:so.length=L.length
theorem ownsMapS_of_block {w w':World} {k b n:Nat} {D:mapD} (h:w.ownsMap Tryz.prog k sortR b n D) (hb:w'.heap[b]?=w.heap[b]?):w'.ownsMap Tryz.prog k sortR b n D:=by
 exact J1
theorem GdRows.kept {w w':World} {base:Nat} {own:Nat→Nat} {i:Nat} {r:NdR} {gr:Prop} (h:GdRows w base own i r gr) (hb:∀k,FV own k→w'.heap[k]?=w.heap[k]?):GdRows w' base own i r gr:=by
 have bk:∀k,r.kv.ownBlock=some k→w'.heap[k]?=w.heap[k]?:=fun k e=>hb k (by unfold FV;rw[h.tk k e];omega)
 have bs':∀k,r.sv.ownBlock=some k→w'.heap[k]?=w.heap[k]?:=fun k e=>hb k (by unfold FV;rw[h.ts k e];omega)
 have bu:∀k,r.uv.ownBlock=some k→w'.heap[k]?=w.heap[k]?:=fun k e=>hb k (by unfold FV;rw[h.tu k e];omega)
 exact⟨h.k.of_block bk,h.s.of_block bs',h.u.of_block bu,fun g=>ownsRow_of_block (h.k8 g) bk,fun g=>ownsRow_of_block (h.s8 g) bs',fun g=>ownsRow_of_block (h.u8 g) bu,h.tk,h.ts,h.tu⟩
section
variable {w w':World} {R B base:Nat} {s:ByteArray} {root:Int} {nv:Value} {L:List NdR} {own:Nat→Nat} {so:List (Nat × Nat)} {x:GrX}
theorem GrV.kept (h:GrV w R B base s root nv L own so x) (hb:∀k,FV own k→w'.heap[k]?=w.heap[k]?) (hz:w.heap.size≤w'.heap.size):GrV w' R B base s root nv L own so x:=by
 obtain⟨D,h1,h2⟩:=h.map;exact⟨by rw[hb R (by unfold FV;rw[h.oR];omega)];exact h.blk,h.oR,h.oB,ownsRow_of_block h.nodes fun k e=>hb k (by unfold FV;rw[h.oN k e];omega),h.oN,
  ⟨D,ownsMapS_of_block h1 (hb B (by unfold FV;rw[h.oB];omega)),h2⟩,fun i r hr=>(h.rows i r hr).kept hb,fun k hk=>⟨(h.lt k hk).1,Nat.lt_of_lt_of_le (h.lt k hk).2 hz⟩,h.sl⟩
theorem GrV.gr (h:GrV w R B base s root nv L own so x) (g:Gr w w'):GrV w' R B base s root nv L own so x:=h.kept (fun k hk=>g.block (h.lt k hk).2) g.size
theorem GrV.alloc (h:GrV w R B base s root nv L own so x) (o:Obj):GrV (w.alloc o) R B base s root nv L own so x:=h.gr ((Gr.refl w).alloc o)
theorem GrV.drew (h:GrV w R B base s root nv L own so x):GrV w.drew R B base s root nv L own so x:=h.gr (Gr.refl w).drew
theorem GrV.drewN (h:GrV w R B base s root nv L own so x) (n:Nat):GrV (w.drewN n) R B base s root nv L own so x:=h.gr ((Gr.refl w).drewN n)
theorem GrV.not_new (h:GrV w R B base s root nv L own so x) {k:Nat} (hk:w.heap.size≤k):¬FV own k:=fun e=>by have:=h.lt k e;omega
theorem GrV.R_lt (h:GrV w R B base s root nv L own so x):base≤R∧R<w.heap.size:=h.lt R (by rw[h.oR];omega)
theorem GrV.B_lt (h:GrV w R B base s root nv L own so x):base≤B∧B<w.heap.size:=h.lt B (by rw[h.oB];omega)
theorem GrV.cells (h:GrV w R B base s root nv L own so x) :
    (w.cell? ⟨R,0,none⟩=some nv∧w.cell? ⟨R,1,none⟩=some (.int .i64 root)∧w.cell? ⟨R,2,none⟩=some (.string s)∧w.cell? ⟨R,3,none⟩=some (.map (some B))∧w.cell? ⟨R,4,none⟩=some (.int .i64 x.sec)∧w.cell? ⟨R,5,none⟩=some (.int .i64 x.dep)∧w.cell? ⟨R,6,none⟩=some (.int .i64 x.many)) ∧
    w.cell? ⟨R,7,none⟩=some x.iv∧w.cell? ⟨R,8,none⟩=some x.nsv∧(∀i,w.frozen? ⟨R,i,none⟩=false) :=
 ⟨⟨by rw[cell_of_block h.blk];rfl,by rw[cell_of_block h.blk];rfl,by rw[cell_of_block h.blk];rfl,by rw[cell_of_block h.blk];rfl,by rw[cell_of_block h.blk];rfl,by rw[cell_of_block h.blk];rfl,by rw[cell_of_block h.blk];rfl⟩,by rw[cell_of_block h.blk];rfl,by rw[cell_of_block h.blk];rfl,fun i=>unfrozen_of_block h.blk i⟩
theorem GrV.look (h:GrV w R B base s root nv L own so x) (i:Nat) (hi:i≤9223372036854775807) (W:World) (hW:W.heap[B]?=w.heap[B]?) :
    (Instr.lookup 58 (.map (some B)) (.int .i64 i) false).run Tryz.prog W = .ok (sortV (so.getD i (0,0))) W:=by
 obtain⟨D,h1,h2⟩:=h.map;have h1':=ownsMapS_of_block (w':=W) h1 hW;have hz:(zeroValue 86).run Tryz.prog W = .ok (sortV (0,0)) W:=by kernel_rfl
 obtain⟨c,p,e1,e2⟩:=h1'.lookup (Maps.int_keyed Tryz.underlying3) Tryz.underlying58 hz (sortR_mk (0,0)) (Maps.keyOf_int_mk Tryz.underlying3 (show (Lit.int .i64 (i:Int)).wf=true by simp[Lit.wf,IntKind.min,IntKind.max,IntKind.signed,IntKind.bits];omega));rw[h2.2 i]at e2;rw[sortR_inv e2]at e1;exact e1
theorem GrV.form (h:GrV w R B base s root nv L own so x) (hL:0<L.length):∃g cap cur,nv = .slice (some ⟨g,0,none⟩) L.length cap∧base≤g∧g<w.heap.size∧own g=3∧g≠R∧g≠B ∧
    w.heap[g]?=some (.cells cur 91 (0,0))∧cur.size=cap*7∧L.length≤cap∧cap≤maxLen∧cur.toList.take (L.length*7)=ndsV L:=by
 exact J2
theorem GrV.ndCells (h:GrV w R B base s root nv L own so x) {g cap:Nat} (hv:nv = .slice (some ⟨g,0,none⟩) L.length cap) (i:Nat) (r:NdR) (hr:L[i]?=some r) :
    w.cell? ⟨g,i*7,none⟩=some (.int .u8 r.nd.kind)∧w.cell? ⟨g,i*7+1,none⟩=some (strV r.nd.text)∧w.cell? ⟨g,i*7+2,none⟩=some r.kv∧w.cell? ⟨g,i*7+3,none⟩=some r.sv∧w.cell? ⟨g,i*7+4,none⟩=some r.uv ∧
    w.cell? ⟨g,i*7+5,none⟩=some (.int .i64 r.nd.sp.1)∧w.cell? ⟨g,i*7+6,none⟩=some (.int .i64 r.nd.sp.2)∧(∀o,w.frozen? ⟨g,o,none⟩=false):=by
 have hL:0<L.length:=by cases L with|nil=>simp at hr|cons=>simp
 have hc:=h.nodes.cells (g:=g) (by rw[hv];rfl);have hj:∀j u,j<7→(ndV r)[j]?=some u→w.cell? ⟨g,i*7+j,none⟩=some u:=by
  intro j u hj hu;have:=hc (i*7+j) u (by rw[ndsV_get _ _ _ hj,hr];exact hu)
  rwa [Addr.add_lit,Nat.zero_add]at this
 obtain⟨g',cap',cur,hv',_,_,_,_,_,hgg,_⟩:=h.form hL;rw[hv]at hv';cases hv';exact⟨hj 0 _ (by omega) rfl,hj 1 _ (by omega) rfl,hj 2 _ (by omega) rfl,hj 3 _ (by omega) rfl,hj 4 _ (by omega) rfl,hj 5 _ (by omega) rfl,hj 6 _ (by omega) rfl,fun o=>unfrozen_of_block hgg o⟩
end
end Go.Proofs.YtfogfaagjpebcaaGreatDoor
namespace Go.Proofs.YtfogfaagjpebcaaGreatDoor
open Go.RowKit Go.Joins
theorem GrV.start3 {w W:World} {R B base:Nat} {s:ByteArray} {root:Int} {nv:Value} {L:List NdR} {own:Nat→Nat} {so:List (Nat × Nat)} {x:GrX} (h:GrV w R B base s root nv L own so x) (g1:Gr w W) (i:Nat) (r:NdR) (hr:L[i]?=some r) (h8:Grown so i) :
    Rows3 w W base (FI own i) r.kv r.sv r.uv r.nd.keys.length r.nd.spots.length r.nd.subs.length (keysV r.nd.keys) (spotsV r.nd.spots) (subsV r.nd.subs):=by
 refine Z207 ?_;intro hx kp;refine⟨(g1.st).to (fun _ e=>e.elim),kp (hx.k8 h8) hx.tk (by omega),kp (hx.s8 h8) hx.ts (by omega),kp (hx.u8 h8) hx.tu (by omega),fun b e => .inl (.inl (hx.tk b e)),fun b e => .inl (.inr (.inl (hx.ts b e))),fun b e => .inl (.inr (.inr (hx.tu b e))),?_,?_,?_⟩
 · intro b e e2;have:=hx.tk b e;have:=hx.ts b e2;omega
 · intro b e e2;have:=hx.tk b e;have:=hx.tu b e2;omega
 intro b e e2;have:=hx.ts b e;have:=hx.tu b e2;omega
def GPutMore (w w2:World) (R B base:Nat) (s:ByteArray) (root:Int) (nv:Value) (L:List NdR) (own:Nat→Nat) (so:List (Nat × Nat)) (x:GrX) (i:Nat) (nd:Pl.Nd):Prop :=
 ∃own' kv sv uv,GrV w2 R B base s root nv (L.set i ⟨nd,kv,sv,uv⟩) own' so x∧St (FV own) (FV own') w w2∧(∀k,own' k≠0→own k≠0∨w.heap.size≤k)
theorem GrV.putDone {w W:World} {R B base:Nat} {s:ByteArray} {root:Int} {L:List NdR} {own:Nat→Nat} {so:List (Nat × Nat)} {x:GrX} {g cap:Nat} (h:GrV w R B base s root (.slice (some ⟨g,0,none⟩) L.length cap) L own so x) (i:Nat) (r:NdR) (hr:L[i]?=some r)
    (nd:Pl.Nd) (hk1:nd.kind=r.nd.kind) (hk2:nd.text=r.nd.text) (hk3:nd.sp=r.nd.sp) {kv sv uv:Value}
    (H:Rows3 w W base (FI own i) kv sv uv nd.keys.length nd.spots.length nd.subs.length (keysV nd.keys) (spotsV nd.spots) (subsV nd.subs)) :
    GPutMore w (((W.setCell ⟨g,i*7+2,none⟩ kv).setCell ⟨g,i*7+3,none⟩ sv).setCell ⟨g,i*7+4,none⟩ uv) R B base s root (.slice (some ⟨g,0,none⟩) L.length cap) L own so x i nd:=by
 have hi:i<L.length:=(List.getElem?_eq_some_iff.1 hr).1;refine Z223 ?_;intro hgo hgl hz hR hB WF hWF;have hsz:WF.heap.size=W.heap.size:=by subst hWF;simp[World.setCell]
 refine Z272 ?_;intro hbl;have hwg:∀k,k<w.heap.size→k≠g→¬FI own i k→WF.heap[k]?=w.heap[k]?:=fun k hk h1 h2=>(hbl k h1).trans (H.st.block k hk h2)
 have hnW:W.ownsRow base 91 7 (.slice (some ⟨g,0,none⟩) L.length cap) L.length (ndsV L) :=
  ownsRow_of_block h.nodes fun k e=>by
   simp[Value.ownBlock]at e;subst e;exact H.st.block g hgl.2 (fun e=>by unfold FI at e;omega)
 refine Z51 ?_;intro hlen hnF;refine⟨fun k=>if kv.ownBlock=some k then 4+3*i else if sv.ownBlock=some k then 5+3*i else if uv.ownBlock=some k then 6+3*i else own k,kv,sv,uv,?_,?_,?_⟩
 · -- tags that are not this node's stay
   refine Z99 ?_;intro tg;have nF:∀k t,own k=t→t<4→¬FI own i k:=fun k t e h4 e2=>by unfold FI at e2;omega
   have hng:∀k,own k≠3→k≠g:=fun k e e2=>by subst e2;exact e hgo
   have hgn:∀ {v:Value} {e size n xs},W.ownsRow base e size v n xs→(∀b,v.ownBlock=some b→FI own i b∨w.heap.size≤b)→∀k,v.ownBlock=some k→k≠g:=by
    intro v e size n xs _ hv k hk e2;subst e2;rcases hv k hk with h1|h1
    · unfold FI at h1;omega
    omega
   refine⟨?_,?_,?_,?_,?_,?_,?_,?_,by rw[List.length_set];exact h.sl⟩
   · rw[hwg R hR.2 (hng R (by rw[h.oR];omega)) (nF R 1 h.oR (by omega))];exact h.blk
   · rw[tg R (by rw[h.oR];omega) (nF R 1 h.oR (by omega))];exact h.oR
   · rw[tg B (by rw[h.oB];omega) (nF B 2 h.oB (by omega))];exact h.oB
   · rw[List.length_set];exact hnF
   · exact J141
   · obtain⟨D,h1,h2⟩:=h.map;exact⟨D,ownsMapS_of_block h1 (hwg B hB.2 (hng B (by rw[h.oB];omega)) (nF B 2 h.oB (by omega))),h2⟩
   · intro j y hx;rw[List.getElem?_set]at hx
     split at hx
     · rename_i hji
       subst hji;cases hx;have qk:=ownsRow_of_block H.k fun k e=>hbl k (hgn H.k H.fk k e)
       have qs:=ownsRow_of_block H.s fun k e=>hbl k (hgn H.s H.fs k e)
       have qu:=ownsRow_of_block H.u fun k e=>hbl k (hgn H.u H.fu k e)
       refine⟨rowC_of qk,rowC_of qs,rowC_of qu,fun _=>qk,fun _=>qs,fun _=>qu,?_,?_,?_⟩
       · intro k e;simp only at e;simp only[e,if_true]
       · exact J143
       intro k e;simp only at e;have a1:kv.ownBlock≠some k:=fun e2=>H.ku k e2 e
       have a2:sv.ownBlock≠some k:=fun e2=>H.su k e2 e
       simp only[a1,a2,e,if_true,if_false]
     rename_i hji
     have hxr:=h.rows j y hx;have kp:∀ {v:Value} {q:Nat},Tagged own v q→4≤q→(q≠4+3*i∧q≠5+3*i∧q≠6+3*i) →
         (∀k,v.ownBlock=some k→WF.heap[k]?=w.heap[k]?)∧Tagged (fun k=>if kv.ownBlock=some k then 4+3*i else if sv.ownBlock=some k then 5+3*i else if uv.ownBlock=some k then 6+3*i else own k) v q:=by
      intro v q ht h4 hne;have hF:∀k,v.ownBlock=some k→¬FI own i k:=fun k e e2=>by have:=ht k e;unfold FI at e2;omega
      refine⟨fun k e=>hwg k (h.lt k (by rw[ht k e];omega)).2 (hng k (by rw[ht k e];omega)) (hF k e),fun k e=>?_⟩;show (if _ then _ else _)=q;rw[tg k (by rw[ht k e];omega) (hF k e)];exact ht k e
     have a:=kp hxr.tk (by omega) (by omega);have b:=kp hxr.ts (by omega) (by omega);have c:=kp hxr.tu (by omega) (by omega);exact⟨hxr.k.of_block a.1,hxr.s.of_block b.1,hxr.u.of_block c.1,fun g8=>ownsRow_of_block (hxr.k8 g8) a.1,fun g8=>ownsRow_of_block (hxr.s8 g8) b.1,fun g8=>ownsRow_of_block (hxr.u8 g8) c.1,a.2,b.2,c.2⟩
   exact J116
 · exact J7
 exact J99
def GNodeMore (w w2:World) (R B base:Nat) (s:ByteArray) (root:Int) (L:List NdR) (own:Nat→Nat) (so:List (Nat × Nat)) (x:GrX) (r:NdR) (nv':Value):Prop :=
 ∃own',GrV w2 R B base s root nv' (L++[r]) own' (so++[(0,0)]) x∧St (fun k=>FV own k∨r.kv.ownBlock=some k∨r.sv.ownBlock=some k∨r.uv.ownBlock=some k) (FV own') w w2 ∧
  (∀k,own' k≠0→own k≠0∨(r.kv.ownBlock=some k∨r.sv.ownBlock=some k∨r.uv.ownBlock=some k)∨w.heap.size≤k)
structure Strange (w:World) (base:Nat) (own:Nat→Nat) (r:NdR):Prop where
 k:RowC w base 9 1 r.kv r.nd.keys.length (keysV r.nd.keys)
 s:RowC w base 73 2 r.sv r.nd.spots.length (spotsV r.nd.spots)
 u:RowC w base 3 1 r.uv r.nd.subs.length (subsV r.nd.subs)
 ok:∀k,r.kv.ownBlock=some k→own k=0∧k<w.heap.size
 os:∀k,r.sv.ownBlock=some k→own k=0∧k<w.heap.size
 ou:∀k,r.uv.ownBlock=some k→own k=0∧k<w.heap.size
 ks:∀k,r.kv.ownBlock=some k→r.sv.ownBlock≠some k
 ku:∀k,r.kv.ownBlock=some k→r.uv.ownBlock≠some k
 su:∀k,r.sv.ownBlock=some k→r.uv.ownBlock≠some k
theorem GrV.appended {w W w1:World} {R B base:Nat} {s:ByteArray} {root:Int} {nv:Value} {L:List NdR} {own:Nat→Nat} {so:List (Nat × Nat)} {x:GrX} (h:GrV w R B base s root nv L own so x) (g1:Gr w W)
    (r:NdR) (hs:Strange w base own r)
    (g cap:Nat) (hrow:w1.ownsRow base 91 7 (.slice (some ⟨g,0,none⟩) (L.length+1) cap) (L.length+1) (ndsV L++ndV r)) (hg:W.grownBy w1 nv.ownBlock)
    (hat:nv.ownBlock=some g∨g=W.heap.size) (hlt:g<w1.heap.size) :
    GNodeMore w (w1.setCell ⟨R,0,none⟩ (.slice (some ⟨g,0,none⟩) (L.length+1) cap)) R B base s root L own so x r (.slice (some ⟨g,0,none⟩) (L.length+1) cap):=by
 have hR:=h.R_lt;have hB:=h.B_lt;have hz:=g1.size;have hz1:=hg.size;have hRB:R≠B:=fun e=>by have h1:=h.oR;rw[e,h.oB]at h1;omega
 have hg0:own g=3∨(own g=0∧w.heap.size≤g):=by
  exact J6
 have hgR:g≠R:=fun e=>by subst e;rw[h.oR]at hg0;omega
 have hgB:g≠B:=fun e=>by subst e;rw[h.oB]at hg0;omega
 refine Z171 ?_;intro hold;obtain⟨w2,hw2⟩:∃W2,w1.setCell ⟨R,0,none⟩ (.slice (some ⟨g,0,none⟩) (L.length+1) cap)=W2:=⟨_,rfl⟩
 rw[hw2]at hold ⊢;have hs2:w2.heap.size=w1.heap.size:=by rw[←hw2];simp[World.setCell]
 have nk:∀k,own k≠0→r.kv.ownBlock≠some k:=fun k h0 e=>h0 (hs.ok k e).1
 have ns:∀k,own k≠0→r.sv.ownBlock≠some k:=fun k h0 e=>h0 (hs.os k e).1
 have nu:∀k,own k≠0→r.uv.ownBlock≠some k:=fun k h0 e=>h0 (hs.ou k e).1
 have gn:∀k,own k=0∧k<w.heap.size→k≠g:=fun k h0 e=>by subst e;omega
 have tg:∀k,own k≠0→own k≠3→(if r.kv.ownBlock=some k then 4+3*L.length else if r.sv.ownBlock=some k then 5+3*L.length else if r.uv.ownBlock=some k then 6+3*L.length else if k=g then 3 else own k)=own k:=by
  intro k h0 h3;have:k≠g:=fun e=>by subst e;omega
  simp only[nk k h0,ns k h0,nu k h0,this,if_false]
 have tgg:(if r.kv.ownBlock=some g then 4+3*L.length else if r.sv.ownBlock=some g then 5+3*L.length else if r.uv.ownBlock=some g then 6+3*L.length else if g=g then 3 else own g)=3:=by
  have a1:r.kv.ownBlock≠some g:=fun e=>gn g (hs.ok g e) rfl
  have a2:r.sv.ownBlock≠some g:=fun e=>gn g (hs.os g e) rfl
  have a3:r.uv.ownBlock≠some g:=fun e=>gn g (hs.ou g e) rfl
  simp only[a1,a2,a3,if_false,if_true]
 refine⟨fun k=>if r.kv.ownBlock=some k then 4+3*L.length else if r.sv.ownBlock=some k then 5+3*L.length else if r.uv.ownBlock=some k then 6+3*L.length else if k=g then 3 else own k,⟨?_,?_,?_,?_,?_,?_,?_,?_,?_⟩,?_,?_⟩
 · have hb:w1.heap[R]?=some (.cells #[nv,.int .i64 root,.string s,.map (some B),.int .i64 x.sec,.int .i64 x.dep,.int .i64 x.many,x.iv,x.nsv] 62 (0,0)):=by
    exact J5
   rw[←hw2];exact J4
 · rw[tg R (by rw[h.oR];omega) (by rw[h.oR];omega)];exact h.oR
 · rw[tg B (by rw[h.oB];omega) (by rw[h.oB];omega)];exact h.oB
 · have e:ndsV (L++[r])=ndsV L++ndV r:=by simp[ndsV]
   rw[e,List.length_append,List.length_singleton,←hw2];exact J3
 · intro k hk;simp[Value.ownBlock]at hk;subst hk;exact tgg
 · obtain⟨D,h1,h2⟩:=h.map;exact⟨D,ownsMapS_of_block (h1.mono (by rw[List.length_append];omega)) (hold B hB.2 (Ne.symm hRB) (by rw[h.oB];omega)),h2.more⟩
 · intro i y hx;have hgd:Grown (so++[(0,0)]) i→Grown so i:=fun hq=>by
    unfold Grown at hq ⊢;rw[List.getD_eq_getElem?_getD,List.getElem?_append]at hq
    split at hq
    · rw[List.getD_eq_getElem?_getD];exact hq
    exfalso;cases hj:i-so.length with
    | zero=>rw[hj]at hq;exact hq rfl
    | succ j=>rw[hj]at hq;exact hq rfl
   rw[List.getElem?_append]at hx
   split at hx
   · have hr:=h.rows i y hx;have kp:∀ {v:Value} {q:Nat},Tagged own v q→4≤q→(∀k,v.ownBlock=some k→w2.heap[k]?=w.heap[k]?)∧Tagged (fun k=>if r.kv.ownBlock=some k then 4+3*L.length else if r.sv.ownBlock=some k then 5+3*L.length else if r.uv.ownBlock=some k then 6+3*L.length else if k=g then 3 else own k) v q:=by
      intro v q ht h4;refine⟨fun k e=>hold k (h.lt k (by rw[ht k e];omega)).2 (fun e2=>by subst e2;have:=ht k e;rw[h.oR]at this;omega) (by rw[ht k e];omega),fun k e=>?_⟩;show (if _ then _ else _)=q;rw[tg k (by rw[ht k e];omega) (by rw[ht k e];omega)];exact ht k e
     have a:=kp hr.tk (by omega);have b:=kp hr.ts (by omega);have c:=kp hr.tu (by omega);exact⟨hr.k.of_block a.1,hr.s.of_block b.1,hr.u.of_block c.1,fun g8=>ownsRow_of_block (hr.k8 (hgd g8)) a.1,fun g8=>ownsRow_of_block (hr.s8 (hgd g8)) b.1,fun g8=>ownsRow_of_block (hr.u8 (hgd g8)) c.1,a.2,b.2,c.2⟩
   have hiL:i=L.length:=by
    obtain⟨h5,_⟩:=List.getElem?_eq_some_iff.1 hx;simp at h5;omega
   subst hiL;simp at hx;subst hx;have ng:¬Grown (so++[(0,0)]) L.length:=fun hq=>by
    unfold Grown at hq;rw[List.getD_eq_getElem?_getD,←h.sl,List.getElem?_append_right (Nat.le_refl _),Nat.sub_self]at hq;exact hq rfl
   have ob:∀k,own k=0∧k<w.heap.size→w2.heap[k]?=w.heap[k]?:=fun k hk=>hold k hk.2 (fun e=>by have:=hk.1;subst e;rw[h.oR]at this;omega) (by omega)
   refine⟨hs.k.of_block fun k e=>ob k (hs.ok k e),hs.s.of_block fun k e=>ob k (hs.os k e),hs.u.of_block fun k e=>ob k (hs.ou k e),fun g8=>absurd g8 ng,fun g8=>absurd g8 ng,fun g8=>absurd g8 ng,?_,?_,?_⟩
   · intro k e;simp only[e,if_true]
   · intro k e;have a1:r.kv.ownBlock≠some k:=fun e2=>hs.ks k e2 e
     simp only[a1,e,if_true,if_false]
   intro k e;have a1:r.kv.ownBlock≠some k:=fun e2=>hs.ku k e2 e
   have a2:r.sv.ownBlock≠some k:=fun e2=>hs.su k e2 e
   simp only[a1,a2,e,if_true,if_false]
 · intro k hk;rw[hs2]
   split at hk
   · rename_i e;exact⟨(hs.k.lt k e).1,by have:=(hs.ok k e).2;omega⟩
   split at hk
   · rename_i e;exact⟨(hs.s.lt k e).1,by have:=(hs.os k e).2;omega⟩
   split at hk
   · rename_i e;exact⟨(hs.u.lt k e).1,by have:=(hs.ou k e).2;omega⟩
   exact J124
 · rw[List.length_append,List.length_append,h.sl];rfl
 · have key:∀k,(if r.kv.ownBlock=some k then 4+3*L.length else if r.sv.ownBlock=some k then 5+3*L.length else if r.uv.ownBlock=some k then 6+3*L.length else if k=g then 3 else own k)≠0→(FV own k∨r.kv.ownBlock=some k∨r.sv.ownBlock=some k∨r.uv.ownBlock=some k)∨w.heap.size≤k:=by
    intro k hk
    split at hk
    · rename_i e;exact .inl (.inr (.inl e))
    split at hk
    · rename_i e;exact .inl (.inr (.inr (.inl e)))
    split at hk
    · rename_i e;exact .inl (.inr (.inr (.inr e)))
    exact J135
   refine⟨?_,?_,?_,by omega,?_,fun k hk=>key k hk⟩
   · rw[←hw2];exact hg.os.trans (Below.os g1)
   · rw[←hw2];exact hg.tape.trans (Below.tape g1)
   · rw[←hw2];exact hg.output.trans (Below.output g1)
   exact J140
 intro k hk
 replace hk:(if r.kv.ownBlock=some k then 4+3*L.length else if r.sv.ownBlock=some k then 5+3*L.length else if r.uv.ownBlock=some k then 6+3*L.length else if k=g then 3 else own k)≠0:=hk
 split at hk
 · rename_i e;exact .inr (.inl (.inl e))
 split at hk
 · rename_i e;exact .inr (.inl (.inr (.inl e)))
 split at hk
 · rename_i e;exact .inr (.inl (.inr (.inr e)))
 exact J142
def NilR (r:NdR):Prop:=(r.kv = .slice none 0 0∧r.nd.keys=[])∧(r.sv = .slice none 0 0∧r.nd.spots=[])∧(r.uv = .slice none 0 0∧r.nd.subs=[])
theorem GrV.turn {w w':World} {R B base:Nat} {s:ByteArray} {root:Int} {nv:Value} {L:List NdR} {own:Nat→Nat} {so so':List (Nat × Nat)} {x x':GrX} (h:GrV w R B base s root nv L own so x) (hl:so'.length=so.length)
    (hR:w'.heap[R]?=some (.cells #[nv,.int .i64 root,.string s,.map (some B),.int .i64 x'.sec,.int .i64 x'.dep,.int .i64 x'.many,x'.iv,x'.nsv] 62 (0,0)))
    (hm:∃D:mapD,w'.ownsMap Tryz.prog 3 sortR B (so'.length+x'.many) D∧Sorts D so') (hb:∀k,FV own k→k≠R→k≠B→w'.heap[k]?=w.heap[k]?) (hz:w.heap.size≤w'.heap.size)
    (hgr:∀(i:Nat) r,L[i]?=some r→Grown so' i→Grown so i∨NilR r):GrV w' R B base s root nv L own so' x':=by
 have hk:∀k t,own k=t→3≤t→w'.heap[k]?=w.heap[k]?:=fun k t e h3=>hb k (by unfold FV;omega) (fun e2=>by subst e2;have:=h.oR;omega) (fun e2=>by subst e2;have:=h.oB;omega)
 refine⟨hR,h.oR,h.oB,ownsRow_of_block h.nodes fun k e=>hk k 3 (h.oN k e) (by omega),h.oN,hm,fun i r hr=>?_,fun k h0=>⟨(h.lt k h0).1,Nat.lt_of_lt_of_le (h.lt k h0).2 hz⟩,by rw[hl,h.sl]⟩;have q:=h.rows i r hr;have a:∀k,r.kv.ownBlock=some k→w'.heap[k]?=w.heap[k]?:=fun k e=>hk k _ (q.tk k e) (by omega)
 have b:∀k,r.sv.ownBlock=some k→w'.heap[k]?=w.heap[k]?:=fun k e=>hk k _ (q.ts k e) (by omega)
 have c:∀k,r.uv.ownBlock=some k→w'.heap[k]?=w.heap[k]?:=fun k e=>hk k _ (q.tu k e) (by omega)
 refine⟨q.k.of_block a,q.s.of_block b,q.u.of_block c,fun g=>?_,fun g=>?_,fun g=>?_,q.tk,q.ts,q.tu⟩
 · rcases hgr i r hr g with g|⟨⟨e1,e2⟩,_⟩
   · exact ownsRow_of_block (q.k8 g) a
   rw[e1,e2];exact nilRow _ _ _ _
 · rcases hgr i r hr g with g|⟨_,⟨e1,e2⟩,_⟩
   · exact ownsRow_of_block (q.s8 g) b
   rw[e1,e2];exact nilRow _ _ _ _
 rcases hgr i r hr g with g|⟨_,_,e1,e2⟩
 · exact ownsRow_of_block (q.u8 g) c
 rw[e1,e2];exact nilRow _ _ _ _
theorem Sorts.put {D:mapD} {so so':List (Nat × Nat)} (h:Sorts D so) (i:Nat) (t:Nat × Nat) (hi:so'.getD i (0,0)=t) (ho:∀j,j≠i→so'.getD j (0,0)=so.getD j (0,0)):Sorts (D.put (.int .i64 i) (sortD t)) so' :=
 ⟨h.1.put _ _,fun j=>by
  by_cases hj:j=i
  · subst hj;rw[Maps.atKey_put_same (k := .int .i64 (j:Int)) h.1 trivial,hi]
  rw[Maps.atKey_put_other (fun e=>hj (by simp only[Lit.int.injEq,true_and]at e;omega)),h.2 j,ho j hj]⟩
end Go.Proofs.YtfogfaagjpebcaaGreatDoor
namespace Go.Proofs.YtfogfaagjpebcaaGreatDoor
open Go.RowKit Go.Joins
set_option maxRecDepth 100000 in
theorem gr_put (w:World) (R B base:Nat) (s:ByteArray) (root:Int) (nv:Value) (L:List NdR) (own:Nat→Nat) (so:List (Nat × Nat)) (x:GrX) (h:GrV w R B base s root nv L own so x) (hL:L.length≤30000000)
    (i:Nat) (r:NdR) (hr:L[i]?=some r) (h8:Grown so i) (hrk:r.nd.keys.length≤30000000) (hrs:r.nd.spots.length≤30000000) (hru:r.nd.subs.length≤30000000) (key:ByteArray) (a b n:Nat) :
    Calls Tryz.prog 39 #[.pointer (some ⟨R,0,none⟩),.int .i64 i,.string key,.agg #[.int .i64 a,.int .i64 b],.int .i64 n] w fun e w' =>
     e = .returned (.tuple #[])∧GPutMore w w' R B base s root nv L own so x i (Pl.putNd r.nd (bs key) (a,b) n):=by
 have hi:i<L.length:=(List.getElem?_eq_some_iff.1 hr).1;obtain⟨g,cap,cur,rfl,hgb,hgl,hgo,hgR,hgB,hgh,hcs,hLc,hcm,htk⟩:=h.form (by omega);obtain⟨⟨c0,c1,c2,c3,c4,c5,c6⟩,c7,c8,fz⟩:=h.cells;obtain⟨n0,n1,n2,n3,n4,n5,n6,nf⟩:=h.ndCells rfl i r hr;have HC:Hid (PutC w own g i r):=⟨hgl,hgo,n2,n3,n4,nf⟩
 have hR:=h.R_lt;have hbase:base≤w.heap.size:=by omega
 have HEND:Hid (∀V kv sv uv,Rows3 w V base (FI own i) kv sv uv (r.nd.keys.length+1) (r.nd.spots.length+1) (r.nd.subs.length+1) (keysV r.nd.keys++[.string key]) (spotsV r.nd.spots++[.int .i64 a,.int .i64 b]) (subsV r.nd.subs++[.int .i64 n]) →
     GPutMore w (((V.setCell ⟨g,i*7+2,none⟩ kv).setCell ⟨g,i*7+3,none⟩ sv).setCell ⟨g,i*7+4,none⟩ uv) R B base s root (.slice (some ⟨g,0,none⟩) L.length cap) L own so x i (Pl.putNd r.nd (bs key) (a,b) n)):=by
  intro V kv sv uv H;refine h.putDone i r hr (Pl.putNd r.nd (bs key) (a,b) n) rfl rfl rfl ?_;exact J12
 refine Z102 ?_;intro HST iK k1 k2 k3 k4 iS s1 s2 s3 s4 iU u1 u2 u3 u4 HIK HIS HIU hi1 hi2;clear h8 k1 k2 k3 k4 s1 s2 s3 s4 u1 u2 u3 u4 fz h hgh hcs htk hr n0 n1 n2 n3 n4 n5 n6 nf;go_enter Tryz.func39,Tryz.ntmps39;exact J149
end Go.Proofs.YtfogfaagjpebcaaGreatDoor
namespace Go.Proofs.YtfogfaagjpebcaaGreatDoor
open Go.RowKit Go.Shelf Go.Joins
attribute [local go_sem] Oper.semAt_some
def gsubRes:Pl.Sub→Value
 | .yes i => .int .i64 i
 | _ => .int .i64 (-1)
set_option maxRecDepth 100000 in
theorem gr_sub (w:World) (R B base:Nat) (s:ByteArray) (root:Int) (nv:Value) (L:List NdR) (own:Nat→Nat) (so:List (Nat × Nat)) (x:GrX) (h:GrV w R B base s root nv L own so x)
    (i:Nat) (key:ByteArray) (X:Pl.Sub) (hX:Pl.subOf (L.map (·.nd)) i (bs key)=X) (hne:X ≠ .non) :
    Calls Tryz.prog 62 #[.pointer (some ⟨R,0,none⟩),.int .i64 i,.string key] w fun e w'=>e = .returned (gsubRes X)∧w=w':=by
 unfold Pl.subOf at hX;rw[List.getElem?_map]at hX;cases hr:L[i]? with
 | none=>rw[hr]at hX;exact absurd hX.symm hne
 | some r =>
 rw[hr]at hX;simp only[Option.map_some]at hX;have hi:i<L.length:=(List.getElem?_eq_some_iff.1 hr).1;obtain⟨g,cap,cur,rfl,hgb,hgl,hgo,hgR,hgB,hgh,hcs,hLc,hcm,htk⟩:=h.form (by omega);obtain⟨⟨c0,c1,c2,c3,c4,c5,c6⟩,c7,c8,fz⟩:=h.cells;obtain⟨n0,n1,n2,n3,n4,n5,n6,nf⟩:=h.ndCells rfl i r hr;refine Z142 ?_;intro hi1 hi2;have hx:=h.rows i r hr;have HI:Hid (Calls Tryz.prog 89 #[r.kv,.string key] w fun e w'=>e = .returned (.int .i64 (match r.nd.keys.findIdx? (fun k=>k==bs key) with|none => -1|some j=>(j:Int)))∧w=w'):=by
  refine Z215 ?_;intro hidx;by_cases hn:0<r.nd.keys.length
  · obtain⟨b,c,hv,hlc,hcm⟩:=hx.k.form hn;have hcl:=hx.k.cells (g:=b) (by rw[hv];rfl);exact J110
  have h0:r.nd.keys=[]:=List.eq_nil_of_length_eq_zero (by omega);obtain⟨a,c,hv⟩:∃a c,r.kv = .slice a 0 c:=by
   rcases rowC_form hx.k with⟨e,_⟩|⟨g',c',e,_,_⟩
   · exact⟨none,0,e⟩
   exact⟨some ⟨g',0,none⟩,c',by rw[e,h0];rfl⟩
  exact J146
 cases hf:r.nd.keys.findIdx? (fun k=>k==bs key) with
 | none =>
  rw[hf]at hX HI;subst hX;clear hf hx h hne c1 c2 c3 c4 c5 c6 c7 c8 fz n0 n1 n3 n4 n5 n6 nf hgh htk hcs;go_enter Tryz.func62,Tryz.ntmps62;go_wp2_with fail;refine HI.out.mono ?_;refine Z48 ?_;go_wp2_with fail;exact bodyPost_ret (v := .int .i64 (-1)) (by simp[results,Tryz.results62,go_sem]) rfl ⟨rfl,rfl⟩
 | some j =>
  rw[hf]at hX HI;simp only at hX HI;cases hu:r.nd.subs[j]? with
  | none=>rw[hu]at hX;exact absurd hX.symm hne
  | some u =>
  rw[hu]at hX;simp only at hX
  split at hX
  · subst hX;have hj:j<r.nd.subs.length:=(List.getElem?_eq_some_iff.1 hu).1;obtain⟨b,c,hv,hlc,hcm⟩:=hx.u.form (by omega);have hcl:=hx.u.cells (g:=b) (by rw[hv];rfl) j (.int .i64 u) (by simp[subsV,hu]);rw[hv]at n4;refine Z287 ?_;intro hj1;have hj2:(j:Int)<(r.nd.subs.length:Int):=by omega
    have hj3:decide ((j:Int)<0)=false:=by simp
    clear hf hx h hne c1 c2 c3 c4 c5 c6 c7 c8 fz n0 n1 n3 n5 n6 nf hgh htk hcs hu;go_enter Tryz.func62,Tryz.ntmps62;go_wp2_with fail;refine HI.out.mono ?_;refine Z48 ?_;go_wp2_with fail;exact bodyPost_ret (v := .int .i64 u) (by simp[results,Tryz.results62,go_sem]) rfl ⟨rfl,rfl⟩
  exact absurd hX.symm hne
def growR (k:Nat):NdR:=⟨Pl.growNd k,.slice none 0 0,.slice none 0 0,.slice none 0 0⟩
theorem growR_nil (k:Nat):NilR (growR k):=⟨⟨rfl,rfl⟩,⟨rfl,rfl⟩,rfl,rfl⟩
theorem growR_strange (w:World) (base:Nat) (own:Nat→Nat) (k:Nat):Strange w base own (growR k) :=
 ⟨rowC_of (nilRow _ _ _ _),rowC_of (nilRow _ _ _ _),rowC_of (nilRow _ _ _ _),fun _ e=>by (simp[growR,Value.ownBlock]at e),fun _ e=>by (simp[growR,Value.ownBlock]at e),fun _ e=>by (simp[growR,Value.ownBlock]at e),
  fun _ e=>by (simp[growR,Value.ownBlock]at e),fun _ e=>by (simp[growR,Value.ownBlock]at e),fun _ e=>by (simp[growR,Value.ownBlock]at e)⟩
def GrowMore (w w2:World) (R B base:Nat) (s:ByteArray) (root:Int) (L:List NdR) (own:Nat→Nat) (so:List (Nat × Nat)) (x:GrX) (k:Nat) (t:Nat × Nat):Prop :=
 ∃nv' own',GrV w2 R B base s root nv' (L++[growR k]) own' (so++[t]) x∧St (FV own) (FV own') w w2∧(∀k,own' k≠0→own k≠0∨w.heap.size≤k)
structure GrowS (R B b:Nat) (nv:Value) (t:Nat × Nat) (w:World):Prop where
 c0:w.cell? ⟨R,0,none⟩=some nv
 c3:w.cell? ⟨R,3,none⟩=some (.map (some B))
 t0:w.cell? ⟨b,0,none⟩=some (.int .u8 t.1)
 t1:w.cell? ⟨b,1,none⟩=some (.int .i64 t.2)
theorem GrV.grown {w W w1 w3:World} {R B base:Nat} {s:ByteArray} {root:Int} {nv:Value} {L:List NdR} {own:Nat→Nat} {so:List (Nat × Nat)} {x:GrX} (h:GrV w R B base s root nv L own so x) (g1:Gr w W) (k:Nat) (t:Nat × Nat)
    (g cap:Nat) (hrow:w1.ownsRow base 91 7 (.slice (some ⟨g,0,none⟩) (L.length+1) cap) (L.length+1) (ndsV L++ndV (growR k))) (hg:W.grownBy w1 nv.ownBlock)
    (hat:nv.ownBlock=some g∨g=W.heap.size) (hlt:g<w1.heap.size) {D:mapD} (hD:Sorts D so)
    (hm:w3.ownsMap Tryz.prog 3 sortR B (so.length+x.many+1) (D.put (.int .i64 L.length) (sortD t))) (h3:((w1.setCell ⟨R,0,none⟩ (.slice (some ⟨g,0,none⟩) (L.length+1) cap)).drew).grownBy w3 (some B)) :
    GrowMore w w3 R B base s root L own so x k t:=by
 obtain⟨own',h2,hst,hown⟩:=h.appended g1 (growR k) (growR_strange _ _ _ _) g cap hrow hg hat hlt;obtain⟨w2,hw2⟩:∃W2,w1.setCell ⟨R,0,none⟩ (.slice (some ⟨g,0,none⟩) (L.length+1) cap)=W2:=⟨_,rfl⟩
 rw[hw2]at h2 hst h3;have hb:∀k,k<w2.heap.size→k≠B→w3.heap[k]?=w2.heap[k]?:=fun k hk hne=>h3.block k hk (fun e=>hne (Option.some.inj e))
 have hB2:=h2.oB;refine⟨_,own',h2.turn (so':=so++[t]) (x':=x) (by simp) ?_ ⟨_,?_,hD.put L.length t ?_ ?_⟩ (fun k hk _ hne=>hb k (h2.lt k hk).2 hne) h3.size (fun i r hr hq=>?_),?_,fun k hk=>?_⟩
 · rw[hb R h2.R_lt.2 (fun e=>by have h1:=h2.oR;rw[e,hB2]at h1;omega)];exact h2.blk
 · rw[List.length_append,List.length_singleton,show so.length+1+x.many=so.length+x.many+1 by omega];exact hm
 · rw[List.getD_eq_getElem?_getD,←h.sl,List.getElem?_append_right (Nat.le_refl _),Nat.sub_self];rfl
 · intro j hj;rw[List.getD_eq_getElem?_getD,List.getD_eq_getElem?_getD,List.getElem?_append]
   split
   · rfl
   rename_i hlt
   rw[List.getElem?_eq_none (l:=[t]) (by rw[←h.sl]at hj;simp;omega),List.getElem?_eq_none (l:=so) (by omega)]
 · by_cases hi:i=L.length
   · right;subst hi;rw[List.getElem?_append_right (Nat.le_refl _),Nat.sub_self]at hr;simp at hr;subst hr;exact growR_nil k
   left;have hil:i<L.length:=by have:=(List.getElem?_eq_some_iff.1 hr).1;simp at this;omega
   unfold Grown at hq ⊢;rw[List.getD_eq_getElem?_getD,List.getElem?_append_left (by rw[h.sl];exact hil)]at hq;rw[List.getD_eq_getElem?_getD,List.getElem?_append_left (by rw[h.sl];exact hil)];exact hq
 · have cv:∀k',(FV own k'∨(growR k).kv.ownBlock=some k'∨(growR k).sv.ownBlock=some k'∨(growR k).uv.ownBlock=some k')→FV own k':=fun k' hk=>by
    rcases hk with hk|hk|hk|hk
    · exact hk
    · simp[growR,Value.ownBlock]at hk
    · simp[growR,Value.ownBlock]at hk
    simp[growR,Value.ownBlock]at hk
   have hst2:St (FV own) (FV own') w w2:=⟨hst.os,hst.tape,hst.output,hst.size,fun k' hk hn=>hst.block k' hk (fun e=>hn (cv k' e)),fun k' hk=>(hst.own k' hk).imp (cv k') id⟩
   exact hst2.drew.grown h3 (fun k e=>by cases e;exact .inl (by unfold FV;rw[h.oB];omega))
 rcases hown k hk with e|e|e
 · exact .inl e
 · exfalso;simp[growR,Value.ownBlock]at e
 exact .inr e
end Go.Proofs.YtfogfaagjpebcaaGreatDoor
namespace Go.Proofs.YtfogfaagjpebcaaGreatDoor
open Go.RowKit Go.Shelf Go.Joins
attribute [local go_sem] Oper.semAt_some
theorem cells_newG (W:World) (L:List Value) (t:TypeId) (n:Nat) (hn:n=W.heap.size):∀(j:Nat) u,L[j]?=some u→(W.alloc (.cells L.toArray t)).cell? ((⟨n,0,none⟩:Addr).add j)=some u:=by
 subst hn;intro j u hu;rw[Addr.add_lit,Nat.zero_add,cell_of_block (heap_alloc_new W _)]
 simpa using hu
set_option maxRecDepth 100000 in
theorem gr_grow (w:World) (R B base:Nat) (s:ByteArray) (root:Int) (nv:Value) (L:List NdR) (own:Nat→Nat) (so:List (Nat × Nat)) (x:GrX) (h:GrV w R B base s root nv L own so x) (hL:L.length≤30000000) (hm:x.many≤30000000) (k:Nat) (t:Nat × Nat) :
    Calls Tryz.prog 26 #[.pointer (some ⟨R,0,none⟩),.int .u8 k,.agg #[.int .u8 t.1,.int .i64 t.2]] w fun e w'=>e = .returned (.int .i64 L.length)∧GrowMore w w' R B base s root L own so x k t:=by
 obtain⟨iN,hi,hz0,hz1,hz2⟩:=info_parts info42;obtain⟨⟨c0,c1,c2,c3,c4,c5,c6⟩,c7,c8,fz⟩:=h.cells;have fz0:=fz 0;have hR:=h.R_lt;have hbase:base≤w.heap.size:=by omega
 have hne:some R≠nv.ownBlock:=some_ne_own h.oN (by rw[h.oR];omega);obtain⟨D,hD1,hD2⟩:=h.map;have H:=Lib.hid h;have HI:=Lib.hid (And.intro hi (And.intro hz0 (And.intro hz1 hz2)));have HD1:=Lib.hid hD1;have HD2:=Lib.hid hD2;have hsl:=h.sl;have HB:=Lib.hid (And.intro h.B_lt.2 (show B≠R from fun e=>by have h1:=h.oR;rw[←e,h.oB]at h1;omega));have HBn:=Lib.hid (show some B≠nv.ownBlock from some_ne_own h.oN (by rw[h.oB];omega));clear fz hi hz0 hz1 hz2 h hD1 hD2 c1 c2 c4 c5 c6 c7 c8;go_enter Tryz.func26,Tryz.ntmps26
 go_upto_region 1 with fail
 obtain⟨W,hW⟩:∃W,w.alloc (.cells #[.int .u8 t.1,.int .i64 t.2] 86)=W:=⟨_,rfl⟩
 have gW:Gr w W:=by rw[←hW];exact (Gr.refl w).alloc _
 have hBW:W.heap[w.heap.size]?=some (.cells #[.int .u8 t.1,.int .i64 t.2] 86 (0,0)):=by rw[←hW];exact heap_alloc_new w _
 have b0:W.cell? ⟨w.heap.size,0,none⟩=some (.int .u8 t.1):=by rw[cell_of_block hBW];rfl
 have b1:W.cell? ⟨w.heap.size,1,none⟩=some (.int .i64 t.2):=by rw[cell_of_block hBW];rfl
 have hbl:w.heap.size<W.heap.size:=(Array.getElem?_eq_some_iff.1 hBW).1;have e0:W.cell? ⟨R,0,none⟩=some nv:=(gW.use.1 R 0 hR.2).trans c0;have e1:W.frozen? ⟨R,0,none⟩=false:=(gW.use.2.1 R 0 hR.2).trans fz0;have e3:W.cell? ⟨R,3,none⟩=some (.map (some B)):=(gW.use.1 R 3 hR.2).trans c3;have hWR:R<W.heap.size:=Nat.lt_of_lt_of_le hR.2 gW.size;have hWb:base≤W.heap.size:=Nat.le_trans hbase gW.size;have hNW:=Lib.hid (ownsRow_of_block H.out.nodes fun k e=>gW.block (H.out.nodes.lt k e).2);have HGW:=Lib.hid gW
 try rw[hW]
 clear hW gW hBW c0 c3 fz0
 go_upto_region 2 with (at_builtin;refine wpList_append_lies _ rfl (.tmp 12) (.tmp 16) 27 rfl base 91 iN (.agg #[.int .u8 0,.string ⟨#[]⟩,.slice none 0 0,.slice none 0 0,.slice none 0 0,.int .i64 0,.int .i64 0]) 7 112 Tryz.underlying27 HI.out.1 HI.out.2.1 HI.out.2.2.1 HI.out.2.2.2 rfl (by decide) _ L.length _ rfl (ownsRow_of_block hNW.out fun k e=>((Gr.refl W).alloc _).block (hNW.out.lt k e).2) ⟨_,0,none⟩ 1 1 [.int .u8 k,.string ⟨#[]⟩,.slice none 0 0,.slice none 0 0,.slice none 0 0,.int .i64 (-1),.int .i64 (-1)] rfl rfl (cells_newG _ [.int .u8 k,.string ⟨#[]⟩,.slice none 0 0,.slice none 0 0,.slice none 0 0,.int .i64 (-1),.int .i64 (-1)] _ _ (by simp)) (by simp[Value.oneCell']) (by decide) (by unfold maxLen;omega) (by omega) (by simp;omega) _ rfl ?_;intro g cap w1 hown1 hg1 hl1 hz1;have f3:w1.frozen? ⟨R,0,none⟩=false:=(hg1.frozen_far ⟨R,0,none⟩ (by simp;omega) hne).trans ((((Gr.refl W).alloc _).use.2.1 R 0 hWR).trans e1);have f4:w1.cell? ⟨R,0,none⟩=some nv:=(hg1.cell_far ⟨R,0,none⟩ (by simp;omega) hne).trans ((((Gr.refl W).alloc _).use.1 R 0 hWR).trans e0))
 have hn2:some w.heap.size≠nv.ownBlock:=fun e=>by have:=(H.out.nodes.lt _ e.symm).2;omega
 have far:∀b,b<W.heap.size→b≠R→some b≠nv.ownBlock→∀j,(w1.setCell ⟨R,0,none⟩ (.slice (some ⟨g,0,none⟩) (L.length+1) cap)).cell? ⟨b,j,none⟩=W.cell? ⟨b,j,none⟩:=fun b hb hbR hbn j=>by
  rw[World.cell?_setCell_other _ _ _ _ (by first|(simp;done)|(simp;omega))];exact (hg1.cell_far ⟨b,j,none⟩ (by simp;omega) hbn).trans (((Gr.refl W).alloc _).use.1 b j hb)
 have hS0:GrowS R B w.heap.size (.slice (some ⟨g,0,none⟩) (L.length+1) cap) t (w1.setCell ⟨R,0,none⟩ (.slice (some ⟨g,0,none⟩) (L.length+1) cap)).drew :=
  ⟨World.cell?_setCell_same' _ _ _ (by rw[f4];rfl),by
   show (w1.setCell ⟨R,0,none⟩ _).cell? ⟨R,3,none⟩=_;rw[World.cell?_setCell_other _ _ _ _ (by simp)];exact (hg1.cell_far ⟨R,3,none⟩ (by simp;omega) hne).trans ((((Gr.refl W).alloc _).use.1 R 3 hWR).trans e3),(far _ hbl (by omega) hn2 0).trans b0,(far _ hbl (by omega) hn2 1).trans b1⟩
 have hm2:(w1.setCell ⟨R,0,none⟩ (.slice (some ⟨g,0,none⟩) (L.length+1) cap)).drew.ownsMap Tryz.prog 3 sortR B (so.length+x.many) D:=ownsMapS_of_block HD1.out (by
  show (w1.setCell ⟨R,0,none⟩ _).heap[B]?=_;have hBW:B<W.heap.size:=Nat.lt_of_lt_of_le HB.out.1 HGW.out.size;rw[Below.heap_setCell _ _ _ _ (by simpa using HB.out.2),hg1.block B (by simp;omega) (fun e=>HBn.out e),((Gr.refl W).alloc _).block hBW,HGW.out.block HB.out.1])
 obtain⟨w3,hrun,hm3,hg3⟩:=hm2.update (Maps.int_keyed Tryz.underlying3) Tryz.underlying58 (by unfold maxLen;omega) (key := .int .i64 (L.length:Int)) (kl := .int .i64 (L.length:Int)) (Maps.keyOf_int_mk Tryz.underlying3 (by simp[Lit.wf,IntKind.min,IntKind.max,IntKind.signed,IntKind.bits];omega)) (sortR_mk t);have HEND:=Lib.hid (H.out.grown (HGW.out.alloc (.cells #[.int .u8 k,.string ⟨#[]⟩,.slice none 0 0,.slice none 0 0,.slice none 0 0,.int .i64 (-1),.int .i64 (-1)] 91)) k t g cap hown1 hg1 hl1 hz1 HD2.out hm3 hg3);have hR3:w3.cell? ⟨R,0,none⟩=some (.slice (some ⟨g,0,none⟩) (L.length+1) cap):=by
  have hb3:w3.heap[R]?=((w1.setCell ⟨R,0,none⟩ (.slice (some ⟨g,0,none⟩) (L.length+1) cap)).drew).heap[R]?:=hg3.block R (by have:=((Gr.refl W).alloc (.cells #[.int .u8 k,.string ⟨#[]⟩,.slice none 0 0,.slice none 0 0,.slice none 0 0,.int .i64 (-1),.int .i64 (-1)] 91)).size;have:=hg1.size;simp[World.setCell];omega) (fun e=>HB.out.2 (Option.some.inj e).symm);exact (World.cell?_of_block (a:=⟨R,0,none⟩) hb3).trans hS0.c0
 have wk:IntKind.i64.wrap (((L.length+1:Nat):Int)-1)=(L.length:Int):=by rw[IntWalk.i64_in _ ⟨by omega,by omega⟩];omega
 have wk2:IntKind.i64.wrap ((L.length:Int)+1-1)=(L.length:Int):=by rw[IntWalk.i64_in _ ⟨by omega,by omega⟩];omega
 have wk0:IntKind.i64.wrap (L.length:Int)=(L.length:Int):=IntWalk.i64_in _ ⟨by omega,by omega⟩;unfold sortV at hrun;clear hown1 hg1 hl1 hz1 hm2 hm3 hg3 far f3 f4 b0 b1 e0 e1 e3;refine Reg.begin' (W:=fun i=>i != 12) (S:=GrowS R B w.heap.size (.slice (some ⟨g,0,none⟩) (L.length+1) cap) t) (by kernel_rfl) ?_;refine Z40 ?_;refine Reg.tl 3 hS0 ?_ (hy:=by intro w hSw;obtain⟨c0,c3,t0,t1⟩:=hSw;go_simp;try with_reducible rfl);refine Z307 ?_;refine Reg.ty 7 ?_;refine Reg.tl 8 hS0 ?_ (hy:=by intro w hSw;obtain⟨c0,c3,t0,t1⟩:=hSw;go_simp;try with_reducible rfl);refine Reg.ty 9 ?_;refine Reg.ty 10 ?_;refine Reg.tl 11 hS0 ?_ (hy:=by intro w hSw;obtain⟨c0,c3,t0,t1⟩:=hSw;go_simp;try with_reducible rfl);refine Reg.on 12 ?_;go_simp;refine Z12 ?_;go_wp2_with fail;exact bodyPost_ret (v := .int .i64 L.length) (by simp[results,Tryz.results26,go_sem]) rfl ⟨rfl,HEND.out⟩
end Go.Proofs.YtfogfaagjpebcaaGreatDoor
