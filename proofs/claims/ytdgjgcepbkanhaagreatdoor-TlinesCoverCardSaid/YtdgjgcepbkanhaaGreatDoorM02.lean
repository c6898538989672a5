/-
 The walks and plain laws that the claim rests on, part 2.
-/
import Derived.Test.YtdgjgcepbkanhaaGreatDoorM01
import Derived.Deep.RegionLaw
import Derived.Deep.DrawnRows
import Derived.OrdersHeld
import Derived.WalkKit
import Derived.Deep.RegionHeld3
set_option maxHeartbeats 16000000
set_option linter.all false
set_option linter.unusedVariables false
set_option linter.unusedSimpArgs false
namespace Go.Proofs.YtdgjgcepbkanhaaGreatDoor
open Go.RowKit Go.Joins
attribute [local go_sem ↓] Go.wp_at_zero Go.wp_at_succ
theorem byteAt_lt (s:ByteArray) (n:Nat) (h:n<s.size):Pl.byteAt (bs s) n=s[n].toNat:=by
 unfold Pl.byteAt;rw[List.getElem?_eq_getElem (by rw[bs_length];exact h)];rfl
theorem byteAt_ge (s:ByteArray) (n:Nat) (h:¬n<s.size):Pl.byteAt (bs s) n=0:=by
 unfold Pl.byteAt;rw[List.getElem?_eq_none (by rw[bs_length];omega)]
theorem tv_byte (w:World) (R:Nat) (s:ByteArray) (hc:w.cell? ⟨R,2,none⟩=some (.string s)) (i:Int) (n:Nat) (hi:i=n) :
    Calls Tryz.prog 52 #[.pointer (some ⟨R,0,none⟩),.int .i64 i] w fun e w'=>e = .returned (.int .u8 (Pl.byteAt (bs s) n))∧w=w':=by
 subst hi;by_cases h:n<s.size
 · rw[byteAt_lt s n h];have hd:decide ((n:Int)<(s.size:Int))=true:=by simp;omega
   go_enter Tryz.func52,Tryz.ntmps52;go_wp2_with fail
   go_ret
   exact⟨rfl,rfl⟩
 rw[byteAt_ge s n h];have hd:decide ((n:Int)<(s.size:Int))=false:=by simp;omega
 go_enter Tryz.func52,Tryz.ntmps52;go_wp2_with fail
 go_ret
 exact⟨rfl,rfl⟩
theorem info42:(Tryz.prog.info? 40).map (fun i=>(i.zero,i.size,i.bytes))=some (some (.agg #[.int .u8 0,.string ⟨#[]⟩,.slice none 0 0,.slice none 0 0,.slice none 0 0,.int .i64 0,.int .i64 0]),7,112):=by kernel_rfl
theorem some_ne_own {own:Nat→Nat} {v:Value} {t R:Nat} (h:Tagged own v t) (hR:own R≠t):some R≠v.ownBlock:=fun e=>hR (h R e.symm)
theorem tv_node (w:World) (R B base:Nat) (s:ByteArray) (root:Int) (nv:Value) (L:List NdR) (own:Nat→Nat) (h:RdV w R B base s root nv L own) (hL:L.length≤30000000)
    (r:NdR) (oc:r.uv.oneCell'=true) (hk:r.kv = .slice none 0 0) (hsv:r.sv = .slice none 0 0) (hk0:r.nd.keys=[]) (hs0:r.nd.spots=[]) (ho0:r.nd.owner=0)
    (hu:RowC w base 3 1 r.uv r.nd.subs.length (subsV r.nd.subs)) (hu8:r.nd.kind=8→w.ownsRow base 3 1 r.uv r.nd.subs.length (subsV r.nd.subs)) (hu0:∀k,r.uv.ownBlock=some k→own k=0∧k<w.heap.size)
    (k:Nat) (t:ByteArray) (kv sv uv:Value) (a b:Int) (hV:ndV r=[.int .u8 k,.string t,kv,sv,uv,.int .i64 a,.int .i64 b]) :
    Calls Tryz.prog 79 #[.pointer (some ⟨R,0,none⟩),.agg #[.int .u8 k,.string t,kv,sv,uv,.int .i64 a,.int .i64 b]] w fun e w' =>
     e = .returned (.int .i64 L.length)∧∃nv',NodeMore w w' R B base s root L own r nv':=by
 obtain⟨i0,hi,hz0,hz1,hz2⟩:=info_parts info42;obtain⟨c0,c1,c2,c3,fz⟩:=h.cells;have fz0:=fz 0;have hR:=h.R_lt;have hbase:base≤w.heap.size:=by omega
 have hocs:∀u∈[(.int .u8 k:Value),.string t,kv,sv,uv,.int .i64 a,.int .i64 b],u.oneCell'=true:=by
  rw[←hV];intro u hu;simp[ndV,hk,hsv]at hu;rcases hu with rfl|rfl|rfl|rfl|rfl|rfl <;> first|rfl|exact oc
 have hne:some R≠nv.ownBlock:=some_ne_own h.oN (by rw[h.oR];omega);have hn2:some w.heap.size≠nv.ownBlock:=fun e=>by have:=(h.nodes.lt _ e.symm).2;omega
 have HA:Hid (∀W w1 g cap,Gr w W→w1.ownsRow base 40 7 (.slice (some ⟨g,0,none⟩) (L.length+1) cap) (L.length+1) (ndsV L++[.int .u8 k,.string t,kv,sv,uv,.int .i64 a,.int .i64 b])→W.grownBy w1 nv.ownBlock→(nv.ownBlock=some g∨g=W.heap.size)→g<w1.heap.size→NodeMore w (w1.setCell ⟨R,0,none⟩ (.slice (some ⟨g,0,none⟩) (L.length+1) cap)) R B base s root L own r (.slice (some ⟨g,0,none⟩) (L.length+1) cap)):=by
  rw[←hV];exact fun W w1 g cap g1 ho hg hat hlt=>h.appended g1 r hk hsv hk0 hs0 ho0 hu hu8 hu0 g cap ho hg hat hlt
 have HI:=Lib.hid hi;have HZ:=Lib.hid hz0;have HZ1:=Lib.hid hz1;have HZ2:=Lib.hid hz2;have HN:=Lib.hid h.nodes;clear fz hi hz0 hz1 hz2 h hu hu8 hu0 hV hk hsv hk0 hs0 ho0 oc;go_enter Tryz.func79,Tryz.ntmps79;go_wp2_with fail;obtain⟨W,hW⟩:∃W,w.alloc (.cells #[.int .u8 k,.string t,kv,sv,uv,.int .i64 a,.int .i64 b] 40)=W:=⟨_,rfl⟩
 have hRW:∀o,W.cell? ⟨R,o,none⟩=w.cell? ⟨R,o,none⟩:=by subst hW;exact fun o=>((Gr.refl w).alloc _).use.1 R o hR.2
 have hFW:∀o,W.frozen? ⟨R,o,none⟩=w.frozen? ⟨R,o,none⟩:=by subst hW;exact fun o=>((Gr.refl w).alloc _).use.2.1 R o hR.2
 have e0:W.cell? ⟨R,0,none⟩=some nv:=by rw[hRW];exact c0
 have e1:W.frozen? ⟨R,0,none⟩=false:=by rw[hFW];exact fz0
 have n0:W.cell? ⟨w.heap.size,0,none⟩=some (.int .u8 k):=by subst hW;simp
 have n1:W.cell? ⟨w.heap.size,1,none⟩=some (.string t):=by subst hW;simp
 have n2:W.cell? ⟨w.heap.size,2,none⟩=some kv:=by subst hW;simp
 have n3:W.cell? ⟨w.heap.size,3,none⟩=some sv:=by subst hW;simp
 have n4:W.cell? ⟨w.heap.size,4,none⟩=some uv:=by subst hW;simp
 have n5:W.cell? ⟨w.heap.size,5,none⟩=some (.int .i64 a):=by subst hW;simp
 have n6:W.cell? ⟨w.heap.size,6,none⟩=some (.int .i64 b):=by subst hW;simp
 have hWs:w.heap.size+1=W.heap.size:=by subst hW;simp
 have hGW:Gr w W:=by subst hW;exact (Gr.refl w).alloc _
 have hNW:Hid (W.ownsRow base 40 7 nv L.length (ndsV L)):=ownsRow_of_block HN.out fun k e=>hGW.block (HN.out.lt k e).2
 have HG:=Lib.hid hGW;have hWl:w.heap.size<W.heap.size:=by omega
 have hWR:R<W.heap.size:=by omega
 have hWb:base≤W.heap.size:=by omega
 have hR0:=hR.2;rw[hW];clear hW hRW hFW hGW hWs hR
 set_option maxRecDepth 100000 in
 go_region_law
  ((refine step_append_lies _ (by rfl) (.tmp 10) (.tmp 12) 26 (by rfl) base 40 i0 _ 7 112 Tryz.underlying26 HI.out HZ.out HZ1.out HZ2.out (by rfl) (by decide) nv L.length (ndsV L) (by simp[Act.eval,Act.put]) ((hNW.out.alloc _)) ⟨W.heap.size,0,none⟩ 1 1 [.int .u8 k,.string t,kv,sv,uv,.int .i64 a,.int .i64 b] (by simp[Act.eval,Act.put]) (by rfl) (World.news_of_block (heap_alloc_new _ _)) hocs (by decide) (by unfold maxLen;omega) (by omega) (by simp;omega) (W.heap.size+1) (by simp) ?_;intro g cap w1 hown1 hg1 hl1 hz1;have f3:w1.frozen? ⟨R,0,none⟩=false:=(hg1.frozen_far ⟨R,0,none⟩ (by simp;omega) hne).trans ((((Gr.refl W).alloc _).drew.use.2.1 R 0 hWR).trans e1);have f4:w1.cell? ⟨R,0,none⟩=some nv:=(hg1.cell_far ⟨R,0,none⟩ (by simp;omega) hne).trans ((((Gr.refl W).alloc _).drew.use.1 R 0 hWR).trans e0)))
 all_goals go_wp2_with fail
 all_goals go_ret
 all_goals exact⟨rfl,_,HA.out _ w1 g cap ((HG.out.alloc _).drew) hown1 hg1 (by simpa using hl1) hz1⟩
end Go.Proofs.YtdgjgcepbkanhaaGreatDoor
namespace Go.Proofs.YtdgjgcepbkanhaaGreatDoor
open Go.RowKit Go.Joins
structure Rows3 (w0 W:World) (base:Nat) (F:Nat→Prop) (kv sv uv:Value) (nk ns nu:Nat) (xk xs xu:List Value):Prop where
 st:St F (fun _=>False) w0 W
 k:W.ownsRow base 9 1 kv nk xk
 s:W.ownsRow base 38 2 sv ns xs
 u:W.ownsRow base 3 1 uv nu xu
 fk:∀b,kv.ownBlock=some b→F b∨w0.heap.size≤b
 fs:∀b,sv.ownBlock=some b→F b∨w0.heap.size≤b
 fu:∀b,uv.ownBlock=some b→F b∨w0.heap.size≤b
 ks:∀b,kv.ownBlock=some b→sv.ownBlock≠some b
 ku:∀b,kv.ownBlock=some b→uv.ownBlock≠some b
 su:∀b,sv.ownBlock=some b→uv.ownBlock≠some b
structure NewB (W:World) (b:Nat) (cs:Array Value) (T:TypeId) (kv sv uv:Value):Prop where
 blk:W.heap[b]?=some (.cells cs T (0,0))
 k:kv.ownBlock≠some b
 s:sv.ownBlock≠some b
 u:uv.ownBlock≠some b
section
variable {w0 W w1:World} {base:Nat} {F:Nat→Prop} {kv sv uv:Value} {nk ns nu:Nat} {xk xs xu:List Value}
theorem Rows3.size (h:Rows3 w0 W base F kv sv uv nk ns nu xk xs xu):w0.heap.size≤W.heap.size:=h.st.size
theorem Rows3.alloc (h:Rows3 w0 W base F kv sv uv nk ns nu xk xs xu) (o:Obj):Rows3 w0 (W.alloc o) base F kv sv uv nk ns nu xk xs xu :=
 ⟨h.st.alloc o,h.k.alloc o,h.s.alloc o,h.u.alloc o,h.fk,h.fs,h.fu,h.ks,h.ku,h.su⟩
theorem Rows3.drew (h:Rows3 w0 W base F kv sv uv nk ns nu xk xs xu):Rows3 w0 W.drew base F kv sv uv nk ns nu xk xs xu :=
 ⟨h.st.drew,h.k,h.s,h.u,h.fk,h.fs,h.fu,h.ks,h.ku,h.su⟩
theorem Rows3.newB (h:Rows3 w0 W base F kv sv uv nk ns nu xk xs xu) (cs:Array Value) (T:TypeId):NewB (W.alloc (.cells cs T)) W.heap.size cs T kv sv uv :=
 ⟨heap_alloc_new _ _,fun e=>by have:=(h.k.lt _ e).2;omega,fun e=>by have:=(h.s.lt _ e).2;omega,fun e=>by have:=(h.u.lt _ e).2;omega⟩
theorem NewB.lt {b:Nat} {cs:Array Value} {T:TypeId} (h:NewB W b cs T kv sv uv):b<W.heap.size:=(Array.getElem?_eq_some_iff.1 h.blk).1
theorem NewB.alloc {b:Nat} {cs:Array Value} {T:TypeId} (h:NewB W b cs T kv sv uv) (o:Obj):NewB (W.alloc o) b cs T kv sv uv :=
 ⟨((Gr.refl W).alloc o).block h.lt |>.trans h.blk,h.k,h.s,h.u⟩
theorem NewB.drew {b:Nat} {cs:Array Value} {T:TypeId} (h:NewB W b cs T kv sv uv):NewB W.drew b cs T kv sv uv:=⟨h.blk,h.k,h.s,h.u⟩
theorem row_apart {base e size n:Nat} {v:Value} {xs:List Value} (h:W.ownsRow base e size v n xs) {row:Option Nat} (hg:W.grownBy w1 row) (hne:∀b,row=some b→v.ownBlock≠some b):w1.ownsRow base e size v n xs :=
 h.kept hg (by cases hv:v.ownBlock with
  | none=>exact .inl rfl
  | some b=>exact .inr (fun e=>hne b e.symm hv))
theorem Rows3.appK (h:Rows3 w0 W base F kv sv uv nk ns nu xk xs xu) {g cap:Nat} {ys:List Value} (ho:w1.ownsRow base 9 1 (.slice (some ⟨g,0,none⟩) (nk+1) cap) (nk+1) ys) (hg:W.grownBy w1 kv.ownBlock)
    (hat:kv.ownBlock=some g∨g=W.heap.size):Rows3 w0 w1 base F (.slice (some ⟨g,0,none⟩) (nk+1) cap) sv uv (nk+1) ns nu ys xs xu:=by
 have hgf:F g∨w0.heap.size≤g:=by
  rcases hat with e|e
  · exact h.fk g e
  exact .inr (by have:=h.size;omega)
 have hs:sv.ownBlock≠some g:=by
  rcases hat with e|e
  · exact h.ks g e
  intro e2;have:=(h.s.lt g e2).2;omega
 have hu:uv.ownBlock≠some g:=by
  rcases hat with e|e
  · exact h.ku g e
  intro e2;have:=(h.u.lt g e2).2;omega
 exact⟨h.st.grown hg h.fk,ho,row_apart h.s hg h.ks,row_apart h.u hg h.ku,fun b e=>by simp[Value.ownBlock]at e;subst e;exact hgf,h.fs,h.fu,
  fun b e=>by simp[Value.ownBlock]at e;subst e;exact hs,fun b e=>by simp[Value.ownBlock]at e;subst e;exact hu,h.su⟩
theorem Rows3.appS (h:Rows3 w0 W base F kv sv uv nk ns nu xk xs xu) {g cap:Nat} {ys:List Value} (ho:w1.ownsRow base 38 2 (.slice (some ⟨g,0,none⟩) (ns+1) cap) (ns+1) ys) (hg:W.grownBy w1 sv.ownBlock)
    (hat:sv.ownBlock=some g∨g=W.heap.size):Rows3 w0 w1 base F kv (.slice (some ⟨g,0,none⟩) (ns+1) cap) uv nk (ns+1) nu xk ys xu:=by
 have hgf:F g∨w0.heap.size≤g:=by
  rcases hat with e|e
  · exact h.fs g e
  exact .inr (by have:=h.size;omega)
 have hk:kv.ownBlock≠some g:=by
  rcases hat with e|e
  · intro e2;exact h.ks g e2 e
  intro e2;have:=(h.k.lt g e2).2;omega
 have hu:uv.ownBlock≠some g:=by
  rcases hat with e|e
  · exact h.su g e
  intro e2;have:=(h.u.lt g e2).2;omega
 exact⟨h.st.grown hg h.fs,row_apart h.k hg (fun b e e2=>h.ks b e2 e),ho,row_apart h.u hg h.su,h.fk,fun b e=>by simp[Value.ownBlock]at e;subst e;exact hgf,h.fu,
  fun b e e2=>by simp[Value.ownBlock]at e2;subst e2;exact hk e,h.ku,fun b e=>by simp[Value.ownBlock]at e;subst e;exact hu⟩
theorem Rows3.appU (h:Rows3 w0 W base F kv sv uv nk ns nu xk xs xu) {g cap:Nat} {ys:List Value} (ho:w1.ownsRow base 3 1 (.slice (some ⟨g,0,none⟩) (nu+1) cap) (nu+1) ys) (hg:W.grownBy w1 uv.ownBlock)
    (hat:uv.ownBlock=some g∨g=W.heap.size):Rows3 w0 w1 base F kv sv (.slice (some ⟨g,0,none⟩) (nu+1) cap) nk ns (nu+1) xk xs ys:=by
 have hgf:F g∨w0.heap.size≤g:=by
  rcases hat with e|e
  · exact h.fu g e
  exact .inr (by have:=h.size;omega)
 have hk:kv.ownBlock≠some g:=by
  rcases hat with e|e
  · intro e2;exact h.ku g e2 e
  intro e2;have:=(h.k.lt g e2).2;omega
 have hs:sv.ownBlock≠some g:=by
  rcases hat with e|e
  · intro e2;exact h.su g e2 e
  intro e2;have:=(h.s.lt g e2).2;omega
 exact⟨h.st.grown hg h.fu,row_apart h.k hg (fun b e e2=>h.ku b e2 e),row_apart h.s hg (fun b e e2=>h.su b e2 e),ho,h.fk,h.fs,fun b e=>by simp[Value.ownBlock]at e;subst e;exact hgf,
  h.ks,fun b e e2=>by simp[Value.ownBlock]at e2;subst e2;exact hk e,fun b e e2=>by simp[Value.ownBlock]at e2;subst e2;exact hs e⟩
theorem NewB.app {b g n cap:Nat} {cs:Array Value} {T:TypeId} (h:NewB W b cs T kv sv uv) {v:Value} (hv:v.ownBlock≠some b) (hg:W.grownBy w1 v.ownBlock) (hat:v.ownBlock=some g∨g=W.heap.size) :
    w1.heap[b]?=some (.cells cs T (0,0))∧(Value.slice (some ⟨g,0,none⟩) n cap).ownBlock≠some b:=by
 refine⟨by rw[hg.block b h.lt (fun e=>hv e.symm)];exact h.blk,fun e=>?_⟩;simp[Value.ownBlock]at e;subst e;rcases hat with e|e
 · exact hv e
 have:=h.lt;omega
theorem NewB.appK {b g n cap:Nat} {cs:Array Value} {T:TypeId} (h:NewB W b cs T kv sv uv) (hg:W.grownBy w1 kv.ownBlock) (hat:kv.ownBlock=some g∨g=W.heap.size):NewB w1 b cs T (.slice (some ⟨g,0,none⟩) n cap) sv uv :=
 ⟨(h.app (n:=n) (cap:=cap) h.k hg hat).1,(h.app h.k hg hat).2,h.s,h.u⟩
theorem NewB.appS {b g n cap:Nat} {cs:Array Value} {T:TypeId} (h:NewB W b cs T kv sv uv) (hg:W.grownBy w1 sv.ownBlock) (hat:sv.ownBlock=some g∨g=W.heap.size):NewB w1 b cs T kv (.slice (some ⟨g,0,none⟩) n cap) uv :=
 ⟨(h.app (n:=n) (cap:=cap) h.s hg hat).1,h.k,(h.app h.s hg hat).2,h.u⟩
theorem NewB.appU {b g n cap:Nat} {cs:Array Value} {T:TypeId} (h:NewB W b cs T kv sv uv) (hg:W.grownBy w1 uv.ownBlock) (hat:uv.ownBlock=some g∨g=W.heap.size):NewB w1 b cs T kv sv (.slice (some ⟨g,0,none⟩) n cap) :=
 ⟨(h.app (n:=n) (cap:=cap) h.u hg hat).1,h.k,h.s,(h.app h.u hg hat).2⟩
end
theorem ownsRow_set {w:World} {base e size n g cap:Nat} {xs:List Value} (h:w.ownsRow base e size (.slice (some ⟨g,0,none⟩) n cap) n xs) (j:Nat) (hj:j<xs.length) (x:Value) :
    (w.setCell ⟨g,j,none⟩ x).ownsRow base e size (.slice (some ⟨g,0,none⟩) n cap) n (xs.set j x):=by
 refine⟨by rw[List.length_set];exact h.1,?_⟩;have h1:=h.1;rcases h.2 with⟨h2,_⟩|⟨g',cap',cur,h2,h3,h4,h5,h6,h7,h8⟩
 · cases h2
 cases h2;refine .inr ⟨g,cap,cur.setIfInBounds j x,rfl,h3,block_setCell h4 x,h5,h6,by simpa using h7,?_⟩;rw[←h8,Array.toList_setIfInBounds,List.take_set]
def FI (own:Nat→Nat) (i:Nat) (k:Nat):Prop:=own k=4+3*i∨own k=5+3*i∨own k=6+3*i
theorem RdV.start3 {w W:World} {R B base:Nat} {s:ByteArray} {root:Int} {nv:Value} {L:List NdR} {own:Nat→Nat} (h:RdV w R B base s root nv L own) (g1:Gr w W) (i:Nat) (r:NdR) (hr:L[i]?=some r) (h8:r.nd.kind=8) :
    Rows3 w W base (FI own i) r.kv r.sv r.uv r.nd.keys.length r.nd.spots.length r.nd.subs.length (keysV r.nd.keys) (spotsV r.nd.spots) (subsV r.nd.subs):=by
 have hx:=h.rows i r hr;have kp:∀ {e size n v xs t},w.ownsRow base e size v n xs→Tagged own v t→t≠0→W.ownsRow base e size v n xs:=fun ho ht h0=>ownsRow_of_block ho fun k e=>g1.block (h.lt k (by rw[ht k e];exact h0)).2
 refine⟨(g1.st).to (fun _ e=>e.elim),kp hx.k hx.tk (by omega),kp hx.s hx.ts (by omega),kp (hx.u8 h8) hx.tu (by omega),fun b e => .inl (.inl (hx.tk b e)),fun b e => .inl (.inr (.inl (hx.ts b e))),fun b e => .inl (.inr (.inr (hx.tu b e))),?_,?_,?_⟩
 · intro b e e2;have:=hx.tk b e;have:=hx.ts b e2;omega
 · intro b e e2;have:=hx.tk b e;have:=hx.tu b e2;omega
 intro b e e2;have:=hx.ts b e;have:=hx.tu b e2;omega
def PutMore (w w2:World) (R B base:Nat) (s:ByteArray) (root:Int) (nv:Value) (L:List NdR) (own:Nat→Nat) (i:Nat) (nd:Pl.Nd):Prop :=
 ∃own' kv sv uv,RdV w2 R B base s root nv (L.set i ⟨nd,kv,sv,uv⟩) own'∧St (FV own) (FV own') w w2∧(∀k,own' k≠0→own k≠0∨w.heap.size≤k)
theorem RdV.putDone {w W:World} {R B base:Nat} {s:ByteArray} {root:Int} {L:List NdR} {own:Nat→Nat} {g cap:Nat} (h:RdV w R B base s root (.slice (some ⟨g,0,none⟩) L.length cap) L own) (i:Nat) (r:NdR) (hr:L[i]?=some r)
    (nd:Pl.Nd) (hk1:nd.kind=r.nd.kind) (hk2:nd.text=r.nd.text) (hk3:nd.sp=r.nd.sp) (hk4:nd.owner=r.nd.owner) {kv sv uv:Value}
    (H:Rows3 w W base (FI own i) kv sv uv nd.keys.length nd.spots.length nd.subs.length (keysV nd.keys) (spotsV nd.spots) (subsV nd.subs)) :
    PutMore w (((W.setCell ⟨g,i*7+2,none⟩ kv).setCell ⟨g,i*7+3,none⟩ sv).setCell ⟨g,i*7+4,none⟩ uv) R B base s root (.slice (some ⟨g,0,none⟩) L.length cap) L own i nd:=by
 have hi:i<L.length:=(List.getElem?_eq_some_iff.1 hr).1;have hgo:own g=3:=h.oN g rfl;have hgl:=h.lt g (by omega);have hz:=H.size;have hR:=h.R_lt;have hB:=h.B_lt;obtain⟨WF,hWF⟩:∃WF,((W.setCell ⟨g,i*7+2,none⟩ kv).setCell ⟨g,i*7+3,none⟩ sv).setCell ⟨g,i*7+4,none⟩ uv=WF:=⟨_,rfl⟩
 have hsz:WF.heap.size=W.heap.size:=by subst hWF;simp[World.setCell]
 have hbl:∀k,k≠g→WF.heap[k]?=W.heap[k]?:=by
  intro k hk;subst hWF;rw[Below.heap_setCell _ _ _ _ hk,Below.heap_setCell _ _ _ _ hk,Below.heap_setCell _ _ _ _ hk]
 have hwg:∀k,k<w.heap.size→k≠g→¬FI own i k→WF.heap[k]?=w.heap[k]?:=fun k hk h1 h2=>(hbl k h1).trans (H.st.block k hk h2)
 have hnW:W.ownsRow base 40 7 (.slice (some ⟨g,0,none⟩) L.length cap) L.length (ndsV L) :=
  ownsRow_of_block h.nodes fun k e=>by
   simp[Value.ownBlock]at e;subst e;exact H.st.block g hgl.2 (fun e=>by unfold FI at e;omega)
 have hlen:(ndsV L).length=L.length*7:=ndsV_length L;have hnF:WF.ownsRow base 40 7 (.slice (some ⟨g,0,none⟩) L.length cap) L.length (ndsV (L.set i ⟨nd,kv,sv,uv⟩)):=by
  subst hWF;have e1:=ownsRow_set hnW (i*7+2) (by omega) kv;have e2:=ownsRow_set e1 (i*7+3) (by rw[List.length_set];omega) sv;have e3:=ownsRow_set e2 (i*7+4) (by rw[List.length_set,List.length_set];omega) uv;have f1:=ndsV_set L i 2 (by omega) kv r ⟨r.nd,kv,r.sv,r.uv⟩ hr rfl;have f2:=ndsV_set (L.set i ⟨r.nd,kv,r.sv,r.uv⟩) i 3 (by omega) sv ⟨r.nd,kv,r.sv,r.uv⟩ ⟨r.nd,kv,sv,r.uv⟩ (by simp[hi]) rfl;have f3:=ndsV_set ((L.set i ⟨r.nd,kv,r.sv,r.uv⟩).set i ⟨r.nd,kv,sv,r.uv⟩) i 4 (by omega) uv ⟨r.nd,kv,sv,r.uv⟩ ⟨nd,kv,sv,uv⟩ (by simp[hi]) (by simp[ndV,hk1,hk2,hk3]);rw[f1,f2,f3]at e3
  simpa using e3
 rw[hWF];refine⟨fun k=>if kv.ownBlock=some k then 4+3*i else if sv.ownBlock=some k then 5+3*i else if uv.ownBlock=some k then 6+3*i else own k,kv,sv,uv,?_,?_,?_⟩
 · -- tags that are not this node's stay
   have tg:∀k,own k≠0→¬FI own i k→(if kv.ownBlock=some k then 4+3*i else if sv.ownBlock=some k then 5+3*i else if uv.ownBlock=some k then 6+3*i else own k)=own k:=by
    intro k h0 hF;have hk:=(h.lt k h0).2;have a1:kv.ownBlock≠some k:=fun e=>(H.fk k e).elim hF (fun e=>by omega)
    have a2:sv.ownBlock≠some k:=fun e=>(H.fs k e).elim hF (fun e=>by omega)
    have a3:uv.ownBlock≠some k:=fun e=>(H.fu k e).elim hF (fun e=>by omega)
    simp only[a1,a2,a3,if_false]
   have nF:∀k t,own k=t→t<4→¬FI own i k:=fun k t e h4 e2=>by unfold FI at e2;omega
   have hng:∀k,own k≠3→k≠g:=fun k e e2=>by subst e2;exact e hgo
   have hgn:∀ {v:Value} {e size n xs},W.ownsRow base e size v n xs→(∀b,v.ownBlock=some b→FI own i b∨w.heap.size≤b)→∀k,v.ownBlock=some k→k≠g:=by
    intro v e size n xs _ hv k hk e2;subst e2;rcases hv k hk with h1|h1
    · unfold FI at h1;omega
    omega
   refine⟨?_,?_,?_,?_,?_,?_,?_,?_⟩
   · rw[hwg R hR.2 (hng R (by rw[h.oR];omega)) (nF R 1 h.oR (by omega))];exact h.blk
   · rw[tg R (by rw[h.oR];omega) (nF R 1 h.oR (by omega))];exact h.oR
   · rw[tg B (by rw[h.oB];omega) (nF B 2 h.oB (by omega))];exact h.oB
   · rw[List.length_set];exact hnF
   · intro k e;simp[Value.ownBlock]at e;subst e;show (if _ then _ else _)=3;rw[tg g (by omega) (nF g 3 hgo (by omega))];exact hgo
   · obtain⟨D,h1,h2,h3,h4⟩:=h.map;refine⟨D,ownsMap_of_block (by rw[cntO_same L i r ⟨nd,kv,sv,uv⟩ hr hk4];exact h1) (hwg B hB.2 (hng B (by rw[h.oB];omega)) (nF B 2 h.oB (by omega))),h2,by rw[List.length_set];exact h3,fun j x hx=>?_⟩;rw[List.getElem?_set]at hx
     split at hx
     · rename_i hji
       subst hji;cases hx;rw[h4 i r hr];simp only[hk4]
     exact h4 j x hx
   · intro j x hx;rw[List.getElem?_set]at hx
     split at hx
     · rename_i hji
       subst hji;cases hx;refine⟨ownsRow_of_block H.k fun k e=>hbl k (hgn H.k H.fk k e),ownsRow_of_block H.s fun k e=>hbl k (hgn H.s H.fs k e),rowC_of (ownsRow_of_block H.u fun k e=>hbl k (hgn H.u H.fu k e)),fun _=>ownsRow_of_block H.u fun k e=>hbl k (hgn H.u H.fu k e),?_,?_,?_⟩
       · intro k e;simp only at e;simp only[e,if_true]
       · intro k e;simp only at e;have a1:kv.ownBlock≠some k:=fun e2=>H.ks k e2 e
         simp only[a1,e,if_true,if_false]
       intro k e;simp only at e;have a1:kv.ownBlock≠some k:=fun e2=>H.ku k e2 e
       have a2:sv.ownBlock≠some k:=fun e2=>H.su k e2 e
       simp only[a1,a2,e,if_true,if_false]
     rename_i hji
     have hxr:=h.rows j x hx;have kp:∀ {e size n v xs t},w.ownsRow base e size v n xs→Tagged own v t→4≤t→(t≠4+3*i∧t≠5+3*i∧t≠6+3*i) →
         WF.ownsRow base e size v n xs∧Tagged (fun k=>if kv.ownBlock=some k then 4+3*i else if sv.ownBlock=some k then 5+3*i else if uv.ownBlock=some k then 6+3*i else own k) v t:=by
      intro e size n v xs t ho ht h4 hne;have hF:∀k,v.ownBlock=some k→¬FI own i k:=fun k e e2=>by have:=ht k e;unfold FI at e2;omega
      refine⟨ownsRow_of_block ho fun k e=>hwg k (h.lt k (by rw[ht k e];omega)).2 (hng k (by rw[ht k e];omega)) (hF k e),fun k e=>?_⟩;show (if _ then _ else _)=t;rw[tg k (by rw[ht k e];omega) (hF k e)];exact ht k e
     have a:=kp hxr.k hxr.tk (by omega) (by omega);have b:=kp hxr.s hxr.ts (by omega) (by omega);have c:RowC WF base 3 1 x.uv x.nd.subs.length (subsV x.nd.subs)∧_:=⟨hxr.u.of_block fun k e=>hwg k (h.lt k (by rw[hxr.tu k e];omega)).2 (hng k (by rw[hxr.tu k e];omega)) (fun e2=>by have:=hxr.tu k e;unfold FI at e2;omega),fun h8=>(kp (hxr.u8 h8) hxr.tu (by omega) (by omega)).1⟩
     have ct:Tagged (fun k=>if kv.ownBlock=some k then 4+3*i else if sv.ownBlock=some k then 5+3*i else if uv.ownBlock=some k then 6+3*i else own k) x.uv (6+3*j):=fun k e=>by
      show (if _ then _ else _)=_;rw[tg k (by rw[hxr.tu k e];omega) (fun e2=>by have:=hxr.tu k e;unfold FI at e2;omega)];exact hxr.tu k e
     exact⟨a.1,b.1,c.1,c.2,a.2,b.2,ct⟩
   intro k hk;rw[hsz];by_cases h0:own k=0
   · split at hk
     · rename_i e;have:=H.k.lt k e;exact this
     split at hk
     · rename_i e;have:=H.s.lt k e;exact this
     split at hk
     · rename_i e;have:=H.u.lt k e;exact this
     exact absurd h0 hk
   have:=h.lt k h0;exact⟨this.1,by omega⟩
 · refine⟨?_,?_,?_,by omega,?_,?_⟩
   · subst hWF;exact H.st.os
   · subst hWF;exact H.st.tape
   · subst hWF;exact H.st.output
   · intro k hk hn;refine hwg k hk (fun e=>hn ?_) (fun e=>hn ?_)
     · subst e;unfold FV;omega
     unfold FI at e;unfold FV;omega
   intro k hk
   replace hk:(if kv.ownBlock=some k then 4+3*i else if sv.ownBlock=some k then 5+3*i else if uv.ownBlock=some k then 6+3*i else own k)≠0:=hk
   have fi:∀b,FI own i b∨w.heap.size≤b→FV own b∨w.heap.size≤b:=fun b e=>e.imp (fun e=>by unfold FI at e;unfold FV;omega) id
   split at hk
   · rename_i e;exact fi k (H.fk k e)
   split at hk
   · rename_i e;exact fi k (H.fs k e)
   split at hk
   · rename_i e;exact fi k (H.fu k e)
   exact .inl hk
 intro k hk
 replace hk:(if kv.ownBlock=some k then 4+3*i else if sv.ownBlock=some k then 5+3*i else if uv.ownBlock=some k then 6+3*i else own k)≠0:=hk
 have fi:∀b,FI own i b∨w.heap.size≤b→own b≠0∨w.heap.size≤b:=fun b e=>e.imp (fun e=>by unfold FI at e;omega) id
 split at hk
 · rename_i e;exact fi k (H.fk k e)
 split at hk
 · rename_i e;exact fi k (H.fs k e)
 split at hk
 · rename_i e;exact fi k (H.fu k e)
 exact .inl hk
end Go.Proofs.YtdgjgcepbkanhaaGreatDoor
namespace Go.Proofs.YtdgjgcepbkanhaaGreatDoor.Reg
open Go
section
variable {P:Program} {ops:Array Oper} {Q:Exit→Act→World→Prop} {md:Region.Mode} {S:World→Prop} {W:Nat→Bool}
def anyW (P:Program) (md:Region.Mode) (ops:Array Oper) (Q:Exit→Act→World→Prop) (W:Nat→Bool) (S:World→Prop):Nat→Array Bool→Act→World→Prop
 | 0,l,a,w=>Region.ready md ops l=[]∧Q .normal a w
 | n+1,l,a,w=>(Region.ready md ops l=[]→Q .normal a w) ∧
  ∀i∈Region.ready md ops l,wpOp P ops Q i (fun a' w'=>(W i=true→S w→S w')∧anyW P md ops Q W S n (l.setIfInBounds i true) a' w') a w
theorem any_of_W:∀(n:Nat) (l:Array Bool) (a:Act) (w:World),anyW P md ops Q W S n l a w→wpAny P md ops Q n l a w
 | 0,_,_,_,h=>h
 | n+1,_,_,_,h=>⟨h.1,fun i hi=>wpOp_mono (fun a' w' h'=>any_of_W n _ a' w' h'.2) (h.2 i hi)⟩
def Closed (md:Region.Mode) (ops:Array Oper) (l:Array Bool):Prop :=
 ∀j o,ops[j]?=some o→l.getD j false=true→∀e∈o.after,Region.binds md e=true→l.getD e.on false=true
def closedB (md:Region.Mode) (ops:Array Oper) (l:Array Bool):Bool :=
 (List.range ops.size).all fun j=>match ops[j]? with
  | none=>true
  | some o => !l.getD j false || o.after.all fun e => !Region.binds md e || l.getD e.on false
theorem closed_of {l:Array Bool} (h:closedB md ops l=true):Closed md ops l:=by
 intro j o ho hl e he hb;unfold closedB at h;rw[List.all_eq_true]at h;have h1:=h j (List.mem_range.2 (Array.getElem?_eq_some_iff.1 ho).1);simp only[ho,hl,Bool.not_true,Bool.false_or]at h1;have h2:=(Array.all_eq_true_iff_forall_mem.1 h1) e he
 simpa [hb]using h2
theorem Closed.more {l:Array Bool} (h:Closed md ops l) {j:Nat} (hj:j∈Region.ready md ops l):Closed md ops (l.setIfInBounds j true):=by
 intro k o ho hl e he hb;by_cases hkj:j=k
 · subst hkj;obtain⟨_,o',ho',hall⟩:=mem_ready.1 hj;rw[ho]at ho';cases ho';exact getD_set_true (hall e he hb)
 rw[getD_set_ne false hkj]at hl;exact getD_set_true (h k o ho hl e he hb)
def waitsB (md:Region.Mode) (ops:Array Oper) (i:Nat):Nat→Nat→Bool
 | 0,_=>false
 | n+1,j=>match ops[j]? with
  | none=>false
  | some o=>o.after.any fun e=>Region.binds md e && (e.on==i || waitsB md ops i n e.on)
theorem waits_spec {i:Nat}:∀(n j:Nat) (l:Array Bool) o,Closed md ops l→ops[j]?=some o→(∀e∈o.after,Region.binds md e=true→l.getD e.on false=true)→waitsB md ops i n j=true→l.getD i false=true:=by
 intro n
 induction n with
 | zero=>intro j l o _ _ _ h;cases h
 | succ n ih =>
  intro j l o hc ho hall h;unfold waitsB at h;rw[ho]at h;simp only[Array.any_eq_true']at h;obtain⟨e,he,hb⟩:=h;simp only[Bool.and_eq_true,Bool.or_eq_true,beq_iff_eq]at hb;have h1:=hall e he hb.1;rcases hb.2 with h2|h2
  · rw[h2]at h1;exact h1
  have hn:waitsB md ops i n e.on=true:=h2;cases n with
  | zero=>cases hn
  | succ n =>
   cases ho2:ops[e.on]? with
   | none=>unfold waitsB at hn;rw[ho2]at hn;cases hn
   | some o2=>exact ih e.on l o2 hc ho2 (hc e.on o2 ho2 h1) hn
def lateB (md:Region.Mode) (ops:Array Oper) (W:Nat→Bool) (i:Nat):Bool:=(List.range ops.size).all fun j=>W j || waitsB md ops i 12 j
theorem first {i:Nat} {oi:Oper} {v:Value} (hi:ops[i]?=some oi) (hsel:∀(j:Nat) (o:Oper) cs b,ops[j]?=some o→o.op ≠ .select cs b)
    (hQ:∀c a w,Q (.panic c) (a.put oi.dst v) w→Q (.panic c) a w) (hlate:lateB md ops W i=true) :
    ∀(n:Nat) (l:Array Bool) (a:Act) (w:World),Closed md ops l →
     (∀j oj,ops[j]?=some oj→j≠i→l.getD j true=false→(∀e∈oj.after,Region.binds md e=true→e.on≠i)→oi.apart ops oj=true) →
     i∈Region.ready md ops l→YieldsIf P ops S oi v a→S w →
     anyW P md ops Q W S n (l.setIfInBounds i true) (a.put oi.dst v) w→anyW P md ops Q W S (n+1) l a w:=by
 intro n
 induction n with
 | zero =>
  intro l a w _ _ hr hy hS H;refine⟨fun h=>(by rw[h]at hr;cases hr),fun j hj=>?_⟩;by_cases hji:j=i
  · subst hji;exact hy.wpOp hi hS ⟨fun _ h=>h,H⟩
  have:=ready_mono hj hji;rw[H.1]at this;cases this
 | succ n ih =>
  intro l a w hcl hfree hr hy hS H;refine⟨fun h=>(by rw[h]at hr;cases hr),fun j hj=>?_⟩;by_cases hji:j=i
  · subst hji;exact hy.wpOp hi hS ⟨fun _ h=>h,H⟩
  have h1:=H.2 j (ready_mono hj hji);obtain⟨hjun,oj,hoj,hall⟩:=mem_ready.1 hj;have hiun:l.getD i false=false:=by
   have h0:=(mem_ready.1 hr).1;rcases Nat.lt_or_ge i l.size with h'|h'
   · simp[h']at h0 ⊢;exact h0
   simp[Array.getElem?_eq_none h']at h0
  have hnot:∀e∈oj.after,Region.binds md e=true→e.on≠i:=fun e he hb heq=>by
   have h2:=hall e he hb;rw[heq,hiun]at h2;cases h2
  have hWj:W j=true:=by
   cases hw:W j with
   | true=>rfl
   | false =>
    unfold lateB at hlate;rw[List.all_eq_true]at hlate;have h2:=hlate j (List.mem_range.2 (Array.getElem?_eq_some_iff.1 hoj).1);rw[hw,Bool.false_or]at h2;have h3:=waits_spec 12 j l oj hcl hoj hall h2;rw[hiun]at h3;cases h3
  have h2:=wpOp_putIf hoj (hfree j oj hoj hji hjun hnot) (fun cs b=>hsel i oi cs b hi) (fun cs b=>hsel j oj cs b hoj) hQ hy h1;have hfree':∀k ok,ops[k]?=some ok→k≠i→(l.setIfInBounds j true).getD k true=false→(∀e∈ok.after,Region.binds md e=true→e.on≠i)→oi.apart ops ok=true:=fun k ok hk hki hun hno=>by
   refine hfree k ok hk hki ?_ hno;by_cases hjk:j=k
   · subst hjk;exact hjun
   rw[getD_set_ne true hjk]at hun;exact hun
  refine wpOp_mono (fun a' w' h3=>⟨h3.2.1,ih (l.setIfInBounds j true) a' w' (hcl.more hj) hfree' (ready_mono hr (Ne.symm hji)) h3.1 (h3.2.1 hWj hS) ?_⟩) h2;rw[Array.setIfInBounds_comm _ _ hji];exact h3.2.2
theorem firstY {i:Nat} {oi:Oper} {v:Value} (hi:ops[i]?=some oi) (hsel:∀(j:Nat) (o:Oper) cs b,ops[j]?=some o→o.op ≠ .select cs b)
    (hQ:∀c a w,Q (.panic c) (a.put oi.dst v) w→Q (.panic c) a w) :
    ∀(n:Nat) (l:Array Bool) (a:Act) (w:World),
     (∀j oj,ops[j]?=some oj→j≠i→l.getD j true=false→(∀e∈oj.after,Region.binds md e=true→e.on≠i)→oi.apart ops oj=true) →
     i∈Region.ready md ops l→YieldsIf P ops (fun _=>True) oi v a →
     anyW P md ops Q W S n (l.setIfInBounds i true) (a.put oi.dst v) w→anyW P md ops Q W S (n+1) l a w:=by
 intro n
 induction n with
 | zero =>
  intro l a w _ hr hy H;refine⟨fun h=>(by rw[h]at hr;cases hr),fun j hj=>?_⟩;by_cases hji:j=i
  · subst hji;exact hy.wpOp hi trivial ⟨fun _ h=>h,H⟩
  have:=ready_mono hj hji;rw[H.1]at this;cases this
 | succ n ih =>
  intro l a w hfree hr hy H;refine⟨fun h=>(by rw[h]at hr;cases hr),fun j hj=>?_⟩;by_cases hji:j=i
  · subst hji;exact hy.wpOp hi trivial ⟨fun _ h=>h,H⟩
  have h1:=H.2 j (ready_mono hj hji);obtain⟨hjun,oj,hoj,hall⟩:=mem_ready.1 hj;have hiun:l.getD i false=false:=by
   have h0:=(mem_ready.1 hr).1;rcases Nat.lt_or_ge i l.size with h'|h'
   · simp[h']at h0 ⊢;exact h0
   simp[Array.getElem?_eq_none h']at h0
  have hnot:∀e∈oj.after,Region.binds md e=true→e.on≠i:=fun e he hb heq=>by
   have h2:=hall e he hb;rw[heq,hiun]at h2;cases h2
  have h2:=wpOp_putIf hoj (hfree j oj hoj hji hjun hnot) (fun cs b=>hsel i oi cs b hi) (fun cs b=>hsel j oj cs b hoj) hQ hy h1;have hfree':∀k ok,ops[k]?=some ok→k≠i→(l.setIfInBounds j true).getD k true=false→(∀e∈ok.after,Region.binds md e=true→e.on≠i)→oi.apart ops ok=true:=fun k ok hk hki hun hno=>by
   refine hfree k ok hk hki ?_ hno;by_cases hjk:j=k
   · subst hjk;exact hjun
   rw[getD_set_ne true hjk]at hun;exact hun
  refine wpOp_mono (fun a' w' h3=>⟨h3.2.1,ih (l.setIfInBounds j true) a' w' hfree' (ready_mono hr (Ne.symm hji)) h3.1 ?_⟩) h2;rw[Array.setIfInBounds_comm _ _ hji];exact h3.2.2
theorem takeY {i:Nat} {oi:Oper} {v:Value} {n:Nat} {l:Array Bool} {a:Act} {w:World} (hi:ops[i]?=some oi)
    (hs:Region.noSelect ops=true) (hf:Region.free md ops l i=true) (hr:(Region.ready md ops l).contains i=true)
    (hQ:∀c a w,Q (.panic c) (a.put oi.dst v) w→Q (.panic c) a w) (hwant:Region.wanted oi (yielded ops a.tmps)=true) (hy:∀w,(execOp a.eval oi).run P w = .ok (.value v) w)
    (h:anyW P md ops Q W S n (l.setIfInBounds i true) (a.put oi.dst v) w):anyW P md ops Q W S (n+1) l a w :=
 firstY hi (Region.noSelect_spec hs) hQ n l a w (Region.free_spec hi hf) (by simpa using hr) (.inl ⟨hwant,fun w _=>hy w⟩) h
theorem take {i:Nat} {oi:Oper} {v:Value} {n:Nat} {l:Array Bool} {a:Act} {w:World} (hi:ops[i]?=some oi)
    (hs:Region.noSelect ops=true) (hl:lateB md ops W i=true) (hc:closedB md ops l=true) (hf:Region.free md ops l i=true) (hr:(Region.ready md ops l).contains i=true)
    (hQ:∀c a w,Q (.panic c) (a.put oi.dst v) w→Q (.panic c) a w) (hS:S w) (hwant:Region.wanted oi (yielded ops a.tmps)=true) (hy:∀w,S w→(execOp a.eval oi).run P w = .ok (.value v) w)
    (h:anyW P md ops Q W S n (l.setIfInBounds i true) (a.put oi.dst v) w):anyW P md ops Q W S (n+1) l a w :=
 first hi (Region.noSelect_spec hs) hQ hl n l a w (closed_of hc) (Region.free_spec hi hf) (by simpa using hr) (.inl ⟨hwant,hy⟩) hS h
theorem skip {i:Nat} {oi:Oper} {n:Nat} {l:Array Bool} {a:Act} {w:World} (hi:ops[i]?=some oi)
    (hs:Region.noSelect ops=true) (hf:Region.free md ops l i=true) (hr:(Region.ready md ops l).contains i=true)
    (hQ:∀c a w,Q (.panic c) (a.put oi.dst undef) w→Q (.panic c) a w) (hwant:Region.wanted oi (yielded ops a.tmps)=false)
    (h:anyW P md ops Q W S n (l.setIfInBounds i true) (a.put oi.dst undef) w):anyW P md ops Q W S (n+1) l a w :=
 firstY hi (Region.noSelect_spec hs) hQ n l a w (Region.free_spec hi hf) (by simpa using hr) (.inr ⟨hwant,rfl⟩) h
theorem all {rs:List Nat} {n:Nat} {l:Array Bool} {a:Act} {w:World} (hr:Region.ready md ops l=rs) (hne:rs≠[])
    (h:∀i∈rs,wpOp P ops Q i (fun a' w'=>(W i=true→S w→S w')∧anyW P md ops Q W S n (l.setIfInBounds i true) a' w') a w):anyW P md ops Q W S (n+1) l a w :=
 ⟨fun h0=>absurd (hr ▸ h0) hne,hr ▸ h⟩
theorem one {i:Nat} {o:Oper} {K:Act→World→Prop} {a:Act} {w:World} (ho:ops[i]?=some o) (hw:Region.wanted o (yielded ops a.tmps)=true) (h:Oper.wp P o a w K Q):wpOp P ops Q i K a w:=by
 unfold wpOp;simp only[ho,hw,if_true];exact .inl h
theorem done {l:Array Bool} {a:Act} {w:World} (hr:Region.ready md ops l=[]) (h:Q .normal a w):∀n,anyW P md ops Q W S n l a w
 | 0=>⟨hr,h⟩
 | _+1=>⟨fun _=>h,by rw[hr];simp⟩
theorem begin' {id:Nat} {a:Act} {w:World} (hm:P.follows .mixedOrders=true) (h:anyW P .any ops Q W S ops.size (Array.replicate ops.size false) a w.drew):(Code.region id ops true).wp P Q a w :=
 wp_region_any hm (any_of_W _ _ _ _ h)
end
end Go.Proofs.YtdgjgcepbkanhaaGreatDoor.Reg
namespace Go.Proofs.YtdgjgcepbkanhaaGreatDoor.Reg
open Go Go.RowKit
section
variable {P:Program} {ops:Array Oper} {Q:Exit→Act→World→Prop} {md:Region.Mode} {S:World→Prop} {W:Nat→Bool}
theorem ty (i:Nat) {oi:Oper} {v:Value} {n:Nat} {l:Array Bool} {a b:Act} {w:World} (h:anyW P md ops Q W S n (l.setIfInBounds i true) b w)
    (hi:ops[i]?=some oi:=by rfl) (hs:Region.noSelect ops=true:=by kernel_rfl) (hf:Region.free md ops l i=true:=by kernel_rfl) (hr:(Region.ready md ops l).contains i=true:=by kernel_rfl)
    (hQ:∀c a w,Q (.panic c) (a.put oi.dst v) w→Q (.panic c) a w:=by exact fun _ _ _ h=>h) (hwant:Region.wanted oi (yielded ops a.tmps)=true:=by rfl)
    (hy:∀w,(execOp a.eval oi).run P w = .ok (.value v) w:=by (intro w;go_simp;try with_reducible rfl)) (hb:a.put oi.dst v=b:=by ((try simp only[Act.put,List.getElem_toArray,List.getElem_cons_succ,List.getElem_cons_zero,List.setIfInBounds_toArray,List.set_cons_zero,List.set_cons_succ]);try rfl)):anyW P md ops Q W S (n+1) l a w:=by
 subst hb;exact takeY hi hs hf hr hQ hwant hy h
theorem tl (i:Nat) {oi:Oper} {v:Value} {n:Nat} {l:Array Bool} {a b:Act} {w:World} (hS:S w) (h:anyW P md ops Q W S n (l.setIfInBounds i true) b w)
    (hi:ops[i]?=some oi:=by rfl) (hs:Region.noSelect ops=true:=by kernel_rfl) (hl:lateB md ops W i=true:=by kernel_rfl) (hc:closedB md ops l=true:=by kernel_rfl) (hf:Region.free md ops l i=true:=by kernel_rfl) (hr:(Region.ready md ops l).contains i=true:=by kernel_rfl)
    (hQ:∀c a w,Q (.panic c) (a.put oi.dst v) w→Q (.panic c) a w:=by exact fun _ _ _ h=>h) (hwant:Region.wanted oi (yielded ops a.tmps)=true:=by rfl)
    (hy:∀w,S w→(execOp a.eval oi).run P w = .ok (.value v) w) (hb:a.put oi.dst v=b:=by ((try simp only[Act.put,List.getElem_toArray,List.getElem_cons_succ,List.getElem_cons_zero,List.setIfInBounds_toArray,List.set_cons_zero,List.set_cons_succ]);try rfl)):anyW P md ops Q W S (n+1) l a w:=by
 subst hb;exact take hi hs hl hc hf hr hQ hS hwant hy h
theorem sk (i:Nat) {oi:Oper} {n:Nat} {l:Array Bool} {a b:Act} {w:World} (h:anyW P md ops Q W S n (l.setIfInBounds i true) b w)
    (hi:ops[i]?=some oi:=by rfl) (hs:Region.noSelect ops=true:=by kernel_rfl) (hf:Region.free md ops l i=true:=by kernel_rfl) (hr:(Region.ready md ops l).contains i=true:=by kernel_rfl)
    (hQ:∀c a w,Q (.panic c) (a.put oi.dst undef) w→Q (.panic c) a w:=by exact fun _ _ _ h=>h) (hwant:Region.wanted oi (yielded ops a.tmps)=false:=by rfl)
    (hb:a.put oi.dst undef=b:=by ((try simp only[Act.put,List.getElem_toArray,List.getElem_cons_succ,List.getElem_cons_zero,List.setIfInBounds_toArray,List.set_cons_zero,List.set_cons_succ]);try rfl)):anyW P md ops Q W S (n+1) l a w:=by
 subst hb;exact skip hi hs hf hr hQ hwant h
end
end Go.Proofs.YtdgjgcepbkanhaaGreatDoor.Reg
namespace Go.Proofs.YtdgjgcepbkanhaaGreatDoor.Reg
open Go Go.RowKit
section
variable {P:Program} {ops:Array Oper} {Q:Exit→Act→World→Prop} {md:Region.Mode} {S:World→Prop} {W:Nat→Bool}
theorem on (i:Nat) {oi:Oper} {n:Nat} {l:Array Bool} {a:Act} {w:World} (h:Oper.wp P oi a w (fun a' w'=>(W i=true→S w→S w')∧anyW P md ops Q W S n (l.setIfInBounds i true) a' w') Q)
    (hi:ops[i]?=some oi:=by rfl) (hr:Region.ready md ops l=[i]:=by kernel_rfl) (hw:Region.wanted oi (yielded ops a.tmps)=true:=by rfl):anyW P md ops Q W S (n+1) l a w :=
 all hr (by simp) fun j hj=>by obtain rfl:=List.mem_singleton.1 hj;exact one hi hw h
theorem pt {n:Nat} {l:Array Bool} {a b:Act} {w:World} (h:anyW P md ops Q W S n l b w) (hb:a=b:=by ((try simp only[Act.put,List.setIfInBounds_toArray,List.set_cons_zero,List.set_cons_succ]);rfl)):anyW P md ops Q W S n l a w:=by
 subst hb;exact h
end
end Go.Proofs.YtdgjgcepbkanhaaGreatDoor.Reg
