/-
 The walks and plain laws that the claim rests on, part 5.
-/
import Derived.Test.YtfogfaagjpebcaaGreatDoorP00
import Derived.Test.YtfogfaagjpebcaaGreatDoorP02
import Derived.Test.YtfogfaagjpebcaaGreatDoorP03
import Derived.Test.YtfogfaagjpebcaaGreatDoorP08
import Derived.Maps.OwnOps
import Derived.Maps.Views
import Derived.Maps.AppendAt
import Derived.Deep.AppendLies
import Derived.Lib.SmallJoins
import Derived.Deep.RegionLaw
import Derived.Deep.DrawnRows
set_option maxHeartbeats 16000000
set_option linter.all false
set_option linter.unusedVariables false
set_option linter.unusedSimpArgs false
namespace Go.Proofs.YtfogfaagjpebcaaGreatDoor
open Go.RowKit Go.Joins
structure NdR where
 nd:Pl.Nd
 kv:Value
 sv:Value
 uv:Value
abbrev strV (l:Pl.Bs):Value := .string ⟨l.toArray⟩
def ndV (r:NdR):List Value:=[.int .u8 r.nd.kind,strV r.nd.text,r.kv,r.sv,r.uv,.int .i64 r.nd.sp.1,.int .i64 r.nd.sp.2]
def ndsV (L:List NdR):List Value:=L.flatMap ndV
def keysV (l:List Pl.Bs):List Value:=l.map strV
def spotsV (l:List (Nat × Nat)):List Value:=l.flatMap fun p=>[.int .i64 p.1,.int .i64 p.2]
def subsV (l:List Nat):List Value:=l.map fun (i:Nat) => .int .i64 i
theorem ndV_length (r:NdR):(ndV r).length=7:=rfl
theorem ndsV_length (L:List NdR):(ndsV L).length=L.length*7:=by
 unfold ndsV
 induction L with
 | nil=>rfl
 | cons r L ih=>rw[List.flatMap_cons,List.length_append,ih,ndV_length,List.length_cons];omega
theorem ndsV_get (L:List NdR) (i j:Nat) (hj:j<7):(ndsV L)[i*7+j]?=(L[i]?).bind fun r=>(ndV r)[j]?:=by
 induction L generalizing i with
 | nil=>simp[ndsV]
 | cons r L ih =>
  have e:ndsV (r::L)=ndV r++ndsV L:=by simp[ndsV]
  rw[e];cases i with
  | zero=>rw[List.getElem?_append_left (by rw[ndV_length];omega)];simp
  | succ i =>
   rw[List.getElem?_append_right (by rw[ndV_length];omega),ndV_length,show (i+1)*7+j-7=i*7+j from by omega,ih];rfl
theorem ndsV_set (L:List NdR) (i j:Nat) (hj:j<7) (v:Value) (r r':NdR) (hr:L[i]?=some r) (he:(ndV r).set j v=ndV r'):(ndsV L).set (i*7+j) v=ndsV (L.set i r'):=by
 induction L generalizing i with
 | nil=>simp at hr
 | cons x L ih =>
  have e:∀(y:NdR) (M:List NdR),ndsV (y::M)=ndV y++ndsV M:=by intro y M;simp[ndsV]
  rw[e];cases i with
  | zero =>
   simp at hr;subst hr;rw[List.set_append_left _ _ (by rw[ndV_length];omega),List.set_cons_zero,e,←he];simp
  | succ i =>
   rw[List.set_append_right _ _ (by rw[ndV_length];omega),ndV_length,show (i+1)*7+j-7=i*7+j from by omega,ih i (by simpa using hr),List.set_cons_succ,e]
def Tagged (own:Nat→Nat) (v:Value) (t:Nat):Prop:=∀k,v.ownBlock=some k→own k=t
def RowC (w:World) (base e size:Nat) (v:Value) (n:Nat) (xs:List Value):Prop :=
 ∃v0,w.ownsRow base e size v0 n xs∧v0.ownBlock=v.ownBlock∧(v=v0∨∃g c,v0 = .slice (some ⟨g,0,none⟩) n c∧v = .slice (some ⟨g,0,none⟩) n n)
structure NdRows (w:World) (base:Nat) (own:Nat→Nat) (i:Nat) (r:NdR):Prop where
 k:w.ownsRow base 9 1 r.kv r.nd.keys.length (keysV r.nd.keys)
 s:w.ownsRow base 73 2 r.sv r.nd.spots.length (spotsV r.nd.spots)
 u:RowC w base 3 1 r.uv r.nd.subs.length (subsV r.nd.subs)
 u8:r.nd.kind=8→w.ownsRow base 3 1 r.uv r.nd.subs.length (subsV r.nd.subs)
 tk:Tagged own r.kv (4+3*i)
 ts:Tagged own r.sv (5+3*i)
 tu:Tagged own r.uv (6+3*i)
abbrev mapD:=DataW Unit
def Opens (D:mapD) (L:List NdR):Prop:=Maps.IsMap D∧(∀i:Nat,L.length≤i→D.atKey (.int .i64 i) (.lit (.int .i64 0)) = .lit (.int .i64 0)) ∧
 ∀(i:Nat) r,L[i]?=some r→D.atKey (.int .i64 i) (.lit (.int .i64 0)) = .lit (.int .i64 r.nd.owner)
def cntO (L:List NdR):Nat:=(L.filter fun r=>r.nd.owner != 0).length
theorem cntO_append (L M:List NdR):cntO (L++M)=cntO L+cntO M:=by simp[cntO]
theorem cntO_le (L:List NdR):cntO L≤L.length:=List.length_filter_le _ _
theorem cntO_set:∀(L:List NdR) (i:Nat) (r r':NdR),L[i]?=some r→cntO (L.set i r')+cntO [r]=cntO L+cntO [r']
 | [],i,_,_,h=>by simp at h
 | x::L,0,r,r',h=>by
  simp only[List.getElem?_cons_zero,Option.some.injEq]at h;subst h;rw[List.set_cons_zero,←List.singleton_append,←List.singleton_append (l:=L),cntO_append,cntO_append];omega
 | x::L,i+1,r,r',h=>by
  have:=cntO_set L i r r' (by simpa using h);rw[List.set_cons_succ,←List.singleton_append,←List.singleton_append (l:=L),cntO_append,cntO_append];omega
theorem cntO_one (r r':NdR) (h:r'.nd.owner=r.nd.owner):cntO [r']=cntO [r]:=by
 simp only[cntO,List.filter_cons,List.filter_nil,h];cases r.nd.owner != 0 <;> rfl
theorem cntO_same (L:List NdR) (i:Nat) (r r':NdR) (hr:L[i]?=some r) (h:r'.nd.owner=r.nd.owner):cntO (L.set i r')=cntO L:=by
 have:=cntO_set L i r r' hr;have:=cntO_one r r' h;omega
structure RdV (w:World) (R B base:Nat) (s:ByteArray) (root:Int) (nv:Value) (L:List NdR) (own:Nat→Nat):Prop where
 blk:w.heap[R]?=some (.cells #[nv,.int .i64 root,.string s,.map (some B)] 134 (0,0))
 oR:own R=1
 oB:own B=2
 nodes:w.ownsRow base 91 7 nv L.length (ndsV L)
 oN:Tagged own nv 3
 map:∃D:mapD,w.ownsMap Tryz.prog 3 (plainElem (H:=Unit) Tryz.prog 3) B (cntO L) D∧Opens D L
 rows:∀(i:Nat) r,L[i]?=some r→NdRows w base own i r
 lt:∀k,own k≠0→base≤k∧k<w.heap.size
def FV (own:Nat→Nat) (k:Nat):Prop:=own k≠0
theorem ownsRow_of_block {w w':World} {base e size n:Nat} {v:Value} {xs:List Value} (h:w.ownsRow base e size v n xs) (hb:∀k,v.ownBlock=some k→w'.heap[k]?=w.heap[k]?):w'.ownsRow base e size v n xs:=by
 refine⟨h.1,?_⟩;rcases h.2 with hn|⟨g,cap,cur,rfl,hbb,hgg,rest⟩
 · exact .inl hn
 exact .inr ⟨g,cap,cur,rfl,hbb,by rw[hb g rfl];exact hgg,rest⟩
theorem RowC.of_block {w w':World} {base e size n:Nat} {v:Value} {xs:List Value} (h:RowC w base e size v n xs) (hb:∀k,v.ownBlock=some k→w'.heap[k]?=w.heap[k]?):RowC w' base e size v n xs:=by
 obtain⟨v0,h1,h2,h3⟩:=h;exact⟨v0,ownsRow_of_block h1 (fun k e=>hb k (by rw[←h2];exact e)),h2,h3⟩
theorem rowC_of {w:World} {base e size n:Nat} {v:Value} {xs:List Value} (h:w.ownsRow base e size v n xs):RowC w base e size v n xs:=⟨v,h,rfl,.inl rfl⟩
theorem RowC.lt {w:World} {base e size n:Nat} {v:Value} {xs:List Value} (h:RowC w base e size v n xs):∀k,v.ownBlock=some k→base≤k∧k<w.heap.size:=by
 obtain⟨v0,h1,h2,_⟩:=h;intro k hk;exact h1.lt k (by rw[h2];exact hk)
theorem RowC.cells {w:World} {base e size n:Nat} {v:Value} {xs:List Value} (h:RowC w base e size v n xs) {g:Nat} (hg:v.ownBlock=some g):∀j u,xs[j]?=some u→w.cell? ⟨g,j,none⟩=some u:=by
 obtain⟨v0,h1,h2,_⟩:=h;intro j u hu;have:=h1.cells (g:=g) (by rw[h2];exact hg) j u hu
 rwa [Addr.add_lit,Nat.zero_add]at this
theorem RowC.form {w:World} {base e size n:Nat} {v:Value} {xs:List Value} (h:RowC w base e size v n xs) (hn:0<n):∃g c,v = .slice (some ⟨g,0,none⟩) n c∧n≤c∧c≤maxLen:=by
 obtain⟨v0,h1,h2,h3⟩:=h;rcases h1.2 with⟨_,h0⟩|⟨g,cap,cur,hv,hbb,hgg,q1,q2,_⟩
 · omega
 rcases h3 with rfl|⟨g',c',e1,e2⟩
 · exact⟨g,cap,hv,q1,q2⟩
 exact⟨g',n,e2,Nat.le_refl _,Nat.le_trans q1 q2⟩
theorem ownsMap_of_block {w w':World} {k b n:Nat} {D:mapD} (h:w.ownsMap Tryz.prog k (plainElem (H:=Unit) Tryz.prog 3) b n D) (hb:w'.heap[b]?=w.heap[b]?):w'.ownsMap Tryz.prog k (plainElem (H:=Unit) Tryz.prog 3) b n D:=by
 exact J1
theorem NdRows.kept {w w' base own i r} (h:NdRows w base own i r) (hb:∀k,FV own k→w'.heap[k]?=w.heap[k]?):NdRows w' base own i r :=
 ⟨ownsRow_of_block h.k fun k e=>hb k (by unfold FV;rw[h.tk k e];omega),ownsRow_of_block h.s fun k e=>hb k (by unfold FV;rw[h.ts k e];omega),h.u.of_block fun k e=>hb k (by unfold FV;rw[h.tu k e];omega),fun h8=>ownsRow_of_block (h.u8 h8) fun k e=>hb k (by unfold FV;rw[h.tu k e];omega),h.tk,h.ts,h.tu⟩
section
variable {w w':World} {R B base:Nat} {s:ByteArray} {root:Int} {nv:Value} {L:List NdR} {own:Nat→Nat}
theorem RdV.kept (h:RdV w R B base s root nv L own) (hb:∀k,FV own k→w'.heap[k]?=w.heap[k]?) (hz:w.heap.size≤w'.heap.size):RdV w' R B base s root nv L own:=by
 obtain⟨D,h1,h2⟩:=h.map;exact⟨by rw[hb R (by unfold FV;rw[h.oR];omega)];exact h.blk,h.oR,h.oB,ownsRow_of_block h.nodes fun k e=>hb k (by unfold FV;rw[h.oN k e];omega),h.oN,
  ⟨D,ownsMap_of_block h1 (hb B (by unfold FV;rw[h.oB];omega)),h2⟩,fun i r hr=>(h.rows i r hr).kept hb,fun k hk=>⟨(h.lt k hk).1,Nat.lt_of_lt_of_le (h.lt k hk).2 hz⟩⟩
theorem RdV.gr (h:RdV w R B base s root nv L own) (g:Gr w w'):RdV w' R B base s root nv L own:=h.kept (fun k hk=>g.block (h.lt k hk).2) g.size
theorem RdV.alloc (h:RdV w R B base s root nv L own) (o:Obj):RdV (w.alloc o) R B base s root nv L own:=h.gr ((Gr.refl w).alloc o)
theorem RdV.drew (h:RdV w R B base s root nv L own):RdV w.drew R B base s root nv L own:=h.gr (Gr.refl w).drew
theorem RdV.drewN (h:RdV w R B base s root nv L own) (n:Nat):RdV (w.drewN n) R B base s root nv L own:=h.gr ((Gr.refl w).drewN n)
theorem RdV.setCell (h:RdV w R B base s root nv L own) {p:Addr} (hp:¬FV own p.block) (v:Value):RdV (w.setCell p v) R B base s root nv L own :=
 h.kept (fun k hk=>Below.heap_setCell _ _ _ _ (fun e=>by subst e;exact hp hk)) (by simp[World.setCell])
theorem RdV.not_new (h:RdV w R B base s root nv L own) {k:Nat} (hk:w.heap.size≤k):¬FV own k:=fun e=>by have:=h.lt k e;omega
theorem RdV.R_lt (h:RdV w R B base s root nv L own):base≤R∧R<w.heap.size:=h.lt R (by rw[h.oR];omega)
theorem RdV.B_lt (h:RdV w R B base s root nv L own):base≤B∧B<w.heap.size:=h.lt B (by rw[h.oB];omega)
theorem RdV.cells (h:RdV w R B base s root nv L own) :
    w.cell? ⟨R,0,none⟩=some nv∧w.cell? ⟨R,1,none⟩=some (.int .i64 root)∧w.cell? ⟨R,2,none⟩=some (.string s)∧w.cell? ⟨R,3,none⟩=some (.map (some B))∧(∀i,w.frozen? ⟨R,i,none⟩=false) :=
 ⟨by rw[cell_of_block h.blk];rfl,by rw[cell_of_block h.blk];rfl,by rw[cell_of_block h.blk];rfl,by rw[cell_of_block h.blk];rfl,fun i=>unfrozen_of_block h.blk i⟩
theorem RdV.look (h:RdV w R B base s root nv L own) (i:Nat) (hi:i≤9223372036854775807) (r:NdR) (hr:L[i]?=some r) (W:World) (hW:W.heap[B]?=w.heap[B]?) :
    (Instr.lookup 132 (.map (some B)) (.int .i64 i) false).run Tryz.prog W = .ok (.int .i64 r.nd.owner) W:=by
 obtain⟨D,h1,h2⟩:=h.map;have h1':=ownsMap_of_block (w':=W) h1 hW;have hz:(zeroValue 3).run Tryz.prog W = .ok (.int .i64 0) W:=by kernel_rfl
 obtain⟨c,e1,e2,e3⟩:=h1'.lookup_int (Maps.int_keyed Tryz.underlying3) Tryz.underlying132 Tryz.underlying3 hz (Maps.keyOf_int_mk Tryz.underlying3 (show (Lit.int .i64 (i:Int)).wf=true by simp[Lit.wf,IntKind.min,IntKind.max,IntKind.signed,IntKind.bits];omega));rw[h2.2.2 i r hr]at e2;cases e2;exact e1
theorem RdV.form (h:RdV w R B base s root nv L own) (hL:0<L.length):∃g cap cur,nv = .slice (some ⟨g,0,none⟩) L.length cap∧base≤g∧g<w.heap.size∧own g=3∧g≠R∧g≠B ∧
    w.heap[g]?=some (.cells cur 91 (0,0))∧cur.size=cap*7∧L.length≤cap∧cap≤maxLen∧cur.toList.take (L.length*7)=ndsV L:=by
 exact J2
theorem RdV.ndCells (h:RdV w R B base s root nv L own) {g cap:Nat} (hv:nv = .slice (some ⟨g,0,none⟩) L.length cap) (i:Nat) (r:NdR) (hr:L[i]?=some r) :
    w.cell? ⟨g,i*7,none⟩=some (.int .u8 r.nd.kind)∧w.cell? ⟨g,i*7+1,none⟩=some (strV r.nd.text)∧w.cell? ⟨g,i*7+2,none⟩=some r.kv∧w.cell? ⟨g,i*7+3,none⟩=some r.sv∧w.cell? ⟨g,i*7+4,none⟩=some r.uv ∧
    w.cell? ⟨g,i*7+5,none⟩=some (.int .i64 r.nd.sp.1)∧w.cell? ⟨g,i*7+6,none⟩=some (.int .i64 r.nd.sp.2)∧(∀o,w.frozen? ⟨g,o,none⟩=false):=by
 have hL:0<L.length:=by cases L with|nil=>simp at hr|cons=>simp
 have hc:=h.nodes.cells (g:=g) (by rw[hv];rfl);have hj:∀j u,j<7→(ndV r)[j]?=some u→w.cell? ⟨g,i*7+j,none⟩=some u:=by
  intro j u hj hu;have:=hc (i*7+j) u (by rw[ndsV_get _ _ _ hj,hr];exact hu)
  rwa [Addr.add_lit,Nat.zero_add]at this
 obtain⟨g',cap',cur,hv',_,_,_,_,_,hgg,_⟩:=h.form hL;rw[hv]at hv';cases hv';exact⟨hj 0 _ (by omega) rfl,hj 1 _ (by omega) rfl,hj 2 _ (by omega) rfl,hj 3 _ (by omega) rfl,hj 4 _ (by omega) rfl,hj 5 _ (by omega) rfl,hj 6 _ (by omega) rfl,fun o=>unfrozen_of_block hgg o⟩
end
end Go.Proofs.YtfogfaagjpebcaaGreatDoor
namespace Go.Proofs.YtfogfaagjpebcaaGreatDoor
open Go.RowKit Go.Joins
theorem nilRow (w:World) (base e size:Nat):w.ownsRow base e size (.slice none 0 0) 0 []:=World.ownsRow_nil _ _ _ _
theorem tag_nil (own:Nat→Nat) (t:Nat):Tagged own (.slice none 0 0) t:=fun k h=>by simp[Value.ownBlock]at h
theorem ownsRow_setCell_ne {w:World} {base e size n:Nat} {v:Value} {xs:List Value} (h:w.ownsRow base e size v n xs) {p:Addr} (hp:∀k,v.ownBlock=some k→k≠p.block) (x:Value):(w.setCell p x).ownsRow base e size v n xs :=
 ownsRow_of_block h fun k hk=>Below.heap_setCell _ _ _ _ (hp k hk)
def NodeMore (w w2:World) (R B base:Nat) (s:ByteArray) (root:Int) (L:List NdR) (own:Nat→Nat) (r:NdR) (nv':Value):Prop :=
 ∃own',RdV w2 R B base s root nv' (L++[r]) own'∧St (fun k=>FV own k∨r.uv.ownBlock=some k) (FV own') w w2∧(∀k,own' k≠0→own k≠0∨r.uv.ownBlock=some k∨w.heap.size≤k)
theorem RdV.appended {w W w1:World} {R B base:Nat} {s:ByteArray} {root:Int} {nv:Value} {L:List NdR} {own:Nat→Nat} (h:RdV w R B base s root nv L own) (g1:Gr w W)
    (r:NdR) (hk:r.kv = .slice none 0 0) (hsv:r.sv = .slice none 0 0) (hk0:r.nd.keys=[]) (hs0:r.nd.spots=[]) (ho0:r.nd.owner=0)
    (hu:RowC w base 3 1 r.uv r.nd.subs.length (subsV r.nd.subs)) (hu8:r.nd.kind=8→w.ownsRow base 3 1 r.uv r.nd.subs.length (subsV r.nd.subs)) (hu0:∀k,r.uv.ownBlock=some k→own k=0∧k<w.heap.size)
    (g cap:Nat) (hrow:w1.ownsRow base 91 7 (.slice (some ⟨g,0,none⟩) (L.length+1) cap) (L.length+1) (ndsV L++ndV r)) (hg:W.grownBy w1 nv.ownBlock)
    (hat:nv.ownBlock=some g∨g=W.heap.size) (hlt:g<w1.heap.size) :
    NodeMore w (w1.setCell ⟨R,0,none⟩ (.slice (some ⟨g,0,none⟩) (L.length+1) cap)) R B base s root L own r (.slice (some ⟨g,0,none⟩) (L.length+1) cap):=by
 have hR:=h.R_lt;have hB:=h.B_lt;have hz:=g1.size;have hz1:=hg.size;have hRB:R≠B:=fun e=>by have h1:=h.oR;rw[e,h.oB]at h1;omega
 have hg0:own g=3∨(own g=0∧w.heap.size≤g):=by
  exact J6
 have hgR:g≠R:=fun e=>by subst e;rw[h.oR]at hg0;omega
 have hgB:g≠B:=fun e=>by subst e;rw[h.oB]at hg0;omega
 refine Z171 ?_;intro hold;have hu1:∀k,r.uv.ownBlock=some k→k≠g:=fun k e e2=>by
  have:=hu0 k e;subst e2;omega
 refine⟨fun k=>if r.uv.ownBlock=some k then 6+3*L.length else if k=g then 3 else own k,⟨?_,?_,?_,?_,?_,?_,?_,?_⟩,?_,?_⟩
 · have hb:w1.heap[R]?=some (.cells #[nv,.int .i64 root,.string s,.map (some B)] 134 (0,0)):=by
    exact J5
   exact J4
 · have:r.uv.ownBlock≠some R:=fun e=>by have:=hu0 R e;rw[h.oR]at this;omega
   simp only[this,if_false];rw[if_neg (Ne.symm hgR)];exact h.oR
 · have:r.uv.ownBlock≠some B:=fun e=>by have:=hu0 B e;rw[h.oB]at this;omega
   simp only[this,if_false];rw[if_neg (Ne.symm hgB)];exact h.oB
 · have e:ndsV (L++[r])=ndsV L++ndV r:=by simp[ndsV]
   rw[e,List.length_append,List.length_singleton];exact J3
 · intro k hk;simp[Value.ownBlock]at hk;subst hk;have:r.uv.ownBlock≠some g:=fun e=>hu1 g e rfl
   simp only[this,if_false,if_true]
 · obtain⟨D,h1,h2,h3,h4⟩:=h.map;refine⟨D,?_,h2,?_,?_⟩
   · exact ownsMap_of_block (h1.mono (by rw[cntO_append];omega)) (hold B hB.2 (Ne.symm hRB) (by rw[h.oB];omega))
   · intro i hi;exact h3 i (by simp at hi;omega)
   intro i x hx;rw[List.getElem?_append]at hx
   split at hx
   · exact h4 i x hx
   have:i=L.length:=by
    have:=List.getElem?_eq_some_iff.1 hx;obtain⟨h5,_⟩:=this;simp at h5;omega
   subst this;simp at hx;subst hx;rw[h3 L.length (Nat.le_refl _),ho0];rfl
 · intro i x hx;rw[List.getElem?_append]at hx
   split at hx
   · rename_i hi
     have hr:=h.rows i x hx;have tag:∀v t,Tagged own v t→t≠0→t≠3→Tagged (fun k=>if r.uv.ownBlock=some k then 6+3*L.length else if k=g then 3 else own k) v t:=by
      intro v t ht h0 h3 k hk;have h5:=ht k hk;have h6:r.uv.ownBlock≠some k:=fun e=>by have:=hu0 k e;omega
      have h7:k≠g:=fun e=>by subst e;omega
      simp only[h6,if_false];rw[if_neg h7];exact h5
     have kp:∀ {e size n v xs t},w.ownsRow base e size v n xs→Tagged own v t→4≤t→(w1.setCell ⟨R,0,none⟩ (.slice (some ⟨g,0,none⟩) (L.length+1) cap)).ownsRow base e size v n xs:=by
      intro e size n v xs t ho ht h4;refine ownsRow_of_block ho fun k hk=>hold k ?_ ?_ ?_
      · exact (h.lt k (by rw[ht k hk];omega)).2
      · intro e;subst e;have:=ht k hk;rw[h.oR]at this;omega
      rw[ht k hk];omega
     have kc:∀ {e size n v xs t},RowC w base e size v n xs→Tagged own v t→4≤t→RowC (w1.setCell ⟨R,0,none⟩ (.slice (some ⟨g,0,none⟩) (L.length+1) cap)) base e size v n xs:=by
      intro e size n v xs t ho ht h4;refine ho.of_block fun k hk=>hold k ?_ ?_ ?_
      · exact (h.lt k (by rw[ht k hk];omega)).2
      · intro e;subst e;have:=ht k hk;rw[h.oR]at this;omega
      rw[ht k hk];omega
     exact⟨kp hr.k hr.tk (by omega),kp hr.s hr.ts (by omega),kc hr.u hr.tu (by omega),fun h8=>kp (hr.u8 h8) hr.tu (by omega),tag _ _ hr.tk (by omega) (by omega),tag _ _ hr.ts (by omega) (by omega),tag _ _ hr.tu (by omega) (by omega)⟩
   have hiL:i=L.length:=by
    obtain⟨h5,_⟩:=List.getElem?_eq_some_iff.1 hx;simp at h5;omega
   subst hiL;simp at hx;subst hx;refine⟨by rw[hk,hk0];exact nilRow _ _ _ _,by rw[hsv,hs0];exact nilRow _ _ _ _,?_,?_,by rw[hk];exact tag_nil _ _,by rw[hsv];exact tag_nil _ _,?_⟩
   · refine hu.of_block fun k e=>hold k (hu0 k e).2 (fun e2=>?_) (by rw[(hu0 k e).1];omega)
     have:=(hu0 k e).1;subst e2;rw[h.oR]at this;omega
   · intro h8;refine ownsRow_of_block (hu8 h8) fun k e=>hold k (hu0 k e).2 (fun e2=>?_) (by rw[(hu0 k e).1];omega)
     have:=(hu0 k e).1;subst e2;rw[h.oR]at this;omega
   intro k e;simp only[e,if_true]
 · intro k hk;have hs2:(w1.setCell ⟨R,0,none⟩ (.slice (some ⟨g,0,none⟩) (L.length+1) cap)).heap.size=w1.heap.size:=by simp[World.setCell]
   rw[hs2]
   split at hk
   · rename_i e
     have h5:=(hu0 k e).2;exact⟨(hu.lt k e).1,by omega⟩
   exact J124
 · refine⟨?_,?_,?_,?_,?_,?_⟩
   · exact hg.os.trans (Below.os g1)
   · exact hg.tape.trans (Below.tape g1)
   · exact hg.output.trans (Below.output g1)
   · have:(w1.setCell ⟨R,0,none⟩ (.slice (some ⟨g,0,none⟩) (L.length+1) cap)).heap.size=w1.heap.size:=by simp[World.setCell]
     omega
   · exact J140
   intro k hk;unfold FV at hk
   replace hk:(if r.uv.ownBlock=some k then 6+3*L.length else if k=g then 3 else own k)≠0:=hk
   split at hk
   · rename_i e;exact .inl (.inr e)
   exact J135
 intro k hk
 replace hk:(if r.uv.ownBlock=some k then 6+3*L.length else if k=g then 3 else own k)≠0:=hk
 split at hk
 · rename_i e;exact .inr (.inl e)
 exact J142
end Go.Proofs.YtfogfaagjpebcaaGreatDoor
namespace Go.Proofs.YtfogfaagjpebcaaGreatDoor
open Go.RowKit Go.Joins
structure Rows3 (w0 W:World) (base:Nat) (F:Nat→Prop) (kv sv uv:Value) (nk ns nu:Nat) (xk xs xu:List Value):Prop where
 st:St F (fun _=>False) w0 W
 k:W.ownsRow base 9 1 kv nk xk
 s:W.ownsRow base 73 2 sv ns xs
 u:W.ownsRow base 3 1 uv nu xu
 fk:∀b,kv.ownBlock=some b→F b∨w0.heap.size≤b
 fs:∀b,sv.ownBlock=some b→F b∨w0.heap.size≤b
 fu:∀b,uv.ownBlock=some b→F b∨w0.heap.size≤b
 ks:∀b,kv.ownBlock=some b→sv.ownBlock≠some b
 ku:∀b,kv.ownBlock=some b→uv.ownBlock≠some b
 su:∀b,sv.ownBlock=some b→uv.ownBlock≠some b
structure NewB (W:World) (b:Nat) (cs:Array Value) (T:TypeId) (kv sv uv:Value):Prop where
 blk:W.heap[b]?=some (.cells cs T (0,0))
 k:kv.ownBlock≠some b
 s:sv.ownBlock≠some b
 u:uv.ownBlock≠some b
section
variable {w0 W w1:World} {base:Nat} {F:Nat→Prop} {kv sv uv:Value} {nk ns nu:Nat} {xk xs xu:List Value}
theorem St.grownF {F F':Nat→Prop} {a b c:World} {row:Option Nat} (h:St F F' a b) (g:b.grownBy c row) (hr:∀k,row=some k→F k∨a.heap.size≤k):St F F' a c:=h.grown g hr
theorem Rows3.size (h:Rows3 w0 W base F kv sv uv nk ns nu xk xs xu):w0.heap.size≤W.heap.size:=h.st.size
theorem Rows3.alloc (h:Rows3 w0 W base F kv sv uv nk ns nu xk xs xu) (o:Obj):Rows3 w0 (W.alloc o) base F kv sv uv nk ns nu xk xs xu :=
 ⟨h.st.alloc o,h.k.alloc o,h.s.alloc o,h.u.alloc o,h.fk,h.fs,h.fu,h.ks,h.ku,h.su⟩
theorem Rows3.drew (h:Rows3 w0 W base F kv sv uv nk ns nu xk xs xu):Rows3 w0 W.drew base F kv sv uv nk ns nu xk xs xu :=
 ⟨h.st.drew,h.k,h.s,h.u,h.fk,h.fs,h.fu,h.ks,h.ku,h.su⟩
theorem Rows3.newB (h:Rows3 w0 W base F kv sv uv nk ns nu xk xs xu) (cs:Array Value) (T:TypeId):NewB (W.alloc (.cells cs T)) W.heap.size cs T kv sv uv :=
 ⟨heap_alloc_new _ _,fun e=>by have:=(h.k.lt _ e).2;omega,fun e=>by have:=(h.s.lt _ e).2;omega,fun e=>by have:=(h.u.lt _ e).2;omega⟩
theorem NewB.lt {b:Nat} {cs:Array Value} {T:TypeId} (h:NewB W b cs T kv sv uv):b<W.heap.size:=(Array.getElem?_eq_some_iff.1 h.blk).1
theorem NewB.alloc {b:Nat} {cs:Array Value} {T:TypeId} (h:NewB W b cs T kv sv uv) (o:Obj):NewB (W.alloc o) b cs T kv sv uv :=
 ⟨((Gr.refl W).alloc o).block h.lt |>.trans h.blk,h.k,h.s,h.u⟩
theorem NewB.drew {b:Nat} {cs:Array Value} {T:TypeId} (h:NewB W b cs T kv sv uv):NewB W.drew b cs T kv sv uv:=⟨h.blk,h.k,h.s,h.u⟩
theorem row_apart {base e size n:Nat} {v:Value} {xs:List Value} (h:W.ownsRow base e size v n xs) {row:Option Nat} (hg:W.grownBy w1 row) (hne:∀b,row=some b→v.ownBlock≠some b):w1.ownsRow base e size v n xs :=
 h.kept hg (by cases hv:v.ownBlock with
  | none=>exact .inl rfl
  | some b=>exact .inr (fun e=>hne b e.symm hv))
theorem Rows3.appK (h:Rows3 w0 W base F kv sv uv nk ns nu xk xs xu) {g cap:Nat} {ys:List Value} (ho:w1.ownsRow base 9 1 (.slice (some ⟨g,0,none⟩) (nk+1) cap) (nk+1) ys) (hg:W.grownBy w1 kv.ownBlock)
    (hat:kv.ownBlock=some g∨g=W.heap.size):Rows3 w0 w1 base F (.slice (some ⟨g,0,none⟩) (nk+1) cap) sv uv (nk+1) ns nu ys xs xu:=by
 have hgf:F g∨w0.heap.size≤g:=by
  rcases hat with e|e
  · exact h.fk g e
  exact .inr (by have:=h.size;omega)
 have hs:sv.ownBlock≠some g:=by
  rcases hat with e|e
  · exact h.ks g e
  intro e2;have:=(h.s.lt g e2).2;omega
 have hu:uv.ownBlock≠some g:=by
  rcases hat with e|e
  · exact h.ku g e
  intro e2;have:=(h.u.lt g e2).2;omega
 exact⟨h.st.grown hg h.fk,ho,row_apart h.s hg h.ks,row_apart h.u hg h.ku,fun b e=>by simp[Value.ownBlock]at e;subst e;exact hgf,h.fs,h.fu,
  fun b e=>by simp[Value.ownBlock]at e;subst e;exact hs,fun b e=>by simp[Value.ownBlock]at e;subst e;exact hu,h.su⟩
theorem Rows3.appS (h:Rows3 w0 W base F kv sv uv nk ns nu xk xs xu) {g cap:Nat} {ys:List Value} (ho:w1.ownsRow base 73 2 (.slice (some ⟨g,0,none⟩) (ns+1) cap) (ns+1) ys) (hg:W.grownBy w1 sv.ownBlock)
    (hat:sv.ownBlock=some g∨g=W.heap.size):Rows3 w0 w1 base F kv (.slice (some ⟨g,0,none⟩) (ns+1) cap) uv nk (ns+1) nu xk ys xu:=by
 have hgf:F g∨w0.heap.size≤g:=by
  rcases hat with e|e
  · exact h.fs g e
  exact .inr (by have:=h.size;omega)
 have hk:kv.ownBlock≠some g:=by
  rcases hat with e|e
  · intro e2;exact h.ks g e2 e
  intro e2;have:=(h.k.lt g e2).2;omega
 have hu:uv.ownBlock≠some g:=by
  rcases hat with e|e
  · exact h.su g e
  intro e2;have:=(h.u.lt g e2).2;omega
 exact⟨h.st.grown hg h.fs,row_apart h.k hg (fun b e e2=>h.ks b e2 e),ho,row_apart h.u hg h.su,h.fk,fun b e=>by simp[Value.ownBlock]at e;subst e;exact hgf,h.fu,
  fun b e e2=>by simp[Value.ownBlock]at e2;subst e2;exact hk e,h.ku,fun b e=>by simp[Value.ownBlock]at e;subst e;exact hu⟩
theorem Rows3.appU (h:Rows3 w0 W base F kv sv uv nk ns nu xk xs xu) {g cap:Nat} {ys:List Value} (ho:w1.ownsRow base 3 1 (.slice (some ⟨g,0,none⟩) (nu+1) cap) (nu+1) ys) (hg:W.grownBy w1 uv.ownBlock)
    (hat:uv.ownBlock=some g∨g=W.heap.size):Rows3 w0 w1 base F kv sv (.slice (some ⟨g,0,none⟩) (nu+1) cap) nk ns (nu+1) xk xs ys:=by
 have hgf:F g∨w0.heap.size≤g:=by
  rcases hat with e|e
  · exact h.fu g e
  exact .inr (by have:=h.size;omega)
 have hk:kv.ownBlock≠some g:=by
  rcases hat with e|e
  · intro e2;exact h.ku g e2 e
  intro e2;have:=(h.k.lt g e2).2;omega
 have hs:sv.ownBlock≠some g:=by
  rcases hat with e|e
  · intro e2;exact h.su g e2 e
  intro e2;have:=(h.s.lt g e2).2;omega
 exact⟨h.st.grown hg h.fu,row_apart h.k hg (fun b e e2=>h.ku b e2 e),row_apart h.s hg (fun b e e2=>h.su b e2 e),ho,h.fk,h.fs,fun b e=>by simp[Value.ownBlock]at e;subst e;exact hgf,
  h.ks,fun b e e2=>by simp[Value.ownBlock]at e2;subst e2;exact hk e,fun b e e2=>by simp[Value.ownBlock]at e2;subst e2;exact hs e⟩
theorem NewB.app {b g n cap:Nat} {cs:Array Value} {T:TypeId} (h:NewB W b cs T kv sv uv) {v:Value} (hv:v.ownBlock≠some b) (hg:W.grownBy w1 v.ownBlock) (hat:v.ownBlock=some g∨g=W.heap.size) :
    w1.heap[b]?=some (.cells cs T (0,0))∧(Value.slice (some ⟨g,0,none⟩) n cap).ownBlock≠some b:=by
 refine⟨by rw[hg.block b h.lt (fun e=>hv e.symm)];exact h.blk,fun e=>?_⟩;simp[Value.ownBlock]at e;subst e;rcases hat with e|e
 · exact hv e
 have:=h.lt;omega
theorem NewB.appK {b g n cap:Nat} {cs:Array Value} {T:TypeId} (h:NewB W b cs T kv sv uv) (hg:W.grownBy w1 kv.ownBlock) (hat:kv.ownBlock=some g∨g=W.heap.size):NewB w1 b cs T (.slice (some ⟨g,0,none⟩) n cap) sv uv :=
 ⟨(h.app (n:=n) (cap:=cap) h.k hg hat).1,(h.app h.k hg hat).2,h.s,h.u⟩
theorem NewB.appS {b g n cap:Nat} {cs:Array Value} {T:TypeId} (h:NewB W b cs T kv sv uv) (hg:W.grownBy w1 sv.ownBlock) (hat:sv.ownBlock=some g∨g=W.heap.size):NewB w1 b cs T kv (.slice (some ⟨g,0,none⟩) n cap) uv :=
 ⟨(h.app (n:=n) (cap:=cap) h.s hg hat).1,h.k,(h.app h.s hg hat).2,h.u⟩
theorem NewB.appU {b g n cap:Nat} {cs:Array Value} {T:TypeId} (h:NewB W b cs T kv sv uv) (hg:W.grownBy w1 uv.ownBlock) (hat:uv.ownBlock=some g∨g=W.heap.size):NewB w1 b cs T kv sv (.slice (some ⟨g,0,none⟩) n cap) :=
 ⟨(h.app (n:=n) (cap:=cap) h.u hg hat).1,h.k,h.s,(h.app h.u hg hat).2⟩
end
theorem ownsRow_set {w:World} {base e size n g cap:Nat} {xs:List Value} (h:w.ownsRow base e size (.slice (some ⟨g,0,none⟩) n cap) n xs) (j:Nat) (hj:j<xs.length) (x:Value) :
    (w.setCell ⟨g,j,none⟩ x).ownsRow base e size (.slice (some ⟨g,0,none⟩) n cap) n (xs.set j x):=by
 refine⟨by rw[List.length_set];exact h.1,?_⟩;have h1:=h.1;rcases h.2 with⟨h2,_⟩|⟨g',cap',cur,h2,h3,h4,h5,h6,h7,h8⟩
 · cases h2
 cases h2;refine .inr ⟨g,cap,cur.setIfInBounds j x,rfl,h3,block_setCell h4 x,h5,h6,by simpa using h7,?_⟩;rw[←h8,Array.toList_setIfInBounds,List.take_set]
def FI (own:Nat→Nat) (i:Nat) (k:Nat):Prop:=own k=4+3*i∨own k=5+3*i∨own k=6+3*i
theorem RdV.start3 {w W:World} {R B base:Nat} {s:ByteArray} {root:Int} {nv:Value} {L:List NdR} {own:Nat→Nat} (h:RdV w R B base s root nv L own) (g1:Gr w W) (i:Nat) (r:NdR) (hr:L[i]?=some r) (h8:r.nd.kind=8) :
    Rows3 w W base (FI own i) r.kv r.sv r.uv r.nd.keys.length r.nd.spots.length r.nd.subs.length (keysV r.nd.keys) (spotsV r.nd.spots) (subsV r.nd.subs):=by
 refine Z207 ?_;intro hx kp;refine⟨(g1.st).to (fun _ e=>e.elim),kp hx.k hx.tk (by omega),kp hx.s hx.ts (by omega),kp (hx.u8 h8) hx.tu (by omega),fun b e => .inl (.inl (hx.tk b e)),fun b e => .inl (.inr (.inl (hx.ts b e))),fun b e => .inl (.inr (.inr (hx.tu b e))),?_,?_,?_⟩
 · intro b e e2;have:=hx.tk b e;have:=hx.ts b e2;omega
 · intro b e e2;have:=hx.tk b e;have:=hx.tu b e2;omega
 intro b e e2;have:=hx.ts b e;have:=hx.tu b e2;omega
def PutMore (w w2:World) (R B base:Nat) (s:ByteArray) (root:Int) (nv:Value) (L:List NdR) (own:Nat→Nat) (i:Nat) (nd:Pl.Nd):Prop :=
 ∃own' kv sv uv,RdV w2 R B base s root nv (L.set i ⟨nd,kv,sv,uv⟩) own'∧St (FV own) (FV own') w w2∧(∀k,own' k≠0→own k≠0∨w.heap.size≤k)
theorem RdV.putDone {w W:World} {R B base:Nat} {s:ByteArray} {root:Int} {L:List NdR} {own:Nat→Nat} {g cap:Nat} (h:RdV w R B base s root (.slice (some ⟨g,0,none⟩) L.length cap) L own) (i:Nat) (r:NdR) (hr:L[i]?=some r)
    (nd:Pl.Nd) (hk1:nd.kind=r.nd.kind) (hk2:nd.text=r.nd.text) (hk3:nd.sp=r.nd.sp) (hk4:nd.owner=r.nd.owner) {kv sv uv:Value}
    (H:Rows3 w W base (FI own i) kv sv uv nd.keys.length nd.spots.length nd.subs.length (keysV nd.keys) (spotsV nd.spots) (subsV nd.subs)) :
    PutMore w (((W.setCell ⟨g,i*7+2,none⟩ kv).setCell ⟨g,i*7+3,none⟩ sv).setCell ⟨g,i*7+4,none⟩ uv) R B base s root (.slice (some ⟨g,0,none⟩) L.length cap) L own i nd:=by
 have hi:i<L.length:=(List.getElem?_eq_some_iff.1 hr).1;refine Z223 ?_;intro hgo hgl hz hR hB WF hWF;have hsz:WF.heap.size=W.heap.size:=by subst hWF;simp[World.setCell]
 refine Z272 ?_;intro hbl;have hwg:∀k,k<w.heap.size→k≠g→¬FI own i k→WF.heap[k]?=w.heap[k]?:=fun k hk h1 h2=>(hbl k h1).trans (H.st.block k hk h2)
 have hnW:W.ownsRow base 91 7 (.slice (some ⟨g,0,none⟩) L.length cap) L.length (ndsV L) :=
  ownsRow_of_block h.nodes fun k e=>by
   simp[Value.ownBlock]at e;subst e;exact H.st.block g hgl.2 (fun e=>by unfold FI at e;omega)
 refine Z51 ?_;intro hlen hnF;refine⟨fun k=>if kv.ownBlock=some k then 4+3*i else if sv.ownBlock=some k then 5+3*i else if uv.ownBlock=some k then 6+3*i else own k,kv,sv,uv,?_,?_,?_⟩
 · -- tags that are not this node's stay
   refine Z99 ?_;intro tg;have nF:∀k t,own k=t→t<4→¬FI own i k:=fun k t e h4 e2=>by unfold FI at e2;omega
   have hng:∀k,own k≠3→k≠g:=fun k e e2=>by subst e2;exact e hgo
   have hgn:∀ {v:Value} {e size n xs},W.ownsRow base e size v n xs→(∀b,v.ownBlock=some b→FI own i b∨w.heap.size≤b)→∀k,v.ownBlock=some k→k≠g:=by
    intro v e size n xs _ hv k hk e2;subst e2;rcases hv k hk with h1|h1
    · unfold FI at h1;omega
    omega
   refine⟨?_,?_,?_,?_,?_,?_,?_,?_⟩
   · rw[hwg R hR.2 (hng R (by rw[h.oR];omega)) (nF R 1 h.oR (by omega))];exact h.blk
   · rw[tg R (by rw[h.oR];omega) (nF R 1 h.oR (by omega))];exact h.oR
   · rw[tg B (by rw[h.oB];omega) (nF B 2 h.oB (by omega))];exact h.oB
   · rw[List.length_set];exact hnF
   · exact J141
   · obtain⟨D,h1,h2,h3,h4⟩:=h.map;refine⟨D,ownsMap_of_block (by rw[cntO_same L i r ⟨nd,kv,sv,uv⟩ hr hk4];exact h1) (hwg B hB.2 (hng B (by rw[h.oB];omega)) (nF B 2 h.oB (by omega))),h2,by rw[List.length_set];exact h3,fun j x hx=>?_⟩;rw[List.getElem?_set]at hx
     split at hx
     · rename_i hji
       subst hji;cases hx;rw[h4 i r hr];simp only[hk4]
     exact h4 j x hx
   · intro j x hx;rw[List.getElem?_set]at hx
     split at hx
     · rename_i hji
       subst hji;cases hx;refine⟨ownsRow_of_block H.k fun k e=>hbl k (hgn H.k H.fk k e),ownsRow_of_block H.s fun k e=>hbl k (hgn H.s H.fs k e),rowC_of (ownsRow_of_block H.u fun k e=>hbl k (hgn H.u H.fu k e)),fun _=>ownsRow_of_block H.u fun k e=>hbl k (hgn H.u H.fu k e),?_,?_,?_⟩
       · intro k e;simp only at e;simp only[e,if_true]
       · exact J143
       intro k e;simp only at e;have a1:kv.ownBlock≠some k:=fun e2=>H.ku k e2 e
       have a2:sv.ownBlock≠some k:=fun e2=>H.su k e2 e
       simp only[a1,a2,e,if_true,if_false]
     rename_i hji
     have hxr:=h.rows j x hx;have kp:∀ {e size n v xs t},w.ownsRow base e size v n xs→Tagged own v t→4≤t→(t≠4+3*i∧t≠5+3*i∧t≠6+3*i) →
         WF.ownsRow base e size v n xs∧Tagged (fun k=>if kv.ownBlock=some k then 4+3*i else if sv.ownBlock=some k then 5+3*i else if uv.ownBlock=some k then 6+3*i else own k) v t:=by
      intro e size n v xs t ho ht h4 hne;have hF:∀k,v.ownBlock=some k→¬FI own i k:=fun k e e2=>by have:=ht k e;unfold FI at e2;omega
      refine⟨ownsRow_of_block ho fun k e=>hwg k (h.lt k (by rw[ht k e];omega)).2 (hng k (by rw[ht k e];omega)) (hF k e),fun k e=>?_⟩;show (if _ then _ else _)=t;rw[tg k (by rw[ht k e];omega) (hF k e)];exact ht k e
     have a:=kp hxr.k hxr.tk (by omega) (by omega);have b:=kp hxr.s hxr.ts (by omega) (by omega);have c:RowC WF base 3 1 x.uv x.nd.subs.length (subsV x.nd.subs)∧_:=⟨hxr.u.of_block fun k e=>hwg k (h.lt k (by rw[hxr.tu k e];omega)).2 (hng k (by rw[hxr.tu k e];omega)) (fun e2=>by have:=hxr.tu k e;unfold FI at e2;omega),fun h8=>(kp (hxr.u8 h8) hxr.tu (by omega) (by omega)).1⟩
     have ct:Tagged (fun k=>if kv.ownBlock=some k then 4+3*i else if sv.ownBlock=some k then 5+3*i else if uv.ownBlock=some k then 6+3*i else own k) x.uv (6+3*j):=fun k e=>by
      show (if _ then _ else _)=_;rw[tg k (by rw[hxr.tu k e];omega) (fun e2=>by have:=hxr.tu k e;unfold FI at e2;omega)];exact hxr.tu k e
     exact⟨a.1,b.1,c.1,c.2,a.2,b.2,ct⟩
   exact J116
 · exact J7
 exact J99
end Go.Proofs.YtfogfaagjpebcaaGreatDoor
namespace Go.Proofs.YtfogfaagjpebcaaGreatDoor
open Go.RowKit Go.Joins
attribute [local go_sem ↓] Go.wp_at_zero Go.wp_at_succ
theorem byteAt_lt (s:ByteArray) (n:Nat) (h:n<s.size):Pl.byteAt (bs s) n=s[n].toNat:=by
 unfold Pl.byteAt;rw[List.getElem?_eq_getElem (by rw[bs_length];exact h)];rfl
theorem byteAt_ge (s:ByteArray) (n:Nat) (h:¬n<s.size):Pl.byteAt (bs s) n=0:=by
 unfold Pl.byteAt;rw[List.getElem?_eq_none (by rw[bs_length];omega)]
theorem tv_byte (w:World) (R:Nat) (s:ByteArray) (hc:w.cell? ⟨R,2,none⟩=some (.string s)) (i:Int) (n:Nat) (hi:i=n) :
    Calls Tryz.prog 91 #[.pointer (some ⟨R,0,none⟩),.int .i64 i] w fun e w'=>e = .returned (.int .u8 (Pl.byteAt (bs s) n))∧w=w':=by
 subst hi;by_cases h:n<s.size
 · rw[byteAt_lt s n h];have hd:decide ((n:Int)<(s.size:Int))=true:=by simp;omega
   go_enter Tryz.func91,Tryz.ntmps91;exact J9
 rw[byteAt_ge s n h];have hd:decide ((n:Int)<(s.size:Int))=false:=by simp;omega
 go_enter Tryz.func91,Tryz.ntmps91;exact J9
theorem info42:(Tryz.prog.info? 91).map (fun i=>(i.zero,i.size,i.bytes))=some (some (.agg #[.int .u8 0,.string ⟨#[]⟩,.slice none 0 0,.slice none 0 0,.slice none 0 0,.int .i64 0,.int .i64 0]),7,112):=by kernel_rfl
theorem some_ne_own {own:Nat→Nat} {v:Value} {t R:Nat} (h:Tagged own v t) (hR:own R≠t):some R≠v.ownBlock:=fun e=>hR (h R e.symm)
theorem tv_node (w:World) (R B base:Nat) (s:ByteArray) (root:Int) (nv:Value) (L:List NdR) (own:Nat→Nat) (h:RdV w R B base s root nv L own) (hL:L.length≤30000000)
    (r:NdR) (oc:r.uv.oneCell'=true) (hk:r.kv = .slice none 0 0) (hsv:r.sv = .slice none 0 0) (hk0:r.nd.keys=[]) (hs0:r.nd.spots=[]) (ho0:r.nd.owner=0)
    (hu:RowC w base 3 1 r.uv r.nd.subs.length (subsV r.nd.subs)) (hu8:r.nd.kind=8→w.ownsRow base 3 1 r.uv r.nd.subs.length (subsV r.nd.subs)) (hu0:∀k,r.uv.ownBlock=some k→own k=0∧k<w.heap.size)
    (k:Nat) (t:ByteArray) (kv sv uv:Value) (a b:Int) (hV:ndV r=[.int .u8 k,.string t,kv,sv,uv,.int .i64 a,.int .i64 b]) :
    Calls Tryz.prog 116 #[.pointer (some ⟨R,0,none⟩),.agg #[.int .u8 k,.string t,kv,sv,uv,.int .i64 a,.int .i64 b]] w fun e w' =>
     e = .returned (.int .i64 L.length)∧∃nv',NodeMore w w' R B base s root L own r nv':=by
 obtain⟨i0,hi,hz0,hz1,hz2⟩:=info_parts info42;obtain⟨c0,c1,c2,c3,fz⟩:=h.cells;have fz0:=fz 0;have hR:=h.R_lt;have hbase:base≤w.heap.size:=by omega
 have hocs:∀u∈[(.int .u8 k:Value),.string t,kv,sv,uv,.int .i64 a,.int .i64 b],u.oneCell'=true:=by
  rw[←hV];intro u hu;simp[ndV,hk,hsv]at hu;rcases hu with rfl|rfl|rfl|rfl|rfl|rfl <;> first|rfl|exact oc
 have hne:some R≠nv.ownBlock:=some_ne_own h.oN (by rw[h.oR];omega);have hn2:some w.heap.size≠nv.ownBlock:=fun e=>by have:=(h.nodes.lt _ e.symm).2;omega
 have HA:Hid (∀W w1 g cap,Gr w W→w1.ownsRow base 91 7 (.slice (some ⟨g,0,none⟩) (L.length+1) cap) (L.length+1) (ndsV L++[.int .u8 k,.string t,kv,sv,uv,.int .i64 a,.int .i64 b])→W.grownBy w1 nv.ownBlock→(nv.ownBlock=some g∨g=W.heap.size)→g<w1.heap.size→NodeMore w (w1.setCell ⟨R,0,none⟩ (.slice (some ⟨g,0,none⟩) (L.length+1) cap)) R B base s root L own r (.slice (some ⟨g,0,none⟩) (L.length+1) cap)):=by
  rw[←hV];exact fun W w1 g cap g1 ho hg hat hlt=>h.appended g1 r hk hsv hk0 hs0 ho0 hu hu8 hu0 g cap ho hg hat hlt
 have HI:=Lib.hid hi;have HZ:=Lib.hid hz0;have HZ1:=Lib.hid hz1;have HZ2:=Lib.hid hz2;have HN:=Lib.hid h.nodes;clear fz hi hz0 hz1 hz2 h hu hu8 hu0 hV hk hsv hk0 hs0 ho0 oc;go_enter Tryz.func116,Tryz.ntmps116;go_wp2_with fail;obtain⟨W,hW⟩:∃W,w.alloc (.cells #[.int .u8 k,.string t,kv,sv,uv,.int .i64 a,.int .i64 b] 91)=W:=⟨_,rfl⟩
 have hRW:∀o,W.cell? ⟨R,o,none⟩=w.cell? ⟨R,o,none⟩:=by subst hW;exact fun o=>((Gr.refl w).alloc _).use.1 R o hR.2
 have hFW:∀o,W.frozen? ⟨R,o,none⟩=w.frozen? ⟨R,o,none⟩:=by subst hW;exact fun o=>((Gr.refl w).alloc _).use.2.1 R o hR.2
 have e0:W.cell? ⟨R,0,none⟩=some nv:=by rw[hRW];exact c0
 have e1:W.frozen? ⟨R,0,none⟩=false:=by rw[hFW];exact fz0
 have n0:W.cell? ⟨w.heap.size,0,none⟩=some (.int .u8 k):=by subst hW;simp
 have n1:W.cell? ⟨w.heap.size,1,none⟩=some (.string t):=by subst hW;simp
 have n2:W.cell? ⟨w.heap.size,2,none⟩=some kv:=by subst hW;simp
 have n3:W.cell? ⟨w.heap.size,3,none⟩=some sv:=by subst hW;simp
 have n4:W.cell? ⟨w.heap.size,4,none⟩=some uv:=by subst hW;simp
 have n5:W.cell? ⟨w.heap.size,5,none⟩=some (.int .i64 a):=by subst hW;simp
 have n6:W.cell? ⟨w.heap.size,6,none⟩=some (.int .i64 b):=by subst hW;simp
 have hWs:w.heap.size+1=W.heap.size:=by subst hW;simp
 have hGW:Gr w W:=by subst hW;exact (Gr.refl w).alloc _
 have hNW:Hid (W.ownsRow base 91 7 nv L.length (ndsV L)):=ownsRow_of_block HN.out fun k e=>hGW.block (HN.out.lt k e).2
 have HG:=Lib.hid hGW;have hWl:w.heap.size<W.heap.size:=by omega
 have hWR:R<W.heap.size:=by omega
 have hWb:base≤W.heap.size:=by omega
 have hR0:=hR.2;rw[hW];clear hW hRW hFW hGW hWs hR
 set_option maxRecDepth 100000 in
 go_region_law
  ((refine step_append_lies _ (by rfl) (.tmp 10) (.tmp 12) 27 (by rfl) base 91 i0 _ 7 112 Tryz.underlying27 HI.out HZ.out HZ1.out HZ2.out (by rfl) (by decide) nv L.length (ndsV L) (by simp[Act.eval,Act.put]) ((hNW.out.alloc _)) ⟨W.heap.size,0,none⟩ 1 1 [.int .u8 k,.string t,kv,sv,uv,.int .i64 a,.int .i64 b] (by simp[Act.eval,Act.put]) (by rfl) (World.news_of_block (heap_alloc_new _ _)) hocs (by decide) (by unfold maxLen;omega) (by omega) (by simp;omega) (W.heap.size+1) (by simp) ?_;intro g cap w1 hown1 hg1 hl1 hz1;have f3:w1.frozen? ⟨R,0,none⟩=false:=(hg1.frozen_far ⟨R,0,none⟩ (by simp;omega) hne).trans ((((Gr.refl W).alloc _).drew.use.2.1 R 0 hWR).trans e1);have f4:w1.cell? ⟨R,0,none⟩=some nv:=(hg1.cell_far ⟨R,0,none⟩ (by simp;omega) hne).trans ((((Gr.refl W).alloc _).drew.use.1 R 0 hWR).trans e0)))
 all_goals go_wp2_with fail
 all_goals go_ret
 all_goals exact⟨rfl,_,HA.out _ w1 g cap ((HG.out.alloc _).drew) hown1 hg1 (by simpa using hl1) hz1⟩
end Go.Proofs.YtfogfaagjpebcaaGreatDoor
namespace Go.Proofs.YtfogfaagjpebcaaGreatDoor
open Go.RowKit Go.Joins
abbrev byteV (c:UInt8):Value := .int .u8 c.toNat
structure RdQ (w:World) (R:Nat) (s:ByteArray) (a:Nat) (q:UInt8) (out:List UInt8) (ov:Value):Prop where
 blk:w.heap[R]?=some (.cells #[.string s,.int .i64 a,byteV q,ov] 176 (0,0))
 own:w.ownsRow (R+1) 5 1 ov out.length (out.map byteV)
def FQ (R:Nat) (ov:Value) (k:Nat):Prop:=k=R∨ov.ownBlock=some k
theorem RdQ.lt {w R s a q out ov} (h:RdQ w R s a q out ov):R<w.heap.size:=by
 have:=h.blk;rw[Array.getElem?_eq_some_iff]at this;exact this.1
theorem RdQ.own_lt {w R s a q out ov} (h:RdQ w R s a q out ov) {k:Nat} (hk:FQ R ov k):R≤k∧k<w.heap.size:=by
 rcases hk with rfl|hk
 · exact⟨Nat.le_refl _,h.lt⟩
 have:=h.own.lt k hk;omega
theorem RdQ.cells {w R s a q out ov} (h:RdQ w R s a q out ov) :
    w.cell? ⟨R,0,none⟩=some (.string s)∧w.cell? ⟨R,1,none⟩=some (.int .i64 a)∧w.cell? ⟨R,2,none⟩=some (.int .u8 q.toNat)∧w.cell? ⟨R,3,none⟩=some ov∧(∀i,w.frozen? ⟨R,i,none⟩=false) :=
 ⟨by rw[cell_of_block h.blk];rfl,by rw[cell_of_block h.blk];rfl,by rw[cell_of_block h.blk];rfl,by rw[cell_of_block h.blk];rfl,fun i=>unfrozen_of_block h.blk i⟩
theorem RdQ.kept {w w' R s a q out ov} (h:RdQ w R s a q out ov) (hb:∀k,FQ R ov k→w'.heap[k]?=w.heap[k]?):RdQ w' R s a q out ov:=by
 refine⟨by rw[hb R (.inl rfl)];exact h.blk,h.own.1,?_⟩;rcases h.own.2 with hn|⟨g,cap,cur,rfl,hg,hh,r⟩
 · exact .inl hn
 exact .inr ⟨g,cap,cur,rfl,hg,by rw[hb g (.inr rfl)];exact hh,r⟩
theorem RdQ.gr {w w' R s a q out ov} (h:RdQ w R s a q out ov) (g:Gr w w'):RdQ w' R s a q out ov :=
 h.kept fun _ hk=>g.block (h.own_lt hk).2
theorem RdQ.alloc {w R s a q out ov} (h:RdQ w R s a q out ov) (o:Obj):RdQ (w.alloc o) R s a q out ov:=h.gr ((Gr.refl w).alloc o)
theorem RdQ.drew {w R s a q out ov} (h:RdQ w R s a q out ov):RdQ w.drew R s a q out ov:=h.gr (Gr.refl w).drew
theorem RdQ.drewN {w R s a q out ov} (h:RdQ w R s a q out ov) (n:Nat):RdQ (w.drewN n) R s a q out ov:=h.gr ((Gr.refl w).drewN n)
theorem RdQ.setCell {w R s a q out ov} (h:RdQ w R s a q out ov) {p:Addr} (hp:¬FQ R ov p.block) (v:Value):RdQ (w.setCell p v) R s a q out ov :=
 h.kept fun k hk=>Below.heap_setCell _ _ _ _ (fun e=>by subst e;exact hp hk)
theorem RdQ.setAt {w R s a q out ov} (h:RdQ w R s a q out ov) (b:Nat):RdQ (w.setCell ⟨R,1,none⟩ (.int .i64 b)) R s b q out ov:=by
 refine⟨?_,h.own.1,?_⟩
 · have:=block_setCell (i:=1) h.blk (.int .i64 b);exact J14
 rcases h.own.2 with hn|⟨g,cap,cur,rfl,hg,hh,r⟩
 · exact .inl hn
 exact .inr ⟨g,cap,cur,rfl,hg,by rw[Below.heap_setCell _ _ _ _ (by simp;omega)];exact hh,r⟩
theorem news_one (w:World) (v:Value) (t:TypeId) (n:Nat) (hn:n=w.heap.size):∀j u,[v][j]?=some u→(w.alloc (.cells #[v] t)).cell? ⟨n,0+j,none⟩=some u:=by
 subst hn;intro j u hu;have:=cell_one_new w v t j u hu;rw[Addr.add_lit]at this;exact this
theorem info5:(Tryz.prog.info? 5).map (fun i=>(i.zero,i.size,i.bytes))=some (some (.int .u8 0),1,1):=by kernel_rfl
theorem tq_take (w:World) (R:Nat) (s:ByteArray) (a:Nat) (q:UInt8) (out:List UInt8) (ov:Value) (h:RdQ w R s a q out ov)
    (i:Int) (m:Nat) (hi:i=m) (ha:a+m≤30000000) (nb:List UInt8) (tb tof c:Nat) (hne:nb≠[]) (had:tb≠R)
    (hnews:∀j u,(nb.map byteV)[j]?=some u→w.cell? ⟨tb,tof+j,none⟩=some u) (hlen:out.length+nb.length≤30000000) :
    Calls Tryz.prog 231 #[.pointer (some ⟨R,0,none⟩),.int .i64 i,.slice (some ⟨tb,tof,none⟩) nb.length c] w fun e w' =>
     e = .returned (.tuple #[])∧∃ov',RdQ w' R s (a+m) q (out++nb) ov'∧St (FQ R ov) (FQ R ov') w w':=by
 subst hi;obtain⟨i0,hi,hz0,hz1,hz2⟩:=info_parts info5;refine Z232 ?_;intro c0 c1 c2 c3 fz hlt;have fz1:=fz 1;have fz3:=fz 3;have HA:Hid (RdQ (w.setCell ⟨R,1,none⟩ (.int .i64 (a+m:Nat))) R s (a+m) q out ov):=h.setAt (a+m);have HI:=Lib.hid hi;have HZ:=Lib.hid hz0;have HZ1:=Lib.hid hz1;have HZ2:=Lib.hid hz2;have HN:Hid (∀j u,(nb.map byteV)[j]?=some u→(w.setCell ⟨R,1,none⟩ (.int .i64 (a+m:Nat))).cell? ((⟨tb,tof,none⟩:Addr).add j)=some u):=by
  intro j u hu;rw[Addr.add_lit,World.cell?_setCell_other _ _ _ _ (by intro e;exact had (congrArg Addr.block e).symm)];exact hnews j u hu
 have hpos:0<nb.length:=by cases nb with|nil=>exact absurd rfl hne|cons=>simp
 have HS:=Lib.hid h;clear fz hnews hi hz0 hz1 hz2 h;go_enter Tryz.func231,Tryz.ntmps231
 set_option maxRecDepth 100000 in
 go_wp2_with (at_builtin;refine wpList_append_lies _ rfl (.tmp 18) (.tmp 19) 34 rfl (R+1) 5 i0 (.int .u8 0) 1 1 Tryz.underlying34 HI.out HZ.out HZ1.out HZ2.out rfl (by decide) ov out.length (out.map byteV) rfl HA.out.own ⟨tb,tof,none⟩ nb.length c (nb.map byteV) rfl (by simp) HN.out (by simp[Value.oneCell']) hpos (by unfold maxLen;omega) (by omega) (by simp[World.setCell];omega) _ rfl ?_;intro g cap w1 hown1 hg1 hl1 hz1;have hr:=fun o=>World.cell?_of_block (w:=w.setCell ⟨R,1,none⟩ (.int .i64 (a+m:Nat))) (a:=⟨R,o,none⟩) (hg1.block R (by simp[World.setCell];exact hlt) (fun e=>by have:=HA.out.own.lt R e.symm;omega));have hfz:=fun o=>World.frozen?_of_block (w:=w.setCell ⟨R,1,none⟩ (.int .i64 (a+m:Nat))) (a:=⟨R,o,none⟩) (hg1.block R (by simp[World.setCell];exact hlt) (fun e=>by have:=HA.out.own.lt R e.symm;omega));have e3:w1.cell? ⟨R,3,none⟩=some ov:=(hr 3).trans HA.out.cells.2.2.2.1;have f3:w1.frozen? ⟨R,3,none⟩=false:=(hfz 3).trans (HA.out.cells.2.2.2.2 3);have H1:=Lib.hid (show _∧_∧_ from ⟨hown1,hg1,hl1⟩);clear hown1 hg1 hl1 hr hfz);obtain⟨hown1,hg1,hl1⟩:=H1.out;have hA:=HA.out;have hblk1:w1.heap[R]?=some (.cells #[.string s,.int .i64 (a+m:Nat),byteV q,ov] 176 (0,0)):=by
  rw[hg1.block R (by simp[World.setCell];exact hlt) (fun e=>by have:=hA.own.lt R e.symm;omega)];exact hA.blk
 go_end0
 refine⟨rfl,.slice (some ⟨g,0,none⟩) (out.length+nb.length) cap,⟨?_,?_⟩,?_⟩
 · have:=block_setCell (i:=3) hblk1 (.slice (some ⟨g,0,none⟩) (out.length+nb.length) cap);exact J14
 · have:=ownsRow_setCell_below hown1 (a:=⟨R,3,none⟩) (Nat.lt_succ_self R) (.slice (some ⟨g,0,none⟩) (out.length+nb.length) cap);exact J14
 have h1:St (FQ R ov) (FQ R ov) w (w.setCell ⟨R,1,none⟩ (.int .i64 (a+m:Nat))):=(St.refl _ _).setCell (.inl (.inl rfl)) _;have h2:=h1.grown hg1 (fun k hk => .inl (.inr hk));have h3:=h2.setCell (p:=⟨R,3,none⟩) (.inl (.inl rfl)) (.slice (some ⟨g,0,none⟩) (out.length+nb.length) cap);have e:(↑a + ↑m:Int)=((a+m:Nat):Int):=by omega
 refine St.to (by simpa [e]using h3) (fun k hk=>?_);rcases hk with rfl|hk
 · exact .inl (.inl rfl)
 simp only[Value.ownBlock,Option.some.injEq]at hk;subst hk;rcases hl1 with hl1|hl1
 · exact .inl (.inr hl1)
 exact .inr (by rw[hl1];simp[World.setCell])
theorem RdQ.auto {w w2:World} {R:Nat} {s:ByteArray} {a:Nat} {q:UInt8} {out:List UInt8} {ov:Value} (k:RdQ w R s a q out ov) (h:RdQ w R s a q out ov→RdQ w2 R s a q out ov:=by intro k;(repeat (first|exact k|refine RdQ.drew ?_|refine RdQ.drewN ?_ _|refine RdQ.alloc ?_ _|refine RdQ.setCell ?_ (by assumption) _|refine RdQ.gr ?_ (by assumption)))):RdQ w2 R s a q out ov:=h k
end Go.Proofs.YtfogfaagjpebcaaGreatDoor
