/-
 The walks and plain laws that the claim rests on, part 34.
-/
import Derived.Test.YtfogfaagjpebcaaGreatDoorP00
import Derived.Test.YtfogfaagjpebcaaGreatDoorP33
set_option maxHeartbeats 16000000
set_option linter.all false
set_option linter.unusedVariables false
set_option linter.unusedSimpArgs false
namespace Go.Proofs.YtfogfaagjpebcaaGreatDoor
open Go.RowKit Go.Shelf Go.Joins
attribute [local go_sem] Oper.semAt_some
def clipR (r:NdR):NdR:=⟨r.nd,clipV r.kv,clipV r.sv,clipV r.uv⟩
def NdTags (g:Nat) (L:List NdR):Prop:=∃own:Nat→Nat,own g=3∧∀(i:Nat) r,L[i]?=some r→Tagged own r.kv (4+3*i)∧Tagged own r.sv (5+3*i)∧Tagged own r.uv (6+3*i)
structure TreeV (w:World) (base g:Nat) (L:List NdR):Prop where
 lt:base≤g∧g<w.heap.size
 cell:∀(i:Nat) r,L[i]?=some r→∀(j:Nat) v,(ndV r)[j]?=some v→w.cell? ⟨g,i*7+j,none⟩=some v
 rows:∀(i:Nat) r,L[i]?=some r→RowC w base 9 1 r.kv r.nd.keys.length (keysV r.nd.keys)∧RowC w base 73 2 r.sv r.nd.spots.length (spotsV r.nd.spots)∧RowC w base 3 1 r.uv r.nd.subs.length (subsV r.nd.subs)
 tg:NdTags g L
theorem TreeV.gr {w w':World} {base g:Nat} {L:List NdR} (h:TreeV w base g L) (k:Gr w w'):TreeV w' base g L :=
 ⟨⟨h.lt.1,Nat.lt_of_lt_of_le h.lt.2 k.size⟩,fun i r hr j v hv=>(k.use.1 _ _ h.lt.2).trans (h.cell i r hr j v hv),fun i r hr=>by
  obtain⟨a,b,c⟩:=h.rows i r hr;exact⟨a.of_block fun k2 e=>k.block (a.lt k2 e).2,b.of_block fun k2 e=>k.block (b.lt k2 e).2,c.of_block fun k2 e=>k.block (c.lt k2 e).2⟩,h.tg⟩
theorem clip_strs_own {w:World} {base n:Nat} {v:Value} {xs:List Value} (h:w.ownsRow base 9 1 v n xs) (W:World):Calls Tryz.prog 28 #[v] W fun e w'=>e = .returned (clipV v)∧W=w':=by
 rcases own_form h with⟨rfl,_⟩|⟨g,cap,rfl,h1,h2⟩
 · exact clip_strs0 W
 exact clip_strs g n cap h1 h2 W
theorem clip_spans_own {w:World} {base n:Nat} {v:Value} {xs:List Value} (h:w.ownsRow base 73 2 v n xs) (W:World):Calls Tryz.prog 29 #[v] W fun e w'=>e = .returned (clipV v)∧W=w':=by
 rcases own_form h with⟨rfl,_⟩|⟨g,cap,rfl,h1,h2⟩
 · exact clip_spans0 W
 exact clip_spans g n cap h1 h2 W
theorem clip_ints_rowC {w:World} {base n:Nat} {v:Value} {xs:List Value} (h:RowC w base 3 1 v n xs) (W:World):Calls Tryz.prog 24 #[v] W fun e w'=>e = .returned (clipV v)∧W=w':=by
 rcases rowC_form h with⟨rfl,_⟩|⟨g,cap,rfl,h1,h2⟩
 · exact clip_ints0 W
 exact clip_ints g n cap h1 h2 W
theorem RdV.setRoot {w:World} {R B base:Nat} {s:ByteArray} {root:Int} {nv:Value} {L:List NdR} {own:Nat→Nat} (h:RdV w R B base s root nv L own) (r2:Int):RdV (w.setCell ⟨R,1,none⟩ (.int .i64 r2)) R B base s r2 nv L own:=by
 have hb:∀k,k≠R→(w.setCell ⟨R,1,none⟩ (.int .i64 r2)).heap[k]?=w.heap[k]?:=fun k hk=>Below.heap_setCell _ _ _ _ hk
 have ne:∀k t,own k=t→t≠1→k≠R:=fun k t e h3 e2=>by subst e2;have:=h.oR;omega
 obtain⟨D,h1,h2⟩:=h.map;refine⟨by simpa using block_setCell (i:=1) h.blk (.int .i64 r2),h.oR,h.oB,ownsRow_of_block h.nodes fun k e=>hb k (ne k _ (h.oN k e) (by omega)),h.oN,⟨D,ownsMap_of_block h1 (hb B (ne B _ h.oB (by omega))),h2⟩,fun i r hr=>?_,fun k hk=>⟨(h.lt k hk).1,by simpa [World.setCell]using (h.lt k hk).2⟩⟩;have hx:=h.rows i r hr;exact⟨ownsRow_of_block hx.k fun k e=>hb k (ne k _ (hx.tk k e) (by omega)),ownsRow_of_block hx.s fun k e=>hb k (ne k _ (hx.ts k e) (by omega)),hx.u.of_block fun k e=>hb k (ne k _ (hx.tu k e) (by omega)),fun h8=>ownsRow_of_block (hx.u8 h8) fun k e=>hb k (ne k _ (hx.tu k e) (by omega)),hx.tk,hx.ts,hx.tu⟩
theorem RdV.start (w0 w:World) (s:ByteArray) (hz:w0.heap.size≤w.heap.size) :
    RdV ((w.alloc (.map #[] 0)).alloc (.cells #[nilV,.int .i64 0,.string s,.map (some w.heap.size)] 134)) (w.heap.size+1) w.heap.size w0.heap.size s 0 nilV [] (fun k=>if k=w.heap.size+1 then 1 else if k=w.heap.size then 2 else 0):=by
 refine⟨?_,by simp,?_,nilRow _ _ _ _,tag_nil _ _,?_,fun i r hr=>by simp at hr,?_⟩
 · have:=heap_alloc_new (w.alloc (.map #[] 0)) (.cells #[nilV,.int .i64 0,.string s,.map (some w.heap.size)] 134);exact J14
 · rw[if_neg (by omega),if_pos rfl]
 · refine⟨.map [],?_,?_⟩
   · have h1:(w.alloc (.map #[] 0)).ownsMap Tryz.prog 3 (plainElem (H:=Unit) Tryz.prog 3) w.heap.size 0 (.map []):=World.ownsMap_made _ _ _ _;exact ownsMap_of_block h1 (((Gr.refl _).alloc _).block (by simp))
   exact⟨⟨[],rfl⟩,fun i _=>rfl,fun i r hr=>by simp at hr⟩
 exact J125
def ReadPost2 (s:ByteArray) (w:World) (X:Pl.Res (Nat × Nat × Pl.Nds)) (e:Ending) (w':World):Prop :=
 match X with
 | .non=>True
 | .bad c p=>e = .returned (.tuple #[.agg #[nilV,.int .i64 0],.int .i64 0,fv c p])∧c≠0∧Gr w w'
 | .ok (i,m,st)=>∃g L,e = .returned (.tuple #[.agg #[.slice (some ⟨g,0,none⟩) st.length st.length,.int .i64 i],.int .i64 m,f0])∧m≤s.size∧i<st.length∧L.map (·.nd)=st∧TreeV w' w.heap.size g L∧Gr w w'
def CutI (w7:World) (R base g cap:Nat) (L:List NdR) (n:Nat) (wr:World):Prop :=
 wr.ownsRow base 91 7 (.slice (some ⟨g,0,none⟩) L.length cap) L.length (ndsV ((L.take n).map clipR++L.drop n))∧(∀k,k<w7.heap.size→k≠g→wr.heap[k]?=w7.heap[k]?)∧w7.heap.size≤wr.heap.size∧wr.os=w7.os∧wr.tape=w7.tape∧wr.output=w7.output
theorem cutR_get (L:List NdR) (n:Nat) (r:NdR) (hr:L[n]?=some r):((L.take n).map clipR++L.drop n)[n]?=some r:=by
 have hn:n<L.length:=(List.getElem?_eq_some_iff.1 hr).1;rw[List.getElem?_append_right (by simp;omega)];simp;rw[show n-min n L.length=0 from by omega]
 simpa using hr
theorem cutR_set (L:List NdR) (n:Nat) (r:NdR) (hr:L[n]?=some r):((L.take n).map clipR++L.drop n).set n (clipR r)=(L.take (n+1)).map clipR++L.drop (n+1):=by
 have hn:n<L.length:=(List.getElem?_eq_some_iff.1 hr).1;have hl:((L.take n).map clipR).length=n:=by simp;omega
 rw[List.set_append_right _ _ (by omega),hl,Nat.sub_self,List.drop_eq_getElem_cons hn,List.set_cons_zero,List.take_add_one,hr];simp
theorem CutI.step {w7 wr:World} {R base g cap n:Nat} {L:List NdR} (h:CutI w7 R base g cap L n wr) (r:NdR) (hr:L[n]?=some r) :
    CutI w7 R base g cap L (n+1) (((wr.setCell ⟨g,n*7+2,none⟩ (clipV r.kv)).setCell ⟨g,n*7+3,none⟩ (clipV r.sv)).setCell ⟨g,n*7+4,none⟩ (clipV r.uv)):=by
 obtain⟨h1,h2,h3,h4,h5,h6⟩:=h;have hn:n<L.length:=(List.getElem?_eq_some_iff.1 hr).1;refine⟨?_,fun k hk hg=>?_,by simpa [World.setCell]using h3,h4,h5,h6⟩
 · have hlen:(ndsV ((L.take n).map clipR++L.drop n)).length=L.length*7:=by rw[ndsV_length];simp;omega
   have hg0:=cutR_get L n r hr;have e1:=ownsRow_set h1 (n*7+2) (by omega) (clipV r.kv);have e2:=ownsRow_set e1 (n*7+3) (by rw[List.length_set];omega) (clipV r.sv);have e3:=ownsRow_set e2 (n*7+4) (by rw[List.length_set,List.length_set];omega) (clipV r.uv);obtain⟨M,hM⟩:∃M,(L.take n).map clipR++L.drop n=M:=⟨_,rfl⟩
   rw[hM]at e3 hg0;have hnM:n<M.length:=(List.getElem?_eq_some_iff.1 hg0).1;have f1:=ndsV_set M n 2 (by omega) (clipV r.kv) r ⟨r.nd,clipV r.kv,r.sv,r.uv⟩ hg0 rfl;have f2:=ndsV_set (M.set n ⟨r.nd,clipV r.kv,r.sv,r.uv⟩) n 3 (by omega) (clipV r.sv) ⟨r.nd,clipV r.kv,r.sv,r.uv⟩ ⟨r.nd,clipV r.kv,clipV r.sv,r.uv⟩ (by simp[hnM]) rfl;have f3:=ndsV_set ((M.set n ⟨r.nd,clipV r.kv,r.sv,r.uv⟩).set n ⟨r.nd,clipV r.kv,clipV r.sv,r.uv⟩) n 4 (by omega) (clipV r.uv) ⟨r.nd,clipV r.kv,clipV r.sv,r.uv⟩ (clipR r) (by simp[hnM]) rfl;rw[f1,f2,f3,List.set_set,List.set_set,←hM,cutR_set L n r hr]at e3;exact e3
 rw[Below.heap_setCell _ _ _ _ hg,Below.heap_setCell _ _ _ _ hg,Below.heap_setCell _ _ _ _ hg];exact h2 k hk hg
end Go.Proofs.YtfogfaagjpebcaaGreatDoor
namespace Go.Proofs.YtfogfaagjpebcaaGreatDoor
open Go.RowKit Go.Shelf Go.Joins
attribute [local go_sem] Oper.semAt_some
variable {Tb:Nat→UInt8 × UInt8}
structure RW (Tb:Nat→UInt8 × UInt8) (w:World):Prop where
 int:IntW w
 q:QW Tb w
theorem RW.gr {w w':World} (h:RW Tb w) (g:Gr w w'):RW Tb w':=⟨h.int.gr g,h.q.gr g⟩
theorem GW.of {w:World} (h:IntW w) (hq:QW Tb w):GW Tb w.heap.size w:=by
 obtain⟨ev,hev,_⟩:=hq.es;obtain⟨m,hm⟩:=h.max;obtain⟨ep,he⟩:=h.err;refine⟨h,hq,Lib.lt_of_cell hev,Lib.lt_of_cell (hq.sh 0 _ rfl),?_,Lib.lt_of_cell hm,Lib.lt_of_cell he,?_⟩
 · obtain⟨v0,hv0⟩:∃v0,radC[0]?=some v0:=⟨_,rfl⟩
   exact Lib.lt_of_cell (h.rad 0 v0 hv0)
 have hp:=h.pow;have hgn:Tryz.prog.globalNamed "internal/strconv.uint64pow10" = some 1:=by kernel_rfl
 unfold Lib.TabIs World.var? at hp;rw[hgn]at hp;simp only[Option.bind_some]at hp;exact J35
theorem clip_lit {w:World} {base e size n:Nat} {v:Value} {xs:List Value} (h:w.ownsRow base e size v n xs):∃a k,clipV v = .slice a k k:=by
 rcases own_form h with⟨rfl,_⟩|⟨g,cap,rfl,_,_⟩
 · exact⟨_,_,rfl⟩
 exact⟨_,_,rfl⟩
theorem clip_litC {w:World} {base e size n:Nat} {v:Value} {xs:List Value} (h:RowC w base e size v n xs):∃a k,clipV v = .slice a k k:=by
 rcases rowC_form h with⟨rfl,_⟩|⟨g,cap,rfl,_,_⟩
 · exact⟨_,_,rfl⟩
 exact⟨_,_,rfl⟩
def CutNd (g i:Nat) (r:NdR) (w:World):Prop:=w.cell? ⟨g,i*7+2,none⟩=some r.kv∧w.cell? ⟨g,i*7+3,none⟩=some r.sv∧w.cell? ⟨g,i*7+4,none⟩=some r.uv∧(∀o,w.frozen? ⟨g,o,none⟩=false)
theorem FX.other {b:Nat} {x y:Value} {w:World} (h:FX b x y w) {b2 o:Nat} (hb:b2≠b) (v:Value):FX b x y (w.setCell ⟨b2,o,none⟩ v):=by
 obtain⟨h0,h1,hf,hl⟩:=h;refine⟨?_,?_,fun o=>by simp[hf],by simpa using hl⟩
 · rw[World.cell?_setCell_other _ _ _ _ (by first|(simp;done)|(simp;omega))];exact h0
 rw[World.cell?_setCell_other _ _ _ _ (by first|(simp;done)|(simp;omega))];exact h1
theorem CutI.gr {w w7 wr:World} {R base g cap n:Nat} {L:List NdR} (h:CutI w7 R base g cap L n wr) (k:Gr w w7) (hg:w.heap.size≤g):Gr w wr :=
 Below.trans k ⟨h.2.2.2.1,h.2.2.2.2.1,h.2.2.2.2.2,h.2.2.1,fun i hi=>h.2.1 i (Nat.lt_of_lt_of_le hi k.size) (by omega)⟩
theorem CutI.cells {w7 wr:World} {R base g cap n:Nat} {L:List NdR} (h:CutI w7 R base g cap L n wr) (r:NdR) (hr:L[n]?=some r):CutNd g n r wr:=by
 have hc:=h.1.cells (g:=g) rfl;have hj:∀j u,j<7→(ndV r)[j]?=some u→wr.cell? ⟨g,n*7+j,none⟩=some u:=by
  intro j u hj hu;have:=hc (n*7+j) u (by rw[ndsV_get _ _ _ hj,cutR_get L n r hr];exact hu)
  rwa [Addr.add_lit,Nat.zero_add]at this
 refine⟨hj 2 _ (by omega) rfl,hj 3 _ (by omega) rfl,hj 4 _ (by omega) rfl,fun o=>?_⟩;rcases h.1.2 with⟨e,_⟩|⟨g',cap',cur,e,_,hb,_⟩
 · cases e
 cases e;exact unfrozen_of_block hb o
theorem CutI.tree {w7 wr wF:World} {R B base g cap:Nat} {s:ByteArray} {root:Int} {L:List NdR} {own:Nat→Nat} (h:CutI w7 R base g cap L L.length wr) (hr:RdV w7 R B base s root (.slice (some ⟨g,0,none⟩) L.length cap) L own)
    (hb:∀k,own k≠0→own k≠1→wF.heap[k]?=wr.heap[k]?) (hz:wr.heap.size≤wF.heap.size):TreeV wF base g (L.map clipR):=by
 have hgo:own g=3:=hr.oN g rfl;have hgl:=hr.lt g (by omega);have e:(L.take L.length).map clipR++L.drop L.length=L.map clipR:=by simp
 have h1:=h.1;rw[e]at h1;refine⟨⟨hgl.1,Nat.lt_of_lt_of_le hgl.2 (Nat.le_trans h.2.2.1 hz)⟩,fun i r hi j v hv=>?_,fun i r hi=>?_,own,hgo,fun i r hi=>?_⟩
 · exact J53
 · rw[List.getElem?_map]at hi;cases hx:L[i]? with
   | none=>rw[hx]at hi;cases hi
   | some x =>
   rw[hx]at hi;cases hi;have hR:=hr.rows i x hx;have hb:∀k t,own k=t→4≤t→wF.heap[k]?=w7.heap[k]?:=fun k t e h4=>(hb k (by omega) (by omega)).trans (h.2.1 k (hr.lt k (by omega)).2 (fun e2=>by subst e2;omega))
   exact⟨rowC_clip (ownsRow_of_block hR.k fun k e=>hb k _ (hR.tk k e) (by omega)),rowC_clip (ownsRow_of_block hR.s fun k e=>hb k _ (hR.ts k e) (by omega)),rowC_clip2 (hR.u.of_block fun k e=>hb k _ (hR.tu k e) (by omega))⟩
 exact J115
theorem FX.of_block {b:Nat} {x y:Value} {w w':World} (h:FX b x y w) (hb:w'.heap[b]?=w.heap[b]?) (hz:w.heap.size≤w'.heap.size):FX b x y w' :=
 ⟨(World.cell?_of_block (w:=w) (a:=⟨b,0,none⟩) hb).trans h.1,(World.cell?_of_block (w:=w) (a:=⟨b,1,none⟩) hb).trans h.2.1,fun o=>(World.frozen?_of_block (w:=w) (a:=⟨b,o,none⟩) hb).trans (h.2.2.1 o),Nat.lt_of_lt_of_le h.2.2.2 hz⟩
def EndS (R F:Nat) (a b:Value) (w:World):Prop:=w.cell? ⟨R,0,none⟩=some a∧w.cell? ⟨R,1,none⟩=some b∧FX F (.int .i64 0) (.int .i64 0) w
set_option maxRecDepth 100000 in
theorem tv_Read (w:World) (hw:RW Tb w) (s:ByteArray) (hs:s.size≤20000000) (i:Int) (n:Nat) (hi:i=n) (hn:n≤s.size) (around:Int) (k:Nat) (hk:(min (max around 0) 256:Int)=k) (X:Pl.Res (Nat × Nat × Pl.Nds)) (hX:Pl.readS ⟨Pl.strS Tb,Pl.scalS⟩ (bs s) n k=X) (hne:X ≠ .non) :
    Calls Tryz.prog 49 #[.string s,.int .i64 i,.int .i64 around] w (ReadPost2 s w X):=by
 subst hi;have hk256:k≤256:=by omega
 unfold Pl.readS at hX;rw[show min k 256+1=k+1 from by omega]at hX;have HX:=Lib.hid hX;have HN:=Lib.hid hne;have HG:=Lib.hid (GW.of hw.int hw.q);have t0:decide ((n:Int)<0)=false:=by simp
 have t1:decide ((s.size:Int)<(n:Int))=false:=by simp;omega
 have t2:decide (s.size<n)=false:=by simp;omega
 have wk:IntKind.i64.wrap ((k:Int)+1)=(k:Int)+1:=IntWalk.i64_in _ ⟨by omega,by omega⟩;have hmm := @run_makeMap Tryz.prog;clear hX hne hw;go_enter Tryz.func49,Tryz.ntmps49;go_wp2_with fail;have hstart:=RdV.start w ((w.alloc (.cells #[nilV,.int .i64 0] 29)).alloc (.cells #[.int .i64 0,.int .i64 0] 31)) s (by simp;omega);simp only[World.size_alloc]at hstart;obtain⟨W0,hW0⟩:∃v,((((w.alloc (.cells #[nilV,.int .i64 0] 29)).alloc (.cells #[.int .i64 0,.int .i64 0] 31)).alloc (.map #[] 0)).alloc (.cells #[nilV,.int .i64 0,.string s,.map (some (w.heap.size+1+1))] 134))=v:=⟨_,rfl⟩
 have hg0:Gr w W0:=by subst hW0;exact ((((Gr.refl w).alloc _).alloc _).alloc _).alloc _
 have hT0:FX w.heap.size nilV (.int .i64 0) W0:=by
  subst hW0;exact (((FX.new w nilV (.int .i64 0) _).gr ((Gr.refl _).alloc _)).gr ((Gr.refl _).alloc _)).gr ((Gr.refl _).alloc _)
 have hF0:FX (w.heap.size+1) (.int .i64 0) (.int .i64 0) W0:=by
  subst hW0;have:=FX.new (w.alloc (.cells #[nilV,.int .i64 0] 29)) (.int .i64 0) (.int .i64 0) 31;simp only[World.size_alloc]at this;exact (this.gr ((Gr.refl _).alloc _)).gr ((Gr.refl _).alloc _)
 have hz0:w.heap.size+4≤W0.heap.size:=by subst hW0;simp
 rw[hW0]at hstart ⊢;obtain⟨own0,hown0⟩:∃o:Nat→Nat,(fun k=>if k=w.heap.size+1+1+1 then 1 else if k=w.heap.size+1+1 then 2 else 0)=o:=⟨_,rfl⟩
 have hlow:∀k,own0 k≠0→w.heap.size+2≤k:=by
  subst hown0;intro k hk;by_cases h1:k=w.heap.size+1+1+1
  · omega
  simp only[h1,if_false]at hk;by_cases h2:k=w.heap.size+1+1
  · omega
  simp only[h2,if_false]at hk;exact absurd rfl hk
 rw[hown0]at hstart;obtain⟨R,hRe⟩:∃R,w.heap.size+1+1+1=R:=⟨_,rfl⟩
 obtain⟨B,hBe⟩:∃B,w.heap.size+1+1=B:=⟨_,rfl⟩
 rw[hRe]at hstart ⊢;rw[hBe]at hstart ⊢;have hRn:w.heap.size+3=R:=by omega
 clear hW0 hown0 hRe hBe;have hn0:¬FV own0 w.heap.size:=fun h=>by have:=hlow _ h;omega
 have hn1:¬FV own0 (w.heap.size+1):=fun h=>by have:=hlow _ h;omega
 refine (show Calls Tryz.prog 68 #[.pointer (some ⟨R,0,none⟩),.int .i64 (n:Int),.int .i64 ((k:Int)+1)] W0 _ from tv_value ⟨Pl.strS Tb,Pl.scalS⟩ rfl rfl s hs R B w.heap.size 0 258 W0 nilV [] own0 hstart (HG.out.gr hg0) n (k+1) hn (by omega) X HX.out HN.out).mono ?_;cases X with
 | non=>exact absurd rfl HN.out
 | bad c p =>
  rintro e w1 ⟨rfl,hc,F',hst,x0,x1,x2,x3,hRb⟩;have r1:w1.cell? ⟨R,1,none⟩=some x1:=by rw[cell_of_block hRb];rfl
  have rfz:∀o,w1.frozen? ⟨R,o,none⟩=false:=fun o=>unfrozen_of_block hRb o
  have hT1:=hT0.st hst hn0;have hF1:=hF0.st hst hn1;have HF2:=Lib.hid ((hF1.other (b2:=R) (o:=1) (by omega) (.int .i64 0)).set (.int .i64 c) (.int .i64 p));have HT2:=Lib.hid (((hT1.other (b2:=R) (o:=1) (by omega) (.int .i64 0)).other (b2:=w.heap.size+1) (o:=0) (by omega) (.int .i64 c)).other (b2:=w.heap.size+1) (o:=1) (by omega) (.int .i64 p));have hgr1:Gr w w1:=hst.below hg0 (fun k hk=>by have:=hlow k hk;omega);have HGR:=Lib.hid hgr1;obtain⟨f0',f1',ff,fl⟩:=hF1;have hc':¬(c:Int)=0:=by omega
  have HC:=Lib.hid hc;clear hst hT1 hRb hgr1 hc hstart hT0 hF0;go_wp2_with fail;refine Z231 ?_;intro w2 g2;obtain⟨u0,u1,uf,ul⟩:=HF2.out.gr g2;obtain⟨v0,v1,vf,vl⟩:=HT2.out.gr g2;refine Z160 ?_;intro HGR2;clear g2 f0' f1' ff fl r1 rfz;have hgr2:=HGR2.out;go_wp2_with fail
  go_region
  all_goals go_wp2_with fail
  all_goals exact bodyPost_ret (v := .tuple #[.agg #[nilV,.int .i64 0],.int .i64 0,fv c p]) (by simp[results,Tryz.results49,go_sem,u0,u1,uf,ul,v0,v1,vf,vl]) rfl ⟨rfl,HC.out,Gr.auto⟩
 | ok r =>
  obtain⟨i,m,st⟩:=r;rintro e w1 ⟨rfl,hm,hi,nv1,L1,own1,hr1,rfl,hst,hown⟩;rw[List.length_map]at hi;have hlow1:∀k,own1 k≠0→w.heap.size+2≤k:=fun k hk=>by
   rcases hown k hk with e|e
   · exact hlow k e
   omega
  have hm0:¬FV own1 w.heap.size:=fun h=>by have:=hlow1 _ h;omega
  have hm1:¬FV own1 (w.heap.size+1):=fun h=>by have:=hlow1 _ h;omega
  have hT1:=hT0.st hst hn0;have hF1:=hF0.st hst hn1;obtain⟨r0,r1,r2,r3,rfz⟩:=hr1.cells;have HF2:=Lib.hid ((hF1.other (b2:=R) (o:=1) (by omega) (.int .i64 i)).set (.int .i64 0) (.int .i64 0));have HT2:=Lib.hid (((hT1.other (b2:=R) (o:=1) (by omega) (.int .i64 i)).other (b2:=w.heap.size+1) (o:=0) (by omega) (.int .i64 0)).other (b2:=w.heap.size+1) (o:=1) (by omega) (.int .i64 0));have HR2:=Lib.hid (((hr1.setRoot i).setCell (p:=⟨w.heap.size+1,0,none⟩) hm1 (.int .i64 0)).setCell (p:=⟨w.heap.size+1,1,none⟩) hm1 (.int .i64 0));have hgr1:Gr w w1:=hst.below hg0 (fun k hk=>by have:=hlow k hk;omega);have HGR:=Lib.hid hgr1;obtain⟨f0',f1',ff,fl⟩:=hF1;have HLOW1:=Lib.hid hlow1;clear hst hT1 hgr1 hown hstart hT0 hF0 r0 r2 r3 hlow1 hlow hr1;go_wp2_with fail;refine Z155 ?_;intro w2 g2;have HF3:=Lib.hid (HF2.out.gr g2);have HT3:=Lib.hid (HT2.out.gr g2);have hr3:=HR2.out.gr g2;refine Z160 ?_;intro HGR2;obtain⟨g,cap,cur,rfl,hgb,hgl,hgo,hgR,hgB,hgh,hgs,hgc,hgm,hgt⟩:=hr3.form (by omega);obtain⟨s0,s1,s2,s3,sz⟩:=hr3.cells;have hcut0:CutI w2 R w.heap.size g cap L1 0 w2:=by
   refine⟨?_,fun _ _ _=>rfl,Nat.le_refl _,rfl,rfl,rfl⟩
   simpa using hr3.nodes
  have HCUT0:=Lib.hid hcut0;have HR3:=Lib.hid hr3;have hgn:w.heap.size+2≤g:=HLOW1.out g (by omega);have hLm:L1.length≤9223372036854775807:=by unfold maxLen at hgm;omega
  have HCAP:=Lib.hid (show L1.length≤cap∧cap≤9223372036854775807 from ⟨hgc,by unfold maxLen at hgm;omega⟩);clear g2 f0' f1' ff fl r1 rfz hgh hgs hgt hcut0 hr3 HF2 HT2 HR2 HGR hgc hgm;go_wp2_with fail
  go_loopw [52] (fun v wr=>∃j:Nat,v = .int .i64 j∧j≤L1.length∧CutI w2 R w.heap.size g cap L1 j wr) (fun v _=>L1.length-(intOf v).toNat)
  case atStart=>exact⟨0,rfl,by omega,HCUT0.out⟩
  case round =>
   obtain⟨j,rfl,hj,hcut⟩:=hrel;have HCUT:=Lib.hid hcut;have hRg:R≠g:=Ne.symm hgR;have hR2:=HR3.out.R_lt.2;have hRb:=hcut.2.1 R hR2 hRg;have q0:wr.cell? ⟨R,0,none⟩=some (.slice (some ⟨g,0,none⟩) L1.length cap):=(World.cell?_of_block (w:=w2) (a:=⟨R,0,none⟩) hRb).trans s0;have q1:wr.cell? ⟨R,1,none⟩=some (.int .i64 i):=(World.cell?_of_block (w:=w2) (a:=⟨R,1,none⟩) hRb).trans s1;have qz:∀o,wr.frozen? ⟨R,o,none⟩=false:=fun o=>(World.frozen?_of_block (w:=w2) (a:=⟨R,o,none⟩) hRb).trans (sz o)
   clear hcut hRb;by_cases hjl:j<L1.length
   · have d1:decide ((j:Int)<(L1.length:Int))=true:=by simp;omega
     have d2:decide (j<L1.length)=true:=by simp;omega
     refine Z287 ?_;intro i1;have i2:(j:Int)<(L1.length:Int):=by omega
     refine Z194 ?_;intro wj;obtain⟨rj,hrj⟩:∃rj,L1[j]?=some rj:=⟨_,List.getElem?_eq_getElem hjl⟩
     have HRJ:=Lib.hid hrj;have HRW:=Lib.hid (HR3.out.rows j rj hrj);have hS:CutNd g j rj wr.drew:=HCUT.out.cells rj hrj;have hstep:=HCUT.out.step rj hrj;obtain⟨ka,kn,hka⟩:=clip_lit HRW.out.k;obtain⟨sa,sn,hsa⟩:=clip_lit HRW.out.s;obtain⟨ua,un,hua⟩:=clip_litC HRW.out.u;have hkc:=clip_strs_own HRW.out.k;have hsc:=clip_spans_own HRW.out.s;have huc:=clip_ints_rowC HRW.out.u;rw[hka]at hkc hstep;rw[hsa]at hsc hstep;rw[hua]at huc hstep;have HKC:=Lib.hid hkc;have HSC:=Lib.hid hsc;have HUC:=Lib.hid huc;have HSTEP:=Lib.hid hstep;clear hrj hstep hka hsa hua hkc hsc huc;go_wp2_with fail;refine Reg.begin' (W:=fun i=>i != 20 && i != 23 && i != 26) (S:=CutNd g j rj) (by kernel_rfl) ?_;refine Z294 ?_;obtain⟨p1,p2,p3,pf⟩:=(show CutNd g j rj wr from hS)
     exact J133
   have d1:decide ((j:Int)<(L1.length:Int))=false:=by simp;omega
   have d2:decide (j<L1.length)=false:=by simp;omega
   have hjL:j=L1.length:=by omega
   have hTg:w.heap.size≠g:=by omega
   have hFg:w.heap.size+1≠g:=by omega
   have HT4:=Lib.hid (HT3.out.of_block (HCUT.out.2.1 _ HT3.out.2.2.2 hTg) HCUT.out.2.2.1);have HF4:=Lib.hid (HF3.out.of_block (HCUT.out.2.1 _ HF3.out.2.2.2 hFg) HCUT.out.2.2.1);have HGR4:=Lib.hid (HCUT.out.gr HGR2.out (by omega));have hRT:R≠w.heap.size:=by omega
   have hRF:R≠w.heap.size+1:=by omega
   go_wp2_with fail;refine (clip_nodes g L1.length cap HCAP.out.1 HCAP.out.2 _).mono ?_;refine Z48 ?_;go_wp2_with fail;obtain⟨wS,hwS⟩:∃v,wr.setCell ⟨R,0,none⟩ (.slice (some ⟨g,0,none⟩) L1.length L1.length)=v:=⟨_,rfl⟩
   have hS:EndS R (w.heap.size+1) (.slice (some ⟨g,0,none⟩) L1.length L1.length) (.int .i64 i) wS.drew:=by
    subst hwS;refine⟨?_,?_,HF4.out.other hRF _⟩
    · show (wr.setCell ⟨R,0,none⟩ _).cell? _=_;rw[World.cell?_setCell_same' _ _ _ (by rw[q0];rfl)]
    show (wr.setCell ⟨R,0,none⟩ _).cell? _=_;rw[World.cell?_setCell_other _ _ _ _ (by simp)];exact q1
   have hTS:FX w.heap.size nilV (.int .i64 0) wS.drew:=by subst hwS;exact HT4.out.other hRT _
   have HGRS:Hid (Gr w wS):=by subst hwS;exact HGR4.out.setCell (p:=⟨R,0,none⟩) (by show w.heap.size≤R;omega) _
   have HBS:Hid (∀k,own1 k≠0→own1 k≠1→wS.drew.heap[k]?=wr.heap[k]?):=by
    subst hwS;intro k h0 h1;exact Below.heap_setCell _ _ _ _ (fun e=>by rw[show k=R from e]at h1;exact h1 HR3.out.oR)
   have HZS:Hid (wr.heap.size≤wS.drew.heap.size):=by subst hwS;show wr.heap.size≤(wr.setCell _ _).heap.size;simp[World.setCell]
   rw[hwS];clear hwS q0 q1 qz;refine Reg.begin' (W:=fun i=>i != 8) (S:=EndS R (w.heap.size+1) (.slice (some ⟨g,0,none⟩) L1.length L1.length) (.int .i64 i)) (by kernel_rfl) ?_;refine Z40 ?_;refine Reg.ty 4 ?_;refine Reg.tl 3 hS ?_ (hy:=by intro w hSw;obtain⟨x1,x2,x3,x4,x5,x6⟩:=hSw;go_simp;try with_reducible rfl);refine Reg.tl 5 hS ?_ (hy:=by intro w hSw;obtain⟨x1,x2,x3,x4,x5,x6⟩:=hSw;go_simp;try with_reducible rfl);obtain⟨p1,p2,p3,p4,p5,p6⟩:=(show EndS R (w.heap.size+1) (.slice (some ⟨g,0,none⟩) L1.length L1.length) (.int .i64 i) wS from hS)
   obtain⟨v0,v1,vf,vl⟩:=(show FX w.heap.size nilV (.int .i64 0) wS from hTS)
   refine Reg.on 6 ?_;go_simp;have hS2:EndS R (w.heap.size+1) (.slice (some ⟨g,0,none⟩) L1.length L1.length) (.int .i64 i) ((wS.drew.setCell ⟨w.heap.size,0,none⟩ (.slice (some ⟨g,0,none⟩) L1.length L1.length)).setCell ⟨w.heap.size,1,none⟩ (.int .i64 i)):=by
    refine⟨?_,?_,(hS.2.2.other (by omega) _).other (by omega) _⟩
    · rw[World.cell?_setCell_other _ _ _ _ (by first|(simp;done)|(simp;omega)),World.cell?_setCell_other _ _ _ _ (by first|(simp;done)|(simp;omega))];exact p1
    rw[World.cell?_setCell_other _ _ _ _ (by first|(simp;done)|(simp;omega)),World.cell?_setCell_other _ _ _ _ (by first|(simp;done)|(simp;omega))];exact p2
   refine Z238 ?_;refine Reg.ty 7 ?_;refine Reg.on 8 ?_;go_simp;refine Z12 ?_;go_wp2_with fail;refine bodyPost_ret (v := .tuple #[.agg #[.slice (some ⟨g,0,none⟩) L1.length L1.length,.int .i64 i],.int .i64 m,f0]) (by simp[results,Tryz.results49,go_sem,p3,p4,p5,p6,v0,v1,vf,vl]) rfl ?_;refine⟨g,L1.map clipR,by simp,hm,by simpa using hi,by simp[List.map_map,Function.comp_def,clipR],?_,?_⟩
   · have hct:=HCUT.out;rw[hjL]at hct;refine hct.tree HR3.out (fun k h0 h1=>?_) ?_
     · have hk0:k≠w.heap.size:=fun e=>hm0 (by rw[←e];exact h0)
       have hk1:k≠w.heap.size+1:=fun e=>hm1 (by rw[←e];exact h0)
       show (World.setCell _ _ _).heap[k]?=_;rw[Below.heap_setCell _ _ _ _ hk1,Below.heap_setCell _ _ _ _ hk1,Below.heap_setCell _ _ _ _ hk0,Below.heap_setCell _ _ _ _ hk0];exact HBS.out k h0 h1
     have:=HZS.out
     simpa [World.setCell]using this
   have hgs:=HGRS.out;exact Gr.auto
end Go.Proofs.YtfogfaagjpebcaaGreatDoor
