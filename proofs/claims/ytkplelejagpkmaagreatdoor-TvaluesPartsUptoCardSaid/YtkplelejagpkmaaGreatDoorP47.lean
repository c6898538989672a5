/-
 The walks and plain laws that the claim rests on, part 47.
-/
import Derived.Test.YtkplelejagpkmaaGreatDoorP46
set_option maxHeartbeats 16000000
set_option linter.all false
set_option linter.unusedVariables false
set_option linter.unusedSimpArgs false
namespace Go.Proofs.YtkplelejagpkmaaGreatDoor
open Go.RowKit Go.Shelf Go.Joins
attribute [local go_sem] Oper.semAt_some
def clipR (r:NdR):NdR:=⟨r.nd,clipV r.kv,clipV r.sv,clipV r.uv⟩
structure TreeV (w:World) (base g:Nat) (L:List NdR):Prop where
 lt:base≤g∧g<w.heap.size
 cell:∀(i:Nat) r,L[i]?=some r→∀(j:Nat) v,(ndV r)[j]?=some v→w.cell? ⟨g,i*7+j,none⟩=some v
 rows:∀(i:Nat) r,L[i]?=some r→RowC w base 9 1 r.kv r.nd.keys.length (keysV r.nd.keys)∧RowC w base 38 2 r.sv r.nd.spots.length (spotsV r.nd.spots)∧RowC w base 3 1 r.uv r.nd.subs.length (subsV r.nd.subs)
theorem TreeV.gr {w w':World} {base g:Nat} {L:List NdR} (h:TreeV w base g L) (k:Gr w w'):TreeV w' base g L :=
 ⟨⟨h.lt.1,Nat.lt_of_lt_of_le h.lt.2 k.size⟩,fun i r hr j v hv=>(k.use.1 _ _ h.lt.2).trans (h.cell i r hr j v hv),fun i r hr=>by
  obtain⟨a,b,c⟩:=h.rows i r hr;exact⟨a.of_block fun k2 e=>k.block (a.lt k2 e).2,b.of_block fun k2 e=>k.block (b.lt k2 e).2,c.of_block fun k2 e=>k.block (c.lt k2 e).2⟩⟩
theorem clip_strs_own {w:World} {base n:Nat} {v:Value} {xs:List Value} (h:w.ownsRow base 9 1 v n xs) (W:World):Calls Tryz.prog 20 #[v] W fun e w'=>e = .returned (clipV v)∧W=w':=by
 rcases own_form h with⟨rfl,_⟩|⟨g,cap,rfl,h1,h2⟩
 · exact clip_strs0 W
 exact clip_strs g n cap h1 h2 W
theorem clip_spans_own {w:World} {base n:Nat} {v:Value} {xs:List Value} (h:w.ownsRow base 38 2 v n xs) (W:World):Calls Tryz.prog 21 #[v] W fun e w'=>e = .returned (clipV v)∧W=w':=by
 rcases own_form h with⟨rfl,_⟩|⟨g,cap,rfl,h1,h2⟩
 · exact clip_spans0 W
 exact clip_spans g n cap h1 h2 W
theorem clip_ints_rowC {w:World} {base n:Nat} {v:Value} {xs:List Value} (h:RowC w base 3 1 v n xs) (W:World):Calls Tryz.prog 22 #[v] W fun e w'=>e = .returned (clipV v)∧W=w':=by
 rcases rowC_form h with⟨rfl,_⟩|⟨g,cap,rfl,h1,h2⟩
 · exact clip_ints0 W
 exact clip_ints g n cap h1 h2 W
theorem RdV.setRoot {w:World} {R B base:Nat} {s:ByteArray} {root:Int} {nv:Value} {L:List NdR} {own:Nat→Nat} (h:RdV w R B base s root nv L own) (r2:Int):RdV (w.setCell ⟨R,1,none⟩ (.int .i64 r2)) R B base s r2 nv L own:=by
 have hb:∀k,k≠R→(w.setCell ⟨R,1,none⟩ (.int .i64 r2)).heap[k]?=w.heap[k]?:=fun k hk=>Below.heap_setCell _ _ _ _ hk
 have ne:∀k t,own k=t→t≠1→k≠R:=fun k t e h3 e2=>by subst e2;have:=h.oR;omega
 obtain⟨D,h1,h2⟩:=h.map;refine⟨by simpa using block_setCell (i:=1) h.blk (.int .i64 r2),h.oR,h.oB,ownsRow_of_block h.nodes fun k e=>hb k (ne k _ (h.oN k e) (by omega)),h.oN,⟨D,ownsMap_of_block h1 (hb B (ne B _ h.oB (by omega))),h2⟩,fun i r hr=>?_,fun k hk=>⟨(h.lt k hk).1,by simpa [World.setCell]using (h.lt k hk).2⟩⟩;have hx:=h.rows i r hr;exact⟨ownsRow_of_block hx.k fun k e=>hb k (ne k _ (hx.tk k e) (by omega)),ownsRow_of_block hx.s fun k e=>hb k (ne k _ (hx.ts k e) (by omega)),hx.u.of_block fun k e=>hb k (ne k _ (hx.tu k e) (by omega)),fun h8=>ownsRow_of_block (hx.u8 h8) fun k e=>hb k (ne k _ (hx.tu k e) (by omega)),hx.tk,hx.ts,hx.tu⟩
theorem RdV.start (w0 w:World) (s:ByteArray) (hz:w0.heap.size≤w.heap.size) :
    RdV ((w.alloc (.map #[] 0)).alloc (.cells #[nilV,.int .i64 0,.string s,.map (some w.heap.size)] 66)) (w.heap.size+1) w.heap.size w0.heap.size s 0 nilV [] (fun k=>if k=w.heap.size+1 then 1 else if k=w.heap.size then 2 else 0):=by
 refine⟨?_,by simp,?_,nilRow _ _ _ _,tag_nil _ _,?_,fun i r hr=>by simp at hr,?_⟩
 · have:=heap_alloc_new (w.alloc (.map #[] 0)) (.cells #[nilV,.int .i64 0,.string s,.map (some w.heap.size)] 66)
   simpa using this
 · rw[if_neg (by omega),if_pos rfl]
 · refine⟨.map [],?_,?_⟩
   · have h1:(w.alloc (.map #[] 0)).ownsMap Tryz.prog 3 (plainElem (H:=Unit) Tryz.prog 3) w.heap.size 0 (.map []):=World.ownsMap_made _ _ _ _;exact ownsMap_of_block h1 (((Gr.refl _).alloc _).block (by simp))
   exact⟨⟨[],rfl⟩,fun i _=>rfl,fun i r hr=>by simp at hr⟩
 intro k hk;by_cases h1:k=w.heap.size+1
 · subst h1;simp;omega
 rw[if_neg h1]at hk;by_cases h2:k=w.heap.size
 · subst h2;simp;omega
 rw[if_neg h2]at hk;exact absurd rfl hk
def ReadPost2 (s:ByteArray) (w:World) (X:Pl.Res (Nat × Nat × Pl.Nds)) (e:Ending) (w':World):Prop :=
 match X with
 | .non=>True
 | .bad c p=>e = .returned (.tuple #[.agg #[nilV,.int .i64 0],.int .i64 0,fv c p])∧c≠0∧Gr w w'
 | .ok (i,m,st)=>∃g L,e = .returned (.tuple #[.agg #[.slice (some ⟨g,0,none⟩) st.length st.length,.int .i64 i],.int .i64 m,f0])∧m≤s.size∧i<st.length∧L.map (·.nd)=st∧TreeV w' w.heap.size g L∧Gr w w'
def CutI (w7:World) (R base g cap:Nat) (L:List NdR) (n:Nat) (wr:World):Prop :=
 wr.ownsRow base 40 7 (.slice (some ⟨g,0,none⟩) L.length cap) L.length (ndsV ((L.take n).map clipR++L.drop n))∧(∀k,k<w7.heap.size→k≠g→wr.heap[k]?=w7.heap[k]?)∧w7.heap.size≤wr.heap.size∧wr.os=w7.os∧wr.tape=w7.tape∧wr.output=w7.output
theorem cutR_get (L:List NdR) (n:Nat) (r:NdR) (hr:L[n]?=some r):((L.take n).map clipR++L.drop n)[n]?=some r:=by
 have hn:n<L.length:=(List.getElem?_eq_some_iff.1 hr).1;rw[List.getElem?_append_right (by simp;omega)];simp;rw[show n-min n L.length=0 from by omega]
 simpa using hr
theorem cutR_set (L:List NdR) (n:Nat) (r:NdR) (hr:L[n]?=some r):((L.take n).map clipR++L.drop n).set n (clipR r)=(L.take (n+1)).map clipR++L.drop (n+1):=by
 have hn:n<L.length:=(List.getElem?_eq_some_iff.1 hr).1;have hl:((L.take n).map clipR).length=n:=by simp;omega
 rw[List.set_append_right _ _ (by omega),hl,Nat.sub_self,List.drop_eq_getElem_cons hn,List.set_cons_zero,List.take_add_one,hr];simp
theorem CutI.step {w7 wr:World} {R base g cap n:Nat} {L:List NdR} (h:CutI w7 R base g cap L n wr) (r:NdR) (hr:L[n]?=some r) :
    CutI w7 R base g cap L (n+1) (((wr.setCell ⟨g,n*7+2,none⟩ (clipV r.kv)).setCell ⟨g,n*7+3,none⟩ (clipV r.sv)).setCell ⟨g,n*7+4,none⟩ (clipV r.uv)):=by
 obtain⟨h1,h2,h3,h4,h5,h6⟩:=h;have hn:n<L.length:=(List.getElem?_eq_some_iff.1 hr).1;refine⟨?_,fun k hk hg=>?_,by simpa [World.setCell]using h3,h4,h5,h6⟩
 · have hlen:(ndsV ((L.take n).map clipR++L.drop n)).length=L.length*7:=by rw[ndsV_length];simp;omega
   have hg0:=cutR_get L n r hr;have e1:=ownsRow_set h1 (n*7+2) (by omega) (clipV r.kv);have e2:=ownsRow_set e1 (n*7+3) (by rw[List.length_set];omega) (clipV r.sv);have e3:=ownsRow_set e2 (n*7+4) (by rw[List.length_set,List.length_set];omega) (clipV r.uv);obtain⟨M,hM⟩:∃M,(L.take n).map clipR++L.drop n=M:=⟨_,rfl⟩
   rw[hM]at e3 hg0;have hnM:n<M.length:=(List.getElem?_eq_some_iff.1 hg0).1;have f1:=ndsV_set M n 2 (by omega) (clipV r.kv) r ⟨r.nd,clipV r.kv,r.sv,r.uv⟩ hg0 rfl;have f2:=ndsV_set (M.set n ⟨r.nd,clipV r.kv,r.sv,r.uv⟩) n 3 (by omega) (clipV r.sv) ⟨r.nd,clipV r.kv,r.sv,r.uv⟩ ⟨r.nd,clipV r.kv,clipV r.sv,r.uv⟩ (by simp[hnM]) rfl;have f3:=ndsV_set ((M.set n ⟨r.nd,clipV r.kv,r.sv,r.uv⟩).set n ⟨r.nd,clipV r.kv,clipV r.sv,r.uv⟩) n 4 (by omega) (clipV r.uv) ⟨r.nd,clipV r.kv,clipV r.sv,r.uv⟩ (clipR r) (by simp[hnM]) rfl;rw[f1,f2,f3,List.set_set,List.set_set,←hM,cutR_set L n r hr]at e3;exact e3
 rw[Below.heap_setCell _ _ _ _ hg,Below.heap_setCell _ _ _ _ hg,Below.heap_setCell _ _ _ _ hg];exact h2 k hk hg
end Go.Proofs.YtkplelejagpkmaaGreatDoor
namespace Go.Proofs.YtkplelejagpkmaaGreatDoor
open Go.RowKit Go.Shelf Go.Joins
attribute [local go_sem] Oper.semAt_some
variable {Tb:Nat→UInt8 × UInt8}
structure RW (Tb:Nat→UInt8 × UInt8) (w:World):Prop where
 int:IntW w
 q:QW Tb w
theorem RW.gr {w w':World} (h:RW Tb w) (g:Gr w w'):RW Tb w':=⟨h.int.gr g,h.q.gr g⟩
theorem GW.of {w:World} (h:IntW w) (hq:QW Tb w):GW Tb w.heap.size w:=by
 obtain⟨ev,hev,_⟩:=hq.es;obtain⟨m,hm⟩:=h.max;obtain⟨ep,he⟩:=h.err;refine⟨h,hq,Lib.lt_of_cell hev,Lib.lt_of_cell (hq.sh 0 _ rfl),?_,Lib.lt_of_cell hm,Lib.lt_of_cell he,?_⟩
 · obtain⟨v0,hv0⟩:∃v0,radC[0]?=some v0:=⟨_,rfl⟩
   exact Lib.lt_of_cell (h.rad 0 v0 hv0)
 have hp:=h.pow;have hgn:Tryz.prog.globalNamed "internal/strconv.uint64pow10" = some 5:=by kernel_rfl
 unfold Lib.TabIs World.var? at hp;rw[hgn]at hp;simp only[Option.bind_some]at hp;rcases Nat.lt_or_ge 5 w.heap.size with h'|h'
 · exact h'
 rw[Array.getElem?_eq_none h']at hp;cases hp
theorem clip_lit {w:World} {base e size n:Nat} {v:Value} {xs:List Value} (h:w.ownsRow base e size v n xs):∃a k,clipV v = .slice a k k:=by
 rcases own_form h with⟨rfl,_⟩|⟨g,cap,rfl,_,_⟩
 · exact⟨_,_,rfl⟩
 exact⟨_,_,rfl⟩
theorem clip_litC {w:World} {base e size n:Nat} {v:Value} {xs:List Value} (h:RowC w base e size v n xs):∃a k,clipV v = .slice a k k:=by
 rcases rowC_form h with⟨rfl,_⟩|⟨g,cap,rfl,_,_⟩
 · exact⟨_,_,rfl⟩
 exact⟨_,_,rfl⟩
def CutNd (g i:Nat) (r:NdR) (w:World):Prop:=w.cell? ⟨g,i*7+2,none⟩=some r.kv∧w.cell? ⟨g,i*7+3,none⟩=some r.sv∧w.cell? ⟨g,i*7+4,none⟩=some r.uv∧(∀o,w.frozen? ⟨g,o,none⟩=false)
theorem FX.other {b:Nat} {x y:Value} {w:World} (h:FX b x y w) {b2 o:Nat} (hb:b2≠b) (v:Value):FX b x y (w.setCell ⟨b2,o,none⟩ v):=by
 obtain⟨h0,h1,hf,hl⟩:=h;refine⟨?_,?_,fun o=>by simp[hf],by simpa using hl⟩
 · rw[World.cell?_setCell_other _ _ _ _ (by first|(simp;done)|(simp;omega))];exact h0
 rw[World.cell?_setCell_other _ _ _ _ (by first|(simp;done)|(simp;omega))];exact h1
theorem CutI.gr {w w7 wr:World} {R base g cap n:Nat} {L:List NdR} (h:CutI w7 R base g cap L n wr) (k:Gr w w7) (hg:w.heap.size≤g):Gr w wr :=
 Below.trans k ⟨h.2.2.2.1,h.2.2.2.2.1,h.2.2.2.2.2,h.2.2.1,fun i hi=>h.2.1 i (Nat.lt_of_lt_of_le hi k.size) (by omega)⟩
theorem CutI.cells {w7 wr:World} {R base g cap n:Nat} {L:List NdR} (h:CutI w7 R base g cap L n wr) (r:NdR) (hr:L[n]?=some r):CutNd g n r wr:=by
 have hc:=h.1.cells (g:=g) rfl;have hj:∀j u,j<7→(ndV r)[j]?=some u→wr.cell? ⟨g,n*7+j,none⟩=some u:=by
  intro j u hj hu;have:=hc (n*7+j) u (by rw[ndsV_get _ _ _ hj,cutR_get L n r hr];exact hu)
  rwa [Addr.add_lit,Nat.zero_add]at this
 refine⟨hj 2 _ (by omega) rfl,hj 3 _ (by omega) rfl,hj 4 _ (by omega) rfl,fun o=>?_⟩;rcases h.1.2 with⟨e,_⟩|⟨g',cap',cur,e,_,hb,_⟩
 · cases e
 cases e;exact unfrozen_of_block hb o
theorem CutI.tree {w7 wr wF:World} {R B base g cap:Nat} {s:ByteArray} {root:Int} {L:List NdR} {own:Nat→Nat} (h:CutI w7 R base g cap L L.length wr) (hr:RdV w7 R B base s root (.slice (some ⟨g,0,none⟩) L.length cap) L own)
    (hb:∀k,own k≠0→own k≠1→wF.heap[k]?=wr.heap[k]?) (hz:wr.heap.size≤wF.heap.size):TreeV wF base g (L.map clipR):=by
 have hgo:own g=3:=hr.oN g rfl;have hgl:=hr.lt g (by omega);have e:(L.take L.length).map clipR++L.drop L.length=L.map clipR:=by simp
 have h1:=h.1;rw[e]at h1;refine⟨⟨hgl.1,Nat.lt_of_lt_of_le hgl.2 (Nat.le_trans h.2.2.1 hz)⟩,fun i r hi j v hv=>?_,fun i r hi=>?_⟩
 · have hj:j<7:=by have:=(List.getElem?_eq_some_iff.1 hv).1;rw[ndV_length]at this;exact this
   have:=h1.cells (g:=g) rfl (i*7+j) v (by rw[ndsV_get _ _ _ hj,hi];exact hv);rw[Addr.add_lit,Nat.zero_add]at this;exact (World.cell?_of_block (w:=wr) (a:=⟨g,i*7+j,none⟩) (hb g (by omega) (by omega))).trans this
 rw[List.getElem?_map]at hi;cases hx:L[i]? with
 | none=>rw[hx]at hi;cases hi
 | some x =>
 rw[hx]at hi;cases hi;have hR:=hr.rows i x hx;have hb:∀k t,own k=t→4≤t→wF.heap[k]?=w7.heap[k]?:=fun k t e h4=>(hb k (by omega) (by omega)).trans (h.2.1 k (hr.lt k (by omega)).2 (fun e2=>by subst e2;omega))
 exact⟨rowC_clip (ownsRow_of_block hR.k fun k e=>hb k _ (hR.tk k e) (by omega)),rowC_clip (ownsRow_of_block hR.s fun k e=>hb k _ (hR.ts k e) (by omega)),rowC_clip2 (hR.u.of_block fun k e=>hb k _ (hR.tu k e) (by omega))⟩
theorem FX.of_block {b:Nat} {x y:Value} {w w':World} (h:FX b x y w) (hb:w'.heap[b]?=w.heap[b]?) (hz:w.heap.size≤w'.heap.size):FX b x y w' :=
 ⟨(World.cell?_of_block (w:=w) (a:=⟨b,0,none⟩) hb).trans h.1,(World.cell?_of_block (w:=w) (a:=⟨b,1,none⟩) hb).trans h.2.1,fun o=>(World.frozen?_of_block (w:=w) (a:=⟨b,o,none⟩) hb).trans (h.2.2.1 o),Nat.lt_of_lt_of_le h.2.2.2 hz⟩
def EndS (R F:Nat) (a b:Value) (w:World):Prop:=w.cell? ⟨R,0,none⟩=some a∧w.cell? ⟨R,1,none⟩=some b∧FX F (.int .i64 0) (.int .i64 0) w
set_option maxRecDepth 100000 in
theorem tv_Read (w:World) (hw:RW Tb w) (s:ByteArray) (hs:s.size≤20000000) (i:Int) (n:Nat) (hi:i=n) (hn:n≤s.size) (around:Int) (k:Nat) (hk:(min (max around 0) 256:Int)=k) (X:Pl.Res (Nat × Nat × Pl.Nds)) (hX:Pl.readS ⟨Pl.strS Tb,Pl.scalS⟩ (bs s) n k=X) (hne:X ≠ .non) :
    Calls Tryz.prog 6 #[.string s,.int .i64 i,.int .i64 around] w (ReadPost2 s w X):=by
 subst hi;have hk256:k≤256:=by omega
 unfold Pl.readS at hX;rw[show min k 256+1=k+1 from by omega]at hX;have HX:=Lib.hid hX;have HN:=Lib.hid hne;have HG:=Lib.hid (GW.of hw.int hw.q);have t0:decide ((n:Int)<0)=false:=by simp
 have t1:decide ((s.size:Int)<(n:Int))=false:=by simp;omega
 have t2:decide (s.size<n)=false:=by simp;omega
 have wk:IntKind.i64.wrap ((k:Int)+1)=(k:Int)+1:=IntWalk.i64_in _ ⟨by omega,by omega⟩;have hmm := @run_makeMap Tryz.prog;clear hX hne hw;go_enter Tryz.func6,Tryz.ntmps6;go_wp2_with fail;have hstart:=RdV.start w ((w.alloc (.cells #[nilV,.int .i64 0] 28)).alloc (.cells #[.int .i64 0,.int .i64 0] 31)) s (by simp;omega);simp only[World.size_alloc]at hstart;obtain⟨W0,hW0⟩:∃v,((((w.alloc (.cells #[nilV,.int .i64 0] 28)).alloc (.cells #[.int .i64 0,.int .i64 0] 31)).alloc (.map #[] 0)).alloc (.cells #[nilV,.int .i64 0,.string s,.map (some (w.heap.size+1+1))] 66))=v:=⟨_,rfl⟩
 have hg0:Gr w W0:=by subst hW0;exact ((((Gr.refl w).alloc _).alloc _).alloc _).alloc _
 have hT0:FX w.heap.size nilV (.int .i64 0) W0:=by
  subst hW0;exact (((FX.new w nilV (.int .i64 0) _).gr ((Gr.refl _).alloc _)).gr ((Gr.refl _).alloc _)).gr ((Gr.refl _).alloc _)
 have hF0:FX (w.heap.size+1) (.int .i64 0) (.int .i64 0) W0:=by
  subst hW0;have:=FX.new (w.alloc (.cells #[nilV,.int .i64 0] 28)) (.int .i64 0) (.int .i64 0) 31;simp only[World.size_alloc]at this;exact (this.gr ((Gr.refl _).alloc _)).gr ((Gr.refl _).alloc _)
 have hz0:w.heap.size+4≤W0.heap.size:=by subst hW0;simp
 rw[hW0]at hstart ⊢;obtain⟨own0,hown0⟩:∃o:Nat→Nat,(fun k=>if k=w.heap.size+1+1+1 then 1 else if k=w.heap.size+1+1 then 2 else 0)=o:=⟨_,rfl⟩
 have hlow:∀k,own0 k≠0→w.heap.size+2≤k:=by
  subst hown0;intro k hk;by_cases h1:k=w.heap.size+1+1+1
  · omega
  simp only[h1,if_false]at hk;by_cases h2:k=w.heap.size+1+1
  · omega
  simp only[h2,if_false]at hk;exact absurd rfl hk
 rw[hown0]at hstart;obtain⟨R,hRe⟩:∃R,w.heap.size+1+1+1=R:=⟨_,rfl⟩
 obtain⟨B,hBe⟩:∃B,w.heap.size+1+1=B:=⟨_,rfl⟩
 rw[hRe]at hstart ⊢;rw[hBe]at hstart ⊢;have hRn:w.heap.size+3=R:=by omega
 clear hW0 hown0 hRe hBe;have hn0:¬FV own0 w.heap.size:=fun h=>by have:=hlow _ h;omega
 have hn1:¬FV own0 (w.heap.size+1):=fun h=>by have:=hlow _ h;omega
 refine (show Calls Tryz.prog 18 #[.pointer (some ⟨R,0,none⟩),.int .i64 (n:Int),.int .i64 ((k:Int)+1)] W0 _ from tv_value ⟨Pl.strS Tb,Pl.scalS⟩ rfl rfl s hs R B w.heap.size 0 258 W0 nilV [] own0 hstart (HG.out.gr hg0) n (k+1) hn (by omega) X HX.out HN.out).mono ?_;cases X with
 | non=>exact absurd rfl HN.out
 | bad c p =>
  rintro e w1 ⟨rfl,hc,F',hst,x0,x1,x2,x3,hRb⟩;have r1:w1.cell? ⟨R,1,none⟩=some x1:=by rw[cell_of_block hRb];rfl
  have rfz:∀o,w1.frozen? ⟨R,o,none⟩=false:=fun o=>unfrozen_of_block hRb o
  have hT1:=hT0.st hst hn0;have hF1:=hF0.st hst hn1;have HF2:=Lib.hid ((hF1.other (b2:=R) (o:=1) (by omega) (.int .i64 0)).set (.int .i64 c) (.int .i64 p));have HT2:=Lib.hid (((hT1.other (b2:=R) (o:=1) (by omega) (.int .i64 0)).other (b2:=w.heap.size+1) (o:=0) (by omega) (.int .i64 c)).other (b2:=w.heap.size+1) (o:=1) (by omega) (.int .i64 p));have hgr1:Gr w w1:=hst.below hg0 (fun k hk=>by have:=hlow k hk;omega);have HGR:=Lib.hid hgr1;obtain⟨f0',f1',ff,fl⟩:=hF1;have hc':¬(c:Int)=0:=by omega
  have HC:=Lib.hid hc;clear hst hT1 hRb hgr1 hc hstart hT0 hF0;go_wp2_with fail;refine (tv_fine_no c p hc' _).mono ?_;rintro e w2 ⟨rfl,g2⟩;obtain⟨u0,u1,uf,ul⟩:=HF2.out.gr g2;obtain⟨v0,v1,vf,vl⟩:=HT2.out.gr g2;have HGR2:Hid (Gr w w2):=by
   refine Gr.trans ?_ g2;exact ((HGR.out.setCell (p:=⟨R,1,none⟩) (by show w.heap.size≤R;omega) _).setCell (p:=⟨w.heap.size+1,0,none⟩) (by show w.heap.size≤w.heap.size+1;omega) _).setCell (p:=⟨w.heap.size+1,1,none⟩) (by show w.heap.size≤w.heap.size+1;omega) _
  clear g2 f0' f1' ff fl r1 rfz;have hgr2:=HGR2.out;go_wp2_with fail
  go_region
  all_goals go_wp2_with fail
  all_goals exact bodyPost_ret (v := .tuple #[.agg #[nilV,.int .i64 0],.int .i64 0,fv c p]) (by simp[results,Tryz.results6,go_sem,u0,u1,uf,ul,v0,v1,vf,vl]) rfl ⟨rfl,HC.out,Gr.auto⟩
 | ok r =>
  obtain⟨i,m,st⟩:=r;rintro e w1 ⟨rfl,hm,hi,nv1,L1,own1,hr1,rfl,hst,hown⟩;rw[List.length_map]at hi;have hlow1:∀k,own1 k≠0→w.heap.size+2≤k:=fun k hk=>by
   rcases hown k hk with e|e
   · exact hlow k e
   omega
  have hm0:¬FV own1 w.heap.size:=fun h=>by have:=hlow1 _ h;omega
  have hm1:¬FV own1 (w.heap.size+1):=fun h=>by have:=hlow1 _ h;omega
  have hT1:=hT0.st hst hn0;have hF1:=hF0.st hst hn1;obtain⟨r0,r1,r2,r3,rfz⟩:=hr1.cells;have HF2:=Lib.hid ((hF1.other (b2:=R) (o:=1) (by omega) (.int .i64 i)).set (.int .i64 0) (.int .i64 0));have HT2:=Lib.hid (((hT1.other (b2:=R) (o:=1) (by omega) (.int .i64 i)).other (b2:=w.heap.size+1) (o:=0) (by omega) (.int .i64 0)).other (b2:=w.heap.size+1) (o:=1) (by omega) (.int .i64 0));have HR2:=Lib.hid (((hr1.setRoot i).setCell (p:=⟨w.heap.size+1,0,none⟩) hm1 (.int .i64 0)).setCell (p:=⟨w.heap.size+1,1,none⟩) hm1 (.int .i64 0));have hgr1:Gr w w1:=hst.below hg0 (fun k hk=>by have:=hlow k hk;omega);have HGR:=Lib.hid hgr1;obtain⟨f0',f1',ff,fl⟩:=hF1;have HLOW1:=Lib.hid hlow1;clear hst hT1 hgr1 hown hstart hT0 hF0 r0 r2 r3 hlow1 hlow hr1;go_wp2_with fail;refine (tv_fine_yes _).mono ?_;rintro e w2 ⟨rfl,g2⟩;have HF3:=Lib.hid (HF2.out.gr g2);have HT3:=Lib.hid (HT2.out.gr g2);have hr3:=HR2.out.gr g2;have HGR2:Hid (Gr w w2):=by
   refine Gr.trans ?_ g2;exact ((HGR.out.setCell (p:=⟨R,1,none⟩) (by show w.heap.size≤R;omega) _).setCell (p:=⟨w.heap.size+1,0,none⟩) (by show w.heap.size≤w.heap.size+1;omega) _).setCell (p:=⟨w.heap.size+1,1,none⟩) (by show w.heap.size≤w.heap.size+1;omega) _
  obtain⟨g,cap,cur,rfl,hgb,hgl,hgo,hgR,hgB,hgh,hgs,hgc,hgm,hgt⟩:=hr3.form (by omega);obtain⟨s0,s1,s2,s3,sz⟩:=hr3.cells;have hcut0:CutI w2 R w.heap.size g cap L1 0 w2:=by
   refine⟨?_,fun _ _ _=>rfl,Nat.le_refl _,rfl,rfl,rfl⟩
   simpa using hr3.nodes
  have HCUT0:=Lib.hid hcut0;have HR3:=Lib.hid hr3;have hgn:w.heap.size+2≤g:=HLOW1.out g (by omega);have hLm:L1.length≤9223372036854775807:=by unfold maxLen at hgm;omega
  have HCAP:=Lib.hid (show L1.length≤cap∧cap≤9223372036854775807 from ⟨hgc,by unfold maxLen at hgm;omega⟩);clear g2 f0' f1' ff fl r1 rfz hgh hgs hgt hcut0 hr3 HF2 HT2 HR2 HGR hgc hgm;go_wp2_with fail
  go_loopw [52] (fun v wr=>∃j:Nat,v = .int .i64 j∧j≤L1.length∧CutI w2 R w.heap.size g cap L1 j wr) (fun v _=>L1.length-(intOf v).toNat)
  case atStart=>exact⟨0,rfl,by omega,HCUT0.out⟩
  case round =>
   obtain⟨j,rfl,hj,hcut⟩:=hrel;have HCUT:=Lib.hid hcut;have hRg:R≠g:=Ne.symm hgR;have hR2:=HR3.out.R_lt.2;have hRb:=hcut.2.1 R hR2 hRg;have q0:wr.cell? ⟨R,0,none⟩=some (.slice (some ⟨g,0,none⟩) L1.length cap):=(World.cell?_of_block (w:=w2) (a:=⟨R,0,none⟩) hRb).trans s0;have q1:wr.cell? ⟨R,1,none⟩=some (.int .i64 i):=(World.cell?_of_block (w:=w2) (a:=⟨R,1,none⟩) hRb).trans s1;have qz:∀o,wr.frozen? ⟨R,o,none⟩=false:=fun o=>(World.frozen?_of_block (w:=w2) (a:=⟨R,o,none⟩) hRb).trans (sz o)
   clear hcut hRb;by_cases hjl:j<L1.length
   · have d1:decide ((j:Int)<(L1.length:Int))=true:=by simp;omega
     have d2:decide (j<L1.length)=true:=by simp;omega
     have i1:(0:Int)≤(j:Int):=by omega
     have i2:(j:Int)<(L1.length:Int):=by omega
     have wj:IntKind.i64.wrap ((j:Int)+1)=(j:Int)+1:=IntWalk.i64_in _ ⟨by omega,by omega⟩;obtain⟨rj,hrj⟩:∃rj,L1[j]?=some rj:=⟨_,List.getElem?_eq_getElem hjl⟩
     have HRJ:=Lib.hid hrj;have HRW:=Lib.hid (HR3.out.rows j rj hrj);have hS:CutNd g j rj wr.drew:=HCUT.out.cells rj hrj;have hstep:=HCUT.out.step rj hrj;obtain⟨ka,kn,hka⟩:=clip_lit HRW.out.k;obtain⟨sa,sn,hsa⟩:=clip_lit HRW.out.s;obtain⟨ua,un,hua⟩:=clip_litC HRW.out.u;have hkc:=clip_strs_own HRW.out.k;have hsc:=clip_spans_own HRW.out.s;have huc:=clip_ints_rowC HRW.out.u;rw[hka]at hkc hstep;rw[hsa]at hsc hstep;rw[hua]at huc hstep;have HKC:=Lib.hid hkc;have HSC:=Lib.hid hsc;have HUC:=Lib.hid huc;have HSTEP:=Lib.hid hstep;clear hrj hstep hka hsa hua hkc hsc huc;go_wp2_with fail;refine Reg.begin' (W:=fun i=>i != 20 && i != 23 && i != 26) (S:=CutNd g j rj) (by kernel_rfl) ?_;refine Reg.ty 0 ?_;refine Reg.ty 1 ?_;refine Reg.ty 2 ?_;refine Reg.ty 3 ?_;refine Reg.ty 4 ?_;refine Reg.ty 5 ?_;refine Reg.ty 8 ?_;refine Reg.ty 9 ?_;refine Reg.ty 10 ?_;refine Reg.ty 13 ?_;refine Reg.ty 14 ?_;refine Reg.ty 15 ?_;refine Reg.tl 6 hS ?_ (hy:=by intro w hSw;obtain⟨x1,x2,x3,xf⟩:=hSw;go_simp;try with_reducible rfl);refine Reg.tl 11 hS ?_ (hy:=by intro w hSw;obtain⟨x1,x2,x3,xf⟩:=hSw;go_simp;try with_reducible rfl);refine Reg.tl 16 hS ?_ (hy:=by intro w hSw;obtain⟨x1,x2,x3,xf⟩:=hSw;go_simp;try with_reducible rfl);refine Reg.on 7 ?_;go_simp;refine (HKC.out _).mono ?_;rintro e w4 ⟨rfl,rfl⟩;refine⟨by first|exact hS|exact fun _=>hS|exact fun _ _=>hS,?_⟩;refine Reg.pt ?_;refine Reg.on 12 ?_;go_simp;refine (HSC.out _).mono ?_;rintro e w4 ⟨rfl,rfl⟩;refine⟨by first|exact hS|exact fun _=>hS|exact fun _ _=>hS,?_⟩;refine Reg.pt ?_;refine Reg.on 17 ?_;go_simp;refine (HUC.out _).mono ?_;rintro e w4 ⟨rfl,rfl⟩;refine⟨by first|exact hS|exact fun _=>hS|exact fun _ _=>hS,?_⟩;refine Reg.pt ?_;obtain⟨p1,p2,p3,pf⟩:=(show CutNd g j rj wr from hS)
     refine Reg.ty 18 ?_;refine Reg.ty 19 ?_;refine Reg.on 20 ?_;go_simp;refine Reg.ty 21 ?_;refine Reg.ty 22 ?_;refine Reg.on 23 ?_;go_simp;refine Reg.ty 24 ?_;refine Reg.ty 25 ?_;refine Reg.on 26 ?_;go_simp;refine Reg.done (by kernel_rfl) ?_ _;go_wp2_with fail
     go_roundw
     case rel=>exact⟨j+1,by go_num,by omega,HSTEP.out⟩
     case measure=>simp[intOf];omega
   have d1:decide ((j:Int)<(L1.length:Int))=false:=by simp;omega
   have d2:decide (j<L1.length)=false:=by simp;omega
   have hjL:j=L1.length:=by omega
   have hTg:w.heap.size≠g:=by omega
   have hFg:w.heap.size+1≠g:=by omega
   have HT4:=Lib.hid (HT3.out.of_block (HCUT.out.2.1 _ HT3.out.2.2.2 hTg) HCUT.out.2.2.1);have HF4:=Lib.hid (HF3.out.of_block (HCUT.out.2.1 _ HF3.out.2.2.2 hFg) HCUT.out.2.2.1);have HGR4:=Lib.hid (HCUT.out.gr HGR2.out (by omega));have hRT:R≠w.heap.size:=by omega
   have hRF:R≠w.heap.size+1:=by omega
   go_wp2_with fail;refine (clip_nodes g L1.length cap HCAP.out.1 HCAP.out.2 _).mono ?_;rintro e w3 ⟨rfl,rfl⟩;go_wp2_with fail;obtain⟨wS,hwS⟩:∃v,wr.setCell ⟨R,0,none⟩ (.slice (some ⟨g,0,none⟩) L1.length L1.length)=v:=⟨_,rfl⟩
   have hS:EndS R (w.heap.size+1) (.slice (some ⟨g,0,none⟩) L1.length L1.length) (.int .i64 i) wS.drew:=by
    subst hwS;refine⟨?_,?_,HF4.out.other hRF _⟩
    · show (wr.setCell ⟨R,0,none⟩ _).cell? _=_;rw[World.cell?_setCell_same' _ _ _ (by rw[q0];rfl)]
    show (wr.setCell ⟨R,0,none⟩ _).cell? _=_;rw[World.cell?_setCell_other _ _ _ _ (by simp)];exact q1
   have hTS:FX w.heap.size nilV (.int .i64 0) wS.drew:=by subst hwS;exact HT4.out.other hRT _
   have HGRS:Hid (Gr w wS):=by subst hwS;exact HGR4.out.setCell (p:=⟨R,0,none⟩) (by show w.heap.size≤R;omega) _
   have HBS:Hid (∀k,own1 k≠0→own1 k≠1→wS.drew.heap[k]?=wr.heap[k]?):=by
    subst hwS;intro k h0 h1;exact Below.heap_setCell _ _ _ _ (fun e=>by rw[show k=R from e]at h1;exact h1 HR3.out.oR)
   have HZS:Hid (wr.heap.size≤wS.drew.heap.size):=by subst hwS;show wr.heap.size≤(wr.setCell _ _).heap.size;simp[World.setCell]
   rw[hwS];clear hwS q0 q1 qz;refine Reg.begin' (W:=fun i=>i != 8) (S:=EndS R (w.heap.size+1) (.slice (some ⟨g,0,none⟩) L1.length L1.length) (.int .i64 i)) (by kernel_rfl) ?_;refine Reg.ty 0 ?_;refine Reg.ty 1 ?_;refine Reg.ty 2 ?_;refine Reg.ty 4 ?_;refine Reg.tl 3 hS ?_ (hy:=by intro w hSw;obtain⟨x1,x2,x3,x4,x5,x6⟩:=hSw;go_simp;try with_reducible rfl);refine Reg.tl 5 hS ?_ (hy:=by intro w hSw;obtain⟨x1,x2,x3,x4,x5,x6⟩:=hSw;go_simp;try with_reducible rfl);obtain⟨p1,p2,p3,p4,p5,p6⟩:=(show EndS R (w.heap.size+1) (.slice (some ⟨g,0,none⟩) L1.length L1.length) (.int .i64 i) wS from hS)
   obtain⟨v0,v1,vf,vl⟩:=(show FX w.heap.size nilV (.int .i64 0) wS from hTS)
   refine Reg.on 6 ?_;go_simp;have hS2:EndS R (w.heap.size+1) (.slice (some ⟨g,0,none⟩) L1.length L1.length) (.int .i64 i) ((wS.drew.setCell ⟨w.heap.size,0,none⟩ (.slice (some ⟨g,0,none⟩) L1.length L1.length)).setCell ⟨w.heap.size,1,none⟩ (.int .i64 i)):=by
    refine⟨?_,?_,(hS.2.2.other (by omega) _).other (by omega) _⟩
    · rw[World.cell?_setCell_other _ _ _ _ (by first|(simp;done)|(simp;omega)),World.cell?_setCell_other _ _ _ _ (by first|(simp;done)|(simp;omega))];exact p1
    rw[World.cell?_setCell_other _ _ _ _ (by first|(simp;done)|(simp;omega)),World.cell?_setCell_other _ _ _ _ (by first|(simp;done)|(simp;omega))];exact p2
   refine⟨by first|exact hS2|exact fun _=>hS2|exact fun _ _=>hS2,?_⟩;refine Reg.pt ?_;refine Reg.ty 7 ?_;refine Reg.on 8 ?_;go_simp;refine Reg.done (by kernel_rfl) ?_ _;go_wp2_with fail;refine bodyPost_ret (v := .tuple #[.agg #[.slice (some ⟨g,0,none⟩) L1.length L1.length,.int .i64 i],.int .i64 m,f0]) (by simp[results,Tryz.results6,go_sem,p3,p4,p5,p6,v0,v1,vf,vl]) rfl ?_;refine⟨g,L1.map clipR,by simp,hm,by simpa using hi,by simp[List.map_map,Function.comp_def,clipR],?_,?_⟩
   · have hct:=HCUT.out;rw[hjL]at hct;refine hct.tree HR3.out (fun k h0 h1=>?_) ?_
     · have hk0:k≠w.heap.size:=fun e=>hm0 (by rw[←e];exact h0)
       have hk1:k≠w.heap.size+1:=fun e=>hm1 (by rw[←e];exact h0)
       show (World.setCell _ _ _).heap[k]?=_;rw[Below.heap_setCell _ _ _ _ hk1,Below.heap_setCell _ _ _ _ hk1,Below.heap_setCell _ _ _ _ hk0,Below.heap_setCell _ _ _ _ hk0];exact HBS.out k h0 h1
     have:=HZS.out
     simpa [World.setCell]using this
   have hgs:=HGRS.out;exact Gr.auto
end Go.Proofs.YtkplelejagpkmaaGreatDoor
namespace Go.Proofs.YtkplelejagpkmaaGreatDoor
open Go.RowKit Go.Shelf Go.Joins
attribute [local go_sem] Oper.semAt_some
variable {Tb:Nat→UInt8 × UInt8}
theorem rowC_zero {w:World} {base e size n:Nat} {v:Value} {xs:List Value} (h:RowC w base e size v n xs) (h0:n=0):∃a c,v = .slice a 0 c:=by
 rcases rowC_form h with⟨rfl,_⟩|⟨g,cap,rfl,_,_⟩
 · exact⟨none,0,rfl⟩
 subst h0;exact⟨some ⟨g,0,none⟩,cap,rfl⟩
theorem TreeV.cells {w:World} {base g:Nat} {L:List NdR} (h:TreeV w base g L) (i:Nat) (r:NdR) (hr:L[i]?=some r) :
    w.cell? ⟨g,i*7,none⟩=some (.int .u8 r.nd.kind)∧w.cell? ⟨g,i*7+1,none⟩=some (strV r.nd.text)∧w.cell? ⟨g,i*7+2,none⟩=some r.kv∧w.cell? ⟨g,i*7+3,none⟩=some r.sv∧w.cell? ⟨g,i*7+4,none⟩=some r.uv ∧
    w.cell? ⟨g,i*7+5,none⟩=some (.int .i64 r.nd.sp.1)∧w.cell? ⟨g,i*7+6,none⟩=some (.int .i64 r.nd.sp.2) :=
 ⟨h.cell i r hr 0 _ rfl,h.cell i r hr 1 _ rfl,h.cell i r hr 2 _ rfl,h.cell i r hr 3 _ rfl,h.cell i r hr 4 _ rfl,h.cell i r hr 5 _ rfl,h.cell i r hr 6 _ rfl⟩
set_option maxRecDepth 100000 in
theorem la_scalar (w:World) (base g:Nat) (L:List NdR) (h:TreeV w base g L) (root:Int) (i:Nat) (r:NdR) (hr:L[i]?=some r) (k:Nat) (hk:r.nd.kind=k) (t:ByteArray) (ht:r.nd.text=bs t) (hs:r.nd.subs=[]) (n:Nat) (hn:L.length=n) (hn2:n≤30000000) :
    Calls Tryz.prog 16 #[.agg #[.slice (some ⟨g,0,none⟩) n n,.int .i64 root],.int .i64 i,.int .u8 k,.string t] w fun e w'=>e = .returned (.bool true)∧Gr w w':=by
 subst hn;have hi:i<L.length:=(List.getElem?_eq_some_iff.1 hr).1;obtain⟨c0,c1,c2,c3,c4,c5,c6⟩:=h.cells i r hr;obtain⟨a,c,hu⟩:=rowC_zero (h.rows i r hr).2.2 (by rw[hs];rfl);rw[hk]at c0;rw[ht,strV_bs]at c1;rw[hu]at c4;have hg:=h.lt.2;have hi0:decide ((0:Int)≤(i:Int))=true:=by simp
 have hi1:(0:Int)≤(i:Int):=by omega
 have hi2:(i:Int)<(L.length:Int):=by omega
 have hi3:decide ((i:Int)<(L.length:Int))=true:=by simp;omega
 clear h hr hs ht hk hu c2 c3 c5 c6;go_enter Tryz.func16,Tryz.ntmps16;go_wp2_with fail
 go_ret
 exact⟨rfl,Gr.auto⟩
set_option maxRecDepth 100000 in
theorem la_root (w:World) (base g:Nat) (L:List NdR) (h:TreeV w base g L) (i:Nat) (r:NdR) (hr:L[i]?=some r) (k:Nat) (hk:r.nd.kind=k) (n:Nat) (hn:L.length=n) (hn2:n≤30000000) (a1 a2 a3:Option Addr) (n1 n2 n3 d1 d2 d3:Nat) (e1:r.kv = .slice a1 n1 d1) (e2:r.sv = .slice a2 n2 d2) (e3:r.uv = .slice a3 n3 d3) :
    Calls Tryz.prog 8 #[.agg #[.slice (some ⟨g,0,none⟩) n n,.int .i64 i],.int .u8 k] w fun e w'=>e = .returned (.agg #[.int .u8 k,strV r.nd.text,.slice a1 n1 d1,.slice a2 n2 d2,.slice a3 n3 d3,.int .i64 r.nd.sp.1,.int .i64 r.nd.sp.2])∧Gr w w':=by
 subst hn;have hi:i<L.length:=(List.getElem?_eq_some_iff.1 hr).1;obtain⟨c0,c1,c2,c3,c4,c5,c6⟩:=h.cells i r hr;rw[hk]at c0;rw[e1]at c2;rw[e2]at c3;rw[e3]at c4;have hi5:decide (L.length≤i)=false:=by simp;omega
 have hg:=h.lt.2;have hi0:decide ((i:Int)<0)=false:=by simp
 have hi1:(0:Int)≤(i:Int):=by omega
 have hi2:(i:Int)<(L.length:Int):=by omega
 have hi3:decide ((i:Int) ≥ (L.length:Int))=false:=by simp;omega
 have hi4:decide ((L.length:Int)≤(i:Int))=false:=by simp;omega
 clear h hr hk e1 e2 e3;go_enter Tryz.func8,Tryz.ntmps8;go_wp2_with fail;exact bodyPost_ret (v := .agg #[.int .u8 k,strV r.nd.text,.slice a1 n1 d1,.slice a2 n2 d2,.slice a3 n3 d3,.int .i64 r.nd.sp.1,.int .i64 r.nd.sp.2]) (by simp[results,Tryz.results8,go_sem]) rfl ⟨rfl,Gr.auto⟩
set_option maxRecDepth 100000 in
theorem la_fails (w:World) (hw:RW Tb w) (s:ByteArray) (hs:s.size≤20000000) (around:Int) (k:Nat) (hk:(min (max around 0) 256:Int)=k) (c p:Nat) (hX:Pl.readS ⟨Pl.strS Tb,Pl.scalS⟩ (bs s) 0 k = .bad c p) :
    Calls Tryz.prog 11 #[.string s,.int .i64 0,.int .i64 around,.int .i64 c,.int .i64 p] w fun e w'=>e = .returned (.bool true)∧Gr w w':=by
 have HR:=Lib.hid (tv_Read w hw s hs 0 0 rfl (by omega) around k hk _ hX (by simp));clear hX;go_enter Tryz.func11,Tryz.ntmps11;go_wp2_with fail;refine HR.out.mono ?_;rintro e w1 ⟨rfl,hc,g1⟩;go_wp2_with fail
 go_ret
 exact⟨rfl,Gr.auto⟩
set_option maxRecDepth 100000 in
theorem la_same (w:World) (ga gb n ca cb:Nat) (xs:List Value) (hx:∀v∈xs,∃t,v = .string t) (hn:xs.length=n) (ha:∀j v,xs[j]?=some v→w.cell? ⟨ga,j,none⟩=some v) (hb:∀j v,xs[j]?=some v→w.cell? ⟨gb,j,none⟩=some v) (hn2:n≤30000000) (a b:Value)
    (hva:a = .slice (some ⟨ga,0,none⟩) n ca) (hvb:b = .slice (some ⟨gb,0,none⟩) n cb) :
    Calls Tryz.prog 12 #[a,b] w fun e w'=>e = .returned (.bool true)∧Gr w w':=by
 subst hva hvb;have hb0:((n:Int) != (n:Int))=false:=by simp
 have HX:=Lib.hid hx;have HN:=Lib.hid hn;have HA:=Lib.hid ha;have HB:=Lib.hid hb;clear hx hn ha hb;go_enter Tryz.func12,Tryz.ntmps12;go_wp2_with fail
 go_loopw [5] (fun v wr=>∃i:Nat,v = .int .i64 i∧i≤n∧∃m,wr=w.drewN m) (fun v _=>n-(intOf v).toNat)
 case atStart=>exact⟨0,rfl,by omega,0,rfl⟩
 case round =>
  obtain⟨i,rfl,hi,m,rfl⟩:=hrel;by_cases h:i<n
  · have h0:decide ((i:Int)<(n:Int))=true:=by simp;omega
    have h0n:decide (i<n)=true:=by simp;omega
    have i1:(0:Int)≤(i:Int):=by omega
    have i2:(i:Int)<(n:Int):=by omega
    have wi:IntKind.i64.wrap ((i:Int)+1)=(i:Int)+1:=IntWalk.i64_in _ ⟨by omega,by omega⟩;obtain⟨v,hv⟩:∃v,xs[i]?=some v:=⟨_,List.getElem?_eq_getElem (by rw[HN.out];exact h)⟩
    obtain⟨t,rfl⟩:=HX.out v (List.mem_of_getElem? hv);have e1:=HA.out i _ hv;have e2:=HB.out i _ hv;clear hv;go_wp2_with fail
    go_quiet (fail)
    go_wp2_with fail
    go_roundw
    case rel=>exact⟨i+1,by go_num,by omega,_,rfl⟩
    case measure=>simp[intOf];omega
  have h0:decide ((i:Int)<(n:Int))=false:=by simp;omega
  have h0n:decide (i<n)=false:=by simp;omega
  go_wp2_with fail;exact bodyPost_ret (v := .bool true) (by simp[results,Tryz.results12,go_sem]) rfl ⟨rfl,(Gr.refl w).drewN _⟩
end Go.Proofs.YtkplelejagpkmaaGreatDoor
namespace Go.Proofs.YtkplelejagpkmaaGreatDoor
open Go.RowKit Go.Shelf Go.Joins
attribute [local go_sem] Oper.semAt_some
set_option maxRecDepth 100000 in
theorem la_same0 (w:World) (oa ob:Option Addr) (ca cb:Nat):Calls Tryz.prog 12 #[.slice oa 0 ca,.slice ob 0 cb] w fun e w'=>e = .returned (.bool true)∧Gr w w':=by
 go_enter Tryz.func12,Tryz.ntmps12;go_wp2_with fail
 go_loopw [5] (fun v wr=>v = .int .i64 0∧wr=w) (fun v _=>0)
 case atStart=>exact⟨rfl,rfl⟩
 case round =>
  obtain⟨rfl,rfl⟩:=hrel;go_wp2_with fail;exact bodyPost_ret (v := .bool true) (by simp[results,Tryz.results12,go_sem]) rfl ⟨rfl,Gr.refl _⟩
theorem la_sameK (w:World) {b1 b2 n:Nat} {va vb:Value} {ws:List Pl.Bs} (hn:n=ws.length) (ha:RowC w b1 9 1 va n (keysV ws)) (hb:RowC w b2 9 1 vb n (keysV ws)) (hn2:n≤30000000) :
    Calls Tryz.prog 12 #[va,vb] w fun e w'=>e = .returned (.bool true)∧Gr w w':=by
 by_cases h0:n=0
 · obtain⟨a,c,rfl⟩:=rowC_zero ha h0;obtain⟨a2,c2,rfl⟩:=rowC_zero hb h0;exact la_same0 w _ _ _ _
 obtain⟨ga,ca,hva,_⟩:=ha.form (by omega);obtain⟨gb,cb,hvb,_⟩:=hb.form (by omega);exact la_same w ga gb n ca cb (keysV ws) (fun v hv=>by
  obtain⟨x,_,rfl⟩:=List.mem_map.1 hv;exact⟨_,rfl⟩) (by simp[keysV,hn]) (fun j v hv=>ha.cells (g:=ga) (by rw[hva];rfl) j v hv) (fun j v hv=>hb.cells (g:=gb) (by rw[hvb];rfl) j v hv) hn2 _ _ hva hvb
end Go.Proofs.YtkplelejagpkmaaGreatDoor
