/-
 The walks and plain laws that the claim rests on, part 28.
-/
import Derived.Test.YtfogfaagjpebcaaGreatDoorP00
import Derived.Test.YtfogfaagjpebcaaGreatDoorP02
import Derived.Test.YtfogfaagjpebcaaGreatDoorP04
import Derived.Test.YtfogfaagjpebcaaGreatDoorP06
import Derived.Test.YtfogfaagjpebcaaGreatDoorP10
import Derived.Test.YtfogfaagjpebcaaGreatDoorP12
import Derived.Test.YtfogfaagjpebcaaGreatDoorP17
import Derived.Test.YtfogfaagjpebcaaGreatDoorP25
import Derived.WalkMore
import Derived.Maps.Own
set_option maxHeartbeats 16000000
set_option linter.all false
set_option linter.unusedVariables false
set_option linter.unusedSimpArgs false
namespace Go.Proofs.YtfogfaagjpebcaaGreatDoor
open Go.RowKit Go.Shelf Go.Joins
attribute [local go_sem] Oper.semAt_some
variable {Tb:Nat→UInt8 × UInt8}
structure GW (T:Nat→UInt8 × UInt8) (base:Nat) (w:World):Prop where
 int:IntW w
 q:QW T w
 es:13<base
 sh:15<base
 rad:12<base
 max:0<base
 err:11<base
 pow:1<base
theorem GW.st {base:Nat} {w w':World} {F F':Nat→Prop} (h:GW Tb base w) (g:St F F' w w') (hF:∀k,F k→base≤k):GW Tb base w':=by
 have hc:∀ {b o:Nat} {v},b<base→w.cell? ⟨b,o,none⟩=some v→w'.cell? ⟨b,o,none⟩=some v:=fun hb e=>((g.use _ (Lib.lt_of_cell e) (fun hf=>by have:=hF _ hf;simp only at this;omega)).1 _).trans e
 obtain⟨m,hm⟩:=h.int.max;obtain⟨ep,he⟩:=h.int.err;obtain⟨ev,hev,hev2⟩:=h.q.es;refine⟨?_,⟨⟨ev,hc h.es hev,hev2⟩,fun j v hj=>hc h.sh (h.q.sh j v hj)⟩,h.es,h.sh,h.rad,h.max,h.err,h.pow⟩;refine⟨fun j v hj=>hc h.rad (h.int.rad j v hj),⟨m,hc h.max hm⟩,⟨ep,hc h.err he⟩,?_⟩;have hp:=h.int.pow;have hgn:Tryz.prog.globalNamed "internal/strconv.uint64pow10" = some 1:=by kernel_rfl
 unfold Lib.TabIs World.var? at hp ⊢;rw[hgn]at hp ⊢;simp only[Option.bind_some]at hp ⊢;have hlt:1<w.heap.size:=by
  exact J35
 rw[g.block _ hlt (fun hf=>by have:=hF _ hf;have:=h.pow;omega)];exact hp
theorem GW.gr {base:Nat} {w w':World} (h:GW Tb base w) (g:Gr w w'):GW Tb base w':=h.st (F:=fun _=>False) (F':=fun _=>False) (g.st) (fun _ e=>e.elim)
def RK (R:Nat) (w:World):Prop:=∃a b c d,w.heap[R]?=some (.cells #[a,b,c,d] 134 (0,0))
theorem RdV.rk {w:World} {R B base:Nat} {s:ByteArray} {root:Int} {nv:Value} {L:List NdR} {own:Nat→Nat} (h:RdV w R B base s root nv L own):RK R w:=⟨_,_,_,_,h.blk⟩
theorem RK.gr {R:Nat} {w w':World} (h:RK R w) (g:Gr w w'):RK R w':=by
 obtain⟨a,b,c,d,h⟩:=h;exact⟨a,b,c,d,(g.block (Array.getElem?_eq_some_iff.1 h).1).trans h⟩
theorem RK.set {R:Nat} {w:World} (h:RK R w) {b o:Nat} (hb:b≠R) (v:Value):RK R (w.setCell ⟨b,o,none⟩ v):=by
 obtain⟨x,y,z,u,h⟩:=h;exact⟨x,y,z,u,by rw[Below.heap_setCell _ _ _ _ (Ne.symm hb)];exact h⟩
theorem RK.drew {R:Nat} {w:World} (h:RK R w):RK R w.drew:=h
def ValPost (s:ByteArray) (R B base:Nat) (root:Int) (own:Nat→Nat) (w:World) (X:Pl.Res (Nat × Nat × Pl.Nds)) (e:Ending) (w':World):Prop :=
 match X with
 | .non=>True
 | .bad c p=>e = .returned (.tuple #[.int .i64 0,.int .i64 0,fv c p])∧c≠0∧∃F',St (FV own) F' w w'∧RK R w'
 | .ok (i,n,st')=>e = .returned (.tuple #[.int .i64 i,.int .i64 n,f0])∧n≤s.size∧i<st'.length ∧
     ∃nv' L' own',RdV w' R B base s root nv' L' own'∧L'.map (·.nd)=st'∧St (FV own) (FV own') w w'∧(∀k,own' k≠0→own k≠0∨w.heap.size≤k)
abbrev nilV:Value := .slice none 0 0
def leafR (k:Nat) (t:Pl.Bs) (a b:Nat):NdR:=⟨Pl.leaf k t a b,nilV,nilV,nilV⟩
theorem leaf_node (w W:World) (R B base:Nat) (s:ByteArray) (root:Int) (nv:Value) (L:List NdR) (own:Nat→Nat) (h:RdV w R B base s root nv L own) (g:Gr w W) (hr:Pl.room (L.map (·.nd))=true)
    (k:Nat) (h8:k≠8) (t:ByteArray) (a b:Nat) (kk:Int) (hkk:kk=k) (b':Int) (hb:b'=b) :
    Calls Tryz.prog 116 #[.pointer (some ⟨R,0,none⟩),.agg #[.int .u8 kk,.string t,nilV,nilV,nilV,.int .i64 a,.int .i64 b']] W fun e w' =>
     e = .returned (.int .i64 L.length)∧∃nv' own',RdV w' R B base s root nv' (L++[leafR k (bs t) a b]) own'∧St (FV own) (FV own') w w'∧(∀k,own' k≠0→own k≠0∨W.heap.size≤k)∧St (FV own) (FV own') W w':=by
 have hl:L.length≤30000000:=by simp[Pl.room]at hr;omega
 subst hb hkk;refine (tv_node W R B base s root nv L own (h.gr g) hl (leafR k (bs t) a b) rfl rfl rfl rfl rfl rfl (rowC_of (nilRow _ _ _ _)) (fun e=>absurd e h8) (fun k e=>by simp[leafR,Value.ownBlock]at e) k t nilV nilV nilV a b ?_).mono ?_
 · simp[ndV,leafR,Pl.leaf,bs]
 rintro e w' ⟨rfl,nv',own',h1,h2,h3⟩;have h2':St (FV own) (FV own') W w':=by
  refine⟨h2.os,h2.tape,h2.output,h2.size,fun k hk hn=>h2.block k hk (fun e=>e.elim hn (fun e=>by simp[leafR,Value.ownBlock]at e)),fun k hk=>?_⟩;rcases h2.own k hk with (e|e)|e
  · exact .inl e
  · simp[leafR,Value.ownBlock]at e
  exact .inr e
 refine⟨rfl,nv',own',h1,(g.st).trans h2',fun k hk=>?_,h2'⟩;rcases h3 k hk with e|e|e
 · exact .inl e
 · simp[leafR,Value.ownBlock]at e
 exact .inr e
def FX (b:Nat) (x y:Value) (w:World):Prop:=w.cell? ⟨b,0,none⟩=some x∧w.cell? ⟨b,1,none⟩=some y∧(∀o,w.frozen? ⟨b,o,none⟩=false)∧b<w.heap.size
theorem FX.gr {b:Nat} {x y:Value} {w w':World} (h:FX b x y w) (g:Gr w w'):FX b x y w' :=
 ⟨(g.use.1 _ _ h.2.2.2).trans h.1,(g.use.1 _ _ h.2.2.2).trans h.2.1,fun o=>(g.use.2.1 _ _ h.2.2.2).trans (h.2.2.1 o),Nat.lt_of_lt_of_le h.2.2.2 g.size⟩
theorem FX.st {b:Nat} {x y:Value} {w w':World} {F F':Nat→Prop} (h:FX b x y w) (g:St F F' w w') (hb:¬F b):FX b x y w' :=
 ⟨((g.use _ h.2.2.2 hb).1 _).trans h.1,((g.use _ h.2.2.2 hb).1 _).trans h.2.1,fun o=>((g.use _ h.2.2.2 hb).2 _).trans (h.2.2.1 o),Nat.lt_of_lt_of_le h.2.2.2 g.size⟩
theorem FX.set {b:Nat} {x y:Value} {w:World} (h:FX b x y w) (x' y':Value):FX b x' y' ((w.setCell ⟨b,0,none⟩ x').setCell ⟨b,1,none⟩ y'):=by
 obtain⟨h0,h1,hf,hl⟩:=h;refine⟨?_,?_,fun o=>by simp[hf],by simpa using hl⟩
 · exact J18
 exact J17
theorem FX.new (w:World) (x y:Value) (T:TypeId):FX w.heap.size x y (w.alloc (.cells #[x,y] T)):=⟨by simp,by simp,fun o=>by simp[go_sem],by simp⟩
set_option maxRecDepth 100000 in
theorem tv_text (E:Pl.Env) (hE:EnvStr Tb E) (w:World) (R B base:Nat) (s:ByteArray) (root:Int) (nv:Value) (L:List NdR) (own:Nat→Nat) (h:RdV w R B base s root nv L own) (hgw:GW Tb base w) (hs:s.size≤20000000)
    (i d:Int) (n:Nat) (hi:i=n) (hn:n≤s.size) (X:Pl.Res (Nat × Nat × Pl.Nds))
    (hX:(match E.str ((bs s).drop n) with
     | .non => .non
     | .bad c p => .bad c (n+p)
     | .ok (t,m)=>if Pl.room (L.map (·.nd)) then .ok ((L.map (·.nd)).length,n+m,L.map (·.nd)++[Pl.leaf 3 t n (n+m)]) else .non:Pl.Res (Nat × Nat × Pl.Nds))=X) (hne:X ≠ .non) :
    Calls Tryz.prog 92 #[.pointer (some ⟨R,0,none⟩),.int .i64 i,.int .i64 d] w (ValPost s R B base root own w X):=by
 subst hi;rw[show E.str=Pl.strS Tb from hE]at hX;obtain⟨c0,c1,c2,c3,fz⟩:=h.cells;have hR:=h.R_lt;have H:=Lib.hid h;cases hq:Pl.strS Tb ((bs s).drop n) with
 | non=>rw[hq]at hX;exact absurd hX.symm hne
 | bad c p =>
  rw[hq]at hX;subst hX;have HQ:=Lib.hid (fun W (g:Gr w W)=>tq_Read Tb s n n rfl hn hs _ hq (by simp) W (hgw.q.gr g));clear hgw;clear hne hq fz c0 c1 c3 h;go_enter Tryz.func92,Tryz.ntmps92;go_wp2_with fail;refine (HQ.out _ Gr.auto).mono ?_;rintro e w1 ⟨rfl,hc,g1⟩;have hc':¬(c:Int)=0:=by omega
  have hnp:((n+p:Nat):Int)=(n:Int)+(p:Int):=by simp
  have hF1:=(FX.new w (.int .i64 0) (.int .i64 0) 31).gr g1;have hF2:=Lib.hid (hF1.set (.int .i64 c) (.int .i64 (n+p:Nat)));obtain⟨f1,f2,f3,f4⟩:=hF1;go_wp2_with fail;refine (tv_fine_no c (n+p) hc' _).mono ?_;rintro e w2 ⟨rfl,g2⟩;obtain⟨q0,q1,qf,hl2⟩:=hF2.out.gr g2;go_wp2_with fail
  go_region
  all_goals go_wp2_with fail
  exact bodyPost_ret (v := .tuple #[.int .i64 0,.int .i64 0,fv c (n+p)]) (by simp[results,Tryz.results92,go_sem,q0,q1,qf,hl2]) rfl ⟨rfl,hc,FV own,St.auto,H.out.rk.gr Gr.auto⟩
 | ok r =>
  obtain⟨t,m⟩:=r;rw[hq]at hX;simp only at hX;cases hr:Pl.room (L.map (·.nd)) with
  | false=>rw[hr,if_neg (by simp)]at hX;exact absurd hX.symm hne
  | true =>
  rw[hr,if_pos rfl]at hX;subst hX;have HQ:=Lib.hid (fun W (g:Gr w W)=>tq_Read Tb s n n rfl hn hs _ hq (by simp) W (hgw.q.gr g));clear hgw;have HR:=Lib.hid hr;have hnR:Hid (¬FV own w.heap.size):=h.not_new (Nat.le_refl _);clear hne hq fz c0 c1 c3 h hr;go_enter Tryz.func92,Tryz.ntmps92;go_wp2_with fail;refine (HQ.out _ Gr.auto).mono ?_;rintro e w1 ⟨rfl,hnm,hm,g1⟩;have hF1:=(FX.new w (.int .i64 0) (.int .i64 0) 31).gr g1;have hF2:=Lib.hid (hF1.set (.int .i64 0) (.int .i64 0));obtain⟨f1,f2,f3,f4⟩:=hF1;have hnp:((n+m:Nat):Int)=(n:Int)+(m:Int):=by simp
  go_wp2_with fail;refine Z155 ?_;intro w2 g2;have hF3:=hF2.out.gr g2;have hG2:Gr w w2:=by
   refine Gr.trans (Gr.setCell (Gr.setCell (((Gr.refl w).alloc _).trans g1) (Nat.le_refl _) _) (Nat.le_refl _) _) g2
  clear g2 hF2 g1 f1 f2 f3 f4;go_wp2_with fail;have hS:FX w.heap.size (.int .i64 0) (.int .i64 0) w2.drew:=hF3.gr (Gr.refl _).drew;refine Reg.begin' (W:=fun i=>i != 11) (S:=FX w.heap.size (.int .i64 0) (.int .i64 0)) (by kernel_rfl) ?_;refine Z40 ?_;refine Z42 ?_;refine Reg.ty 5 ?_;refine Reg.ty 7 ?_;refine Reg.tl 8 hS ?_ (hy:=by intro w hSw;obtain⟨q0,q1,qf,ql⟩:=hSw;go_simp;try with_reducible rfl);refine Reg.on 6 ?_;go_simp;refine (leaf_node w w2.drew R B base s root nv L own H.out hG2.drew HR.out 3 (by omega) ⟨t.toArray⟩ n (n+m) 3 rfl _ hnp.symm).mono ?_;rintro e w3 ⟨rfl,nv',own',hr3,hst3,hown3,hst3'⟩;have hF4:=hS.st hst3' hnR.out;refine Z135 ?_;refine Reg.ty 9 ?_;refine Reg.ty 10 ?_;obtain⟨p0,p1,pf,pl⟩:=hF4;have hn3:¬FV own' w.heap.size:=by
   intro hf;rcases hown3 _ hf with e|e
   · exact hnR.out e
   have:=hS.2.2.2;omega
  have H3:=Lib.hid hr3;have HS3:=Lib.hid hst3;have HO3:=Lib.hid hown3;clear hr3 hst3 hown3 hst3';refine Reg.on 11 ?_;go_simp;refine Z12 ?_;go_wp2_with fail;refine bodyPost_ret (v := .tuple #[.int .i64 L.length,.int .i64 (n+m:Nat),f0]) (by simp[results,Tryz.results92,go_sem,p0,p1,pf,pl]) rfl ?_;refine⟨by simp,hnm,by simp,nv',_,own',(H3.out.setCell hn3 _).setCell hn3 _,by simp[leafR,bs],?_,fun k hk=>(HO3.out k hk).imp id (fun e=>Nat.le_trans hG2.size e)⟩;exact (HS3.out.setCell (.inr (Nat.le_refl _)) _).setCell (.inr (Nat.le_refl _)) _
end Go.Proofs.YtfogfaagjpebcaaGreatDoor
namespace Go.Proofs.YtfogfaagjpebcaaGreatDoor
open Go.RowKit Go.Joins
def keyWords (acc:List Pl.KW):List Pl.Bs:=acc.map (·.1)
def keySpans (acc:List Pl.KW):List (Nat × Nat):=acc.map (·.2)
structure KS (w W:World) (kv sv:Value) (acc:List Pl.KW):Prop where
 rows:Rows3 w W w.heap.size (fun _=>False) kv sv (.slice none 0 0) acc.length acc.length 0 (keysV (keyWords acc)) (spotsV (keySpans acc)) []
 k:NewB W w.heap.size #[kv,sv] 77 kv sv (.slice none 0 0)
 f:NewB W (w.heap.size+1) #[.int .i64 0,.int .i64 0] 31 kv sv (.slice none 0 0)
theorem KS.gr {w W W':World} {kv sv:Value} {acc:List Pl.KW} (h:KS w W kv sv acc) (g:Gr W W'):KS w W' kv sv acc:=⟨h.rows.gr g,h.k.gr g,h.f.gr g⟩
theorem KS.cells {w W:World} {kv sv:Value} {acc:List Pl.KW} (h:KS w W kv sv acc) :
    W.cell? ⟨w.heap.size,0,none⟩=some kv∧W.cell? ⟨w.heap.size,1,none⟩=some sv∧W.frozen? ⟨w.heap.size,0,none⟩=false∧W.frozen? ⟨w.heap.size,1,none⟩=false ∧
    W.cell? ⟨w.heap.size+1,0,none⟩=some (.int .i64 0)∧W.cell? ⟨w.heap.size+1,1,none⟩=some (.int .i64 0)∧W.frozen? ⟨w.heap.size+1,0,none⟩=false∧W.frozen? ⟨w.heap.size+1,1,none⟩=false :=
 ⟨(h.k.cell (i:=0) rfl).1,(h.k.cell (i:=1) rfl).1,(h.k.cell (i:=0) rfl).2,(h.k.cell (i:=1) rfl).2,(h.f.cell (i:=0) rfl).1,(h.f.cell (i:=1) rfl).1,(h.f.cell (i:=0) rfl).2,(h.f.cell (i:=1) rfl).2⟩
theorem KS.below {w W:World} {kv sv:Value} {acc:List Pl.KW} (h:KS w W kv sv acc):Gr w W:=h.rows.st.below (Gr.refl w) (fun _ hF=>hF.elim)
theorem KS.lt {w W:World} {kv sv:Value} {acc:List Pl.KW} (h:KS w W kv sv acc):w.heap.size+1<W.heap.size:=h.f.lt
def KeyS (w:World) (kv sv:Value) (V:World):Prop:=V.cell? ⟨w.heap.size,0,none⟩=some kv∧V.cell? ⟨w.heap.size,1,none⟩=some sv
theorem keyS_of {w V:World} {a b kv sv uv:Value} (h:NewB V w.heap.size #[a,b] 77 kv sv uv):KeyS w a b V:=⟨(h.cell (i:=0) rfl).1,(h.cell (i:=1) rfl).1⟩
theorem ks_put {w V:World} {kv sv:Value} {a b:Value} {t:Pl.Bs} {n e:Nat} {acc:List Pl.KW}
    (H:Rows3 w V w.heap.size (fun _=>False) kv sv (.slice none 0 0) (acc.length+1) (acc.length+1) 0 (keysV (keyWords acc)++[strV t]) (spotsV (keySpans acc)++[.int .i64 n,.int .i64 e]) [])
    (C:NewB V w.heap.size #[a,b] 77 kv sv (.slice none 0 0)) (Ff:NewB V (w.heap.size+1) #[.int .i64 0,.int .i64 0] 31 kv sv (.slice none 0 0)) :
    KS w ((V.setCell ⟨w.heap.size,0,none⟩ kv).setCell ⟨w.heap.size,1,none⟩ sv) kv sv (acc++[(t,n,e)]):=by
 refine⟨?_,?_,?_⟩
 · have h1:=(H.setCell (i:=0) (Nat.le_refl _) C.k C.s C.u kv).setCell (i:=1) (Nat.le_refl _) C.k C.s C.u sv;have e1:(acc++[(t,n,e)]).length=acc.length+1:=by simp
   have e2:keysV (keyWords (acc++[(t,n,e)]))=keysV (keyWords acc)++[strV t]:=by simp[keysV,keyWords]
   have e3:spotsV (keySpans (acc++[(t,n,e)]))=spotsV (keySpans acc)++[.int .i64 n,.int .i64 e]:=by simp[spotsV,keySpans]
   rw[e1,e2,e3];exact h1
 · have:=(C.set (i:=0) kv).set (i:=1) sv;exact J14
 exact (Ff.setOther (by simp) _).setOther (by simp) _
def KeyS2 (w:World) (V:World):Prop:=V.cell? ⟨w.heap.size+1,0,none⟩=some (.int .i64 0)∧V.cell? ⟨w.heap.size+1,1,none⟩=some (.int .i64 0)
theorem keyS2_set {w V:World} {a b:Value} (h:KeyS2 w V):KeyS2 w ((V.setCell ⟨w.heap.size,0,none⟩ a).setCell ⟨w.heap.size,1,none⟩ b) :=
 ⟨by rw[World.cell?_setCell_other _ _ _ _ (by simp),World.cell?_setCell_other _ _ _ _ (by simp)];exact h.1,by rw[World.cell?_setCell_other _ _ _ _ (by simp),World.cell?_setCell_other _ _ _ _ (by simp)];exact h.2⟩
theorem ks_done {w V:World} {kv sv:Value} {acc:List Pl.KW} (h:KS w V kv sv acc) :
    RowC ((((V.setCell ⟨w.heap.size,0,none⟩ (clipV kv)).setCell ⟨w.heap.size,1,none⟩ (clipV sv)).setCell ⟨w.heap.size+1,0,none⟩ (.int .i64 0)).setCell ⟨w.heap.size+1,1,none⟩ (.int .i64 0)) w.heap.size 9 1 (clipV kv) acc.length (keysV (keyWords acc)) ∧
    RowC ((((V.setCell ⟨w.heap.size,0,none⟩ (clipV kv)).setCell ⟨w.heap.size,1,none⟩ (clipV sv)).setCell ⟨w.heap.size+1,0,none⟩ (.int .i64 0)).setCell ⟨w.heap.size+1,1,none⟩ (.int .i64 0)) w.heap.size 73 2 (clipV sv) acc.length (spotsV (keySpans acc)) ∧
    Gr w ((((V.setCell ⟨w.heap.size,0,none⟩ (clipV kv)).setCell ⟨w.heap.size,1,none⟩ (clipV sv)).setCell ⟨w.heap.size+1,0,none⟩ (.int .i64 0)).setCell ⟨w.heap.size+1,1,none⟩ (.int .i64 0)):=by
 have h1:=(((h.rows.setCell (i:=0) (Nat.le_refl _) h.k.k h.k.s h.k.u (clipV kv)).setCell (i:=1) (Nat.le_refl _) h.k.k h.k.s h.k.u (clipV sv)).setCell (i:=0) (Nat.le_succ _) h.f.k h.f.s h.f.u (.int .i64 0)).setCell (i:=1) (Nat.le_succ _) h.f.k h.f.s h.f.u (.int .i64 0);exact⟨rowC_clip h1.k,rowC_clip h1.s,⟨h1.st.os,h1.st.tape,h1.st.output,h1.st.size,fun k hk=>h1.st.block k hk (fun e=>e)⟩⟩
def KeyPost (s:ByteArray) (w:World) (x:Pl.Res (List Pl.KW × Nat)) (e:Ending) (w':World):Prop :=
 match x with
 | .non=>True
 | .ok (ws,m)=>∃kv sv,e = .returned (.tuple #[.agg #[kv,sv],.int .i64 m,f0])∧m≤s.size∧RowC w' w.heap.size 9 1 kv ws.length (keysV (keyWords ws))∧RowC w' w.heap.size 73 2 sv ws.length (spotsV (keySpans ws))∧ws.length≤s.size+2∧0<ws.length∧Gr w w'
 | .bad c p=>e = .returned (.tuple #[.agg #[.slice none 0 0,.slice none 0 0],.int .i64 0,fv c p])∧c≠0∧Gr w w'
theorem gr_of3 {w W:World} {base:Nat} {kv sv uv:Value} {nk ns nu:Nat} {xk xs xu:List Value} (h:Rows3 w W base (fun _=>False) kv sv uv nk ns nu xk xs xu):Gr w W :=
 ⟨h.st.os,h.st.tape,h.st.output,h.st.size,fun k hk=>h.st.block k hk (fun e=>e)⟩
set_option maxRecDepth 100000 in
theorem tk_Read (T:Nat→UInt8 × UInt8) (E:Pl.Env) (hE:EnvStr T E) (s:ByteArray) (i:Int) (n0:Nat) (hi:i=n0) (hn0:n0≤s.size) (hs:s.size≤20000000) (X:Pl.Res (List Pl.KW × Nat)) (hX:Pl.keyS E (bs s) n0=X) (hne:X ≠ .non) (w:World) (hQ:QW T w) :
    Calls Tryz.prog 45 #[.string s,.int .i64 i] w (KeyPost s w X):=by
 have HQW:=Lib.hid hQ;clear hQ;subst hi;unfold Pl.keyS at hX;rw[bs_length]at hX;have HX:=Lib.hid hX;obtain⟨iK,k1,k2,k3,k4⟩:=info_parts infoStr;obtain⟨iS,s1,s2,s3,s4⟩:=info_parts infoSpan;have HIK:=Lib.hid (And.intro k1 (And.intro k2 (And.intro k3 k4)));have HIS:=Lib.hid (And.intro s1 (And.intro s2 (And.intro s3 s4)));have hd0:decide ((n0:Int)<0)=false:=by simp
 have hd1:decide (s.size<n0)=false:=by simp;omega
 have HK0:Hid (KS w ((w.alloc (.cells #[.slice none 0 0,.slice none 0 0] 77)).alloc (.cells #[.int .i64 0,.int .i64 0] 31)) (.slice none 0 0) (.slice none 0 0) []):=by
  have hnb:∀(b:Nat),(Value.slice none 0 0).ownBlock≠some b:=fun b e=>by simp[Value.ownBlock]at e
  refine⟨⟨((St.refl _ w).alloc _).alloc _ |>.to (fun _ e=>e.elim),nilRow _ _ _ _,nilRow _ _ _ _,nilRow _ _ _ _,fun b e=>absurd e (hnb b),fun b e=>absurd e (hnb b),fun b e=>absurd e (hnb b),fun b e=>absurd e (hnb b),fun b e=>absurd e (hnb b),fun b e=>absurd e (hnb b)⟩,⟨?_,hnb _,hnb _,hnb _⟩,⟨?_,hnb _,hnb _,hnb _⟩⟩
  · exact (((Gr.refl _).alloc _).block (by simp)).trans (heap_alloc_new w _)
  have:=heap_alloc_new (w.alloc (.cells #[.slice none 0 0,.slice none 0 0] 77)) (.cells #[.int .i64 0,.int .i64 0] 31)
  rwa [World.size_alloc]at this
 clear hX k1 k2 k3 k4 s1 s2 s3 s4;go_enter Tryz.func45,Tryz.ntmps45;go_wp2_with fail
 go_step3
 go_wp2_with fail
 go_step3
 go_wp2_with fail
 go_loopw [1,5] (fun v1 v5 wr=>∃(n fuel:Nat) (m5:Int) (acc:List Pl.KW) (kv sv:Value),v1 = .int .i64 n∧v5 = .int .i64 m5∧n≤s.size∧Pl.keyF E (bs s) fuel n acc=X∧KS w wr kv sv acc∧acc.length+fuel=s.size+2) (fun v1 _ _=>s.size-(intOf v1).toNat)
 case atStart=>exact⟨n0,s.size+2,0,[],_,_,rfl,rfl,hn0,HX.out,HK0.out,by simp⟩
 case round =>
  obtain⟨n,fuel,m5,acc,kv,sv,rfl,rfl,hn,hx,hks,hlen⟩:=hrel;cases fuel with
  | zero=>exact absurd hx.symm hne
  | succ fuel =>
   unfold Pl.keyF at hx;obtain⟨c0,c1,z0,z1,f0',f1',y0,y1⟩:=hks.cells;have hklt:=hks.lt;have HK:=Lib.hid hks;clear hks;cases hw:Pl.word E (bs s) n with
   | non=>rw[hw]at hx;exact absurd hx.symm hne
   | bad c p =>
    rw[hw]at hx;dsimp only at hx;have HXX:=Lib.hid hx;have HW:=Lib.hid hw;clear hx hw;go_wp2_with fail;refine Z275 ?_;rintro e w1 ⟨⟨m,rfl⟩,hc,g1⟩;obtain⟨hc1,hf1,hz1⟩:=g1.use;have p0:w1.cell? ⟨w.heap.size,0,none⟩=some kv:=(hc1 _ _ (by omega)).trans c0;have p1:w1.cell? ⟨w.heap.size,1,none⟩=some sv:=(hc1 _ _ (by omega)).trans c1;have p2:w1.frozen? ⟨w.heap.size,0,none⟩=false:=(hf1 _ _ (by omega)).trans z0;have p3:w1.frozen? ⟨w.heap.size,1,none⟩=false:=(hf1 _ _ (by omega)).trans z1;have p4:w1.cell? ⟨w.heap.size+1,0,none⟩=some (.int .i64 0):=(hc1 _ _ (by omega)).trans f0';have p5:w1.cell? ⟨w.heap.size+1,1,none⟩=some (.int .i64 0):=(hc1 _ _ (by omega)).trans f1';have p6:w1.frozen? ⟨w.heap.size+1,0,none⟩=false:=(hf1 _ _ (by omega)).trans y0;have p7:w1.frozen? ⟨w.heap.size+1,1,none⟩=false:=(hf1 _ _ (by omega)).trans y1;refine Z169 ?_;intro hl0 hl1;have hgw:Gr w wr:=gr_of3 HK.out.rows;clear hc1 hf1 c0 c1 z0 z1 f0' f1' y0 y1;have hcc:¬(c:Int)=0:=by omega
    go_wp2_with fail
    go_region
    all_goals go_wp2_with fail
    all_goals
     rw[Exit.noGoto_ret];refine bodyPost_ret (v := .tuple #[.agg #[.slice none 0 0,.slice none 0 0],.int .i64 0,fv c p]) (by simp[results,Tryz.results45,go_sem,p0,p1,p2,p3,p4,p5,p6,p7,hl0,hl1]) rfl ?_;rw[←HXX.out];exact⟨rfl,hc,Gr.auto⟩
   | ok r =>
    obtain⟨t,e⟩:=r;rw[hw]at hx;dsimp only at hx;have hle:=word_le E _ _ _ _ hw;have HXX:=Lib.hid hx;have HW:=Lib.hid hw;clear hx hw;go_wp2_with fail;refine Z275 ?_;rintro e' w1 ⟨rfl,hes,g1⟩;have hk1:=HK.out.gr g1;have hk2:=hk1.gr ((Gr.refl w1).alloc (.cells #[.int .i64 0,.int .i64 0] 31));obtain⟨p0,p1,p2,p3,p4,p5,p6,p7⟩:=hk1.cells;have hklt1:=hk1.lt;have HK1:=Lib.hid hk1;have HK2:=Lib.hid hk2;clear hk1 hk2 c0 c1 z0 z1 f0' f1' y0 y1;go_wp2_with fail;refine Reg.begin' (W:=fun i=>i != 14 && i != 16) (S:=KeyS w kv sv) (by kernel_rfl) ?_;obtain⟨V0,hV⟩:∃V0,(w1.alloc (.cells #[.int .i64 0,.int .i64 0] 31)).drew=V0:=⟨_,rfl⟩
    have HK3:=HK2.out.gr ((Gr.refl _).drew);rw[hV]at HK3 ⊢;clear hV p0 p1 p2 p3 p4 p5 p6 p7;have HR0:=Lib.hid HK3.rows;have NBC0:=Lib.hid HK3.k;have NBF0:=Lib.hid HK3.f;clear HK3;have hS0:=keyS_of NBC0.out;refine Reg.ty 0 ?_;refine Reg.ty 2 ?_;refine Reg.ty 5 ?_;refine Z60 ?_;refine Reg.ty 12 ?_;refine Reg.tl 1 hS0 ?_ (hy:=by intro w hSw;obtain⟨q1,q2⟩:=hSw;go_simp;try with_reducible rfl);refine Reg.tl 6 hS0 ?_ (hy:=by intro w hSw;obtain⟨q1,q2⟩:=hSw;go_simp;try with_reducible rfl);refine Reg.all (rs:=[3,10]) (by kernel_rfl) (by simp) ?_;refine Z14 ?_;intro j hj;rcases hj with rfl|rfl
    · refine Reg.one (i:=3) rfl (by rfl) ?_;go_simp;have HR':=HR0.out.alloc (.cells #[strV t] 9);have NBK':=HR0.out.newB #[strV t] 9;have NBC':=NBC0.out.alloc (.cells #[strV t] 9);have NBF':=NBF0.out.alloc (.cells #[strV t] 9);obtain⟨V1,hV⟩:∃V',V0.alloc (.cells #[strV t] 9)=V':=⟨_,rfl⟩
      rw[hV]at HR' NBK' NBC' NBF' ⊢;clear hV;have HR1:=Lib.hid HR';have NBC1:=Lib.hid NBC';have NBF1:=Lib.hid NBF';have NBK1:=Lib.hid NBK';clear HR' NBK' NBC' NBF';have hS1:=keyS_of NBC1.out;refine Z100 ?_;refine Reg.all (rs:=[4,10]) (by kernel_rfl) (by simp) ?_;refine Z14 ?_;intro j hj;rcases hj with rfl|rfl
      · refine Z267 ?_;refine wp_append_lies _ (.tmp 33) (.tmp 35) 74 (by rfl) w.heap.size 9 iK _ 1 16 Tryz.underlying74 HIK.out.1 HIK.out.2.1 HIK.out.2.2.1 HIK.out.2.2.2 (by rfl) (by decide) kv acc.length _ (by rfl) HR1.out.k _ 1 1 [strV t] (by rfl) (by rfl) (World.news_of_block NBK1.out.blk) (by simp[Value.oneCell']) (by decide) (by unfold maxLen;omega) (by omega) HR1.out.size _ rfl ?_;intro gK capK V2 ho hg ha hz;have HR2:=Lib.hid (HR1.out.appK ho hg ha);have NBC2:=Lib.hid (NBC1.out.appK (n:=acc.length+1) (cap:=capK) hg ha);have NBF2:=Lib.hid (NBF1.out.appK (n:=acc.length+1) (cap:=capK) hg ha);clear ho hg ha hz;have hS2:=keyS_of NBC2.out;refine⟨fun _ _=>hS2,?_⟩;refine Reg.pt ?_;refine Reg.ty 13 ?_;refine Reg.on 10 ?_;skip;go_simp;have HR':=HR2.out.alloc (.cells #[.int .i64 n,.int .i64 e] 73);have NBS':=HR2.out.newB #[.int .i64 n,.int .i64 e] 73;have NBC':=NBC2.out.alloc (.cells #[.int .i64 n,.int .i64 e] 73);have NBF':=NBF2.out.alloc (.cells #[.int .i64 n,.int .i64 e] 73);obtain⟨V3,hV⟩:∃V',V2.alloc (.cells #[.int .i64 n,.int .i64 e] 73)=V':=⟨_,rfl⟩
        rw[hV]at HR' NBS' NBC' NBF' ⊢;clear hV;have HR3:=Lib.hid HR';have NBC3:=Lib.hid NBC';have NBF3:=Lib.hid NBF';have NBS3:=Lib.hid NBS';clear HR' NBS' NBC' NBF';have hS3:=keyS_of NBC3.out;refine⟨by first|exact hS3|exact fun _=>hS3,?_⟩;refine Reg.pt ?_;refine Reg.on 11 ?_;skip;exact J73
      refine Reg.one (i:=10) rfl (by rfl) ?_;go_simp;have HR':=HR1.out.alloc (.cells #[.int .i64 n,.int .i64 e] 73);have NBS':=HR1.out.newB #[.int .i64 n,.int .i64 e] 73;have NBC':=NBC1.out.alloc (.cells #[.int .i64 n,.int .i64 e] 73);have NBF':=NBF1.out.alloc (.cells #[.int .i64 n,.int .i64 e] 73);have NBK':=NBK1.out.alloc (.cells #[.int .i64 n,.int .i64 e] 73);obtain⟨V2,hV⟩:∃V',V1.alloc (.cells #[.int .i64 n,.int .i64 e] 73)=V':=⟨_,rfl⟩
      rw[hV]at HR' NBS' NBC' NBF' NBK' ⊢;clear hV;have HR2:=Lib.hid HR';have NBC2:=Lib.hid NBC';have NBF2:=Lib.hid NBF';have NBK2:=Lib.hid NBK';have NBS2:=Lib.hid NBS';clear HR' NBS' NBC' NBF' NBK';exact J159
    refine Reg.one (i:=10) rfl (by rfl) ?_;go_simp;have HR':=HR0.out.alloc (.cells #[.int .i64 n,.int .i64 e] 73);have NBS':=HR0.out.newB #[.int .i64 n,.int .i64 e] 73;have NBC':=NBC0.out.alloc (.cells #[.int .i64 n,.int .i64 e] 73);have NBF':=NBF0.out.alloc (.cells #[.int .i64 n,.int .i64 e] 73);obtain⟨V1,hV⟩:∃V',V0.alloc (.cells #[.int .i64 n,.int .i64 e] 73)=V':=⟨_,rfl⟩
    rw[hV]at HR' NBS' NBC' NBF' ⊢;clear hV;have HR1:=Lib.hid HR';have NBC1:=Lib.hid NBC';have NBF1:=Lib.hid NBF';have NBS1:=Lib.hid NBS';clear HR' NBS' NBC' NBF';have hS1:=keyS_of NBC1.out;refine Z100 ?_;refine Reg.on 3 ?_;skip;go_simp;have HR':=HR1.out.alloc (.cells #[strV t] 9);have NBK':=HR1.out.newB #[strV t] 9;have NBC':=NBC1.out.alloc (.cells #[strV t] 9);have NBF':=NBF1.out.alloc (.cells #[strV t] 9);have NBS':=NBS1.out.alloc (.cells #[strV t] 9);obtain⟨V2,hV⟩:∃V',V1.alloc (.cells #[strV t] 9)=V':=⟨_,rfl⟩
    rw[hV]at HR' NBK' NBC' NBF' NBS' ⊢;clear hV;have HR2:=Lib.hid HR';have NBC2:=Lib.hid NBC';have NBF2:=Lib.hid NBF';have NBS2:=Lib.hid NBS';have NBK2:=Lib.hid NBK';clear HR' NBK' NBC' NBF' NBS';exact J159
end Go.Proofs.YtfogfaagjpebcaaGreatDoor
namespace Go.Proofs.YtfogfaagjpebcaaGreatDoor
open Go.RowKit Go.Shelf Go.Joins
attribute [local go_sem] Oper.semAt_some
theorem idx_find (x:ByteArray):∀(ks:List Pl.Bs) (i:Nat),Lib.idxFromS (ks.map fun k=>(⟨k.toArray⟩:ByteArray)) x i=match ks.findIdx? (fun k=>k==bs x) with
    | none => -1
    | some j=>((i+j:Nat):Int)
 | [],_=>rfl
 | k::ks,i=>by
  have e:((⟨k.toArray⟩:ByteArray)=x) ↔ (k==bs x)=true:=by
   rw[beq_iff_eq];constructor
   · intro h;rw[←h]
   intro h;rw[h]
  rw[List.map_cons,List.findIdx?_cons,Lib.idxFromS];cases hk:k==bs x with
  | true=>rw[if_pos (e.2 hk)];simp
  | false =>
   rw[if_neg (fun h=>by rw[e.1 h]at hk;cases hk),idx_find x ks (i+1)];cases ks.findIdx? (fun k=>k==bs x) with
   | none=>rfl
   | some j =>
    show ((i+1+j:Nat):Int)=((i+(j+1):Nat):Int)
    congr 1;omega
def subRes:Pl.Sub→Value
 | .yes i => .tuple #[.int .i64 i,.bool true]
 | _ => .tuple #[.int .i64 0,.bool false]
set_option maxRecDepth 100000 in
theorem tv_sub (w:World) (R B base:Nat) (s:ByteArray) (root:Int) (nv:Value) (L:List NdR) (own:Nat→Nat) (h:RdV w R B base s root nv L own)
    (i:Nat) (key:ByteArray) (X:Pl.Sub) (hX:Pl.subOf (L.map (·.nd)) i (bs key)=X) (hne:X ≠ .non) :
    Calls Tryz.prog 130 #[.pointer (some ⟨R,0,none⟩),.int .i64 i,.string key] w fun e w'=>e = .returned (subRes X)∧w=w':=by
 unfold Pl.subOf at hX;rw[List.getElem?_map]at hX;cases hr:L[i]? with
 | none=>rw[hr]at hX;exact absurd hX.symm hne
 | some r =>
 rw[hr]at hX;simp only[Option.map_some]at hX;have hi:i<L.length:=(List.getElem?_eq_some_iff.1 hr).1;obtain⟨g,cap,cur,rfl,hgb,hgl,hgo,hgR,hgB,hgh,hcs,hLc,hcm,htk⟩:=h.form (by omega);obtain⟨c0,c1,c2,c3,fz⟩:=h.cells;obtain⟨n0,n1,n2,n3,n4,n5,n6,nf⟩:=h.ndCells rfl i r hr;refine Z142 ?_;intro hi1 hi2;have hx:=h.rows i r hr;have HI:Hid (Calls Tryz.prog 89 #[r.kv,.string key] w fun e w'=>e = .returned (.int .i64 (match r.nd.keys.findIdx? (fun k=>k==bs key) with|none => -1|some j=>(j:Int)))∧w=w'):=by
  refine Z215 ?_;intro hidx;by_cases hn:0<r.nd.keys.length
  · obtain⟨b,c,hv,hlc,hcm⟩:=(rowC_of hx.k).form hn;have hcl:=(rowC_of hx.k).cells (g:=b) (by rw[hv];rfl);exact J110
  have h0:r.nd.keys=[]:=List.eq_nil_of_length_eq_zero (by omega);obtain⟨a,c,hv⟩:∃a c,r.kv = .slice a 0 c:=by
   rcases ownsRow_forms hx.k with⟨e,_⟩|⟨g',c',e⟩
   · exact⟨none,0,e⟩
   exact⟨some ⟨g',0,none⟩,c',by rw[e,h0];rfl⟩
  exact J146
 cases hf:r.nd.keys.findIdx? (fun k=>k==bs key) with
 | none =>
  rw[hf]at hX HI;subst hX;clear hf hx h hne c1 c2 c3 fz n0 n1 n3 n4 n5 n6 nf hgh htk hcs;go_enter Tryz.func130,Tryz.ntmps130;go_wp2_with fail;refine HI.out.mono ?_;refine Z48 ?_;go_wp2_with fail;exact bodyPost_ret (v := .tuple #[.int .i64 0,.bool false]) (by simp[results,Tryz.results130,go_sem]) rfl ⟨rfl,rfl⟩
 | some j =>
  rw[hf]at hX HI;simp only at hX HI;cases hu:r.nd.subs[j]? with
  | none=>rw[hu]at hX;exact absurd hX.symm hne
  | some u =>
  rw[hu]at hX;simp only at hX
  split at hX
  · subst hX;have hj:j<r.nd.subs.length:=(List.getElem?_eq_some_iff.1 hu).1;obtain⟨b,c,hv,hlc,hcm⟩:=hx.u.form (by omega);have hcl:=hx.u.cells (g:=b) (by rw[hv];rfl) j (.int .i64 u) (by simp[subsV,hu]);rw[hv]at n4;refine Z287 ?_;intro hj1;have hj2:(j:Int)<(r.nd.subs.length:Int):=by omega
    have hj3:decide ((j:Int)<0)=false:=by simp
    clear hf hx h hne c1 c2 c3 fz n0 n1 n3 n5 n6 nf hgh htk hcs hu;go_enter Tryz.func130,Tryz.ntmps130;go_wp2_with fail;refine HI.out.mono ?_;refine Z48 ?_;go_wp2_with fail;exact bodyPost_ret (v := .tuple #[.int .i64 u,.bool true]) (by simp[results,Tryz.results130,go_sem]) rfl ⟨rfl,rfl⟩
  exact absurd hX.symm hne
end Go.Proofs.YtfogfaagjpebcaaGreatDoor
namespace Go.Proofs.YtfogfaagjpebcaaGreatDoor
open Go.RowKit Go.Joins
def ownR (r:NdR) (t:Nat):NdR:=⟨{ r.nd with owner:=t },r.kv,r.sv,r.uv⟩
theorem RdV.owned {w w1:World} {R B base:Nat} {s:ByteArray} {root:Int} {nv:Value} {L:List NdR} {own:Nat→Nat} (h:RdV w R B base s root nv L own) (m:Nat) (r:NdR) (hr:L[m]?=some r) (h0:r.nd.owner=0) (t:Nat) (ht:t≠0) (hm:m≤9223372036854775807)
    (D:mapD) (hD:Opens D L) (h1:w1.ownsMap Tryz.prog 3 (plainElem (H:=Unit) Tryz.prog 3) B (cntO L+1) (D.put (.int .i64 m) (.lit (.int .i64 t)))) (hg:w.grownBy w1 (some B)) :
    RdV w1 R B base s root nv (L.set m (ownR r t)) own∧St (FV own) (FV own) w w1:=by
 have hB:=h.B_lt;have hold:∀k,k<w.heap.size→k≠B→w1.heap[k]?=w.heap[k]?:=fun k hk hne=>hg.block k hk (fun e=>hne (Option.some.inj e))
 have hF:∀k t,own k=t→t≠0→t≠2→w1.heap[k]?=w.heap[k]?:=fun k t e h2 h3=>hold k (h.lt k (by omega)).2 (fun e2=>by subst e2;rw[h.oB]at e;omega)
 have hmL:m<L.length:=(List.getElem?_eq_some_iff.1 hr).1;have hnds:ndsV (L.set m (ownR r t))=ndsV L:=by
  unfold ndsV;rw[List.flatMap_def,List.flatMap_def];congr 1;apply List.ext_getElem?;intro j;simp only[List.getElem?_map,List.getElem?_set]
  split
  · rename_i e
    subst e;simp[hmL,hr,ndV,ownR];have:=(List.getElem?_eq_some_iff.1 hr).2;rw[this];simp
  rfl
 refine⟨⟨by rw[hF R 1 h.oR (by omega) (by omega)];exact h.blk,h.oR,h.oB,?_,h.oN,?_,?_,?_⟩,?_⟩
 · rw[List.length_set,hnds];exact ownsRow_of_block h.nodes fun k e=>hF k 3 (h.oN k e) (by omega) (by omega)
 · refine⟨DataW.put D (.int .i64 m) (.lit (.int .i64 t)),?_,?_⟩
   · have e2:=cntO_set L m r (ownR r t) hr;have e3:cntO [r]=0:=by simp[cntO,h0]
     have e4:cntO [ownR r t]=1:=by simp[cntO,ownR,ht]
     rw[show cntO (L.set m (ownR r t))=cntO L+1 from by omega];exact h1
   have hk:∀i:Nat,i≠m→(Lit.int IntKind.i64 (i:Int)) ≠ .int .i64 (m:Int):=fun i hi e=>hi (by injection e with _ e2;exact Int.ofNat.inj e2)
   refine⟨Maps.IsMap.put hD.1 _ _,fun i hi=>?_,fun i x hx=>?_⟩
   · rw[List.length_set]at hi;rw[Maps.atKey_put_other (hk i (by omega))];exact hD.2.1 i hi
   rw[List.getElem?_set]at hx
   split at hx
   · rename_i e
     subst e;simp only[hmL,if_true,Option.some.injEq]at hx;subst hx;rw[Maps.atKey_put_same (k := .int .i64 (m:Int)) hD.1 trivial];rfl
   rename_i e
   rw[Maps.atKey_put_other (hk i (fun e2=>e e2.symm))];exact hD.2.2 i x hx
 · intro j x hx;rw[List.getElem?_set]at hx
   split at hx
   · rename_i e
     subst e;simp only[hmL,if_true,Option.some.injEq]at hx;subst hx;have hk:=h.rows m r hr;have hkk:NdRows w1 base own m r:=⟨ownsRow_of_block hk.k fun k e=>hF k _ (hk.tk k e) (by omega) (by omega),ownsRow_of_block hk.s fun k e=>hF k _ (hk.ts k e) (by omega) (by omega),hk.u.of_block fun k e=>hF k _ (hk.tu k e) (by omega) (by omega),fun h8=>ownsRow_of_block (hk.u8 h8) fun k e=>hF k _ (hk.tu k e) (by omega) (by omega),hk.tk,hk.ts,hk.tu⟩
     exact⟨hkk.k,hkk.s,hkk.u,hkk.u8,hkk.tk,hkk.ts,hkk.tu⟩
   have hk:=h.rows j x hx;exact⟨ownsRow_of_block hk.k fun k e=>hF k _ (hk.tk k e) (by omega) (by omega),ownsRow_of_block hk.s fun k e=>hF k _ (hk.ts k e) (by omega) (by omega),hk.u.of_block fun k e=>hF k _ (hk.tu k e) (by omega) (by omega),fun h8=>ownsRow_of_block (hk.u8 h8) fun k e=>hF k _ (hk.tu k e) (by omega) (by omega),hk.tk,hk.ts,hk.tu⟩
 · intro k hk;have:=h.lt k hk;exact⟨this.1,Nat.lt_of_lt_of_le this.2 hg.size⟩
 exact (St.refl _ w).grown hg (fun k e=>by cases e;exact .inl (by unfold FV;rw[h.oB];omega))
end Go.Proofs.YtfogfaagjpebcaaGreatDoor
