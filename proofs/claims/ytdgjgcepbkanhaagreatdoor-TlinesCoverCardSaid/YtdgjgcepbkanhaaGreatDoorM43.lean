/-
 The walks and plain laws that the claim rests on, part 43.
-/
import Derived.Test.YtdgjgcepbkanhaaGreatDoorM03
import Derived.Test.YtdgjgcepbkanhaaGreatDoorM11
import Derived.Test.YtdgjgcepbkanhaaGreatDoorM23
set_option maxHeartbeats 16000000
set_option linter.all false
set_option linter.unusedVariables false
set_option linter.unusedSimpArgs false
namespace Go.Proofs.YtdgjgcepbkanhaaGreatDoor
open Go.RowKit Go.Shelf Go.Joins
attribute [local go_sem] Oper.semAt_some
variable {Tb:Nat→UInt8 × UInt8}
structure GW (T:Nat→UInt8 × UInt8) (base:Nat) (w:World):Prop where
 int:IntW w
 q:QW T w
 es:9<base
 sh:0<base
 rad:6<base
 max:2<base
 err:3<base
 pow:1<base
theorem GW.st {base:Nat} {w w':World} {F F':Nat→Prop} (h:GW Tb base w) (g:St F F' w w') (hF:∀k,F k→base≤k):GW Tb base w':=by
 have hc:∀ {b o:Nat} {v},b<base→w.cell? ⟨b,o,none⟩=some v→w'.cell? ⟨b,o,none⟩=some v:=fun hb e=>((g.use _ (Lib.lt_of_cell e) (fun hf=>by have:=hF _ hf;simp only at this;omega)).1 _).trans e
 obtain⟨m,hm⟩:=h.int.max;obtain⟨ep,he⟩:=h.int.err;obtain⟨ev,hev,hev2⟩:=h.q.es;refine⟨?_,⟨⟨ev,hc h.es hev,hev2⟩,fun j v hj=>hc h.sh (h.q.sh j v hj)⟩,h.es,h.sh,h.rad,h.max,h.err,h.pow⟩;refine⟨fun j v hj=>hc h.rad (h.int.rad j v hj),⟨m,hc h.max hm⟩,⟨ep,hc h.err he⟩,?_⟩;have hp:=h.int.pow;have hgn:Tryz.prog.globalNamed "internal/strconv.uint64pow10" = some 1:=by kernel_rfl
 unfold Lib.TabIs World.var? at hp ⊢;rw[hgn]at hp ⊢;simp only[Option.bind_some]at hp ⊢;have hlt:1<w.heap.size:=by
  rcases Nat.lt_or_ge 1 w.heap.size with h'|h'
  · exact h'
  rw[Array.getElem?_eq_none h']at hp;cases hp
 rw[g.block _ hlt (fun hf=>by have:=hF _ hf;have:=h.pow;omega)];exact hp
theorem GW.gr {base:Nat} {w w':World} (h:GW Tb base w) (g:Gr w w'):GW Tb base w':=h.st (F:=fun _=>False) (F':=fun _=>False) (g.st) (fun _ e=>e.elim)
def RK (R:Nat) (w:World):Prop:=∃a b c d,w.heap[R]?=some (.cells #[a,b,c,d] 75 (0,0))
theorem RdV.rk {w:World} {R B base:Nat} {s:ByteArray} {root:Int} {nv:Value} {L:List NdR} {own:Nat→Nat} (h:RdV w R B base s root nv L own):RK R w:=⟨_,_,_,_,h.blk⟩
theorem RK.gr {R:Nat} {w w':World} (h:RK R w) (g:Gr w w'):RK R w':=by
 obtain⟨a,b,c,d,h⟩:=h;exact⟨a,b,c,d,(g.block (Array.getElem?_eq_some_iff.1 h).1).trans h⟩
theorem RK.set {R:Nat} {w:World} (h:RK R w) {b o:Nat} (hb:b≠R) (v:Value):RK R (w.setCell ⟨b,o,none⟩ v):=by
 obtain⟨x,y,z,u,h⟩:=h;exact⟨x,y,z,u,by rw[Below.heap_setCell _ _ _ _ (Ne.symm hb)];exact h⟩
theorem RK.drew {R:Nat} {w:World} (h:RK R w):RK R w.drew:=h
def ValPost (s:ByteArray) (R B base:Nat) (root:Int) (own:Nat→Nat) (w:World) (X:Pl.Res (Nat × Nat × Pl.Nds)) (e:Ending) (w':World):Prop :=
 match X with
 | .non=>True
 | .bad c p=>e = .returned (.tuple #[.int .i64 0,.int .i64 0,fv c p])∧c≠0∧∃F',St (FV own) F' w w'∧RK R w'
 | .ok (i,n,st')=>e = .returned (.tuple #[.int .i64 i,.int .i64 n,f0])∧n≤s.size∧i<st'.length ∧
     ∃nv' L' own',RdV w' R B base s root nv' L' own'∧L'.map (·.nd)=st'∧St (FV own) (FV own') w w'∧(∀k,own' k≠0→own k≠0∨w.heap.size≤k)
abbrev nilV:Value := .slice none 0 0
def leafR (k:Nat) (t:Pl.Bs) (a b:Nat):NdR:=⟨Pl.leaf k t a b,nilV,nilV,nilV⟩
theorem leaf_node (w W:World) (R B base:Nat) (s:ByteArray) (root:Int) (nv:Value) (L:List NdR) (own:Nat→Nat) (h:RdV w R B base s root nv L own) (g:Gr w W) (hr:Pl.room (L.map (·.nd))=true)
    (k:Nat) (h8:k≠8) (t:ByteArray) (a b:Nat) (kk:Int) (hkk:kk=k) (b':Int) (hb:b'=b) :
    Calls Tryz.prog 79 #[.pointer (some ⟨R,0,none⟩),.agg #[.int .u8 kk,.string t,nilV,nilV,nilV,.int .i64 a,.int .i64 b']] W fun e w' =>
     e = .returned (.int .i64 L.length)∧∃nv' own',RdV w' R B base s root nv' (L++[leafR k (bs t) a b]) own'∧St (FV own) (FV own') w w'∧(∀k,own' k≠0→own k≠0∨W.heap.size≤k)∧St (FV own) (FV own') W w':=by
 have hl:L.length≤30000000:=by simp[Pl.room]at hr;omega
 subst hb hkk;refine (tv_node W R B base s root nv L own (h.gr g) hl (leafR k (bs t) a b) rfl rfl rfl rfl rfl rfl (rowC_of (nilRow _ _ _ _)) (fun e=>absurd e h8) (fun k e=>by simp[leafR,Value.ownBlock]at e) k t nilV nilV nilV a b ?_).mono ?_
 · simp[ndV,leafR,Pl.leaf,bs]
 rintro e w' ⟨rfl,nv',own',h1,h2,h3⟩;have h2':St (FV own) (FV own') W w':=by
  refine⟨h2.os,h2.tape,h2.output,h2.size,fun k hk hn=>h2.block k hk (fun e=>e.elim hn (fun e=>by simp[leafR,Value.ownBlock]at e)),fun k hk=>?_⟩;rcases h2.own k hk with (e|e)|e
  · exact .inl e
  · simp[leafR,Value.ownBlock]at e
  exact .inr e
 refine⟨rfl,nv',own',h1,(g.st).trans h2',fun k hk=>?_,h2'⟩;rcases h3 k hk with e|e|e
 · exact .inl e
 · simp[leafR,Value.ownBlock]at e
 exact .inr e
def FX (b:Nat) (x y:Value) (w:World):Prop:=w.cell? ⟨b,0,none⟩=some x∧w.cell? ⟨b,1,none⟩=some y∧(∀o,w.frozen? ⟨b,o,none⟩=false)∧b<w.heap.size
theorem FX.gr {b:Nat} {x y:Value} {w w':World} (h:FX b x y w) (g:Gr w w'):FX b x y w' :=
 ⟨(g.use.1 _ _ h.2.2.2).trans h.1,(g.use.1 _ _ h.2.2.2).trans h.2.1,fun o=>(g.use.2.1 _ _ h.2.2.2).trans (h.2.2.1 o),Nat.lt_of_lt_of_le h.2.2.2 g.size⟩
theorem FX.st {b:Nat} {x y:Value} {w w':World} {F F':Nat→Prop} (h:FX b x y w) (g:St F F' w w') (hb:¬F b):FX b x y w' :=
 ⟨((g.use _ h.2.2.2 hb).1 _).trans h.1,((g.use _ h.2.2.2 hb).1 _).trans h.2.1,fun o=>((g.use _ h.2.2.2 hb).2 _).trans (h.2.2.1 o),Nat.lt_of_lt_of_le h.2.2.2 g.size⟩
theorem FX.set {b:Nat} {x y:Value} {w:World} (h:FX b x y w) (x' y':Value):FX b x' y' ((w.setCell ⟨b,0,none⟩ x').setCell ⟨b,1,none⟩ y'):=by
 obtain⟨h0,h1,hf,hl⟩:=h;refine⟨?_,?_,fun o=>by simp[hf],by simpa using hl⟩
 · rw[World.cell?_setCell_other _ _ _ _ (by simp),World.cell?_setCell_same' _ _ _ (by rw[h0];rfl)]
 rw[World.cell?_setCell_same' _ _ _ (by rw[World.cell?_setCell_other _ _ _ _ (by simp),h1];rfl)]
theorem FX.new (w:World) (x y:Value) (T:TypeId):FX w.heap.size x y (w.alloc (.cells #[x,y] T)):=⟨by simp,by simp,fun o=>by simp[go_sem],by simp⟩
set_option maxRecDepth 100000 in
theorem tv_text (E:Pl.Env) (hE:EnvStr Tb E) (w:World) (R B base:Nat) (s:ByteArray) (root:Int) (nv:Value) (L:List NdR) (own:Nat→Nat) (h:RdV w R B base s root nv L own) (hgw:GW Tb base w) (hs:s.size≤20000000)
    (i d:Int) (n:Nat) (hi:i=n) (hn:n≤s.size) (X:Pl.Res (Nat × Nat × Pl.Nds))
    (hX:(match E.str ((bs s).drop n) with
     | .non => .non
     | .bad c p => .bad c (n+p)
     | .ok (t,m)=>if Pl.room (L.map (·.nd)) then .ok ((L.map (·.nd)).length,n+m,L.map (·.nd)++[Pl.leaf 3 t n (n+m)]) else .non:Pl.Res (Nat × Nat × Pl.Nds))=X) (hne:X ≠ .non) :
    Calls Tryz.prog 53 #[.pointer (some ⟨R,0,none⟩),.int .i64 i,.int .i64 d] w (ValPost s R B base root own w X):=by
 subst hi;rw[show E.str=Pl.strS Tb from hE]at hX;obtain⟨c0,c1,c2,c3,fz⟩:=h.cells;have hR:=h.R_lt;have H:=Lib.hid h;cases hq:Pl.strS Tb ((bs s).drop n) with
 | non=>rw[hq]at hX;exact absurd hX.symm hne
 | bad c p =>
  rw[hq]at hX;subst hX;have HQ:=Lib.hid (fun W (g:Gr w W)=>tq_Read Tb s n n rfl hn hs _ hq (by simp) W (hgw.q.gr g));clear hgw;clear hne hq fz c0 c1 c3 h;go_enter Tryz.func53,Tryz.ntmps53;go_wp2_with fail;refine (HQ.out _ Gr.auto).mono ?_;rintro e w1 ⟨rfl,hc,g1⟩;have hc':¬(c:Int)=0:=by omega
  have hnp:((n+p:Nat):Int)=(n:Int)+(p:Int):=by simp
  have hF1:=(FX.new w (.int .i64 0) (.int .i64 0) 31).gr g1;have hF2:=Lib.hid (hF1.set (.int .i64 c) (.int .i64 (n+p:Nat)));obtain⟨f1,f2,f3,f4⟩:=hF1;go_wp2_with fail;refine (tv_fine_no c (n+p) hc' _).mono ?_;rintro e w2 ⟨rfl,g2⟩;obtain⟨q0,q1,qf,hl2⟩:=hF2.out.gr g2;go_wp2_with fail
  go_region
  all_goals go_wp2_with fail
  exact bodyPost_ret (v := .tuple #[.int .i64 0,.int .i64 0,fv c (n+p)]) (by simp[results,Tryz.results53,go_sem,q0,q1,qf,hl2]) rfl ⟨rfl,hc,FV own,St.auto,H.out.rk.gr Gr.auto⟩
 | ok r =>
  obtain⟨t,m⟩:=r;rw[hq]at hX;simp only at hX;cases hr:Pl.room (L.map (·.nd)) with
  | false=>rw[hr,if_neg (by simp)]at hX;exact absurd hX.symm hne
  | true =>
  rw[hr,if_pos rfl]at hX;subst hX;have HQ:=Lib.hid (fun W (g:Gr w W)=>tq_Read Tb s n n rfl hn hs _ hq (by simp) W (hgw.q.gr g));clear hgw;have HR:=Lib.hid hr;have hnR:Hid (¬FV own w.heap.size):=h.not_new (Nat.le_refl _);clear hne hq fz c0 c1 c3 h hr;go_enter Tryz.func53,Tryz.ntmps53;go_wp2_with fail;refine (HQ.out _ Gr.auto).mono ?_;rintro e w1 ⟨rfl,hnm,hm,g1⟩;have hF1:=(FX.new w (.int .i64 0) (.int .i64 0) 31).gr g1;have hF2:=Lib.hid (hF1.set (.int .i64 0) (.int .i64 0));obtain⟨f1,f2,f3,f4⟩:=hF1;have hnp:((n+m:Nat):Int)=(n:Int)+(m:Int):=by simp
  go_wp2_with fail;refine (tv_fine_yes _).mono ?_;rintro e w2 ⟨rfl,g2⟩;have hF3:=hF2.out.gr g2;have hG2:Gr w w2:=by
   refine Gr.trans (Gr.setCell (Gr.setCell (((Gr.refl w).alloc _).trans g1) (Nat.le_refl _) _) (Nat.le_refl _) _) g2
  clear g2 hF2 g1 f1 f2 f3 f4;go_wp2_with fail;have hS:FX w.heap.size (.int .i64 0) (.int .i64 0) w2.drew:=hF3.gr (Gr.refl _).drew;refine Reg.begin' (W:=fun i=>i != 11) (S:=FX w.heap.size (.int .i64 0) (.int .i64 0)) (by kernel_rfl) ?_;refine Reg.ty 0 ?_;refine Reg.ty 1 ?_;refine Reg.ty 2 ?_;refine Reg.ty 3 ?_;refine Reg.ty 4 ?_;refine Reg.ty 5 ?_;refine Reg.ty 7 ?_;refine Reg.tl 8 hS ?_ (hy:=by intro w hSw;obtain⟨q0,q1,qf,ql⟩:=hSw;go_simp;try with_reducible rfl);refine Reg.on 6 ?_;go_simp;refine (leaf_node w w2.drew R B base s root nv L own H.out hG2.drew HR.out 3 (by omega) ⟨t.toArray⟩ n (n+m) 3 rfl _ hnp.symm).mono ?_;rintro e w3 ⟨rfl,nv',own',hr3,hst3,hown3,hst3'⟩;have hF4:=hS.st hst3' hnR.out;refine⟨by first|exact hF4|exact fun _=>hF4|exact fun _ _=>hF4,?_⟩;refine Reg.pt ?_;refine Reg.ty 9 ?_;refine Reg.ty 10 ?_;obtain⟨p0,p1,pf,pl⟩:=hF4;have hn3:¬FV own' w.heap.size:=by
   intro hf;rcases hown3 _ hf with e|e
   · exact hnR.out e
   have:=hS.2.2.2;omega
  have H3:=Lib.hid hr3;have HS3:=Lib.hid hst3;have HO3:=Lib.hid hown3;clear hr3 hst3 hown3 hst3';refine Reg.on 11 ?_;go_simp;refine Reg.done (by kernel_rfl) ?_ _;go_wp2_with fail;refine bodyPost_ret (v := .tuple #[.int .i64 L.length,.int .i64 (n+m:Nat),f0]) (by simp[results,Tryz.results53,go_sem,p0,p1,pf,pl]) rfl ?_;refine⟨by simp,hnm,by simp,nv',_,own',(H3.out.setCell hn3 _).setCell hn3 _,by simp[leafR,bs],?_,fun k hk=>(HO3.out k hk).imp id (fun e=>Nat.le_trans hG2.size e)⟩;exact (HS3.out.setCell (.inr (Nat.le_refl _)) _).setCell (.inr (Nat.le_refl _)) _
end Go.Proofs.YtdgjgcepbkanhaaGreatDoor
