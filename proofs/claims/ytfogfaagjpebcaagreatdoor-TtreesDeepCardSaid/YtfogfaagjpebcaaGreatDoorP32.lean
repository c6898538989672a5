/-
 The walks and plain laws that the claim rests on, part 32.
-/
import Derived.Test.YtfogfaagjpebcaaGreatDoorP00
import Derived.Test.YtfogfaagjpebcaaGreatDoorP28
set_option maxHeartbeats 16000000
set_option linter.all false
set_option linter.unusedVariables false
set_option linter.unusedSimpArgs false
namespace Go.Proofs.YtfogfaagjpebcaaGreatDoor
open Go.RowKit Go.Shelf Go.Joins
attribute [local go_sem] Oper.semAt_some
variable {Tb:Nat→UInt8 × UInt8}
def ValueC (Tb:Nat→UInt8 × UInt8) (s:ByteArray) (R B base:Nat) (root:Int) (V:Pl.ValF):Prop :=
 ∀(w:World) (nv:Value) (L:List NdR) (own:Nat→Nat),RdV w R B base s root nv L own→GW Tb base w→∀(n d:Nat),n≤s.size→d≤30000000→∀X,V d n (L.map (·.nd))=X→X ≠ .non →
  Calls Tryz.prog 68 #[.pointer (some ⟨R,0,none⟩),.int .i64 n,.int .i64 d] w (ValPost s R B base root own w X)
def PairPost (s:ByteArray) (R B base:Nat) (root:Int) (own:Nat→Nat) (w:World) (X:Pl.Res (Nat × Pl.Nds)) (e:Ending) (w':World):Prop :=
 match X with
 | .non=>True
 | .bad c p=>e = .returned (.tuple #[.int .i64 0,fv c p])∧c≠0∧∃F',St (FV own) F' w w'∧RK R w'
 | .ok (n,st')=>e = .returned (.tuple #[.int .i64 n,f0])∧n≤s.size ∧
     ∃nv' L' own',RdV w' R B base s root nv' L' own'∧L'.map (·.nd)=st'∧St (FV own) (FV own') w w'∧(∀k,own' k≠0→own k≠0∨w.heap.size≤k)
set_option maxRecDepth 100000 in
theorem tv_pair_bad (E:Pl.Env) (hE:EnvStr Tb E) (w:World) (R B base:Nat) (s:ByteArray) (root:Int) (nv:Value) (L:List NdR) (own:Nat→Nat) (h:RdV w R B base s root nv L own) (hg:GW Tb base w) (hs:s.size≤20000000)
    (table d:Int) (n:Nat) (hn:n≤s.size) (c p:Nat) (hX:Pl.keyS E (bs s) n = .bad c p) :
    Calls Tryz.prog 118 #[.pointer (some ⟨R,0,none⟩),.int .i64 table,.int .i64 n,.int .i64 d] w (PairPost s R B base root own w (.bad c p)):=by
 obtain⟨c0,c1,c2,c3,fz⟩:=h.cells;have hR:=h.R_lt;have HQ:=Lib.hid (fun W (g:Gr w W)=>tk_Read Tb E hE s n n rfl hn hs _ hX (by simp) W (hg.q.gr g));have HRK:=Lib.hid h.rk;clear fz c0 c1 c3 h hX;go_enter Tryz.func118,Tryz.ntmps118;go_wp2_with fail;refine (HQ.out _ Gr.auto).mono ?_;rintro e w1 ⟨rfl,hc,g1⟩;have hc':¬(c:Int)=0:=by omega
 have hF1:=(FX.new w (.int .i64 0) (.int .i64 0) 31).gr g1;have hF2:=hF1.gr ((Gr.refl w1).alloc (.cells #[.slice none 0 0,.slice none 0 0] 77));have hF3:=Lib.hid (hF2.set (.int .i64 c) (.int .i64 p));obtain⟨f1,f2,f3,f4⟩:=hF2;go_wp2_with fail;refine Z231 ?_;intro w2 g2;obtain⟨q0,q1,qf,hl2⟩:=hF3.out.gr g2;have hG2:Gr w w2:=by
  refine Gr.trans (Gr.setCell (Gr.setCell ((((Gr.refl w).alloc _).trans g1).alloc _) (Nat.le_refl _) _) (Nat.le_refl _) _) g2
 clear g2 hF3 f1 f2 f3 f4 hF1;go_wp2_with fail
 go_region
 all_goals go_wp2_with fail
 exact bodyPost_ret (v := .tuple #[.int .i64 0,fv c p]) (by simp[results,Tryz.results118,go_sem,q0,q1,qf,hl2]) rfl ⟨rfl,hc,FV own,St.auto,HRK.out.gr Gr.auto⟩
structure KeyC (bF bK gk gs ck cs:Nat) (ws:List Pl.KW) (W:World):Prop where
 f:FX bF (.int .i64 0) (.int .i64 0) W
 k0:W.cell? ⟨bK,0,none⟩=some (.slice (some ⟨gk,0,none⟩) ws.length ck)
 k1:W.cell? ⟨bK,1,none⟩=some (.slice (some ⟨gs,0,none⟩) ws.length cs)
 kl:bK<W.heap.size
 gkl:gk<W.heap.size
 gsl:gs<W.heap.size
 w:∀(j:Nat) (t:Pl.Bs) (a b:Nat),ws[j]?=some (t,a,b)→W.cell? ⟨gk,j,none⟩=some (strV t)∧W.cell? ⟨gs,j*2,none⟩=some (.int .i64 a)∧W.cell? ⟨gs,j*2+1,none⟩=some (.int .i64 b)
theorem KeyC.st {bF bK gk gs ck cs:Nat} {ws:List Pl.KW} {W W':World} {F F':Nat→Prop} (h:KeyC bF bK gk gs ck cs ws W) (g:St F F' W W') (h1:¬F bF) (h2:¬F bK) (h3:¬F gk) (h4:¬F gs):KeyC bF bK gk gs ck cs ws W' :=
 ⟨h.f.st g h1,((g.use _ h.kl h2).1 _).trans h.k0,((g.use _ h.kl h2).1 _).trans h.k1,Nat.lt_of_lt_of_le h.kl g.size,Nat.lt_of_lt_of_le h.gkl g.size,Nat.lt_of_lt_of_le h.gsl g.size,
  fun j t a b hj=>by
   obtain⟨a1,a2,a3⟩:=h.w j t a b hj;exact⟨((g.use _ h.gkl h3).1 _).trans a1,((g.use _ h.gsl h4).1 _).trans a2,((g.use _ h.gsl h4).1 _).trans a3⟩⟩
theorem KeyC.gr {bF bK gk gs ck cs:Nat} {ws:List Pl.KW} {W W':World} (h:KeyC bF bK gk gs ck cs ws W) (g:Gr W W'):KeyC bF bK gk gs ck cs ws W' :=
 h.st (F:=fun _=>False) (F':=fun _=>False) g.st (fun e=>e) (fun e=>e) (fun e=>e) (fun e=>e)
theorem KeyC.setF {bF bK gk gs ck cs:Nat} {ws:List Pl.KW} {W:World} (h:KeyC bF bK gk gs ck cs ws W) (h1:bF≠bK) (h2:bF≠gk) (h3:bF≠gs):KeyC bF bK gk gs ck cs ws ((W.setCell ⟨bF,0,none⟩ (.int .i64 0)).setCell ⟨bF,1,none⟩ (.int .i64 0)):=by
 have hc:∀b o,bF≠b→((W.setCell ⟨bF,0,none⟩ (.int .i64 0)).setCell ⟨bF,1,none⟩ (.int .i64 0)).cell? ⟨b,o,none⟩=W.cell? ⟨b,o,none⟩:=by
  intro b o hb;rw[World.cell?_setCell_other _ _ _ _ (by simp[hb,Ne.symm hb]),World.cell?_setCell_other _ _ _ _ (by simp[hb,Ne.symm hb])]
 refine⟨h.f.set _ _,(hc _ _ h1).trans h.k0,(hc _ _ h1).trans h.k1,by simpa using h.kl,by simpa using h.gkl,by simpa using h.gsl,fun j t a b hj=>?_⟩;obtain⟨a1,a2,a3⟩:=h.w j t a b hj;exact⟨(hc _ _ h2).trans a1,(hc _ _ h3).trans a2,(hc _ _ h3).trans a3⟩
theorem spotsV_get:∀(l:List (Nat × Nat)) (j:Nat) (p:Nat × Nat),l[j]?=some p→(spotsV l)[j*2]?=some (.int .i64 p.1)∧(spotsV l)[j*2+1]?=some (.int .i64 p.2)
 | [],j,p,h=>by simp at h
 | x::l,0,p,h=>by
  simp only[List.getElem?_cons_zero,Option.some.injEq]at h;subst h;exact⟨rfl,rfl⟩
 | x::l,j+1,p,h=>by
  have:=spotsV_get l j p (by simpa using h);have e:spotsV (x::l) = .int .i64 x.1 :: .int .i64 x.2::spotsV l:=rfl;rw[e,show (j+1)*2=j*2+1+1 from by omega]
  simpa using this
theorem keyRows {W:World} {base:Nat} {ws:List Pl.KW} {kv sv:Value} (hk:RowC W base 9 1 kv ws.length (keysV (keyWords ws))) (hs:RowC W base 73 2 sv ws.length (spotsV (keySpans ws))) (h0:0<ws.length) :
    ∃gk gs ck cs,kv = .slice (some ⟨gk,0,none⟩) ws.length ck∧sv = .slice (some ⟨gs,0,none⟩) ws.length cs∧base≤gk∧base≤gs∧gk<W.heap.size∧gs<W.heap.size ∧
     ∀(j:Nat) (t:Pl.Bs) (a b:Nat),ws[j]?=some (t,a,b)→W.cell? ⟨gk,j,none⟩=some (strV t)∧W.cell? ⟨gs,j*2,none⟩=some (.int .i64 a)∧W.cell? ⟨gs,j*2+1,none⟩=some (.int .i64 b):=by
 obtain⟨gk,ck,rfl,_,_⟩:=hk.form h0;obtain⟨gs,cs,rfl,_,_⟩:=hs.form h0;have l1:=hk.lt gk rfl;have l2:=hs.lt gs rfl;refine⟨gk,gs,ck,cs,rfl,rfl,l1.1,l2.1,l1.2,l2.2,fun j t a b hj=>⟨?_,?_,?_⟩⟩
 · exact hk.cells (g:=gk) rfl j _ (by simp[keysV,keyWords,hj])
 · exact hs.cells (g:=gs) rfl _ _ (spotsV_get _ j (a,b) (by simp[keySpans,hj])).1
 exact hs.cells (g:=gs) rfl _ _ (spotsV_get _ j (a,b) (by simp[keySpans,hj])).2
def tabR (a b:Int):NdR:=⟨⟨8,[],[],[],[],(a,b),0⟩,nilV,nilV,nilV⟩
theorem tab_node (W:World) (R B base:Nat) (s:ByteArray) (root:Int) (nv:Value) (L:List NdR) (own:Nat→Nat) (h:RdV W R B base s root nv L own) (hr:Pl.room (L.map (·.nd))=true) (a b:Int) :
    Calls Tryz.prog 116 #[.pointer (some ⟨R,0,none⟩),.agg #[.int .u8 8,.string ⟨#[]⟩,nilV,nilV,nilV,.int .i64 a,.int .i64 b]] W fun e w' =>
     e = .returned (.int .i64 L.length)∧∃nv' own',RdV w' R B base s root nv' (L++[tabR a b]) own'∧St (FV own) (FV own') W w'∧(∀k,own' k≠0→own k≠0∨W.heap.size≤k):=by
 have hl:L.length≤30000000:=by simp[Pl.room]at hr;omega
 refine (tv_node W R B base s root nv L own h hl (tabR a b) rfl rfl rfl rfl rfl rfl (rowC_of (nilRow _ _ _ _)) (fun _=>nilRow _ _ _ _) (fun k e=>by simp[tabR,Value.ownBlock]at e) 8 ⟨#[]⟩ nilV nilV nilV a b (by simp[ndV,tabR])).mono ?_;rintro e w' ⟨rfl,nv',own',h1,h2,h3⟩;refine⟨rfl,nv',own',h1,?_,fun k hk=>?_⟩
 · refine⟨h2.os,h2.tape,h2.output,h2.size,fun k hk hn=>h2.block k hk (fun e=>e.elim hn (fun e=>by simp[tabR,Value.ownBlock]at e)),fun k hk=>?_⟩;rcases h2.own k hk with (e|e)|e
   · exact .inl e
   · simp[tabR,Value.ownBlock]at e
   exact .inr e
 rcases h3 k hk with e|e|e
 · exact .inl e
 · simp[tabR,Value.ownBlock]at e
 exact .inr e
theorem map_set_put (L:List NdR) (i:Nat) (r:NdR) (t:Pl.Bs) (sp:Nat × Nat) (n:Nat) (x:NdR) (hr:L[i]?=some r) (hx:x.nd=Pl.putNd r.nd t sp n):(L.set i x).map (·.nd)=Pl.putAt (L.map (·.nd)) i t sp n:=by
 unfold Pl.putAt;apply List.ext_getElem?;intro j;rw[List.getElem?_map,List.getElem?_modify,List.getElem?_map,List.getElem?_set];by_cases e:i=j
 · subst e;have hil:=(List.getElem?_eq_some_iff.1 hr).1;simp[hil,hr,hx];have:=(List.getElem?_eq_some_iff.1 hr).2;rw[this]
 simp[e]
theorem way_cons (table:Nat) (w:Pl.Bs) (a b:Nat) (rest:List Pl.KW) (into d:Nat) (st:Pl.Nds) :
    Pl.way table ((w,a,b)::rest) into d st=match Pl.subOf st into w with
    | .non => .non
    | .yes i =>
     match rest with
     | [] => .bad 5 a
     | _::_=>if Pl.ownerOf st i=table+1 then Pl.way table rest i (d+1) st else .bad 5 a
    | .no =>
     match rest with
     | [] => .ok (into,d,st)
     | _::_ =>
      if 256<d+1 then .bad 4 a else
      if Pl.kind8 st into && Pl.room st then Pl.way table rest st.length (d+1) (Pl.putAt (st++[Pl.dotNd (table+1)]) into w (a,b) st.length) else .non:=by
 rw[Pl.way.eq_def];dsimp only;cases Pl.subOf st into w <;> cases rest <;> rfl
def WayI (s:ByteArray) (R B base:Nat) (root:Int) (own:Nat→Nat) (w:World) (z0 bF bK gk gs ck cs table:Nat) (ws:List Pl.KW) (Y:Pl.Res (Nat × Nat × Pl.Nds)) (v3 v8 v12 v40:Value) (m:Nat) (wr:World):Prop :=
 ∃(done rest:List Pl.KW) (j into d:Nat) (nv':Value) (L':List NdR) (own':Nat→Nat),v3 = .int .i64 d∧v8 = .int .i64 m∧v12 = .int .i64 into∧v40 = .int .i64 j∧done.length=j∧ws=done++rest∧rest≠[]∧d≤256+j ∧
  RdV wr R B base s root nv' L' own'∧Pl.way table rest into d (L'.map (·.nd))=Y∧KeyC bF bK gk gs ck cs ws wr∧GW Tb base wr∧St (FV own) (FV own') w wr∧(∀k,own' k≠0→own k≠0∨z0≤k)∧z0≤wr.heap.size
set_option maxRecDepth 100000 in
theorem tv_pair_ok (E:Pl.Env) (hE:EnvStr Tb E) (w:World) (R B base:Nat) (s:ByteArray) (root:Int) (V:Pl.ValF) (hV:ValueC Tb s R B base root V) (nv:Value) (L:List NdR) (own:Nat→Nat) (h:RdV w R B base s root nv L own) (hg:GW Tb base w) (hs:s.size≤20000000)
    (table d n:Nat) (hn:n≤s.size) (hd:d≤256) (ht:table≤30000000) (ws:List Pl.KW) (m:Nat) (hX:Pl.keyS E (bs s) n = .ok (ws,m)) (X:Pl.Res (Nat × Pl.Nds)) (hXX:Pl.pairS E V (bs s) table n d (L.map (·.nd))=X) (hne:X ≠ .non) :
    Calls Tryz.prog 118 #[.pointer (some ⟨R,0,none⟩),.int .i64 table,.int .i64 n,.int .i64 d] w (PairPost s R B base root own w X):=by
 obtain⟨c0,c1,c2,c3,fz⟩:=h.cells;have hR:=h.R_lt;have HQ:=Lib.hid (fun W (g:Gr w W)=>tk_Read Tb E hE s n n rfl hn hs _ hX (by simp) W (hg.q.gr g));unfold Pl.pairS at hXX;rw[hX]at hXX;simp only at hXX;have H:=Lib.hid h;have HG:=Lib.hid hg;have HV:=Lib.hid hV;obtain⟨Y,hY⟩:∃Y,Pl.way table ws table d (L.map (·.nd))=Y:=⟨_,rfl⟩
 rw[hY]at hXX;have hYne:Y ≠ .non:=by
  intro e;rw[e]at hXX;exact hne hXX.symm
 have HX:=Lib.hid hXX;have HN:=Lib.hid hne;have HYN:=Lib.hid hYne;have HY:=Lib.hid hY;clear fz c0 c1 c3 h hX hg hV hXX hne hYne hY;go_enter Tryz.func118,Tryz.ntmps118;go_wp2_with fail;refine (HQ.out _ Gr.auto).mono ?_;rintro e w1 ⟨kv,sv,rfl,hm,hkr,hsr,hwl,hw0,g1⟩;obtain⟨gk,gs,ck,cs,rfl,rfl,hgk,hgs,hgkl,hgsl,hrows⟩:=keyRows hkr hsr hw0;simp only[World.size_alloc]at hgk hgs;have hz1:=g1.size;simp only[World.size_alloc]at hz1;have hF1:=(FX.new w (.int .i64 0) (.int .i64 0) 31).gr g1;have hK1:KeyC w.heap.size w1.heap.size gk gs ck cs ws (w1.alloc (.cells #[.slice (some ⟨gk,0,none⟩) ws.length ck,.slice (some ⟨gs,0,none⟩) ws.length cs] 77)):=by
  have ga:=(Gr.refl w1).alloc (.cells #[.slice (some ⟨gk,0,none⟩) ws.length ck,.slice (some ⟨gs,0,none⟩) ws.length cs] 77);refine⟨hF1.gr ga,by simp,by simp,by simp,by simp;omega,by simp;omega,fun j t a b hj=>?_⟩;obtain⟨a1,a2,a3⟩:=hrows j t a b hj;exact⟨(ga.use.1 _ _ hgkl).trans a1,(ga.use.1 _ _ hgsl).trans a2,(ga.use.1 _ _ hgsl).trans a3⟩
 obtain⟨f1,f2,f3,f4⟩:=hK1.f;have hG1:Gr w (w1.alloc (.cells #[.slice (some ⟨gk,0,none⟩) ws.length ck,.slice (some ⟨gs,0,none⟩) ws.length cs] 77)):=(((Gr.refl w).alloc _).trans g1).alloc _;have hK2:=Lib.hid (hK1.setF (by omega) (by omega) (by omega));have hG2:=Lib.hid (Gr.setCell (p:=⟨w.heap.size,1,none⟩) (Gr.setCell (p:=⟨w.heap.size,0,none⟩) hG1 (Nat.le_refl _) (.int .i64 0)) (Nat.le_refl _) (.int .i64 0));clear hrows hkr hsr hK1 hG1;go_wp2_with fail;refine Z155 ?_;intro w2 g2;have HK:=Lib.hid (hK2.out.gr g2);have hG:=hG2.out.trans g2;clear g2 hG2 hK2 f1 f2 f3 f4 hF1 g1 hgkl hgsl;have hKK:=HK.out;obtain⟨k0,k1⟩:=(show _∧_ from ⟨hKK.k0,hKK.k1⟩)
 have hkl:=hKK.kl;obtain⟨la,hla⟩:∃la,ws.length=la+1:=⟨ws.length-1,by omega⟩
 have hwr:IntKind.i64.wrap ((ws.length:Int)-1)=(la:Int):=by rw[IntWalk.i64_in _ ⟨by omega,by omega⟩];omega
 clear hKK;have HLA:=Lib.hid hla;clear hla;go_wp2_with fail;have hnF:¬FV own w.heap.size:=H.out.not_new (Nat.le_refl _);have hnK:¬FV own w1.heap.size:=H.out.not_new (by omega);have hnGk:¬FV own gk:=H.out.not_new (by omega);have hnGs:¬FV own gs:=H.out.not_new (by omega);have hst0:St (FV own) (FV own) w w2:=St.auto
 go_loopw [3,8,12,40] (fun v3 v8 v12 v40 wr=>WayI s R B base root own w w2.heap.size w.heap.size w1.heap.size gk gs ck cs table ws Y v3 v8 v12 v40 m wr) (fun _ _ _ v40 _=>ws.length-(intOf v40).toNat)
 case atStart =>
  exact⟨[],ws,0,table,d,nv,L,own,rfl,rfl,rfl,rfl,rfl,rfl,fun e=>by rw[e]at hw0;simp at hw0,by omega,H.out.gr hG,HY.out,HK.out,HG.out.gr hG,hst0,fun k hk => .inl hk,Nat.le_refl _⟩
 case round =>
  obtain⟨done,rest,j,into,d',nv',L',own',rfl,rfl,rfl,rfl,hdj,hws,hrest,hd',hr,hway,hkc,hgw,hst,hown,hz0⟩:=hrel;obtain⟨tab,rest',rfl⟩:∃x l,rest=x::l:=List.exists_cons_of_ne_nil hrest;obtain⟨t,a,b⟩:=tab;have hjw:ws[j]?=some (t,a,b):=by rw[hws,←hdj];simp
  have hwj:ws.length=j+1+rest'.length:=by rw[hws];simp[hdj];omega
  have hlaj:la=j+rest'.length:=by have:=HLA.out;omega
  obtain⟨y1,y2,y3⟩:=hkc.w j t a b hjw;have i0:decide (j<ws.length)=true:=by simp;omega
  refine Z287 ?_;intro i1;have i2:(j:Int)<(ws.length:Int):=by omega
  have ik0:=hkc.k0;have ik1:=hkc.k1;obtain⟨iv0,iv1,iv2,iv3,ivf⟩:=hr.cells;have HR':=Lib.hid hr;have HWAY:=Lib.hid hway;have HKC:=Lib.hid hkc;have HGW:=Lib.hid hgw;have HST:=Lib.hid hst;have HOWN:=Lib.hid hown;have HWS:=Lib.hid hws;have HWJ:=Lib.hid hwj;have HLAJ:=Lib.hid hlaj;have HJW:=Lib.hid hjw;clear hr hway hkc hgw hst hown hws hwj hlaj hjw hrest;go_wp2_with fail;have hbt:bs (⟨t.toArray⟩:ByteArray)=t:=by simp[bs]
  have HW2:=HWAY.out;rw[way_cons]at HW2;cases hS:Pl.subOf (L'.map (·.nd)) into t with
  | non=>rw[hS]at HW2;exact absurd HW2.symm HYN.out
  | yes i =>
   rw[hS]at HW2;refine (tv_sub wr R B base s root nv' L' own' HR'.out into ⟨t.toArray⟩ (.yes i) (by rw[hbt];exact hS) (by simp)).mono ?_;rintro e w3 ⟨he,rfl⟩;obtain rfl:e = .returned (.tuple #[.int .i64 i,.bool true]):=he;clear hbt;cases rest' with
   | nil =>
    simp only at HW2;have HY5:=Lib.hid HW2;clear HW2 hS;have b1:((j:Int)==(la:Int))=true:=by have:=HLAJ.out;simp at this;simp;omega
    obtain⟨q0,q1,qf,ql⟩:=HKC.out.f;exact J101
   | cons x rest'' =>
    simp only at HW2;obtain⟨ri,hri⟩:∃ri,L'[i]?=some ri:=by
     have:i<(L'.map (·.nd)).length:=by
      unfold Pl.subOf at hS
      split at hS
      · cases hS
      split at hS
      · cases hS
      split at hS
      · cases hS
      split at hS
      · cases hS;assumption
      cases hS
     rw[List.length_map]at this;exact⟨_,List.getElem?_eq_getElem this⟩
    have hown:Pl.ownerOf (L'.map (·.nd)) i=ri.nd.owner:=by unfold Pl.ownerOf;simp[hri]
    rw[hown]at HW2;have b1:((j:Int)==(la:Int))=false:=by have:=HLAJ.out;simp at this;simp;omega
    have bt:IntKind.i64.wrap ((table:Int)+1)=(table:Int)+1:=IntWalk.i64_in _ ⟨by omega,by omega⟩;have hi64:i≤9223372036854775807:=by
     have hil:=(List.getElem?_eq_some_iff.1 hri).1;obtain⟨g',cap',cur',_,_,_,_,_,_,_,_,h8,h9,_⟩:=HR'.out.form (by omega);unfold maxLen at h9;omega
    have blook:∀W,W.heap[B]?=wr.heap[B]?→(Instr.lookup 132 (.map (some B)) (.int .i64 i) false).run Tryz.prog W = .ok (.int .i64 ri.nd.owner) W:=fun W hW=>HR'.out.look i hi64 ri hri W hW
    have blk0:=blook wr rfl;obtain⟨q0,q1,qf,ql⟩:=HKC.out.f;by_cases ho:ri.nd.owner=table+1
    · rw[if_pos ho]at HW2;have b2:((ri.nd.owner:Int) != ((table:Int)+1))=false:=by simp;omega
      have HW3:=Lib.hid HW2;clear HW2 hS hown ho;go_wp2_with fail
      go_roundw
      case rel =>
       refine⟨done++[(t,a,b)],x::rest'',j+1,i,d'+1,nv',L',own',by simp,rfl,rfl,by simp,by simp[hdj],by rw[HWS.out];simp,by simp,by omega,HR'.out,HW3.out,HKC.out,HGW.out,HST.out,HOWN.out,hz0⟩
      case measure=>have:=HWJ.out;simp[intOf];omega
    rw[if_neg ho]at HW2;have b2:((ri.nd.owner:Int) != ((table:Int)+1))=true:=by simp;omega
    have HY5:=Lib.hid HW2;clear HW2 hS hown ho;exact J101
  | no =>
   rw[hS]at HW2;refine (tv_sub wr R B base s root nv' L' own' HR'.out into ⟨t.toArray⟩ .no (by rw[hbt];exact hS) (by simp)).mono ?_;rintro e w3 ⟨he,rfl⟩;obtain rfl:e = .returned (.tuple #[.int .i64 0,.bool false]):=he;clear hbt hS;cases rest' with
   | nil =>
    simp only at HW2;have HY5:=Lib.hid HW2;have b1:((j:Int)==(la:Int))=true:=by have:=HLAJ.out;simp at this;simp;omega
    obtain⟨q0,q1,qf,ql⟩:=HKC.out.f;have hX2:=HX.out;rw[←HW2]at hX2;simp only at hX2;obtain⟨e1,he1⟩:∃e1,Pl.blanksAt (bs s) m=e1:=⟨_,rfl⟩
    have he1s:e1≤s.size:=by have:=Pl.blanksAt_le (bs s) m (by rw[bs_length];exact hm);rw[bs_length]at this;omega
    rw[he1]at hX2;clear HW2;have HE1:=Lib.hid he1;clear he1;go_wp2_with fail;refine (tk_Blanks s m m rfl hm (by omega) _).mono ?_;rintro e w4 ⟨rfl,g4⟩;rw[HE1.out];have hr4:=HR'.out.gr g4;have hkc4:=HKC.out.gr g4;obtain⟨jv0,jv1,jv2,jv3,jvf⟩:=hr4.cells;have HR4:=Lib.hid hr4;have HKC4:=Lib.hid hkc4;have HX2:=Lib.hid hX2;clear hr4 hkc4 hX2;go_wp2_with fail;refine (tv_byte w4 R s jv2 e1 e1 rfl).mono ?_;refine Z48 ?_;obtain⟨v0,v1,vf,vl⟩:=HKC4.out.f;have HST4:=Lib.hid (HST.out.gr g4);have HGW4:=Lib.hid (HGW.out.gr g4);have hz4:w2.heap.size≤w4.heap.size:=Nat.le_trans hz0 g4.size;clear g4 q0 q1 qf ql iv0 iv1 iv2 iv3 ivf ik0 ik1 y1 y2 y3;by_cases hb:Pl.byteAt (bs s) e1=61
    · have hX2:=HX2.out;rw[if_pos hb]at hX2;have he2:e1<s.size:=Nat.lt_of_not_le fun hle=>by rw[byteAt_ge s e1 (by omega)]at hb;omega
      have hb1:(((Pl.byteAt (bs s) e1:Nat):Int) != 61)=false:=by simp;omega
      obtain⟨e2,he2'⟩:∃e2,Pl.blanksAt (bs s) (e1+1)=e2:=⟨_,rfl⟩
      have he2s:e2≤s.size:=by have:=Pl.blanksAt_le (bs s) (e1+1) (by rw[bs_length];omega);rw[bs_length]at this;omega
      rw[he2']at hX2;have HX3:=Lib.hid hX2;have HE2:=Lib.hid he2';have bt1:IntKind.i64.wrap ((e1:Int)+1)=(e1:Int)+1:=IntWalk.i64_in _ ⟨by omega,by omega⟩;have hjs:j≤20000002:=by have:=HWJ.out;omega
      have bt2:IntKind.i64.wrap ((d':Int)+1)=(d':Int)+1:=IntWalk.i64_in _ ⟨by omega,by omega⟩;clear hX2 hb he2';go_wp2_with fail;refine (tk_Blanks s _ (e1+1) (by simp) (by omega) (by omega) _).mono ?_;rintro e w6 ⟨rfl,g6⟩;rw[HE2.out];go_wp2_with fail;have hr6:=HR4.out.gr g6;have hkc6:=HKC4.out.gr g6;have hgw6:=HGW4.out.gr g6;have hst6:=HST4.out.gr g6;have hz6:w2.heap.size≤w6.heap.size:=Nat.le_trans hz4 g6.size;have hX3:=HX3.out;cases hZ:V (d'+1) e2 (L'.map (·.nd)) with
      | non=>rw[hZ]at hX3;exact absurd hX3.symm HN.out
      | bad c p =>
       rw[hZ]at hX3;simp only at hX3;refine Z220 ?_;refine Z120 ?_;intro w7 hc F' hst7 HRK7;have hnF':¬FV own' w.heap.size:=fun hf=>by
        rcases HOWN.out _ hf with e|e
        · exact hnF e
        have:=HK.out.f.2.2.2;omega
       have hfx:=hkc6.f.st hst7 hnF';have hF3:=Lib.hid (hfx.set (.int .i64 c) (.int .i64 p));have HST7:=Lib.hid (hst6.trans hst7);obtain⟨p0,p1,pf,pl⟩:=hfx;have hc':¬(c:Int)=0:=by omega
       have HX4:=Lib.hid hX3;clear hX3 hst7 hst6 hr6 hkc6 hgw6 v0 v1 vf vl;go_wp2_with fail;refine Z231 ?_;intro w8 g8;obtain⟨u0,u1,uf,ul⟩:=hF3.out.gr g8;have hrk8:=HRK7.out.gr g8;have hst8:St (FV own) F' w w8:=(((HST7.out.setCell (.inr (Nat.le_refl _)) _).setCell (.inr (Nat.le_refl _)) _)).gr g8;go_wp2_with fail
       go_region
       all_goals go_wp2_with fail
       rw[←HX4.out];exact bodyPost_ret (v := .tuple #[.int .i64 0,fv c p]) (by simp[results,Tryz.results118,go_sem,u0,u1,uf,ul]) rfl ⟨rfl,hc,F',((hst8.setCell (.inr (Nat.le_refl _)) _).setCell (.inr (Nat.le_refl _)) _).drew,((hrk8.set (by omega) _).set (by omega) _).drew⟩
      | ok r =>
       obtain⟨iv,n2,st2⟩:=r;rw[hZ]at hX3;simp only at hX3;have hgl:ws.getLast?=some (t,a,b):=by rw[HWS.out];simp
       rw[hgl]at hX3;simp only at hX3;cases hk8:Pl.kind8 st2 into with
       | false=>rw[hk8,if_neg (by simp)]at hX3;exact absurd hX3.symm HN.out
       | true =>
       rw[hk8,if_pos rfl]at hX3;refine Z220 ?_;rintro e w7 ⟨rfl,hn2,hiv,nv7,L7,own7,hr7,hL7,hst7,hown7⟩;have hnF':∀k,k<w2.heap.size→¬FV own k→¬FV own' k:=fun k hk hn hf=>by
        rcases HOWN.out _ hf with e|e
        · exact hn e
        omega
       have hkc7:=hkc6.st hst7 (hnF' _ HK.out.f.2.2.2 hnF) (hnF' _ HK.out.kl hnK) (hnF' _ HK.out.gkl hnGk) (hnF' _ HK.out.gsl hnGs);have hz7:w2.heap.size≤w7.heap.size:=Nat.le_trans hz6 hst7.size;have HKF:=Lib.hid (hkc7.setF (by omega) (by omega) (by omega));have HST7:=Lib.hid (hst6.trans hst7);have HR7:=Lib.hid hr7;have HOWN7:=Lib.hid hown7;have HX4:=Lib.hid hX3;have HL7:=Lib.hid hL7;have HK8:=Lib.hid hk8;obtain⟨p0,p1,pf,pl⟩:=hkc7.f;clear hX3 hst7 hst6 hr6 hkc6 hgw6 v0 v1 vf vl hr7 hown7 hL7 hk8 hkc7;go_wp2_with fail;refine Z155 ?_;intro w8 g8;have hkc8:=HKF.out.gr g8;have hn7:¬FV own7 w.heap.size:=fun hf=>by
        rcases HOWN7.out _ hf with e|e
        · exact hnF' _ HK.out.f.2.2.2 hnF e
        have:=HK.out.f.2.2.2;omega
       have hr8:=(((HR7.out.setCell (p:=⟨w.heap.size,0,none⟩) hn7 (.int .i64 0)).setCell (p:=⟨w.heap.size,1,none⟩) hn7 (.int .i64 0)).gr g8).drew;have hst8:=(((HST7.out.setCell (p:=⟨w.heap.size,0,none⟩) (.inr (Nat.le_refl _)) (.int .i64 0)).setCell (p:=⟨w.heap.size,1,none⟩) (.inr (Nat.le_refl _)) (.int .i64 0)).gr g8).drew;have HR8:=Lib.hid hr8;have HST8:=Lib.hid hst8;clear hr8 hst8 p0 p1 pf pl;go_wp2_with fail;have hS:=hkc8.gr (Gr.refl w8).drew;have hlj:la=j:=by have:=HLAJ.out;simp at this;exact this
       have hjw':=HJW.out;rw[←hlj]at hjw';have l1:(0:Int)≤(la:Int):=by omega
       have l2:(la:Int)<(ws.length:Int):=by have:=HLA.out;omega
       clear hlj;refine Reg.begin' (W:=fun _=>true) (S:=KeyC w.heap.size w1.heap.size gk gs ck cs ws) (by kernel_rfl) ?_;refine Z40 ?_;refine Reg.ty 4 ?_;refine Reg.ty 7 ?_;refine Reg.ty 9 ?_;refine Reg.ty 12 ?_;refine Reg.tl 3 hS ?_ (hy:=by intro w hSw;obtain⟨qf0,qk0,qk1,ql1,ql2,ql3,qw⟩:=hSw;go_simp;try with_reducible rfl);refine Reg.ty 5 ?_;refine Reg.tl 6 hS ?_ (hy:=by intro w hSw;obtain⟨x1,x2,x3⟩:=KeyC.w hSw la t a b hjw';obtain⟨qf0,qk0,qk1,ql1,ql2,ql3,qw⟩:=hSw;go_simp;try with_reducible rfl);refine Reg.tl 8 hS ?_ (hy:=by intro w hSw;obtain⟨x1,x2,x3⟩:=KeyC.w hSw la t a b hjw';obtain⟨qf0,qk0,qk1,ql1,ql2,ql3,qw⟩:=hSw;go_simp;try with_reducible rfl);refine Reg.ty 10 ?_;refine Reg.tl 11 hS ?_ (hy:=by intro w hSw;obtain⟨x1,x2,x3⟩:=KeyC.w hSw la t a b hjw';obtain⟨qf0,qk0,qk1,ql1,ql2,ql3,qw⟩:=hSw;go_simp;try with_reducible rfl);refine Reg.on 13 ?_;go_simp;have hk8:=HK8.out;rw[←HL7.out]at hk8;obtain⟨ri,hri⟩:∃ri,L7[into]?=some ri:=by
        unfold Pl.kind8 at hk8;rw[Bool.and_eq_true,List.getElem?_map]at hk8
        replace hk8:=hk8.2
        cases hl:L7[into]? with
        | none=>rw[hl]at hk8;cases hk8
        | some ri=>exact⟨ri,rfl⟩
       unfold Pl.kind8 at hk8;rw[Bool.and_eq_true,List.getElem?_map,hri]at hk8;obtain⟨k8l,hk8⟩:=hk8;simp only[Option.map_some,Bool.and_eq_true,decide_eq_true_eq,beq_iff_eq,List.length_map]at hk8 k8l;obtain⟨⟨⟨k8a,k8b⟩,k8c⟩,k8d⟩:=hk8;have hn8:∀k,k<w2.heap.size→¬FV own k→¬FV own7 k:=fun k hk hn hf=>by
        rcases HOWN7.out _ hf with e|e
        · exact hnF' k hk hn e
        omega
       refine (tv_put w8.drew R B base s root nv7 L7 own7 HR8.out k8l into ri hri k8a k8b k8c k8d ⟨t.toArray⟩ a b iv).mono ?_;rintro e w9 ⟨rfl,own9,kv9,sv9,uv9,hr9,hst9,hown9⟩;have hkc9:=hS.st hst9 (hn8 _ HK.out.f.2.2.2 hnF) (hn8 _ HK.out.kl hnK) (hn8 _ HK.out.gkl hnGk) (hn8 _ HK.out.gsl hnGs);refine⟨by first|exact hkc9|exact fun _=>hkc9|exact fun _ _=>hkc9,?_⟩;refine Reg.pt ?_;refine Z12 ?_;obtain⟨p0,p1,pf,pl⟩:=hkc9.f;have hz8:w2.heap.size≤w8.heap.size:=by have:=g8.size;simp[World.setCell]at this;omega
       have hown9':∀k,own9 k≠0→own k≠0∨w.heap.size+1≤k:=by
        intro k hk;rcases hown9 k hk with e|e
        · rcases HOWN7.out k e with e|e
          · rcases HOWN.out k e with e|e
            · exact .inl e
            exact .inr (by have:=HK.out.f.2.2.2;omega)
          exact .inr (by have:=HK.out.f.2.2.2;omega)
        refine .inr ?_;have h1:w8.drew.heap.size=w8.heap.size:=rfl;have h2:=HK.out.f.2.2.2;omega
       have hn9:¬FV own9 w.heap.size:=fun hf=>by
        rcases hown9' _ hf with e|e
        · exact hnF e
        omega
       have HR9:=Lib.hid hr9;have HST9:=Lib.hid (HST8.out.trans hst9);have HOWN9:=Lib.hid hown9';have HRI:=Lib.hid hri;clear hr9 hst9 hown9 hown9' hri k8a k8b k8c k8d k8l hkc9 hS hkc8;go_wp2_with fail
       go_region
       all_goals go_wp2_with fail
       rw[←HX4.out];refine bodyPost_ret (v := .tuple #[.int .i64 n2,f0]) (by simp[results,Tryz.results118,go_sem,p0,p1,pf,pl]) rfl ⟨rfl,hn2,nv7,_,own9,((HR9.out.setCell hn9 _).setCell hn9 _).drew,?_,((HST9.out.setCell (.inr (Nat.le_refl _)) _).setCell (.inr (Nat.le_refl _)) _).drew,fun k hk=>(HOWN9.out k hk).imp id (fun e=>by omega)⟩;rw[map_set_put _ into ri t (a,b) iv _ HRI.out (by simp[bs]),HL7.out]
    have hX2:=HX2.out;rw[if_neg hb]at hX2;have hb1:(((Pl.byteAt (bs s) e1:Nat):Int) != 61)=true:=by simp;omega
    have HX3:=Lib.hid hX2;clear hX2 hb;go_wp2_with fail;refine (tv_wrong e1 e1 rfl _).mono ?_;rintro e w6 ⟨rfl,g6⟩;obtain⟨u0,u1,uf,ul⟩:=HKC4.out.f.gr g6;have hst6:=HST4.out.gr g6;go_wp2_with fail;rw[←HX3.out];exact bodyPost_ret (v := .tuple #[.int .i64 0,fv 3 e1]) (by simp[results,Tryz.results118,go_sem,u0,u1,uf,ul]) rfl ⟨rfl,by omega,FV own',((hst6.setCell (.inr (Nat.le_refl _)) _).setCell (.inr (Nat.le_refl _)) _),(((HR4.out.rk.gr g6).set (by omega) _).set (by omega) _)⟩
   | cons x rest'' =>
    simp only at HW2;have b1:((j:Int)==(la:Int))=false:=by have:=HLAJ.out;simp at this;simp;omega
    obtain⟨q0,q1,qf,ql⟩:=HKC.out.f;by_cases hdp:256<d'+1
    · rw[if_pos hdp]at HW2;have b2:decide ((256:Int)<(d':Int)+1)=true:=by simp;omega
      have HY5:=Lib.hid HW2;clear HW2 hdp;go_wp2_with fail
      go_region
      all_goals go_wp2_with fail
      have hXe:X = .bad 4 a:=by have:=HX.out;rw[←HY5.out]at this;exact this.symm
      rw[hXe];exact bodyPost_ret (v := .tuple #[.int .i64 0,fv 4 a]) (by simp[results,Tryz.results118,go_sem,q0,q1,qf,ql]) rfl ⟨rfl,by omega,FV own',((HST.out.setCell (.inr (Nat.le_refl _)) _).setCell (.inr (Nat.le_refl _)) _).drew,((HR'.out.rk.set (by omega) _).set (by omega) _).drew⟩
    rw[if_neg hdp]at HW2;have b2:decide ((256:Int)<(d':Int)+1)=false:=by simp;omega
    split at HW2
    · rename_i hkr
      simp only[Bool.and_eq_true]at hkr;have HY5:=Lib.hid HW2;have HKR:=Lib.hid hkr;clear HW2 hdp hkr;go_wp2_with fail;refine (tab_node wr R B base s root nv' L' own' HR'.out HKR.out.2 (-1) (-1)).mono ?_;rintro e w4 ⟨rfl,nv4,own4,hr4,hst4,hown4⟩;have hnF4:∀k,k<w2.heap.size→¬FV own k→¬FV own' k:=fun k hk hn hf=>by
       rcases HOWN.out k hf with e|e
       · exact hn e
       omega
      have hkc4:=HKC.out.st hst4 (hnF4 _ HK.out.f.2.2.2 hnF) (hnF4 _ HK.out.kl hnK) (hnF4 _ HK.out.gkl hnGk) (hnF4 _ HK.out.gsl hnGs);obtain⟨jv0,jv1,jv2,jv3,jvf⟩:=hr4.cells;have HR4:=Lib.hid hr4;have HST4:=Lib.hid hst4;have HOWN4:=Lib.hid hown4;have HKC4:=Lib.hid hkc4;clear hr4 hst4 hown4 hkc4;have bt:IntKind.i64.wrap ((table:Int)+1)=(table:Int)+1:=IntWalk.i64_in _ ⟨by omega,by omega⟩;obtain⟨D,hmap,hop⟩:=HR4.out.map;have HMAP:=Lib.hid hmap;have HOP:=Lib.hid hop;have hLl:L'.length≤20000000:=by have:=HKR.out.2;simpa [Pl.room]using this
      have hcnt:cntO (L'++[tabR (-1) (-1)])<maxLen:=by have:=cntO_le (L'++[tabR (-1) (-1)]);simp at this;unfold maxLen;omega
      clear hmap hop;have hnF5:∀k,k<w2.heap.size→¬FV own k→¬FV own4 k:=fun k hk hn hf=>by
       rcases HOWN4.out k hf with e|e
       · exact hnF4 k hk hn e
       omega
      have hn41:=hnF5 _ HK.out.f.2.2.2 hnF;have hn42:=hnF5 _ HK.out.kl hnK;have hn43:=hnF5 _ HK.out.gkl hnGk;have hn44:=hnF5 _ HK.out.gsl hnGs;have HOWNED:Hid (∀w5,w5.ownsMap Tryz.prog 3 (plainElem (H:=Unit) Tryz.prog 3) B (cntO (L'++[tabR (-1) (-1)])+1) (D.put (.int .i64 (L'.length:Int)) (.lit (.int .i64 ((table:Int)+1))))→w4.grownBy w5 (some B)→RdV w5 R B base s root nv4 ((L'++[tabR (-1) (-1)]).set L'.length (ownR (tabR (-1) (-1)) (table+1))) own4∧St (FV own4) (FV own4) w4 w5) :=
       fun w5 ho hg=>HR4.out.owned L'.length (tabR (-1) (-1)) (by simp) rfl (table+1) (by omega) (by omega) D HOP.out ho hg
      have hwfk:(Lit.int .i64 (L'.length:Int)).wf=true:=by simp[Lit.wf,IntKind.min,IntKind.max,IntKind.signed,IntKind.bits];omega
      have hwfv:(Lit.int .i64 ((table:Int)+1)).wf=true:=by simp[Lit.wf,IntKind.min,IntKind.max,IntKind.signed,IntKind.bits];omega
      go_wp2_with (first|(at_mapUpdate;refine wpList_mapUpdate_own _ rfl _ _ _ 132 rfl 3 3 (Maps.int_keyed Tryz.underlying3) Tryz.underlying132 (plainElem (H:=Unit) Tryz.prog 3) B (cntO (L'++[tabR (-1) (-1)])) D rfl HMAP.out hcnt (.int .i64 (L'.length:Int)) (.int .i64 ((table:Int)+1)) (.int .i64 (L'.length:Int)) rfl rfl (Maps.keyOf_int_mk Tryz.underlying3 hwfk) (.lit (.int .i64 ((table:Int)+1))) [] (plainElem_int Tryz.underlying3 hwfv) ?_;intro w5 hown5 hgrow5;have h5:=Lib.hid (HOWNED.out w5 hown5 hgrow5);have HKC5:=Lib.hid (HKC4.out.st h5.out.2 hn41 hn42 hn43 hn44);clear hown5 hgrow5;have z1:=HKC5.out.k1;obtain⟨_,z2,z3⟩:=HKC5.out.w j t a b HJW.out));have hk8:=HKR.out.1;obtain⟨ri,hri⟩:∃ri,L'[into]?=some ri:=by
       unfold Pl.kind8 at hk8;rw[Bool.and_eq_true,List.getElem?_map]at hk8
       replace hk8:=hk8.2
       cases hl:L'[into]? with
       | none=>rw[hl]at hk8;cases hk8
       | some ri=>exact⟨ri,rfl⟩
      have hil:=(List.getElem?_eq_some_iff.1 hri).1;unfold Pl.kind8 at hk8;rw[Bool.and_eq_true,List.getElem?_map,hri]at hk8
      replace hk8:=hk8.2
      simp only[Option.map_some,Bool.and_eq_true,decide_eq_true_eq,beq_iff_eq]at hk8;obtain⟨⟨⟨k8a,k8b⟩,k8c⟩,k8d⟩:=hk8;have hL5:(L'++[tabR (-1) (-1)]).set L'.length (ownR (tabR (-1) (-1)) (table+1))=L'++[ownR (tabR (-1) (-1)) (table+1)]:=by
       rw[List.set_append_right _ _ (Nat.le_refl _)];simp
      have hr5:=h5.out.1;rw[hL5]at hr5;refine (tv_put w5 R B base s root nv4 _ own4 hr5 (by simp;omega) into ri (by rw[List.getElem?_append_left hil];exact hri) k8a k8b k8c k8d ⟨t.toArray⟩ a b L'.length).mono ?_;rintro e w6 ⟨rfl,own6,kv6,sv6,uv6,hr6,hst6,hown6⟩;have HR6:=Lib.hid hr6;have HST6:=Lib.hid hst6;have HOWN6:=Lib.hid hown6;clear hr5 hr6 hst6 hown6;go_wp2_with fail
      go_roundw
      case rel =>
       have hst56:=h5.out.2;refine⟨done++[(t,a,b)],x::rest'',j+1,L'.length,d'+1,nv4,_,own6,by simp,rfl,rfl,by simp,by simp[hdj],by rw[HWS.out];simp,by simp,by omega,HR6.out,?_,?_,?_,?_,?_,?_⟩
       · rw[map_set_put _ into ri t (a,b) L'.length _ (by rw[List.getElem?_append_left hil];exact hri) (by simp[bs]),List.map_append];rw[List.length_map]at HY5;exact HY5.out
       · exact HKC5.out.st HST6.out hn41 hn42 hn43 hn44
       · exact ((HGW.out.st HST4.out (fun k hk=>(HR'.out.lt k hk).1)).st hst56 (fun k hk=>(HR4.out.lt k hk).1)).st HST6.out (fun k hk=>(HR4.out.lt k hk).1)
       · exact ((HST.out.trans HST4.out).trans hst56).trans HST6.out
       · intro k hk;rcases HOWN6.out k hk with e|e
         · rcases HOWN4.out k e with e|e
           · exact HOWN.out k e
           exact J38
         exact .inr (by have:=HST4.out.size;have:=hst56.size;omega)
       have:=HST4.out.size;have:=hst56.size;have:=HST6.out.size;omega
      case measure=>have:=HWJ.out;simp[intOf];omega
    exact absurd HW2.symm HYN.out
end Go.Proofs.YtfogfaagjpebcaaGreatDoor
