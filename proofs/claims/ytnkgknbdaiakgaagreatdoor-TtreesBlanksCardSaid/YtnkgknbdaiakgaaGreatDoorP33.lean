/- The proof's part 33. -/
import Derived.Test.YtnkgknbdaiakgaaGreatDoorP25
set_option maxHeartbeats 16000000
set_option linter.all false
set_option maxRecDepth 100000
namespace Go.Proofs.YtnkgknbdaiakgaaGreatDoor
open Pl Go.Proofs.Tryz Go.RowKit Go.Joins
def V6v(r:Vw)(t:Nat):Vw:=⟨{ r.nd with owner:=t },r.kv,r.sv,r.uv⟩
theorem RdV.owned{w w1:World}{R B base:Nat}{s:ByteArray}{root:Int}{nv:Value}{L:List Vw}{own:Nat->Nat}(h:RdV w R B base s root nv L own)(m:Nat)(r:Vw)(hr:L[m]?=some r)(h0:r.nd.owner=0)(t:Nat)(ht:t≠0)(hm:m<=9223372036854775807)
    (D:V5s)(hD:Ole D L)(h1:w1.ownsMap prog 3 (plainElem (H:=Unit) prog 3) B (V4i L+1) (D.put m (.lit t)))(hg:w.grownBy w1 (some B)) :
    RdV w1 R B base s root nv (L.set m (V6v r t)) own/\St (FV own) (FV own) w w1:=by
 have hB:=h.B_lt;have cG:∀k,k<w.heap.size->k≠B->w1.heap[k]?=w.heap[k]?:=λ k hk a8=>hg.block k hk (λ e=>a8 (U1x e))
 have hF:∀k t,own k=t->t≠0->t≠2->w1.heap[k]?=w.heap[k]?:=λ k t e h2 h3=>cG k (h.lt k (by omega)).2 (λ e2=>by subst e2;rw[h.oB]at e;omega)
 have Hi:m<L.length:=(U7.1 hr).1;have Hj:V35 (L.set m (V6v r t))=V35 L:=by
  unfold V35;rw[List.flatMap_def,List.flatMap_def];congr 1;apply U3g;intro j;simp only[Uq,U1o]
  split
  rename_i e
  subst e;simp[Hi,hr,ndV,V6v];have:=(U7.1 hr).2;rw[this];simp
  rfl
 refine⟨⟨by rw[hF R 1 h.oR (by omega) (by omega)];exact h.blk,h.oR,h.oB,?_,h.oN,?_,?_,?_⟩,?_⟩;rw[U1i,Hj];exact O1 h.nodes λ k e=>hF k 3 (h.oN k e) (by omega) (by omega)
 refine⟨DataW.put D m (.lit t),?_,?_⟩
 have e2:=O79 L m r (V6v r t) hr;have e3:V4i [r]=0:=by simp[V4i,h0]
 have e4:V4i [V6v r t]=1:=by simp[V4i,V6v,ht]
 rw[show V4i (L.set m (V6v r t))=V4i L+1 from by omega];exact h1
 have hk:∀i:Nat,i≠m->(Lit.int IntKind.i64 (i:Int)) ≠ .int .i64 (m:Int):=λ i hi e=>hi (by injection e with _ e2;exact Int.ofNat.inj e2)
 refine⟨Maps.IsMap.put hD.1 _ _,λ i hi=>?_,λ i x hx=>?_⟩;rw[U1i]at hi;rw[Maps.atKey_put_other (hk i (by omega))];exact hD.2.1 i hi
 rw[U1o]at hx
 split at hx
 rename_i e
 subst e;simp only[Hi,U1j,Uc]at hx;subst hx;rw[Maps.atKey_put_same (k := .int .i64 (m:Int)) hD.1 U2d];rfl
 rename_i e
 rw[Maps.atKey_put_other (hk i (λ e2=>e e2.symm))];exact hD.2.2 i x hx
 intro j x hx;rw[U1o]at hx
 split at hx
 rename_i e
 subst e;simp only[Hi,U1j,Uc]at hx;subst hx;have hk:=h.rows m r hr;have cZ:V5r w1 base own m r:=⟨O1 hk.k λ k e=>hF k _ (hk.tk k e) (by omega) (by omega),O1 hk.s λ k e=>hF k _ (hk.ts k e) (by omega) (by omega),hk.u.of_block λ k e=>hF k _ (hk.tu k e) (by omega) (by omega),λ h8=>O1 (hk.u8 h8) λ k e=>hF k _ (hk.tu k e) (by omega) (by omega),hk.tk,hk.ts,hk.tu⟩
 exact⟨cZ.k,cZ.s,cZ.u,cZ.u8,cZ.tk,cZ.ts,cZ.tu⟩
 have hk:=h.rows j x hx;exact⟨O1 hk.k λ k e=>hF k _ (hk.tk k e) (by omega) (by omega),O1 hk.s λ k e=>hF k _ (hk.ts k e) (by omega) (by omega),hk.u.of_block λ k e=>hF k _ (hk.tu k e) (by omega) (by omega),λ h8=>O1 (hk.u8 h8) λ k e=>hF k _ (hk.tu k e) (by omega) (by omega),hk.tk,hk.ts,hk.tu⟩;intro k hk;have:=h.lt k hk;exact⟨this.1,U4 this.2 hg.size⟩
 exact (St.refl _ w).grown hg (λ k e=>by cases e;exact .inl (by unfold FV;rw[h.oB];omega))
end Go.Proofs.YtnkgknbdaiakgaaGreatDoor
namespace Go.Proofs.YtnkgknbdaiakgaaGreatDoor
open Pl Go.Proofs.Tryz Go.RowKit Go.Shelf Go.Joins
attribute [local go_sem] Uy
variable {Tb:Nat->UInt8×UInt8}
def O5s(Tb:Nat->UInt8×UInt8)(s:ByteArray)(R B base:Nat)(root:Int)(V:V24):Prop :=
 ∀(w:World)(nv:Value)(L:List Vw)(own:Nat->Nat),RdV w R B base s root nv L own->GW Tb base w->∀(n d:Nat),n<=s.size->d<=30000000->∀X,V d n (L.map (·.nd))=X->X ≠ .non ->
  Calls prog 24 #[.pointer (some ⟨R,0,none⟩),n,d] w (O4c s R B base root own w X)
def O7c(s:ByteArray)(R B base:Nat)(root:Int)(own:Nat->Nat)(w:World)(X:Va (Nat×Vc))(e:Ending)(w':World):Prop :=
 match X with
 |.non=>True
 |.bad c p=>e = .returned (.tuple #[(0:Int),fv c p])/\c≠0/\∃F',St (FV own) F' w w'/\RK R w'
 | .ok (n,st')=>e = .returned (.tuple #[n,f0])/\n<=s.size /\
     ∃nv' L' own',RdV w' R B base s root nv' L' own'/\L'.map (·.nd)=st'/\St (FV own) (FV own') w w'/\(∀k,own' k≠0->own k≠0\/w.heap.size<=k)
theorem Odf(E:Vz)(hE:O2f Tb E)(w:World)(R B base:Nat)(s:ByteArray)(root:Int)(nv:Value)(L:List Vw)(own:Nat->Nat)(h:RdV w R B base s root nv L own)(hg:GW Tb base w)(hs:s.size<=20000000)
    (table d:Int)(n:Nat)(hn:n<=s.size)(c p:Nat)(hX:V1k E (bs s) n = .bad c p) :
    Calls prog 76 #[.pointer (some ⟨R,0,none⟩),table,n,d] w (O7c s R B base root own w (.bad c p)):=by
 obtain⟨c0,c1,c2,c3,fz⟩:=h.cells;have hR:=h.R_lt;have HQ:=U0 (λ W (g:Gr w W)=>O4d Tb E hE s n n rfl hn hs _ hX (by simp) W (hg.q.gr g));have rt:=U0 h.rk;clear fz c0 c1 c3 h hX;go_enter func76,ntmps76;go_wp2_with fail;refine (HQ.o _ Gr.auto).mono ?_;rintro e w1 ⟨rfl,hc,g1⟩;have kL:¬(c:Int)=0:=by omega
 have dl:=(FX.new w (0:Int) (0:Int) 29).gr g1;have dY:=dl.gr ((Gr.refl w1).alloc (.cells #[.slice none 0 0,.slice none 0 0] 42));have df:=U0 (dY.set c p);obtain⟨f1,f2,f3,f4⟩:=dY;go_wp2_with fail;refine Z230 ?_;intro w2 g2;obtain⟨q0,q1,qf,eA⟩:=df.o.gr g2;have bC:Gr w w2:=by
  refine Gr.trans (Gr.setCell (Gr.setCell ((((Gr.refl w).alloc _).trans g1).alloc _) (U2 _) _) (U2 _) _) g2
 clear g2 df f1 f2 f3 f4 dl;go_wp2_with fail
 go_region
 all_goals go_wp2_with fail
 exact U1 (v := .tuple #[(0:Int),fv c p]) (by simp[results,results76,go_sem,q0,q1,qf,eA]) rfl ⟨rfl,hc,FV own,St.auto,rt.o.gr Gr.auto⟩
structure V57(bF bK gk gs ck cs:Nat)(ws:List Pl.KW)(W:World):Prop where
 f:FX bF (0:Int) (0:Int) W
 k0:W.cell? ⟨bK,0,none⟩=some (.slice (some ⟨gk,0,none⟩) ws.length ck)
 k1:W.cell? ⟨bK,1,none⟩=some (.slice (some ⟨gs,0,none⟩) ws.length cs)
 kl:bK<W.heap.size
 gkl:gk<W.heap.size
 gsl:gs<W.heap.size
 w:∀(j:Nat)(t:Pl.Bs)(a b:Nat),ws[j]?=some (t,a,b)->W.cell? ⟨gk,j,none⟩=some (V3a t)/\W.cell? ⟨gs,j*2,none⟩=some (.int .i64 a)/\W.cell? ⟨gs,j*2+1,none⟩=some (.int .i64 b)
theorem V57.st{bF bK gk gs ck cs:Nat}{ws:List Pl.KW}{W W':World}{F F':Nat->Prop}(h:V57 bF bK gk gs ck cs ws W)(g:St F F' W W')(h1:¬F bF)(h2:¬F bK)(h3:¬F gk)(h4:¬F gs):V57 bF bK gk gs ck cs ws W' :=
 ⟨h.f.st g h1,((g.use _ h.kl h2).1 _).trans h.k0,((g.use _ h.kl h2).1 _).trans h.k1,U4 h.kl g.size,U4 h.gkl g.size,U4 h.gsl g.size,
  λ j t a b hj=>by
   obtain⟨a1,a2,a3⟩:=h.w j t a b hj;exact⟨((g.use _ h.gkl h3).1 _).trans a1,((g.use _ h.gsl h4).1 _).trans a2,((g.use _ h.gsl h4).1 _).trans a3⟩⟩
theorem V57.gr{bF bK gk gs ck cs:Nat}{ws:List Pl.KW}{W W':World}(h:V57 bF bK gk gs ck cs ws W)(g:Gr W W'):V57 bF bK gk gs ck cs ws W' :=
 h.st (F:=λ _=>False) (F':=λ _=>False) g.st (λ e=>e) (λ e=>e) (λ e=>e) (λ e=>e)
theorem V57.setF{bF bK gk gs ck cs:Nat}{ws:List Pl.KW}{W:World}(h:V57 bF bK gk gs ck cs ws W)(h1:bF≠bK)(h2:bF≠gk)(h3:bF≠gs):V57 bF bK gk gs ck cs ws ((W.setCell ⟨bF,0,none⟩ (0:Int)).setCell ⟨bF,1,none⟩ (0:Int)):=by
 have hc:∀b o,bF≠b->((W.setCell ⟨bF,0,none⟩ (0:Int)).setCell ⟨bF,1,none⟩ (0:Int)).cell? ⟨b,o,none⟩=W.cell? ⟨b,o,none⟩:=by
  intro b o hb;rw[Um _ _ _ _ (by simp[hb,U2k hb]),Um _ _ _ _ (by simp[hb,U2k hb])]
 refine⟨h.f.set _ _,(hc _ _ h1).trans h.k0,(hc _ _ h1).trans h.k1,by simpa using h.kl,by simpa using h.gkl,by simpa using h.gsl,λ j t a b hj=>?_⟩;obtain⟨a1,a2,a3⟩:=h.w j t a b hj;exact⟨(hc _ _ h2).trans a1,(hc _ _ h3).trans a2,(hc _ _ h3).trans a3⟩
theorem O4w:∀(l:List (Nat×Nat))(j:Nat)(p:Nat×Nat),l[j]?=some p->(Oc l)[j*2]?=some (.int .i64 p.1)/\(Oc l)[j*2+1]?=some (.int .i64 p.2)
 |[],j,p,h=>by simp at h
 | x::l,0,p,h=>by
  simp only[U1h,Uc]at h;subst h;exact⟨rfl,rfl⟩
 | x::l,j+1,p,h=>by
  have:=O4w l j p (by simpa using h);have e:Oc (x::l) = .int .i64 x.1 :: .int .i64 x.2::Oc l:=rfl;rw[e,show (j+1)*2=j*2+1+1 from by omega]
  simpa using this
theorem O93{W:World}{base:Nat}{ws:List Pl.KW}{kv sv:Value}(hk:V26 W base 9 1 kv ws.length (Oh (O1f ws)))(hs:V26 W base 38 2 sv ws.length (Oc (O19 ws)))(h0:0<ws.length) :
    ∃gk gs ck cs,kv = .slice (some ⟨gk,0,none⟩) ws.length ck/\sv = .slice (some ⟨gs,0,none⟩) ws.length cs/\base<=gk/\base<=gs/\gk<W.heap.size/\gs<W.heap.size /\
     ∀(j:Nat)(t:Pl.Bs)(a b:Nat),ws[j]?=some (t,a,b)->W.cell? ⟨gk,j,none⟩=some (V3a t)/\W.cell? ⟨gs,j*2,none⟩=some (.int .i64 a)/\W.cell? ⟨gs,j*2+1,none⟩=some (.int .i64 b):=by
 obtain⟨gk,ck,rfl,_,_⟩:=hk.form h0;obtain⟨gs,cs,rfl,_,_⟩:=hs.form h0;have l1:=hk.lt gk rfl;have l2:=hs.lt gs rfl;refine⟨gk,gs,ck,cs,rfl,rfl,l1.1,l2.1,l1.2,l2.2,λ j t a b hj=>⟨?_,?_,?_⟩⟩;exact hk.cells (g:=gk) rfl j _ (by simp[Oh,O1f,hj]);exact hs.cells (g:=gs) rfl _ _ (O4w _ j (a,b) (by simp[O19,hj])).1
 exact hs.cells (g:=gs) rfl _ _ (O4w _ j (a,b) (by simp[O19,hj])).2
def V5i(a b:Int):Vw:=⟨⟨8,[],[],[],[],(a,b),0⟩,Vn,Vn,Vn⟩
theorem Obn(W:World)(R B base:Nat)(s:ByteArray)(root:Int)(nv:Value)(L:List Vw)(own:Nat->Nat)(h:RdV W R B base s root nv L own)(hr:Pl.room (L.map (·.nd))=true)(a b:Int) :
    Calls prog 74 #[.pointer (some ⟨R,0,none⟩),.agg #[.int .u8 8,.string ⟨#[]⟩,Vn,Vn,Vn,a,b]] W λ e w' =>
     e = .returned L.length/\∃nv' own',RdV w' R B base s root nv' (L++[V5i a b]) own'/\St (FV own) (FV own') W w'/\(∀k,own' k≠0->own k≠0\/W.heap.size<=k):=by
 have hl:L.length<=30000000:=by simp[Pl.room]at hr;omega
 refine (O8w W R B base s root nv L own h hl (V5i a b) rfl rfl rfl rfl rfl rfl (O14 (On _ _ _ _)) (λ _=>On _ _ _ _) (λ k e=>by simp[V5i,Value.ownBlock]at e) 8 ⟨#[]⟩ Vn Vn Vn a b (by simp[ndV,V5i])).mono ?_;rintro e w' ⟨rfl,nv',own',h1,h2,h3⟩;refine⟨rfl,nv',own',h1,?_,λ k hk=>?_⟩
 refine⟨h2.os,h2.tape,h2.output,h2.size,λ k hk hn=>h2.block k hk (λ e=>e.elim hn (λ e=>by simp[V5i,Value.ownBlock]at e)),λ k hk=>?_⟩;rcases h2.own k hk with (e|e)|e
 exact .inl e;simp[V5i,Value.ownBlock]at e
 exact .inr e
 rcases h3 k hk with e|e|e
 exact .inl e;simp[V5i,Value.ownBlock]at e
 exact .inr e
theorem O6y(L:List Vw)(i:Nat)(r:Vw)(t:Pl.Bs)(sp:Nat×Nat)(n:Nat)(x:Vw)(hr:L[i]?=some r)(hx:x.nd=Vy r.nd t sp n):(L.set i x).map (·.nd)=Vo (L.map (·.nd)) i t sp n:=by
 unfold Vo;apply U3g;intro j;rw[Uq,U2n,Uq,U1o];by_cases e:i=j;subst e;have eK:=(U7.1 hr).1;simp[eK,hr,hx];have:=(U7.1 hr).2;rw[this]
 simp[e]
theorem Ojd(table:Nat)(w:Pl.Bs)(a b:Nat)(rest:List Pl.KW)(into d:Nat)(st:Vc) :
    V3m table ((w,a,b)::rest) into d st=match V12 st into w with
    |.non => .non
    |.yes i =>
     match rest with
     |[] => .bad 5 a
     |_::_=>if V37 st i=table+1 then V3m table rest i (d+1) st else .bad 5 a
    |.no =>
     match rest with
     |[] => .ok (into,d,st)
     |_::_ =>
      if 256<d+1 then .bad 4 a else
      if Pl.kind8 st into&&Pl.room st then V3m table rest st.length (d+1) (Vo (st++[V2b (table+1)]) into w (a,b) st.length) else .non:=by
 rw[V3m.eq_def];dsimp only;cases V12 st into w <;> cases rest <;> rfl
def Vhe(s:ByteArray)(R B base:Nat)(root:Int)(own:Nat->Nat)(w:World)(z0 bF bK gk gs ck cs table:Nat)(ws:List Pl.KW)(Y:Va (Nat×Nat×Vc))(v3 v8 Hk BJ:Value)(m:Nat)(wr:World):Prop :=
 ∃(done rest:List Pl.KW)(j into d:Nat)(nv':Value)(L':List Vw)(own':Nat->Nat),v3 = .int .i64 d/\v8 = .int .i64 m/\Hk = .int .i64 into/\BJ = .int .i64 j/\done.length=j/\ws=done++rest/\rest≠[]/\d<=256+j /\
  RdV wr R B base s root nv' L' own'/\V3m table rest into d (L'.map (·.nd))=Y/\V57 bF bK gk gs ck cs ws wr/\GW Tb base wr/\St (FV own) (FV own') w wr/\(∀k,own' k≠0->own k≠0\/z0<=k)/\z0<=wr.heap.size
theorem Of4(E:Vz)(hE:O2f Tb E)(w:World)(R B base:Nat)(s:ByteArray)(root:Int)(V:V24)(hV:O5s Tb s R B base root V)(nv:Value)(L:List Vw)(own:Nat->Nat)(h:RdV w R B base s root nv L own)(hg:GW Tb base w)(hs:s.size<=20000000)
    (table d n:Nat)(hn:n<=s.size)(hd:d<=256)(ht:table<=30000000)(ws:List Pl.KW)(m:Nat)(hX:V1k E (bs s) n = .ok (ws,m))(X:Va (Nat×Vc))(ae:V1s E V (bs s) table n d (L.map (·.nd))=X)(a8:X ≠ .non) :
    Calls prog 76 #[.pointer (some ⟨R,0,none⟩),table,n,d] w (O7c s R B base root own w X):=by
 obtain⟨c0,c1,c2,c3,fz⟩:=h.cells;have hR:=h.R_lt;have HQ:=U0 (λ W (g:Gr w W)=>O4d Tb E hE s n n rfl hn hs _ hX (by simp) W (hg.q.gr g));unfold V1s at ae;rw[hX]at ae;simp only at ae;have H:=U0 h;have HG:=U0 hg;have HV:=U0 hV;obtain⟨Y,hY⟩:=ExZ (V3m table ws table d (L.map (·.nd)))
 rw[hY]at ae;have BK:Y ≠ .non:=by
  intro e;rw[e]at ae;exact a8 ae.symm
 have HX:=U0 ae;have HN:=U0 a8;have sA:=U0 BK;have HY:=U0 hY;clear fz c0 c1 c3 h hX hg hV ae a8 BK hY;go_enter func76,ntmps76;go_wp2_with fail;refine (HQ.o _ Gr.auto).mono ?_;rintro e w1 ⟨kv,sv,rfl,hm,ju,cQ,eP,z',g1⟩;obtain⟨gk,gs,ck,cs,rfl,rfl,fq,bZ,BL,xQ,aF⟩:=O93 ju cQ z';simp only[Uv]at fq bZ;have ay:=g1.size;simp only[Uv]at ay;have dl:=(FX.new w (0:Int) (0:Int) 29).gr g1;have Bb:V57 w.heap.size w1.heap.size gk gs ck cs ws (w1.alloc (.cells #[.slice (some ⟨gk,0,none⟩) ws.length ck,.slice (some ⟨gs,0,none⟩) ws.length cs] 42)):=by
  have ga:=(Gr.refl w1).alloc (.cells #[.slice (some ⟨gk,0,none⟩) ws.length ck,.slice (some ⟨gs,0,none⟩) ws.length cs] 42);refine⟨dl.gr ga,by simp,by simp,by simp,by simp;omega,by simp;omega,λ j t a b hj=>?_⟩;obtain⟨a1,a2,a3⟩:=aF j t a b hj;exact⟨(ga.use.1 _ _ BL).trans a1,(ga.use.1 _ _ xQ).trans a2,(ga.use.1 _ _ xQ).trans a3⟩
 obtain⟨f1,f2,f3,f4⟩:=Bb.f;have cy:Gr w (w1.alloc (.cells #[.slice (some ⟨gk,0,none⟩) ws.length ck,.slice (some ⟨gs,0,none⟩) ws.length cs] 42)):=(((Gr.refl w).alloc _).trans g1).alloc _;have LS:=U0 (Bb.setF (by omega) (by omega) (by omega));have bC:=U0 (Gr.setCell (p:=⟨w.heap.size,1,none⟩) (Gr.setCell (p:=⟨w.heap.size,0,none⟩) cy (U2 _) (0:Int)) (U2 _) (0:Int));clear aF ju cQ Bb cy;go_wp2_with fail;refine Z153 ?_;intro w2 g2;have HK:=U0 (LS.o.gr g2);have hG:=bC.o.trans g2;clear g2 bC LS f1 f2 f3 f4 dl g1 BL xQ;have Eo:=HK.o;obtain⟨k0,k1⟩:=(show _/\_ from ⟨Eo.k0,Eo.k1⟩)
 have pi:=Eo.kl;obtain⟨la,eU⟩:∃la,ws.length=la+1:=⟨ws.length-1,by omega⟩
 have LU:IntKind.i64.wrap ((ws.length:Int)-1)=(la:Int):=by rw[Uk _ ⟨by omega,by omega⟩];omega
 clear Eo;have fI:=U0 eU;clear eU;go_wp2_with fail;have bN:¬FV own w.heap.size:=H.o.not_new (U2 _);have Ep:¬FV own w1.heap.size:=H.o.not_new (by omega);have tw:¬FV own gk:=H.o.not_new (by omega);have tx:¬FV own gs:=H.o.not_new (by omega);have er:St (FV own) (FV own) w w2:=St.auto
 go_loopw [3,8,12,40] (λ v3 v8 Hk BJ wr=>Vhe s R B base root own w w2.heap.size w.heap.size w1.heap.size gk gs ck cs table ws Y v3 v8 Hk BJ m wr) (λ _ _ _ BJ _=>ws.length-(intOf BJ).toNat)
 case atStart =>
  exact⟨[],ws,0,table,d,nv,L,own,rfl,rfl,rfl,rfl,rfl,rfl,λ e=>by rw[e]at z';simp at z',by omega,H.o.gr hG,HY.o,HK.o,HG.o.gr hG,er,λ k hk => .inl hk,U2 _⟩
 case round =>
  obtain⟨done,rest,j,into,d',nv',L',own',rfl,rfl,rfl,rfl,xR,xK,aG,LA,hr,ti,kD,lp,a9,bB,fE⟩:=hrel;obtain⟨tab,iL,rfl⟩:∃x l,rest=x::l:=List.exists_cons_of_ne_nil aG;obtain⟨t,a,b⟩:=tab;have xU:ws[j]?=some (t,a,b):=by rw[xK,<-xR];simp
  have LV:ws.length=j+1+iL.length:=by rw[xK];simp[xR];omega
  have BM:la=j+iL.length:=by have:=fI.o;omega
  obtain⟨y1,y2,y3⟩:=kD.w j t a b xU;have i0:decide (j<ws.length)=true:=by simp;omega
  refine Z291 ?_;intro i1;have i2:(j:Int)<(ws.length:Int):=by omega
  have PB:=kD.k0;have PC:=kD.k1;obtain⟨PD,PE,PF,PG,PH⟩:=hr.cells;have aw:=U0 hr;have iT:=U0 ti;have iA:=U0 kD;have kM:=U0 lp;have bv:=U0 a9;have cn:=U0 bB;have Hl:=U0 xK;have Hm:=U0 LV;have pY:=U0 BM;have A8:=U0 xU;clear hr ti kD lp a9 bB xK LV BM xU aG;go_wp2_with fail;have fR:bs (⟨t.toArray⟩:ByteArray)=t:=by simp[bs]
  have eB:=iT.o;rw[Ojd]at eB;cases hS:V12 (L'.map (·.nd)) into t with
  |non=>rw[hS]at eB;exact absurd eB.symm sA.o
  |yes i =>
   rw[hS]at eB;refine (Ogt wr R B base s root nv' L' own' aw.o into ⟨t.toArray⟩ (.yes i) (by rw[fR];exact hS) (by simp)).mono ?_;rintro e w3 ⟨he,rfl⟩;obtain rfl:e = .returned (.tuple #[.int .i64 i,.bool true]):=he;clear fR;cases iL with
   |nil =>
    simp only at eB;have uH:=U0 eB;clear eB hS;have b1:((j:Int)==(la:Int))=true:=by have:=pY.o;simp at this;simp;omega
    obtain⟨q0,q1,qf,ql⟩:=iA.o.f;exact J129
   |cons x lu =>
    simp only at eB;obtain⟨ri,iq⟩:∃ri,L'[i]?=some ri:=by
     have:i<(L'.map (·.nd)).length:=by
      unfold V12 at hS
      split at hS;cases hS
      split at hS;cases hS
      split at hS;cases hS
      split at hS
      ·cases hS;assumption
      cases hS
     rw[Ul]at this;exact⟨_,Uh this⟩
    have bB:V37 (L'.map (·.nd)) i=ri.nd.owner:=by unfold V37;simp[iq]
    rw[bB]at eB;have b1:((j:Int)==(la:Int))=false:=by have:=pY.o;simp at this;simp;omega
    have bt:IntKind.i64.wrap ((table:Int)+1)=(table:Int)+1:=Uk _ ⟨by omega,by omega⟩;have Hn:i<=9223372036854775807:=by
     have eK:=(U7.1 iq).1;obtain⟨g',pd,PI,_,_,_,_,_,_,_,_,h8,h9,_⟩:=aw.o.form (by omega);unfold maxLen at h9;omega
    have BN:∀W,W.heap[B]?=wr.heap[B]?->(Instr.lookup 78 (.map (some B)) i false).run prog W = .ok ri.nd.owner W:=λ W hW=>aw.o.look i Hn ri iq W hW
    have PJ:=BN wr rfl;obtain⟨q0,q1,qf,ql⟩:=iA.o.f;by_cases ho:ri.nd.owner=table+1
    ·rw[Ua ho]at eB;have b2:((ri.nd.owner:Int) != ((table:Int)+1))=false:=by simp;omega
     have kO:=U0 eB;clear eB hS bB ho;go_wp2_with fail
     go_roundw
     case rel =>
      refine⟨done++[(t,a,b)],x::lu,j+1,i,d'+1,nv',L',own',by simp,rfl,rfl,by simp,by simp[xR],by rw[Hl.o];simp,by simp,by omega,aw.o,kO.o,iA.o,kM.o,bv.o,cn.o,fE⟩
     case measure=>have:=Hm.o;simp[intOf];omega
    rw[Ud ho]at eB;have b2:((ri.nd.owner:Int) != ((table:Int)+1))=true:=by simp;omega
    have uH:=U0 eB;clear eB hS bB ho;exact J129
  |no =>
   rw[hS]at eB;refine (Ogt wr R B base s root nv' L' own' aw.o into ⟨t.toArray⟩ .no (by rw[fR];exact hS) (by simp)).mono ?_;rintro e w3 ⟨he,rfl⟩;obtain rfl:e = .returned (.tuple #[.int .i64 0,.bool false]):=he;clear fR hS;cases iL with
   |nil =>
    simp only at eB;have uH:=U0 eB;have b1:((j:Int)==(la:Int))=true:=by have:=pY.o;simp at this;simp;omega
    obtain⟨q0,q1,qf,ql⟩:=iA.o.f;have me:=HX.o;rw[<-eB]at me;simp only at me;obtain⟨e1,pL⟩:=ExZ (V7 (bs s) m)
    have Ho:e1<=s.size:=by have:=V8 (bs s) m (by rw[O0];exact hm);rw[O0]at this;omega
    rw[pL]at me;clear eB;have vh:=U0 pL;clear pL;go_wp2_with fail;refine (O9 s m m rfl hm (by omega) _).mono ?_;rintro e w4 ⟨rfl,g4⟩;rw[vh.o];have oh:=aw.o.gr g4;have pZ:=iA.o.gr g4;obtain⟨tz,tA,gM,tC,tD⟩:=oh.cells;have cL:=U0 oh;have q8:=U0 pZ;have dX:=U0 me;clear oh pZ me;go_wp2_with fail;refine (O1w w4 R s gM e1 e1 rfl).mono ?_;refine Z48 ?_;obtain⟨v0,v1,vf,vl⟩:=q8.o.f;have lw:=U0 (bv.o.gr g4);have Hp:=U0 (kM.o.gr g4);have mX:w2.heap.size<=w4.heap.size:=Uj fE g4.size;clear g4 q0 q1 qf ql PD PE PF PG PH PB PC y1 y2 y3;by_cases hb:V9 (bs s) e1=61
    ·have me:=dX.o;rw[Ua hb]at me;have mM:e1<s.size:=U2a λ aK=>by rw[O10 s e1 (by omega)]at hb;omega
     have bA:(((V9 (bs s) e1:Nat):Int) != 61)=false:=by simp;omega
     obtain⟨e2,xV⟩:=ExZ (V7 (bs s) (e1+1))
     have AJ:e2<=s.size:=by have:=V8 (bs s) (e1+1) (by rw[O0];omega);rw[O0]at this;omega
     rw[xV]at me;have nS:=U0 me;have AK:=U0 xV;have Te:IntKind.i64.wrap ((e1:Int)+1)=(e1:Int)+1:=Uk _ ⟨by omega,by omega⟩;have G0:j<=20000002:=by have:=Hm.o;omega
     have Tf:IntKind.i64.wrap ((d':Int)+1)=(d':Int)+1:=Uk _ ⟨by omega,by omega⟩;clear me hb xV;go_wp2_with fail;refine (O9 s _ (e1+1) (by simp) (by omega) (by omega) _).mono ?_;rintro e w6 ⟨rfl,g6⟩;rw[AK.o];go_wp2_with fail;have zp:=cL.o.gr g6;have tE:=q8.o.gr g6;have wN:=Hp.o.gr g6;have dF:=lw.o.gr g6;have se:w2.heap.size<=w6.heap.size:=Uj mX g6.size;have eT:=nS.o;cases hZ:V (d'+1) e2 (L'.map (·.nd)) with
     |non=>rw[hZ]at eT;exact absurd eT.symm HN.o
     |bad c p =>
      rw[hZ]at eT;simp only at eT;refine Z220 ?_;refine Z116 ?_;intro w7 hc F' ia wG;have jU:¬FV own' w.heap.size:=λ hf=>by
       rcases cn.o _ hf with e|e
       exact bN e
       have:=HK.o.f.2.2.2;omega
      have kF:=tE.f.st ia jU;have df:=U0 (kF.set c p);have ii:=U0 (dF.trans ia);obtain⟨p0,p1,pf,pl⟩:=kF;have kL:¬(c:Int)=0:=by omega
      have Hq:=U0 eT;clear eT ia dF zp tE wN v0 v1 vf vl;go_wp2_with fail;refine Z230 ?_;intro w8 g8;obtain⟨u0,u1,uf,ul⟩:=df.o.gr g8;have Hr:=wG.o.gr g8;have tF:St (FV own) F' w w8:=(((ii.o.setCell (.inr (U2 _)) _).setCell (.inr (U2 _)) _)).gr g8;go_wp2_with fail
      go_region
      all_goals go_wp2_with fail
      rw[<-Hq.o];exact U1 (v := .tuple #[(0:Int),fv c p]) (by simp[results,results76,go_sem,u0,u1,uf,ul]) rfl ⟨rfl,hc,F',((tF.setCell (.inr (U2 _)) _).setCell (.inr (U2 _)) _).drew,((Hr.set (by omega) _).set (by omega) _).drew⟩
     |ok r =>
      obtain⟨iv,n2,st2⟩:=r;rw[hZ]at eT;simp only at eT;have aY:ws.getLast?=some (t,a,b):=by rw[Hl.o];simp
      rw[aY]at eT;simp only at eT;cases be:Pl.kind8 st2 into with
      |false=>rw[be,Ud (by simp)]at eT;exact absurd eT.symm HN.o
      |true =>
      rw[be,Ua rfl]at eT;refine Z220 ?_;rintro e w7 ⟨rfl,nN,xW,LW,L7,xX,LX,LY,ia,jV⟩;have jU:∀k,k<w2.heap.size->¬FV own k->¬FV own' k:=λ k hk hn hf=>by
       rcases cn.o _ hf with e|e
       exact hn e
       omega
      have xY:=tE.st ia (jU _ HK.o.f.2.2.2 bN) (jU _ HK.o.kl Ep) (jU _ HK.o.gkl tw) (jU _ HK.o.gsl tx);have kS:w2.heap.size<=w7.heap.size:=Uj se ia.size;have PK:=U0 (xY.setF (by omega) (by omega) (by omega));have ii:=U0 (dF.trans ia);have si:=U0 LX;have qa:=U0 jV;have Hq:=U0 eT;have LZ:=U0 LY;have um:=U0 be;obtain⟨p0,p1,pf,pl⟩:=xY.f;clear eT ia dF zp tE wN v0 v1 vf vl LX jV LY be xY;go_wp2_with fail;refine Z153 ?_;intro w8 g8;have BO:=PK.o.gr g8;have M0:¬FV xX w.heap.size:=λ hf=>by
       rcases qa.o _ hf with e|e
       exact jU _ HK.o.f.2.2.2 bN e
       have:=HK.o.f.2.2.2;omega
      have M1:=(((si.o.setCell (p:=⟨w.heap.size,0,none⟩) M0 (0:Int)).setCell (p:=⟨w.heap.size,1,none⟩) M0 (0:Int)).gr g8).drew;have tF:=(((ii.o.setCell (p:=⟨w.heap.size,0,none⟩) (.inr (U2 _)) (0:Int)).setCell (p:=⟨w.heap.size,1,none⟩) (.inr (U2 _)) (0:Int)).gr g8).drew;have A9:=U0 M1;have ir:=U0 tF;clear M1 tF p0 p1 pf pl;go_wp2_with fail;have hS:=BO.gr (Gr.refl w8).drew;have M2:la=j:=by have:=pY.o;simp at this;exact this
      have tG:=A8.o;rw[<-M2]at tG;have l1:(0:Int)<=(la:Int):=by omega
      have l2:(la:Int)<(ws.length:Int):=by have:=fI.o;omega
      clear M2;refine Reg.begin' (W:=λ _=>true) (S:=V57 w.heap.size w1.heap.size gk gs ck cs ws) (by kernel_rfl) ?_;refine Z32 ?_;refine Reg.ty 4 ?_;refine Reg.ty 7 ?_;refine Reg.ty 9 ?_;refine Reg.ty 12 ?_;refine Reg.tl 3 hS ?_ (hy:=by intro w ab;obtain⟨Hs,Ht,Hu,Hv,Hw,Hx,qw⟩:=ab;go_simp;try with_reducible rfl);refine Reg.ty 5 ?_;refine Reg.tl 6 hS ?_ (hy:=by intro w ab;obtain⟨x1,x2,x3⟩:=V57.w ab la t a b tG;obtain⟨Hs,Ht,Hu,Hv,Hw,Hx,qw⟩:=ab;go_simp;try with_reducible rfl);refine Reg.tl 8 hS ?_ (hy:=by intro w ab;obtain⟨x1,x2,x3⟩:=V57.w ab la t a b tG;obtain⟨Hs,Ht,Hu,Hv,Hw,Hx,qw⟩:=ab;go_simp;try with_reducible rfl);refine Reg.ty 10 ?_;refine Reg.tl 11 hS ?_ (hy:=by intro w ab;obtain⟨x1,x2,x3⟩:=V57.w ab la t a b tG;obtain⟨Hs,Ht,Hu,Hv,Hw,Hx,qw⟩:=ab;go_simp;try with_reducible rfl);refine Reg.on 13 ?_;go_simp;have be:=um.o;rw[<-LZ.o]at be;obtain⟨ri,iq⟩:∃ri,L7[into]?=some ri:=by
       unfold Pl.kind8 at be;rw[Uf,Uq]at be
       replace be:=be.2
       cases hl:L7[into]? with
       |none=>rw[hl]at be;cases be
       |some ri=>exact⟨ri,rfl⟩
      unfold Pl.kind8 at be;rw[Uf,Uq,iq]at be;obtain⟨Hy,be⟩:=be;simp only[U18,Uf,Ux,U1v,Ul]at be Hy;obtain⟨⟨⟨Eq,Er⟩,Es⟩,Et⟩:=be;have Eu:∀k,k<w2.heap.size->¬FV own k->¬FV xX k:=λ k hk hn hf=>by
       rcases qa.o _ hf with e|e
       exact jU k hk hn e
       omega
      refine (Ogi w8.drew R B base s root LW L7 xX A9.o Hy into ri iq Eq Er Es Et ⟨t.toArray⟩ a b iv).mono ?_;rintro e w9 ⟨rfl,xZ,Tg,Th,Ti,M3,je,vj⟩;have qb:=hS.st je (Eu _ HK.o.f.2.2.2 bN) (Eu _ HK.o.kl Ep) (Eu _ HK.o.gkl tw) (Eu _ HK.o.gsl tx);refine⟨by first|exact qb|exact λ _=>qb|exact λ _ _=>qb,?_⟩;refine Reg.pt ?_;refine Z12 ?_;obtain⟨p0,p1,pf,pl⟩:=qb.f;have BP:w2.heap.size<=w8.heap.size:=by have:=g8.size;simp[World.setCell]at this;omega
      have lx:∀k,xZ k≠0->own k≠0\/w.heap.size+1<=k:=by
       intro k hk;rcases vj k hk with e|e
       rcases qa.o k e with e|e
       rcases cn.o k e with e|e
       exact .inl e
       exact .inr (by have:=HK.o.f.2.2.2;omega)
       exact .inr (by have:=HK.o.f.2.2.2;omega)
       refine .inr ?_;have h1:w8.drew.heap.size=w8.heap.size:=rfl;have h2:=HK.o.f.2.2.2;omega
      have Ev:¬FV xZ w.heap.size:=λ hf=>by
       rcases lx _ hf with e|e
       exact bN e
       omega
      have Aa:=U0 M3;have eQ:=U0 (ir.o.trans je);have BQ:=U0 lx;have PL:=U0 iq;clear M3 je vj lx iq Eq Er Es Et Hy qb hS BO;go_wp2_with fail
      go_region
      all_goals go_wp2_with fail
      rw[<-Hq.o];refine U1 (v := .tuple #[n2,f0]) (by simp[results,results76,go_sem,p0,p1,pf,pl]) rfl ⟨rfl,nN,LW,_,xZ,((Aa.o.setCell Ev _).setCell Ev _).drew,?_,((eQ.o.setCell (.inr (U2 _)) _).setCell (.inr (U2 _)) _).drew,λ k hk=>(BQ.o k hk).imp id (λ e=>by omega)⟩;rw[O6y _ into ri t (a,b) iv _ PL.o (by simp[bs]),LZ.o]
    have me:=dX.o;rw[Ud hb]at me;have bA:(((V9 (bs s) e1:Nat):Int) != 61)=true:=by simp;omega
    have nS:=U0 me;clear me hb;go_wp2_with fail;refine (O3h e1 e1 rfl _).mono ?_;rintro e w6 ⟨rfl,g6⟩;obtain⟨u0,u1,uf,ul⟩:=q8.o.f.gr g6;have dF:=lw.o.gr g6;go_wp2_with fail;rw[<-nS.o];exact U1 (v := .tuple #[(0:Int),fv 3 e1]) (by simp[results,results76,go_sem,u0,u1,uf,ul]) rfl ⟨rfl,by omega,FV own',((dF.setCell (.inr (U2 _)) _).setCell (.inr (U2 _)) _),(((cL.o.rk.gr g6).set (by omega) _).set (by omega) _)⟩
   |cons x lu =>
    simp only at eB;have b1:((j:Int)==(la:Int))=false:=by have:=pY.o;simp at this;simp;omega
    obtain⟨q0,q1,qf,ql⟩:=iA.o.f;by_cases gP:256<d'+1
    ·rw[Ua gP]at eB;have b2:decide ((256:Int)<(d':Int)+1)=true:=by simp;omega
     have uH:=U0 eB;clear eB gP;go_wp2_with fail
     go_region
     all_goals go_wp2_with fail
     have zH:X = .bad 4 a:=by have:=HX.o;rw[<-uH.o]at this;exact this.symm
     rw[zH];exact U1 (v := .tuple #[(0:Int),fv 4 a]) (by simp[results,results76,go_sem,q0,q1,qf,ql]) rfl ⟨rfl,by omega,FV own',((bv.o.setCell (.inr (U2 _)) _).setCell (.inr (U2 _)) _).drew,((aw.o.rk.set (by omega) _).set (by omega) _).drew⟩
    rw[Ud gP]at eB;have b2:decide ((256:Int)<(d':Int)+1)=false:=by simp;omega
    split at eB
    ·rename_i ju
     simp only[Uf]at ju;have uH:=U0 eB;have Hz:=U0 ju;clear eB gP ju;go_wp2_with fail;refine (Obn wr R B base s root nv' L' own' aw.o Hz.o.2 (-1) (-1)).mono ?_;rintro e w4 ⟨rfl,HJ,qd,oh,y8,vk⟩;have qe:∀k,k<w2.heap.size->¬FV own k->¬FV own' k:=λ k hk hn hf=>by
      rcases cn.o k hf with e|e
      exact hn e
      omega
     have pZ:=iA.o.st y8 (qe _ HK.o.f.2.2.2 bN) (qe _ HK.o.kl Ep) (qe _ HK.o.gkl tw) (qe _ HK.o.gsl tx);obtain⟨tz,tA,gM,tC,tD⟩:=oh.cells;have cL:=U0 oh;have lw:=U0 y8;have vm:=U0 vk;have q8:=U0 pZ;clear oh y8 vk pZ;have bt:IntKind.i64.wrap ((table:Int)+1)=(table:Int)+1:=Uk _ ⟨by omega,by omega⟩;obtain⟨D,BR,M4⟩:=cL.o.map;have H':=U0 BR;have PM:=U0 M4;have uX:L'.length<=20000000:=by have:=Hz.o.2;simpa [Pl.room]using this
     have I0:V4i (L'++[V5i (-1) (-1)])<maxLen:=by have:=Olh (L'++[V5i (-1) (-1)]);simp at this;unfold maxLen;omega
     clear BR M4;have jW:∀k,k<w2.heap.size->¬FV own k->¬FV qd k:=λ k hk hn hf=>by
      rcases vm.o k hf with e|e
      exact qe k hk hn e
      omega
     have BS:=jW _ HK.o.f.2.2.2 bN;have BT:=jW _ HK.o.kl Ep;have BU:=jW _ HK.o.gkl tw;have BV:=jW _ HK.o.gsl tx;have y9:Hid (∀w5,w5.ownsMap prog 3 (plainElem (H:=Unit) prog 3) B (V4i (L'++[V5i (-1) (-1)])+1) (D.put (.int .i64 (L'.length:Int)) (.lit (.int .i64 ((table:Int)+1))))->w4.grownBy w5 (some B)->RdV w5 R B base s root HJ ((L'++[V5i (-1) (-1)]).set L'.length (V6v (V5i (-1) (-1)) (table+1))) qd/\St (FV qd) (FV qd) w4 w5) :=
      λ w5 ho hg=>cL.o.owned L'.length (V5i (-1) (-1)) (by simp) rfl (table+1) (by omega) (by omega) D PM.o ho hg
     have I1:(Lit.int .i64 (L'.length:Int)).wf=true:=by simp[Lit.wf,IntKind.min,IntKind.max,IntKind.signed,IntKind.bits];omega
     have I2:(Lit.int .i64 ((table:Int)+1)).wf=true:=by simp[Lit.wf,IntKind.min,IntKind.max,IntKind.signed,IntKind.bits];omega
     go_wp2_with (first|(at_mapUpdate;refine wpList_mapUpdate_own _ rfl _ _ _ 78 rfl 3 3 (Maps.int_keyed underlying3) underlying78 (plainElem (H:=Unit) prog 3) B (V4i (L'++[V5i (-1) (-1)])) D rfl H'.o I0 (.int .i64 (L'.length:Int)) (.int .i64 ((table:Int)+1)) (.int .i64 (L'.length:Int)) rfl rfl (U3f underlying3 I1) (.lit (.int .i64 ((table:Int)+1))) [] (plainElem_int underlying3 I2) ?_;intro w5 ex qh;have h5:=U0 (y9.o w5 ex qh);have yc:=U0 (q8.o.st h5.o.2 BS BT BU BV);clear ex qh;have z1:=yc.o.k1;obtain⟨_,z2,z3⟩:=yc.o.w j t a b A8.o));have be:=Hz.o.1;obtain⟨ri,iq⟩:∃ri,L'[into]?=some ri:=by
      unfold Pl.kind8 at be;rw[Uf,Uq]at be
      replace be:=be.2
      cases hl:L'[into]? with
      |none=>rw[hl]at be;cases be
      |some ri=>exact⟨ri,rfl⟩
     have eK:=(U7.1 iq).1;unfold Pl.kind8 at be;rw[Uf,Uq,iq]at be
     replace be:=be.2
     simp only[U18,Uf,Ux,U1v]at be;obtain⟨⟨⟨Eq,Er⟩,Es⟩,Et⟩:=be;have PN:(L'++[V5i (-1) (-1)]).set L'.length (V6v (V5i (-1) (-1)) (table+1))=L'++[V6v (V5i (-1) (-1)) (table+1)]:=by
      rw[U3c _ _ (U2 _)];simp
     have uo:=h5.o.1;rw[PN]at uo;refine (Ogi w5 R B base s root HJ _ qd uo (by simp;omega) into ri (by rw[U9 eK];exact iq) Eq Er Es Et ⟨t.toArray⟩ a b L'.length).mono ?_;rintro e w6 ⟨rfl,I3,Tj,Tk,Tl,zp,dF,vo⟩;have kJ:=U0 zp;have ij:=U0 dF;have BW:=U0 vo;clear uo zp dF vo;go_wp2_with fail
     go_roundw
     case rel =>
      have mg:=h5.o.2;refine⟨done++[(t,a,b)],x::lu,j+1,L'.length,d'+1,HJ,_,I3,by simp,rfl,rfl,by simp,by simp[xR],by rw[Hl.o];simp,by simp,by omega,kJ.o,?_,?_,?_,?_,?_,?_⟩;rw[O6y _ into ri t (a,b) L'.length _ (by rw[U9 eK];exact iq) (by simp[bs]),U20];rw[Ul]at uH;exact uH.o;exact yc.o.st ij.o BS BT BU BV;exact ((kM.o.st lw.o (λ k hk=>(aw.o.lt k hk).1)).st mg (λ k hk=>(cL.o.lt k hk).1)).st ij.o (λ k hk=>(cL.o.lt k hk).1);exact ((bv.o.trans lw.o).trans mg).trans ij.o
      intro k hk;rcases BW.o k hk with e|e
      rcases vm.o k e with e|e
      exact cn.o k e
      exact J40
      exact .inr (by have:=lw.o.size;have:=mg.size;omega)
      have:=lw.o.size;have:=mg.size;have:=ij.o.size;omega
     case measure=>have:=Hm.o;simp[intOf];omega
    exact absurd eB.symm sA.o
