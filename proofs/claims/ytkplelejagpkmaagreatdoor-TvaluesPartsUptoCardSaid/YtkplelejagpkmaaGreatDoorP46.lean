/-
 The walks and plain laws that the claim rests on, part 46.
-/
import Derived.Test.YtkplelejagpkmaaGreatDoorP44
import Derived.Test.YtkplelejagpkmaaGreatDoorP45
set_option maxHeartbeats 16000000
set_option linter.all false
set_option linter.unusedVariables false
set_option linter.unusedSimpArgs false
namespace Go.Proofs.YtkplelejagpkmaaGreatDoor
open Go.RowKit Go.Shelf Go.Joins
attribute [local go_sem] Oper.semAt_some
variable {Tb:Nat→UInt8 × UInt8}
def spanR (r:NdR) (a b:Int):NdR:=⟨{ r.nd with sp:=(a,b) },r.kv,r.sv,r.uv⟩
theorem RdV.span {W:World} {R B base:Nat} {s:ByteArray} {root:Int} {L:List NdR} {own:Nat→Nat} {g cap:Nat} (h:RdV W R B base s root (.slice (some ⟨g,0,none⟩) L.length cap) L own) (i:Nat) (r:NdR) (hr:L[i]?=some r) (a b:Int) :
    RdV ((W.setCell ⟨g,i*7+5,none⟩ (.int .i64 a)).setCell ⟨g,i*7+6,none⟩ (.int .i64 b)) R B base s root (.slice (some ⟨g,0,none⟩) L.length cap) (L.set i (spanR r a b)) own ∧
    St (FV own) (FV own) W ((W.setCell ⟨g,i*7+5,none⟩ (.int .i64 a)).setCell ⟨g,i*7+6,none⟩ (.int .i64 b)):=by
 have hi:i<L.length:=(List.getElem?_eq_some_iff.1 hr).1;have hgo:own g=3:=h.oN g rfl;have hgF:FV own g:=by unfold FV;omega
 have hst:St (FV own) (FV own) W ((W.setCell ⟨g,i*7+5,none⟩ (.int .i64 a)).setCell ⟨g,i*7+6,none⟩ (.int .i64 b)):=((St.refl _ W).setCell (p:=⟨g,i*7+5,none⟩) (.inl hgF) _).setCell (p:=⟨g,i*7+6,none⟩) (.inl hgF) _;refine⟨?_,hst⟩;obtain⟨WF,hWF⟩:∃WF,(W.setCell ⟨g,i*7+5,none⟩ (.int .i64 a)).setCell ⟨g,i*7+6,none⟩ (.int .i64 b)=WF:=⟨_,rfl⟩
 have hsz:WF.heap.size=W.heap.size:=by subst hWF;simp[World.setCell]
 have hbl:∀k,k≠g→WF.heap[k]?=W.heap[k]?:=by
  intro k hk;subst hWF;rw[Below.heap_setCell _ _ _ _ hk,Below.heap_setCell _ _ _ _ hk]
 have hlen:(ndsV L).length=L.length*7:=ndsV_length L;have hnF:WF.ownsRow base 40 7 (.slice (some ⟨g,0,none⟩) L.length cap) L.length (ndsV (L.set i (spanR r a b))):=by
  subst hWF;have e1:=ownsRow_set h.nodes (i*7+5) (by omega) (.int .i64 a);have e2:=ownsRow_set e1 (i*7+6) (by rw[List.length_set];omega) (.int .i64 b);have f1:=ndsV_set L i 5 (by omega) (.int .i64 a) r (spanR r a r.nd.sp.2) hr rfl;have f2:=ndsV_set (L.set i (spanR r a r.nd.sp.2)) i 6 (by omega) (.int .i64 b) (spanR r a r.nd.sp.2) (spanR r a b) (by simp[hi]) rfl;rw[f1,f2]at e2
  simpa using e2
 rw[hWF];have ne:∀k t,own k=t→t≠3→k≠g:=fun k t e h3 e2=>by subst e2;omega
 obtain⟨D,h1,h2,h3,h4⟩:=h.map;refine⟨by rw[hbl R (ne R 1 h.oR (by omega))];exact h.blk,h.oR,h.oB,by rw[List.length_set];exact hnF,h.oN,?_,?_,fun k hk=>by rw[hsz];exact h.lt k hk⟩
 · refine⟨D,ownsMap_of_block (by rw[cntO_same L i r (spanR r a b) hr rfl];exact h1) (hbl B (ne B 2 h.oB (by omega))),h2,by rw[List.length_set];exact h3,fun j x hx=>?_⟩;rw[List.getElem?_set]at hx
   split at hx
   · rename_i hji
     subst hji;simp only[hi,if_true,Option.some.injEq]at hx;subst hx;exact h4 i r hr
   exact h4 j x hx
 have kp:∀(j:Nat) (x:NdR),NdRows W base own j x→NdRows WF base own j x:=fun j x hx =>
  ⟨ownsRow_of_block hx.k fun k e=>hbl k (ne k _ (hx.tk k e) (by omega)),ownsRow_of_block hx.s fun k e=>hbl k (ne k _ (hx.ts k e) (by omega)),hx.u.of_block fun k e=>hbl k (ne k _ (hx.tu k e) (by omega)),fun h8=>ownsRow_of_block (hx.u8 h8) fun k e=>hbl k (ne k _ (hx.tu k e) (by omega)),hx.tk,hx.ts,hx.tu⟩
 intro j x hx;rw[List.getElem?_set]at hx
 split at hx
 · rename_i hji
   subst hji;simp only[hi,if_true,Option.some.injEq]at hx;subst hx;have:=kp i r (h.rows i r hr);exact⟨this.k,this.s,this.u,this.u8,this.tk,this.ts,this.tu⟩
 exact kp j x (h.rows j x hx)
theorem map_set_span (L:List NdR) (i:Nat) (r:NdR) (a b:Int) (hr:L[i]?=some r):(L.set i (spanR r a b)).map (·.nd)=(L.map (·.nd)).modify i fun nd=>{ nd with sp:=(a,b) }:=by
 apply List.ext_getElem?;intro j;rw[List.getElem?_map,List.getElem?_modify,List.getElem?_map,List.getElem?_set];by_cases e:i=j
 · subst e;have hil:=(List.getElem?_eq_some_iff.1 hr).1;simp[hil,hr,spanR];have:=(List.getElem?_eq_some_iff.1 hr).2;rw[this];exact⟨rfl,rfl,rfl,rfl,rfl,rfl⟩
 simp[e]
def TabI (E:Pl.Env) (s:ByteArray) (R B base:Nat) (root:Int) (V:Pl.ValF) (d T:Nat) (own:Nat→Nat) (w:World) (z0 bF:Nat) (Y:Pl.Res (Nat × Pl.Nds)) (k:Nat) (v6 v7 v9:Value) (wr:World):Prop :=
 ∃(n:Nat) (b:Bool) (nv':Value) (L':List NdR) (own':Nat→Nat),v6 = .int .i64 T∧v7 = .int .i64 n∧v9 = .bool b∧n≤s.size∧RdV wr R B base s root nv' L' own' ∧
  (if b=true∧Pl.byteAt (bs s) n=125 then Pl.Res.ok (n,L'.map (·.nd)) else Pl.tabF E V (bs s) T d k n (L'.map (·.nd)))=Y∧FX bF (.int .i64 0) (.int .i64 0) wr∧GW Tb base wr ∧
  St (FV own) (FV own') w wr∧(∀k,own' k≠0→own k≠0∨z0≤k)∧z0≤wr.heap.size
set_option maxRecDepth 100000 in
theorem tv_table (E:Pl.Env) (hE:EnvStr Tb E) (s:ByteArray) (R B base:Nat) (root:Int) (V:Pl.ValF) (hV:ValueC Tb s R B base root V) (w:World) (nv:Value) (L:List NdR) (own:Nat→Nat) (h:RdV w R B base s root nv L own) (hg:GW Tb base w) (hs:s.size≤20000000)
    (d n:Nat) (hb:Pl.byteAt (bs s) n=123) (X:Pl.Res (Nat × Nat × Pl.Nds)) (hX:Pl.tableS E V (bs s) d n (L.map (·.nd))=X) (hne:X ≠ .non) :
    Calls Tryz.prog 42 #[.pointer (some ⟨R,0,none⟩),.int .i64 n,.int .i64 d] w (ValPost s R B base root own w X):=by
 have hn:n<s.size:=Nat.lt_of_not_le fun hle=>by rw[byteAt_ge s n (by omega)]at hb;omega
 obtain⟨c0,c1,c2,c3,fz⟩:=h.cells;have hR:=h.R_lt;have H:=Lib.hid h;have HG:=Lib.hid hg;have HV:=Lib.hid hV;have hnF:¬FV own w.heap.size:=h.not_new (Nat.le_refl _);unfold Pl.tableS at hX;have w1:IntKind.i64.wrap ((n:Int)+1)=(n:Int)+1:=IntWalk.i64_in _ ⟨by omega,by omega⟩;by_cases hdp:256<d
 · rw[if_pos hdp]at hX;subst hX;have b1:decide ((256:Int)<(d:Int))=true:=by simp;omega
   clear c0 c1 c2 c3 fz h hg hV hb hdp;go_enter Tryz.func42,Tryz.ntmps42;go_wp2_with fail;exact bodyPost_ret (v := .tuple #[.int .i64 0,.int .i64 0,fv 4 n]) (by simp[results,Tryz.results42,go_sem]) rfl ⟨rfl,by omega,FV own,St.auto,H.out.rk.gr Gr.auto⟩
 rw[if_neg hdp]at hX;cases hrm:Pl.room (L.map (·.nd)) with
 | false=>rw[hrm,if_neg (by simp)]at hX;exact absurd hX.symm hne
 | true =>
 rw[hrm,if_pos rfl]at hX;simp only at hX;have b1:decide ((256:Int)<(d:Int))=false:=by simp;omega
 have hd:d≤256:=by omega
 obtain⟨T,hT⟩:∃T,L.length=T:=⟨_,rfl⟩
 have hT20:T≤20000000:=by simp[Pl.room]at hrm;omega
 obtain⟨e0,he0⟩:∃e,Pl.blanksAt (bs s) (n+1)=e:=⟨_,rfl⟩
 have he0s:e0≤s.size:=by have:=Pl.blanksAt_le (bs s) (n+1) (by rw[bs_length];omega);rw[bs_length]at this;omega
 rw[he0,List.length_map,hT]at hX;obtain⟨Y,hY⟩:∃Y,(if Pl.byteAt (bs s) e0=125 then Pl.Res.ok (e0,L.map (·.nd)++[Pl.tabNd]) else Pl.tabF E V (bs s) T d ((bs s).length+2) e0 (L.map (·.nd)++[Pl.tabNd]))=Y:=⟨_,rfl⟩
 rw[hY]at hX;have HYN:Hid (Y ≠ .non):=by
  intro e;rw[e]at hX;exact hne hX.symm
 have HX:=Lib.hid hX;have HN:=Lib.hid hne;have HRM:=Lib.hid hrm;have HTL:=Lib.hid hT;have HE0:=Lib.hid he0;have HY:=Lib.hid hY;clear c0 c1 c2 c3 fz h hg hV hb hdp hX hne hrm hT he0 hY;go_enter Tryz.func42,Tryz.ntmps42;go_wp2_with fail;refine (tab_node _ R B base s root nv L own (H.out.alloc _) HRM.out 0 0).mono ?_;rintro e w1' ⟨rfl,nv1,own1,hr1,hst1,hown1⟩;obtain⟨c0,c1,c2,c3,fz⟩:=hr1.cells;have hn1:¬FV own w.heap.size:=hnF;have hF1:=(FX.new w (.int .i64 0) (.int .i64 0) 31).st hst1 hnF;have HR1:=Lib.hid hr1;have HST1:=Lib.hid ((((St.refl (FV own) w).alloc (.cells #[.int .i64 0,.int .i64 0] 31)).trans hst1));have HOWN1:=Lib.hid hown1;have HF1:=Lib.hid hF1;have hz1:=hst1.size;simp only[World.size_alloc]at hz1;rw[HTL.out];clear hr1 hst1 hown1 hF1;go_wp2_with fail;refine (tk_Blanks s _ (n+1) (by simp) (by omega) (by omega) _).mono ?_;rintro e w2 ⟨rfl,g2⟩;rw[HE0.out];have HR2:=Lib.hid (HR1.out.gr g2);have HST2:=Lib.hid (HST1.out.gr g2);have HF2:=Lib.hid (HF1.out.gr g2);have HG2:=Lib.hid (HG.out.st HST2.out (fun k hk=>(H.out.lt k hk).1));have HOWN2:Hid (∀k,own1 k≠0→own k≠0∨w.heap.size+1≤k):=fun k hk=>(HOWN1.out k hk).imp id (fun e=>by simpa using e)
 obtain⟨z0,hz0⟩:∃z,w.heap.size+1=z:=⟨_,rfl⟩
 have HZB:Hid (w.heap.size<z0):=by show w.heap.size<z0;omega
 have HZ2:Hid (z0≤w2.heap.size):=by show z0≤w2.heap.size;have:=g2.size;omega
 rw[hz0]at HOWN2;clear g2 hz0 HR1 HST1 HOWN1 HF1 c0 c1 c2 c3 fz hz1;go_wp2_with fail
 go_loopg [6,7,9] ((bs s).length+2) (fun k v6 v7 v9 wr=>TabI E s R B base root V d T own w z0 w.heap.size Y k v6 v7 v9 wr)
 case atStart =>
  refine⟨e0,true,nv1,_,own1,rfl,rfl,rfl,he0s,HR2.out,?_,HF2.out,HG2.out,HST2.out,HOWN2.out,HZ2.out⟩;rw[←HY.out];simp[tabR,Pl.tabNd]
 case round =>
  obtain⟨m2,b,nv2,L2,own2,rfl,rfl,rfl,hm2,hr,htf,hfx,hgw,hst,hown,hzr⟩:=hrel;obtain⟨v0,v1,vf,vl⟩:=hfx;obtain⟨jv0,jv1,jv2,jv3,jvf⟩:=hr.cells;have HFX:=Lib.hid (show FX w.heap.size (.int .i64 0) (.int .i64 0) wr from ⟨v0,v1,vf,vl⟩);have HR3:=Lib.hid hr;have HTF:=Lib.hid htf;have HGW:=Lib.hid hgw;have HST3:=Lib.hid hst;have HOWN3:=Lib.hid hown;have HZR:=Lib.hid hzr;clear hr htf hgw hst hown hzr v0 v1 vf vl;by_cases hend:b=true∧Pl.byteAt (bs s) m2=125
  · have htf:=HTF.out;rw[if_pos hend]at htf;obtain⟨rfl,hb⟩:=hend;have hb1:(((Pl.byteAt (bs s) m2:Nat):Int) != 125)=false:=by simp;omega
    have HGS:Hid (m2<s.size):=Nat.lt_of_not_le fun hle=>by rw[byteAt_ge s m2 (by omega)]at hb;omega
    have hXX:=HX.out;rw[←htf]at hXX;simp only at hXX;cases hk8:Pl.kind8 (L2.map (·.nd)) T with
    | false=>rw[hk8,if_neg (by simp)]at hXX;exact absurd hXX.symm HN.out
    | true =>
    rw[hk8,if_pos rfl]at hXX;have HXX:=Lib.hid hXX;have HK8:=Lib.hid hk8;clear hXX hk8 htf hb;go_wp2_with fail;refine (tv_byte wr R s jv2 m2 m2 rfl).mono ?_;rintro e w4 ⟨rfl,rfl⟩;have HRS:=HR3;have HFS:=HFX;have HSTS:=HST3;have HOWNS:=HOWN3;clear jv0 jv1 jv2 jv3 jvf;have hwg:IntKind.i64.wrap ((m2:Int)+1)=(m2:Int)+1:=IntWalk.i64_in _ ⟨by have:=HGS.out;omega,by have:=HGS.out;omega⟩;obtain⟨rT,hrT⟩:∃r,(L2)[T]?=some r:=by
     have hk:=HK8.out;unfold Pl.kind8 at hk;rw[Bool.and_eq_true,List.getElem?_map]at hk
     replace hk:=hk.2
     cases hl:(L2)[T]? with
     | none=>rw[hl]at hk;cases hk
     | some x=>exact⟨x,rfl⟩
    have hTl:T<(L2).length:=(List.getElem?_eq_some_iff.1 hrT).1;obtain⟨gN,capN,curN,hnvE,hgNb,hgNl,hgNo,hgNR,hgNB,hgNh,hgNs,hgNc,hgNm,hgNt⟩:=HRS.out.form (by omega);have hcl:=HRS.out.cells;rw[hnvE]at hcl;obtain⟨a0,a1,a2,a3,af⟩:=hcl;have hfzN:∀o,wr.frozen? ⟨gN,o,none⟩=false:=fun o=>unfrozen_of_block hgNh o
    have hi1:(0:Int)≤(T:Int):=by omega
    have hi2:(T:Int)<((L2).length:Int):=by omega
    have HRS2:Hid (RdV wr R B base s root (.slice (some ⟨gN,0,none⟩) (L2).length capN) L2 own2):=by rw[←hnvE];exact HRS.out
    obtain⟨p0,p1,pf,pl⟩:=HFS.out;obtain⟨_,_,_,_,_,n5,n6,_⟩:=HRS2.out.ndCells rfl T rT hrT;have n6':wr.cell? ⟨gN,T*7+5+1,none⟩=some (.int .i64 rT.nd.sp.2):=n6;clear n6;have hbN:w.heap.size≠gN:=fun e=>by
     have:own gN≠0∨z0≤gN:=HOWNS.out gN (by omega);rcases this with e2|e2
     · exact hnF (by unfold FV;rw[e];exact e2)
     have:=HZB.out;omega
    have HRT:=Lib.hid hrT;clear hrT hgNh hgNt hgNs hnvE;go_wp2_with fail;have hsp:=HRS2.out.span T rT HRT.out (n:Int) ((m2:Int)+1);have HR12:Hid (RdV ((wr.setCell ⟨gN,T*7+5,none⟩ (.int .i64 (n:Int))).setCell ⟨gN,T*7+5+1,none⟩ (.int .i64 ((m2:Int)+1))) R B base s root (.slice (some ⟨gN,0,none⟩) (L2).length capN) ((L2).set T (spanR rT (n:Int) ((m2:Int)+1))) own2):=hsp.1;have HST12:Hid (St (FV own) (FV own2) w ((wr.setCell ⟨gN,T*7+5,none⟩ (.int .i64 (n:Int))).setCell ⟨gN,T*7+5+1,none⟩ (.int .i64 ((m2:Int)+1)))):=HSTS.out.trans hsp.2;have hnO:¬FV own2 w.heap.size:=fun hf=>by
     rcases HOWNS.out _ hf with e|e
     · exact hnF e
     have:=HZB.out;omega
    have HF12:Hid (FX w.heap.size (.int .i64 0) (.int .i64 0) ((wr.setCell ⟨gN,T*7+5,none⟩ (.int .i64 (n:Int))).setCell ⟨gN,T*7+5+1,none⟩ (.int .i64 ((m2:Int)+1)))):=HFS.out.st hsp.2 hnO;obtain⟨wS,hwS⟩:∃v,(wr.setCell ⟨gN,T*7+5,none⟩ (.int .i64 (n:Int))).setCell ⟨gN,T*7+5+1,none⟩ (.int .i64 ((m2:Int)+1))=v:=⟨_,rfl⟩
    rw[hwS]at HR12 HST12 HF12 ⊢;clear hwS hsp p0 p1 pf pl n5 n6' hfzN a0 a1 a2 a3 af;obtain⟨p0,p1,pf,pl⟩:=HF12.out
    go_region
    all_goals go_wp2_with fail
    rw[←HXX.out];refine bodyPost_ret (v := .tuple #[.int .i64 T,.int .i64 (m2+1:Nat),f0]) (by simp[results,Tryz.results42,go_sem,p0,p1,pf,pl]) rfl ⟨rfl,by have:=HGS.out;omega,by simpa using hTl,_,_,own2,((HR12.out.setCell hnO _).setCell hnO _).drew,?_,((HST12.out.setCell (.inr (Nat.le_refl _)) _).setCell (.inr (Nat.le_refl _)) _).drew,fun k hk=>(HOWNS.out k hk).imp id (fun e=>by have:=HZB.out;omega)⟩;rw[map_set_span _ T rT _ _ HRT.out];rfl
  have htf:=HTF.out;rw[if_neg hend]at htf;obtain⟨gk,rfl⟩:∃f,gk=f+1:=by
   cases gk with
   | zero=>exact absurd htf.symm HYN.out
   | succ f=>exact⟨f,rfl⟩
  rw[Pl.tabF]at htf;have HTF2:=Lib.hid htf;clear htf;cases b with
  | true =>
   have hb1:(((Pl.byteAt (bs s) m2:Nat):Int) != 125)=true:=by simp;simp at hend;omega
   obtain⟨q0,q1,qf,ql⟩:=HFX.out;clear hend;go_wp2_with fail;refine (tv_byte wr R s jv2 m2 m2 rfl).mono ?_;rintro e w4 ⟨rfl,rfl⟩;go_wp2_with fail;clear q0 q1 qf ql jv0 jv1 jv2 jv3 jvf hb1;have htf:=HTF2.out;cases hP:Pl.pairS E V (bs s) T m2 d (L2.map (·.nd)) with
   | non=>rw[hP]at htf;exact absurd htf.symm HYN.out
   | bad c p =>
    rw[hP]at htf;simp only at htf;refine (tv_pair E hE wr R B base s root V HV.out nv2 L2 own2 HR3.out HGW.out hs T d m2 hm2 hd (by omega) _ hP (by simp)).mono ?_;rintro e w5 ⟨rfl,hc,F5,hst5,hrk5⟩;have HRK5:=Lib.hid ((hrk5.set (b:=w.heap.size) (o:=0) (by omega) (.int .i64 c)).set (b:=w.heap.size) (o:=1) (by omega) (.int .i64 p));clear hrk5;have hn2':¬FV own2 w.heap.size:=fun hf=>by
     rcases HOWN3.out _ hf with e|e
     · exact hnF e
     have:=HZB.out;omega
    have hfx5:=HFX.out.st hst5 hn2';have HFX5:=Lib.hid (hfx5.set (.int .i64 c) (.int .i64 p));have HST5:=Lib.hid (((HST3.out.trans hst5).setCell (p:=⟨w.heap.size,0,none⟩) (.inr (Nat.le_refl _)) (.int .i64 c)).setCell (p:=⟨w.heap.size,1,none⟩) (.inr (Nat.le_refl _)) (.int .i64 p));have HXX:Hid (Pl.Res.bad c p=X):=by
     have:=HX.out;rw[←htf]at this;exact this
    have HC:=Lib.hid hc;obtain⟨a0,a1,af,al⟩:=hfx5;have hc':¬(c:Int)=0:=by omega
    clear htf hst5 hP hc;go_wp2_with fail;refine (tv_fine_no c p hc' _).mono ?_;rintro e w6 ⟨rfl,g6⟩;obtain⟨u0,u1,uf,ul⟩:=HFX5.out.gr g6;have hst6:=HST5.out.gr g6;have hrk6:=HRK5.out.gr g6;clear g6 a0 a1 af al;go_wp2_with fail
    go_region
    all_goals go_wp2_with fail
    rw[←HXX.out];exact bodyPost_ret (v := .tuple #[.int .i64 0,.int .i64 0,fv c p]) (by simp[results,Tryz.results42,go_sem,u0,u1,uf,ul]) rfl ⟨rfl,HC.out,F5,((hst6.setCell (.inr (Nat.le_refl _)) _).setCell (.inr (Nat.le_refl _)) _).drew,((hrk6.set (by omega) _).set (by omega) _).drew⟩
   | ok r =>
    obtain⟨n2,st2⟩:=r;rw[hP]at htf;simp only at htf;refine (tv_pair E hE wr R B base s root V HV.out nv2 L2 own2 HR3.out HGW.out hs T d m2 hm2 hd (by omega) _ hP (by simp)).mono ?_;rintro e w5 ⟨rfl,hn2,nv5,L5,own5,hr5,rfl,hst5,hown5⟩;have hn2':¬FV own2 w.heap.size:=fun hf=>by
     rcases HOWN3.out _ hf with e|e
     · exact hnF e
     have:=HZB.out;omega
    have HOWN5:Hid (∀k,own5 k≠0→own k≠0∨z0≤k):=fun k hk=>by
     rcases hown5 k hk with e|e
     · exact HOWN3.out k e
     exact .inr (Nat.le_trans HZR.out e)
    have hn5:¬FV own5 w.heap.size:=fun hf=>by
     rcases HOWN5.out _ hf with e|e
     · exact hnF e
     have:=HZB.out;omega
    have hfx5:=HFX.out.st hst5 hn2';have HFX5:=Lib.hid (hfx5.set (.int .i64 0) (.int .i64 0));have HR5:=Lib.hid ((hr5.setCell (p:=⟨w.heap.size,0,none⟩) hn5 (.int .i64 0)).setCell (p:=⟨w.heap.size,1,none⟩) hn5 (.int .i64 0));have HST5:=Lib.hid (((HST3.out.trans hst5).setCell (p:=⟨w.heap.size,0,none⟩) (.inr (Nat.le_refl _)) (.int .i64 0)).setCell (p:=⟨w.heap.size,1,none⟩) (.inr (Nat.le_refl _)) (.int .i64 0));have hz5:z0≤w5.heap.size:=Nat.le_trans HZR.out hst5.size;obtain⟨a0,a1,af,al⟩:=hfx5;obtain⟨e2,he2⟩:∃e,Pl.blanksAt (bs s) n2=e:=⟨_,rfl⟩
    have he2s:e2≤s.size:=by have:=Pl.blanksAt_le (bs s) n2 (by rw[bs_length];omega);rw[bs_length]at this;omega
    rw[he2]at htf;have HTF5:=Lib.hid htf;have HE2:=Lib.hid he2;clear htf hst5 hP hr5 hown5 he2 HTF2 HTF HR3 HFX HGW HST3 HOWN3;go_wp2_with fail;refine (tv_fine_yes _).mono ?_;rintro e w6 ⟨rfl,g6⟩;have hz6:z0≤w6.heap.size:=by have:=g6.size;simp[World.setCell]at this;omega
    have HFX6:=Lib.hid (HFX5.out.gr g6);have HR6:=Lib.hid (HR5.out.gr g6);have HST6:=Lib.hid (HST5.out.gr g6);have jv2:=HR6.out.cells.2.2.1;clear g6 a0 a1 af al HFX5 HR5 HST5;go_wp2_with fail;refine (tk_Blanks s n2 n2 rfl hn2 (by omega) _).mono ?_;rintro e w7 ⟨rfl,g7⟩;rw[HE2.out];have hz7:z0≤w7.heap.size:=Nat.le_trans hz6 g7.size;have HFX7:=Lib.hid (HFX6.out.gr g7);have HR7:=Lib.hid (HR6.out.gr g7);have HST7:=Lib.hid (HST6.out.gr g7);have kv2:=HR7.out.cells.2.2.1;clear g7 jv2 HFX6 HR6 HST6;go_wp2_with fail;refine (tv_byte w7 R s kv2 e2 e2 rfl).mono ?_;rintro e w8 ⟨rfl,rfl⟩;have htf:=HTF5.out;by_cases hb:Pl.byteAt (bs s) e2=125
    · rw[if_pos hb]at htf;have hb1:(((Pl.byteAt (bs s) e2:Nat):Int)==125)=true:=by simp;omega
      have HGS:Hid (e2<s.size):=Nat.lt_of_not_le fun hle=>by rw[byteAt_ge s e2 (by omega)]at hb;omega
      have hXX:=HX.out;rw[←htf]at hXX;simp only at hXX;cases hk8:Pl.kind8 (L5.map (·.nd)) T with
      | false=>rw[hk8,if_neg (by simp)]at hXX;exact absurd hXX.symm HN.out
      | true =>
      rw[hk8,if_pos rfl]at hXX;have HXX:=Lib.hid hXX;have HK8:=Lib.hid hk8;have HRS:=HR7;have HFS:=HFX7;have HSTS:=HST7;have HOWNS:=HOWN5;clear hXX hk8 htf hb kv2;have hwg:IntKind.i64.wrap ((e2:Int)+1)=(e2:Int)+1:=IntWalk.i64_in _ ⟨by have:=HGS.out;omega,by have:=HGS.out;omega⟩;obtain⟨rT,hrT⟩:∃r,(L5)[T]?=some r:=by
       have hk:=HK8.out;unfold Pl.kind8 at hk;rw[Bool.and_eq_true,List.getElem?_map]at hk
       replace hk:=hk.2
       cases hl:(L5)[T]? with
       | none=>rw[hl]at hk;cases hk
       | some x=>exact⟨x,rfl⟩
      have hTl:T<(L5).length:=(List.getElem?_eq_some_iff.1 hrT).1;obtain⟨gN,capN,curN,hnvE,hgNb,hgNl,hgNo,hgNR,hgNB,hgNh,hgNs,hgNc,hgNm,hgNt⟩:=HRS.out.form (by omega);have hcl:=HRS.out.cells;rw[hnvE]at hcl;obtain⟨a0,a1,a2,a3,af⟩:=hcl;have hfzN:∀o,w7.frozen? ⟨gN,o,none⟩=false:=fun o=>unfrozen_of_block hgNh o
      have hi1:(0:Int)≤(T:Int):=by omega
      have hi2:(T:Int)<((L5).length:Int):=by omega
      have HRS2:Hid (RdV w7 R B base s root (.slice (some ⟨gN,0,none⟩) (L5).length capN) L5 own5):=by rw[←hnvE];exact HRS.out
      obtain⟨p0,p1,pf,pl⟩:=HFS.out;obtain⟨_,_,_,_,_,n5,n6,_⟩:=HRS2.out.ndCells rfl T rT hrT;have n6':w7.cell? ⟨gN,T*7+5+1,none⟩=some (.int .i64 rT.nd.sp.2):=n6;clear n6;have hbN:w.heap.size≠gN:=fun e=>by
       have:own gN≠0∨z0≤gN:=HOWNS.out gN (by omega);rcases this with e2|e2
       · exact hnF (by unfold FV;rw[e];exact e2)
       have:=HZB.out;omega
      have HRT:=Lib.hid hrT;clear hrT hgNh hgNt hgNs hnvE;go_wp2_with fail;have hsp:=HRS2.out.span T rT HRT.out (n:Int) ((e2:Int)+1);have HR12:Hid (RdV ((w7.setCell ⟨gN,T*7+5,none⟩ (.int .i64 (n:Int))).setCell ⟨gN,T*7+5+1,none⟩ (.int .i64 ((e2:Int)+1))) R B base s root (.slice (some ⟨gN,0,none⟩) (L5).length capN) ((L5).set T (spanR rT (n:Int) ((e2:Int)+1))) own5):=hsp.1;have HST12:Hid (St (FV own) (FV own5) w ((w7.setCell ⟨gN,T*7+5,none⟩ (.int .i64 (n:Int))).setCell ⟨gN,T*7+5+1,none⟩ (.int .i64 ((e2:Int)+1)))):=HSTS.out.trans hsp.2;have hnO:¬FV own5 w.heap.size:=fun hf=>by
       rcases HOWNS.out _ hf with e|e
       · exact hnF e
       have:=HZB.out;omega
      have HF12:Hid (FX w.heap.size (.int .i64 0) (.int .i64 0) ((w7.setCell ⟨gN,T*7+5,none⟩ (.int .i64 (n:Int))).setCell ⟨gN,T*7+5+1,none⟩ (.int .i64 ((e2:Int)+1)))):=HFS.out.st hsp.2 hnO;obtain⟨wS,hwS⟩:∃v,(w7.setCell ⟨gN,T*7+5,none⟩ (.int .i64 (n:Int))).setCell ⟨gN,T*7+5+1,none⟩ (.int .i64 ((e2:Int)+1))=v:=⟨_,rfl⟩
      rw[hwS]at HR12 HST12 HF12 ⊢;clear hwS hsp p0 p1 pf pl n5 n6' hfzN a0 a1 a2 a3 af;obtain⟨p0,p1,pf,pl⟩:=HF12.out
      go_region
      all_goals go_wp2_with fail
      rw[←HXX.out];refine bodyPost_ret (v := .tuple #[.int .i64 T,.int .i64 (e2+1:Nat),f0]) (by simp[results,Tryz.results42,go_sem,p0,p1,pf,pl]) rfl ⟨rfl,by have:=HGS.out;omega,by simpa using hTl,_,_,own5,((HR12.out.setCell hnO _).setCell hnO _).drew,?_,((HST12.out.setCell (.inr (Nat.le_refl _)) _).setCell (.inr (Nat.le_refl _)) _).drew,fun k hk=>(HOWNS.out k hk).imp id (fun e=>by have:=HZB.out;omega)⟩;rw[map_set_span _ T rT _ _ HRT.out];rfl
    rw[if_neg hb]at htf;have hb1:(((Pl.byteAt (bs s) e2:Nat):Int)==125)=false:=by simp;omega
    obtain⟨q0,q1,qf,ql⟩:=HFX7.out;by_cases hb4:Pl.byteAt (bs s) e2=44
    · rw[if_pos hb4]at htf;have hb2:(((Pl.byteAt (bs s) e2:Nat):Int) != 44)=false:=by simp;omega
      have he2l:e2<s.size:=Nat.lt_of_not_le fun hle=>by rw[byteAt_ge s e2 (by omega)]at hb4;omega
      have we2:IntKind.i64.wrap ((e2:Int)+1)=(e2:Int)+1:=IntWalk.i64_in _ ⟨by omega,by omega⟩;have HTF7:=Lib.hid htf;clear htf hb hb4;go_wp2_with fail;refine (tv_byte w7 R s kv2 e2 e2 rfl).mono ?_;rintro e w9 ⟨rfl,rfl⟩;go_wp2_with fail;refine (tk_Blanks s _ (e2+1) (by simp) (by omega) (by omega) _).mono ?_;rintro e w10 ⟨rfl,g10⟩;have he3:Pl.blanksAt (bs s) (e2+1)≤s.size:=by have:=Pl.blanksAt_le (bs s) (e2+1) (by rw[bs_length];omega);rw[bs_length]at this;omega
      have hst10:=HST7.out.gr g10;have HST10:=Lib.hid hst10;have HFX10:=Lib.hid (HFX7.out.gr g10);have HR10:=Lib.hid (HR7.out.gr g10);have hz10:z0≤w10.heap.size:=Nat.le_trans hz7 g10.size;clear hst10 g10 kv2 q0 q1 qf ql HFX7 HR7 HST7;go_wp2_with fail
      go_roundg gk
      case measure=>omega
      case rel =>
       refine⟨_,false,nv5,L5,own5,rfl,rfl,rfl,he3,HR10.out,?_,HFX10.out,HG.out.st HST10.out (fun k hk=>(H.out.lt k hk).1),HST10.out,HOWN5.out,hz10⟩;rw[if_neg (by simp)];exact HTF7.out
    rw[if_neg hb4]at htf;have hb2:(((Pl.byteAt (bs s) e2:Nat):Int) != 44)=true:=by simp;omega
    have HXX:Hid (Pl.Res.bad 3 e2=X):=by
     have:=HX.out;rw[←htf]at this;exact this
    clear htf hb hb4;go_wp2_with fail;refine (tv_byte w7 R s kv2 e2 e2 rfl).mono ?_;rintro e w9 ⟨rfl,rfl⟩;go_wp2_with fail;refine (tv_wrong e2 e2 rfl _).mono ?_;rintro e w10 ⟨rfl,g10⟩;obtain⟨u0,u1,uf,ul⟩:=HFX7.out.gr g10;have hst10:=HST7.out.gr g10;clear q0 q1 qf ql kv2;go_wp2_with fail;rw[←HXX.out];exact bodyPost_ret (v := .tuple #[.int .i64 0,.int .i64 0,fv 3 e2]) (by simp[results,Tryz.results42,go_sem,u0,u1,uf,ul]) rfl ⟨rfl,by omega,_,(hst10.setCell (.inr (Nat.le_refl _)) _).setCell (.inr (Nat.le_refl _)) _,((HR7.out.rk.gr g10).set (by omega) _).set (by omega) _⟩
  | false =>
   obtain⟨q0,q1,qf,ql⟩:=HFX.out;clear hend;go_wp2_with fail;clear q0 q1 qf ql jv0 jv1 jv2 jv3 jvf;have htf:=HTF2.out;cases hP:Pl.pairS E V (bs s) T m2 d (L2.map (·.nd)) with
   | non=>rw[hP]at htf;exact absurd htf.symm HYN.out
   | bad c p =>
    rw[hP]at htf;simp only at htf;refine (tv_pair E hE wr R B base s root V HV.out nv2 L2 own2 HR3.out HGW.out hs T d m2 hm2 hd (by omega) _ hP (by simp)).mono ?_;rintro e w5 ⟨rfl,hc,F5,hst5,hrk5⟩;have HRK5:=Lib.hid ((hrk5.set (b:=w.heap.size) (o:=0) (by omega) (.int .i64 c)).set (b:=w.heap.size) (o:=1) (by omega) (.int .i64 p));clear hrk5;have hn2':¬FV own2 w.heap.size:=fun hf=>by
     rcases HOWN3.out _ hf with e|e
     · exact hnF e
     have:=HZB.out;omega
    have hfx5:=HFX.out.st hst5 hn2';have HFX5:=Lib.hid (hfx5.set (.int .i64 c) (.int .i64 p));have HST5:=Lib.hid (((HST3.out.trans hst5).setCell (p:=⟨w.heap.size,0,none⟩) (.inr (Nat.le_refl _)) (.int .i64 c)).setCell (p:=⟨w.heap.size,1,none⟩) (.inr (Nat.le_refl _)) (.int .i64 p));have HXX:Hid (Pl.Res.bad c p=X):=by
     have:=HX.out;rw[←htf]at this;exact this
    have HC:=Lib.hid hc;obtain⟨a0,a1,af,al⟩:=hfx5;have hc':¬(c:Int)=0:=by omega
    clear htf hst5 hP hc;go_wp2_with fail;refine (tv_fine_no c p hc' _).mono ?_;rintro e w6 ⟨rfl,g6⟩;obtain⟨u0,u1,uf,ul⟩:=HFX5.out.gr g6;have hst6:=HST5.out.gr g6;have hrk6:=HRK5.out.gr g6;clear g6 a0 a1 af al;go_wp2_with fail
    go_region
    all_goals go_wp2_with fail
    rw[←HXX.out];exact bodyPost_ret (v := .tuple #[.int .i64 0,.int .i64 0,fv c p]) (by simp[results,Tryz.results42,go_sem,u0,u1,uf,ul]) rfl ⟨rfl,HC.out,F5,((hst6.setCell (.inr (Nat.le_refl _)) _).setCell (.inr (Nat.le_refl _)) _).drew,((hrk6.set (by omega) _).set (by omega) _).drew⟩
   | ok r =>
    obtain⟨n2,st2⟩:=r;rw[hP]at htf;simp only at htf;refine (tv_pair E hE wr R B base s root V HV.out nv2 L2 own2 HR3.out HGW.out hs T d m2 hm2 hd (by omega) _ hP (by simp)).mono ?_;rintro e w5 ⟨rfl,hn2,nv5,L5,own5,hr5,rfl,hst5,hown5⟩;have hn2':¬FV own2 w.heap.size:=fun hf=>by
     rcases HOWN3.out _ hf with e|e
     · exact hnF e
     have:=HZB.out;omega
    have HOWN5:Hid (∀k,own5 k≠0→own k≠0∨z0≤k):=fun k hk=>by
     rcases hown5 k hk with e|e
     · exact HOWN3.out k e
     exact .inr (Nat.le_trans HZR.out e)
    have hn5:¬FV own5 w.heap.size:=fun hf=>by
     rcases HOWN5.out _ hf with e|e
     · exact hnF e
     have:=HZB.out;omega
    have hfx5:=HFX.out.st hst5 hn2';have HFX5:=Lib.hid (hfx5.set (.int .i64 0) (.int .i64 0));have HR5:=Lib.hid ((hr5.setCell (p:=⟨w.heap.size,0,none⟩) hn5 (.int .i64 0)).setCell (p:=⟨w.heap.size,1,none⟩) hn5 (.int .i64 0));have HST5:=Lib.hid (((HST3.out.trans hst5).setCell (p:=⟨w.heap.size,0,none⟩) (.inr (Nat.le_refl _)) (.int .i64 0)).setCell (p:=⟨w.heap.size,1,none⟩) (.inr (Nat.le_refl _)) (.int .i64 0));have hz5:z0≤w5.heap.size:=Nat.le_trans HZR.out hst5.size;obtain⟨a0,a1,af,al⟩:=hfx5;obtain⟨e2,he2⟩:∃e,Pl.blanksAt (bs s) n2=e:=⟨_,rfl⟩
    have he2s:e2≤s.size:=by have:=Pl.blanksAt_le (bs s) n2 (by rw[bs_length];omega);rw[bs_length]at this;omega
    rw[he2]at htf;have HTF5:=Lib.hid htf;have HE2:=Lib.hid he2;clear htf hst5 hP hr5 hown5 he2 HTF2 HTF HR3 HFX HGW HST3 HOWN3;go_wp2_with fail;refine (tv_fine_yes _).mono ?_;rintro e w6 ⟨rfl,g6⟩;have hz6:z0≤w6.heap.size:=by have:=g6.size;simp[World.setCell]at this;omega
    have HFX6:=Lib.hid (HFX5.out.gr g6);have HR6:=Lib.hid (HR5.out.gr g6);have HST6:=Lib.hid (HST5.out.gr g6);have jv2:=HR6.out.cells.2.2.1;clear g6 a0 a1 af al HFX5 HR5 HST5;go_wp2_with fail;refine (tk_Blanks s n2 n2 rfl hn2 (by omega) _).mono ?_;rintro e w7 ⟨rfl,g7⟩;rw[HE2.out];have hz7:z0≤w7.heap.size:=Nat.le_trans hz6 g7.size;have HFX7:=Lib.hid (HFX6.out.gr g7);have HR7:=Lib.hid (HR6.out.gr g7);have HST7:=Lib.hid (HST6.out.gr g7);have kv2:=HR7.out.cells.2.2.1;clear g7 jv2 HFX6 HR6 HST6;go_wp2_with fail;refine (tv_byte w7 R s kv2 e2 e2 rfl).mono ?_;rintro e w8 ⟨rfl,rfl⟩;have htf:=HTF5.out;by_cases hb:Pl.byteAt (bs s) e2=125
    · rw[if_pos hb]at htf;have hb1:(((Pl.byteAt (bs s) e2:Nat):Int)==125)=true:=by simp;omega
      have HGS:Hid (e2<s.size):=Nat.lt_of_not_le fun hle=>by rw[byteAt_ge s e2 (by omega)]at hb;omega
      have hXX:=HX.out;rw[←htf]at hXX;simp only at hXX;cases hk8:Pl.kind8 (L5.map (·.nd)) T with
      | false=>rw[hk8,if_neg (by simp)]at hXX;exact absurd hXX.symm HN.out
      | true =>
      rw[hk8,if_pos rfl]at hXX;have HXX:=Lib.hid hXX;have HK8:=Lib.hid hk8;have HRS:=HR7;have HFS:=HFX7;have HSTS:=HST7;have HOWNS:=HOWN5;clear hXX hk8 htf hb kv2;have hwg:IntKind.i64.wrap ((e2:Int)+1)=(e2:Int)+1:=IntWalk.i64_in _ ⟨by have:=HGS.out;omega,by have:=HGS.out;omega⟩;obtain⟨rT,hrT⟩:∃r,(L5)[T]?=some r:=by
       have hk:=HK8.out;unfold Pl.kind8 at hk;rw[Bool.and_eq_true,List.getElem?_map]at hk
       replace hk:=hk.2
       cases hl:(L5)[T]? with
       | none=>rw[hl]at hk;cases hk
       | some x=>exact⟨x,rfl⟩
      have hTl:T<(L5).length:=(List.getElem?_eq_some_iff.1 hrT).1;obtain⟨gN,capN,curN,hnvE,hgNb,hgNl,hgNo,hgNR,hgNB,hgNh,hgNs,hgNc,hgNm,hgNt⟩:=HRS.out.form (by omega);have hcl:=HRS.out.cells;rw[hnvE]at hcl;obtain⟨a0,a1,a2,a3,af⟩:=hcl;have hfzN:∀o,w7.frozen? ⟨gN,o,none⟩=false:=fun o=>unfrozen_of_block hgNh o
      have hi1:(0:Int)≤(T:Int):=by omega
      have hi2:(T:Int)<((L5).length:Int):=by omega
      have HRS2:Hid (RdV w7 R B base s root (.slice (some ⟨gN,0,none⟩) (L5).length capN) L5 own5):=by rw[←hnvE];exact HRS.out
      obtain⟨p0,p1,pf,pl⟩:=HFS.out;obtain⟨_,_,_,_,_,n5,n6,_⟩:=HRS2.out.ndCells rfl T rT hrT;have n6':w7.cell? ⟨gN,T*7+5+1,none⟩=some (.int .i64 rT.nd.sp.2):=n6;clear n6;have hbN:w.heap.size≠gN:=fun e=>by
       have:own gN≠0∨z0≤gN:=HOWNS.out gN (by omega);rcases this with e2|e2
       · exact hnF (by unfold FV;rw[e];exact e2)
       have:=HZB.out;omega
      have HRT:=Lib.hid hrT;clear hrT hgNh hgNt hgNs hnvE;go_wp2_with fail;have hsp:=HRS2.out.span T rT HRT.out (n:Int) ((e2:Int)+1);have HR12:Hid (RdV ((w7.setCell ⟨gN,T*7+5,none⟩ (.int .i64 (n:Int))).setCell ⟨gN,T*7+5+1,none⟩ (.int .i64 ((e2:Int)+1))) R B base s root (.slice (some ⟨gN,0,none⟩) (L5).length capN) ((L5).set T (spanR rT (n:Int) ((e2:Int)+1))) own5):=hsp.1;have HST12:Hid (St (FV own) (FV own5) w ((w7.setCell ⟨gN,T*7+5,none⟩ (.int .i64 (n:Int))).setCell ⟨gN,T*7+5+1,none⟩ (.int .i64 ((e2:Int)+1)))):=HSTS.out.trans hsp.2;have hnO:¬FV own5 w.heap.size:=fun hf=>by
       rcases HOWNS.out _ hf with e|e
       · exact hnF e
       have:=HZB.out;omega
      have HF12:Hid (FX w.heap.size (.int .i64 0) (.int .i64 0) ((w7.setCell ⟨gN,T*7+5,none⟩ (.int .i64 (n:Int))).setCell ⟨gN,T*7+5+1,none⟩ (.int .i64 ((e2:Int)+1)))):=HFS.out.st hsp.2 hnO;obtain⟨wS,hwS⟩:∃v,(w7.setCell ⟨gN,T*7+5,none⟩ (.int .i64 (n:Int))).setCell ⟨gN,T*7+5+1,none⟩ (.int .i64 ((e2:Int)+1))=v:=⟨_,rfl⟩
      rw[hwS]at HR12 HST12 HF12 ⊢;clear hwS hsp p0 p1 pf pl n5 n6' hfzN a0 a1 a2 a3 af;obtain⟨p0,p1,pf,pl⟩:=HF12.out
      go_region
      all_goals go_wp2_with fail
      rw[←HXX.out];refine bodyPost_ret (v := .tuple #[.int .i64 T,.int .i64 (e2+1:Nat),f0]) (by simp[results,Tryz.results42,go_sem,p0,p1,pf,pl]) rfl ⟨rfl,by have:=HGS.out;omega,by simpa using hTl,_,_,own5,((HR12.out.setCell hnO _).setCell hnO _).drew,?_,((HST12.out.setCell (.inr (Nat.le_refl _)) _).setCell (.inr (Nat.le_refl _)) _).drew,fun k hk=>(HOWNS.out k hk).imp id (fun e=>by have:=HZB.out;omega)⟩;rw[map_set_span _ T rT _ _ HRT.out];rfl
    rw[if_neg hb]at htf;have hb1:(((Pl.byteAt (bs s) e2:Nat):Int)==125)=false:=by simp;omega
    obtain⟨q0,q1,qf,ql⟩:=HFX7.out;by_cases hb4:Pl.byteAt (bs s) e2=44
    · rw[if_pos hb4]at htf;have hb2:(((Pl.byteAt (bs s) e2:Nat):Int) != 44)=false:=by simp;omega
      have he2l:e2<s.size:=Nat.lt_of_not_le fun hle=>by rw[byteAt_ge s e2 (by omega)]at hb4;omega
      have we2:IntKind.i64.wrap ((e2:Int)+1)=(e2:Int)+1:=IntWalk.i64_in _ ⟨by omega,by omega⟩;have HTF7:=Lib.hid htf;clear htf hb hb4;go_wp2_with fail;refine (tv_byte w7 R s kv2 e2 e2 rfl).mono ?_;rintro e w9 ⟨rfl,rfl⟩;go_wp2_with fail;refine (tk_Blanks s _ (e2+1) (by simp) (by omega) (by omega) _).mono ?_;rintro e w10 ⟨rfl,g10⟩;have he3:Pl.blanksAt (bs s) (e2+1)≤s.size:=by have:=Pl.blanksAt_le (bs s) (e2+1) (by rw[bs_length];omega);rw[bs_length]at this;omega
      have hst10:=HST7.out.gr g10;have HST10:=Lib.hid hst10;have HFX10:=Lib.hid (HFX7.out.gr g10);have HR10:=Lib.hid (HR7.out.gr g10);have hz10:z0≤w10.heap.size:=Nat.le_trans hz7 g10.size;clear hst10 g10 kv2 q0 q1 qf ql HFX7 HR7 HST7;go_wp2_with fail
      go_roundg gk
      case measure=>omega
      case rel =>
       refine⟨_,false,nv5,L5,own5,rfl,rfl,rfl,he3,HR10.out,?_,HFX10.out,HG.out.st HST10.out (fun k hk=>(H.out.lt k hk).1),HST10.out,HOWN5.out,hz10⟩;rw[if_neg (by simp)];exact HTF7.out
    rw[if_neg hb4]at htf;have hb2:(((Pl.byteAt (bs s) e2:Nat):Int) != 44)=true:=by simp;omega
    have HXX:Hid (Pl.Res.bad 3 e2=X):=by
     have:=HX.out;rw[←htf]at this;exact this
    clear htf hb hb4;go_wp2_with fail;refine (tv_byte w7 R s kv2 e2 e2 rfl).mono ?_;rintro e w9 ⟨rfl,rfl⟩;go_wp2_with fail;refine (tv_wrong e2 e2 rfl _).mono ?_;rintro e w10 ⟨rfl,g10⟩;obtain⟨u0,u1,uf,ul⟩:=HFX7.out.gr g10;have hst10:=HST7.out.gr g10;clear q0 q1 qf ql kv2;go_wp2_with fail;rw[←HXX.out];exact bodyPost_ret (v := .tuple #[.int .i64 0,.int .i64 0,fv 3 e2]) (by simp[results,Tryz.results42,go_sem,u0,u1,uf,ul]) rfl ⟨rfl,by omega,_,(hst10.setCell (.inr (Nat.le_refl _)) _).setCell (.inr (Nat.le_refl _)) _,((HR7.out.rk.gr g10).set (by omega) _).set (by omega) _⟩
end Go.Proofs.YtkplelejagpkmaaGreatDoor
namespace Go.Proofs.YtkplelejagpkmaaGreatDoor
open Go.RowKit Go.Shelf Go.Joins
attribute [local go_sem] Oper.semAt_some
variable {Tb:Nat→UInt8 × UInt8}
set_option maxRecDepth 100000 in
theorem tv_value (E:Pl.Env) (hE:EnvStr Tb E) (hE2:E.scal=Pl.scalS) (s:ByteArray) (hs:s.size≤20000000) (R B base:Nat) (root:Int):∀f,ValueC Tb s R B base root (Pl.valueF E (bs s) f):=by
 intro f
 induction f with
 | zero =>
  intro w nv L own h hg n d hn hd X hX hne;exact absurd hX.symm hne
 | succ f ih =>
  intro w nv L own h hg n d hn hd X hX hne;obtain⟨c0,c1,c2,c3,fz⟩:=h.cells;have hR:=h.R_lt;have hnF:¬FV own w.heap.size:=h.not_new (Nat.le_refl _);have ga:=(Gr.refl w).alloc (.cells #[.int .i64 0,.int .i64 0] 31);have HR1:=Lib.hid (h.gr ga);have HG1:=Lib.hid (hg.gr ga);have HN:=Lib.hid hne;obtain⟨c,hc⟩:∃c,Pl.byteAt (bs s) n=c:=⟨_,rfl⟩
  have HC:=Lib.hid hc;rw[Pl.valueF]at hX;simp only[hc]at hX;by_cases h1:c=34∨c=39
  · rw[if_pos h1]at hX;have HX:=Lib.hid hX;clear hX hc ga h hg c0 c1 c3 fz hne;by_cases h34:c=34
    · have b1:((c:Int)==34)=true:=by simp;omega
      clear h1 h34;go_enter Tryz.func18,Tryz.ntmps18;go_wp2_with fail;refine (tv_byte _ R s (by rw[((Gr.refl w).alloc _).use.1 _ _ hR.2];exact c2) n n rfl).mono ?_;rintro e w0 ⟨rfl,rfl⟩;rw[HC.out];go_wp2_with fail;refine (tv_text E hE _ R B base s root nv L own HR1.out HG1.out hs n d n rfl hn X HX.out HN.out).mono ?_;rintro e w1 hpost;cases X with
      | non=>exact absurd rfl HN.out
      | bad c p =>
       obtain⟨rfl,hc,F',hst,hrk⟩:=hpost;have HRK:=Lib.hid hrk;clear hrk;obtain⟨a0,a1,af,al⟩:=(FX.new w (.int .i64 0) (.int .i64 0) 31).st hst hnF;have HST2:=Lib.hid (((St.refl (FV own) w).alloc (.cells #[.int .i64 0,.int .i64 0] 31)).trans hst);have HC:=Lib.hid hc;clear hst hc;go_wp2_with fail;exact bodyPost_ret (v := .tuple #[.int .i64 0,.int .i64 0,fv c p]) (by simp[results,Tryz.results18,go_sem,a0,a1,af,al]) rfl ⟨rfl,HC.out,F',(HST2.out.setCell (.inr (Nat.le_refl _)) _).setCell (.inr (Nat.le_refl _)) _,(HRK.out.set (by omega) _).set (by omega) _⟩
      | ok r =>
       obtain⟨iv,m,st'⟩:=r;obtain⟨rfl,hm,hi,nv',L',own',hr',hL',hst,hown⟩:=hpost;obtain⟨a0,a1,af,al⟩:=(FX.new w (.int .i64 0) (.int .i64 0) 31).st hst hnF;have HST2:=Lib.hid (((St.refl (FV own) w).alloc (.cells #[.int .i64 0,.int .i64 0] 31)).trans hst);have HR':=Lib.hid hr';have HOWN:Hid (∀k,own' k≠0→own k≠0∨w.heap.size+1≤k):=fun k hk=>(hown k hk).imp id (fun e=>by simpa using e)
       have HL':=Lib.hid hL';have hn':¬FV own' w.heap.size:=fun hf=>by
        rcases HOWN.out _ hf with e|e
        · exact hnF e
        omega
       clear hst hr' hown hL';go_wp2_with fail;exact bodyPost_ret (v := .tuple #[.int .i64 iv,.int .i64 m,f0]) (by simp[results,Tryz.results18,go_sem,a0,a1,af,al]) rfl ⟨rfl,hm,hi,nv',L',own',(HR'.out.setCell hn' _).setCell hn' _,HL'.out,(HST2.out.setCell (.inr (Nat.le_refl _)) _).setCell (.inr (Nat.le_refl _)) _,fun k hk=>(HOWN.out k hk).imp id (fun e=>by omega)⟩
    have b1:((c:Int)==34)=false:=by simp;omega
    have b2:((c:Int)==39)=true:=by simp;omega
    clear h1 h34;go_enter Tryz.func18,Tryz.ntmps18;go_wp2_with fail;refine (tv_byte _ R s (by rw[((Gr.refl w).alloc _).use.1 _ _ hR.2];exact c2) n n rfl).mono ?_;rintro e w0 ⟨rfl,rfl⟩;rw[HC.out];go_wp2_with fail;refine (tv_text E hE _ R B base s root nv L own HR1.out HG1.out hs n d n rfl hn X HX.out HN.out).mono ?_;rintro e w1 hpost;cases X with
    | non=>exact absurd rfl HN.out
    | bad c p =>
     obtain⟨rfl,hc,F',hst,hrk⟩:=hpost;have HRK:=Lib.hid hrk;clear hrk;obtain⟨a0,a1,af,al⟩:=(FX.new w (.int .i64 0) (.int .i64 0) 31).st hst hnF;have HST2:=Lib.hid (((St.refl (FV own) w).alloc (.cells #[.int .i64 0,.int .i64 0] 31)).trans hst);have HC:=Lib.hid hc;clear hst hc;go_wp2_with fail;exact bodyPost_ret (v := .tuple #[.int .i64 0,.int .i64 0,fv c p]) (by simp[results,Tryz.results18,go_sem,a0,a1,af,al]) rfl ⟨rfl,HC.out,F',(HST2.out.setCell (.inr (Nat.le_refl _)) _).setCell (.inr (Nat.le_refl _)) _,(HRK.out.set (by omega) _).set (by omega) _⟩
    | ok r =>
     obtain⟨iv,m,st'⟩:=r;obtain⟨rfl,hm,hi,nv',L',own',hr',hL',hst,hown⟩:=hpost;obtain⟨a0,a1,af,al⟩:=(FX.new w (.int .i64 0) (.int .i64 0) 31).st hst hnF;have HST2:=Lib.hid (((St.refl (FV own) w).alloc (.cells #[.int .i64 0,.int .i64 0] 31)).trans hst);have HR':=Lib.hid hr';have HOWN:Hid (∀k,own' k≠0→own k≠0∨w.heap.size+1≤k):=fun k hk=>(hown k hk).imp id (fun e=>by simpa using e)
     have HL':=Lib.hid hL';have hn':¬FV own' w.heap.size:=fun hf=>by
      rcases HOWN.out _ hf with e|e
      · exact hnF e
      omega
     clear hst hr' hown hL';go_wp2_with fail;exact bodyPost_ret (v := .tuple #[.int .i64 iv,.int .i64 m,f0]) (by simp[results,Tryz.results18,go_sem,a0,a1,af,al]) rfl ⟨rfl,hm,hi,nv',L',own',(HR'.out.setCell hn' _).setCell hn' _,HL'.out,(HST2.out.setCell (.inr (Nat.le_refl _)) _).setCell (.inr (Nat.le_refl _)) _,fun k hk=>(HOWN.out k hk).imp id (fun e=>by omega)⟩
  rw[if_neg h1]at hX;have b1:((c:Int)==34)=false:=by simp;omega
  have b2:((c:Int)==39)=false:=by simp;omega
  by_cases h91:c=91
  · rw[if_pos h91]at hX;have b3:((c:Int)==91)=true:=by simp;omega
    have HX:=Lib.hid hX;have HB:Hid (Pl.byteAt (bs s) n=91):=by rw[←h91];exact hc
    clear hX hc ga h hg c0 c1 c3 fz hne h1 h91;go_enter Tryz.func18,Tryz.ntmps18;go_wp2_with fail;refine (tv_byte _ R s (by rw[((Gr.refl w).alloc _).use.1 _ _ hR.2];exact c2) n n rfl).mono ?_;rintro e w0 ⟨rfl,rfl⟩;rw[HC.out];go_wp2_with fail;refine (tv_list s R B base root _ ih _ nv L own HR1.out HG1.out hs d n HB.out X HX.out HN.out).mono ?_;rintro e w1 hpost;cases X with
    | non=>exact absurd rfl HN.out
    | bad c p =>
     obtain⟨rfl,hc,F',hst,hrk⟩:=hpost;have HRK:=Lib.hid hrk;clear hrk;obtain⟨a0,a1,af,al⟩:=(FX.new w (.int .i64 0) (.int .i64 0) 31).st hst hnF;have HST2:=Lib.hid (((St.refl (FV own) w).alloc (.cells #[.int .i64 0,.int .i64 0] 31)).trans hst);have HC:=Lib.hid hc;clear hst hc;go_wp2_with fail;exact bodyPost_ret (v := .tuple #[.int .i64 0,.int .i64 0,fv c p]) (by simp[results,Tryz.results18,go_sem,a0,a1,af,al]) rfl ⟨rfl,HC.out,F',(HST2.out.setCell (.inr (Nat.le_refl _)) _).setCell (.inr (Nat.le_refl _)) _,(HRK.out.set (by omega) _).set (by omega) _⟩
    | ok r =>
     obtain⟨iv,m,st'⟩:=r;obtain⟨rfl,hm,hi,nv',L',own',hr',hL',hst,hown⟩:=hpost;obtain⟨a0,a1,af,al⟩:=(FX.new w (.int .i64 0) (.int .i64 0) 31).st hst hnF;have HST2:=Lib.hid (((St.refl (FV own) w).alloc (.cells #[.int .i64 0,.int .i64 0] 31)).trans hst);have HR':=Lib.hid hr';have HOWN:Hid (∀k,own' k≠0→own k≠0∨w.heap.size+1≤k):=fun k hk=>(hown k hk).imp id (fun e=>by simpa using e)
     have HL':=Lib.hid hL';have hn':¬FV own' w.heap.size:=fun hf=>by
      rcases HOWN.out _ hf with e|e
      · exact hnF e
      omega
     clear hst hr' hown hL';go_wp2_with fail;exact bodyPost_ret (v := .tuple #[.int .i64 iv,.int .i64 m,f0]) (by simp[results,Tryz.results18,go_sem,a0,a1,af,al]) rfl ⟨rfl,hm,hi,nv',L',own',(HR'.out.setCell hn' _).setCell hn' _,HL'.out,(HST2.out.setCell (.inr (Nat.le_refl _)) _).setCell (.inr (Nat.le_refl _)) _,fun k hk=>(HOWN.out k hk).imp id (fun e=>by omega)⟩
  rw[if_neg h91]at hX;have b3:((c:Int)==91)=false:=by simp;omega
  by_cases h123:c=123
  · rw[if_pos h123]at hX;have b4:((c:Int)==123)=true:=by simp;omega
    have HX:=Lib.hid hX;have HB:Hid (Pl.byteAt (bs s) n=123):=by rw[←h123];exact hc
    clear hX hc ga h hg c0 c1 c3 fz hne h1 h91 h123;go_enter Tryz.func18,Tryz.ntmps18;go_wp2_with fail;refine (tv_byte _ R s (by rw[((Gr.refl w).alloc _).use.1 _ _ hR.2];exact c2) n n rfl).mono ?_;rintro e w0 ⟨rfl,rfl⟩;rw[HC.out];go_wp2_with fail;refine (tv_table E hE s R B base root _ ih _ nv L own HR1.out HG1.out hs d n HB.out X HX.out HN.out).mono ?_;rintro e w1 hpost;cases X with
    | non=>exact absurd rfl HN.out
    | bad c p =>
     obtain⟨rfl,hc,F',hst,hrk⟩:=hpost;have HRK:=Lib.hid hrk;clear hrk;obtain⟨a0,a1,af,al⟩:=(FX.new w (.int .i64 0) (.int .i64 0) 31).st hst hnF;have HST2:=Lib.hid (((St.refl (FV own) w).alloc (.cells #[.int .i64 0,.int .i64 0] 31)).trans hst);have HC:=Lib.hid hc;clear hst hc;go_wp2_with fail;exact bodyPost_ret (v := .tuple #[.int .i64 0,.int .i64 0,fv c p]) (by simp[results,Tryz.results18,go_sem,a0,a1,af,al]) rfl ⟨rfl,HC.out,F',(HST2.out.setCell (.inr (Nat.le_refl _)) _).setCell (.inr (Nat.le_refl _)) _,(HRK.out.set (by omega) _).set (by omega) _⟩
    | ok r =>
     obtain⟨iv,m,st'⟩:=r;obtain⟨rfl,hm,hi,nv',L',own',hr',hL',hst,hown⟩:=hpost;obtain⟨a0,a1,af,al⟩:=(FX.new w (.int .i64 0) (.int .i64 0) 31).st hst hnF;have HST2:=Lib.hid (((St.refl (FV own) w).alloc (.cells #[.int .i64 0,.int .i64 0] 31)).trans hst);have HR':=Lib.hid hr';have HOWN:Hid (∀k,own' k≠0→own k≠0∨w.heap.size+1≤k):=fun k hk=>(hown k hk).imp id (fun e=>by simpa using e)
     have HL':=Lib.hid hL';have hn':¬FV own' w.heap.size:=fun hf=>by
      rcases HOWN.out _ hf with e|e
      · exact hnF e
      omega
     clear hst hr' hown hL';go_wp2_with fail;exact bodyPost_ret (v := .tuple #[.int .i64 iv,.int .i64 m,f0]) (by simp[results,Tryz.results18,go_sem,a0,a1,af,al]) rfl ⟨rfl,hm,hi,nv',L',own',(HR'.out.setCell hn' _).setCell hn' _,HL'.out,(HST2.out.setCell (.inr (Nat.le_refl _)) _).setCell (.inr (Nat.le_refl _)) _,fun k hk=>(HOWN.out k hk).imp id (fun e=>by omega)⟩
  rw[if_neg h123]at hX;have b4:((c:Int)==123)=false:=by simp;omega
  have HX:=Lib.hid hX;clear hX hc ga h hg c0 c1 c3 fz hne h1 h91 h123;go_enter Tryz.func18,Tryz.ntmps18;go_wp2_with fail;refine (tv_byte _ R s (by rw[((Gr.refl w).alloc _).use.1 _ _ hR.2];exact c2) n n rfl).mono ?_;rintro e w0 ⟨rfl,rfl⟩;rw[HC.out];go_wp2_with fail;refine (tv_scalar E hE2 _ R B base s root nv L own HR1.out hs HG1.out n d n rfl hn X HX.out HN.out).mono ?_;rintro e w1 hpost;cases X with
  | non=>exact absurd rfl HN.out
  | bad c p =>
   obtain⟨rfl,hc,F',hst,hrk⟩:=hpost;have HRK:=Lib.hid hrk;clear hrk;obtain⟨a0,a1,af,al⟩:=(FX.new w (.int .i64 0) (.int .i64 0) 31).st hst hnF;have HST2:=Lib.hid (((St.refl (FV own) w).alloc (.cells #[.int .i64 0,.int .i64 0] 31)).trans hst);have HC:=Lib.hid hc;clear hst hc;go_wp2_with fail;exact bodyPost_ret (v := .tuple #[.int .i64 0,.int .i64 0,fv c p]) (by simp[results,Tryz.results18,go_sem,a0,a1,af,al]) rfl ⟨rfl,HC.out,F',(HST2.out.setCell (.inr (Nat.le_refl _)) _).setCell (.inr (Nat.le_refl _)) _,(HRK.out.set (by omega) _).set (by omega) _⟩
  | ok r =>
   obtain⟨iv,m,st'⟩:=r;obtain⟨rfl,hm,hi,nv',L',own',hr',hL',hst,hown⟩:=hpost;obtain⟨a0,a1,af,al⟩:=(FX.new w (.int .i64 0) (.int .i64 0) 31).st hst hnF;have HST2:=Lib.hid (((St.refl (FV own) w).alloc (.cells #[.int .i64 0,.int .i64 0] 31)).trans hst);have HR':=Lib.hid hr';have HOWN:Hid (∀k,own' k≠0→own k≠0∨w.heap.size+1≤k):=fun k hk=>(hown k hk).imp id (fun e=>by simpa using e)
   have HL':=Lib.hid hL';have hn':¬FV own' w.heap.size:=fun hf=>by
    rcases HOWN.out _ hf with e|e
    · exact hnF e
    omega
   clear hst hr' hown hL';go_wp2_with fail;exact bodyPost_ret (v := .tuple #[.int .i64 iv,.int .i64 m,f0]) (by simp[results,Tryz.results18,go_sem,a0,a1,af,al]) rfl ⟨rfl,hm,hi,nv',L',own',(HR'.out.setCell hn' _).setCell hn' _,HL'.out,(HST2.out.setCell (.inr (Nat.le_refl _)) _).setCell (.inr (Nat.le_refl _)) _,fun k hk=>(HOWN.out k hk).imp id (fun e=>by omega)⟩
end Go.Proofs.YtkplelejagpkmaaGreatDoor
