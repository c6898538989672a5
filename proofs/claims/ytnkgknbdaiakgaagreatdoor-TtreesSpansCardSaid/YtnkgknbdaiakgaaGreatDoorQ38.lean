/- The proof's part 38. -/
import Derived.Test.YtnkgknbdaiakgaaGreatDoorQ28
import Derived.Test.YtnkgknbdaiakgaaGreatDoorQ37
set_option maxHeartbeats 16000000
set_option linter.all false
set_option maxRecDepth 100000
namespace Go.Proofs.YtnkgknbdaiakgaaGreatDoor
open Pl Go.Proofs.Tryz Go.RowKit Go.Shelf Go.Joins
attribute [local go_sem] U22
theorem O61{w:World}{base e size n:Nat}{v:Value}{xs:List Value}(h:V26 w base e size v n xs)(hc:O3 v=v):∃a,v=.slice a n n/\(a=none->n=0)/\(∀q,a=some q->∃g,q=⟨g,0,none⟩/\v.ownBlock=some g):=by
 obtain⟨a,c,rfl,h1,h2⟩:=O1m h;have:c=n:=by simpa [O3]using hc.symm
 subst this;exact⟨a,rfl,λ e=>(h1 e).1,h2⟩
theorem Ofs{r:Vy}(h:Or r=r):O3 r.kv=r.kv/\O3 r.sv=r.sv/\O3 r.uv=r.uv:=by
 have h1:=U2w Vy.kv h;have h2:=U2w Vy.sv h;have h3:=U2w Vy.uv h;exact⟨h1,h2,h3⟩
theorem Oid(w:World)(base g:Nat)(L:List Vy)(hT:V2b w base g L)(h0:0<L.length)(hN:L.length<=5000)(hC:∀r∈L,Or r=r)(nds:Vc)(aL:L.map (·.nd)=nds)(hG:Pl.GP nds)(hW:Pl.WF nds)(hP:Pl.Pt nds):Calls prog 8 #[.agg #[.slice g L.length L.length,(0:Int)]] w λ e w'=>e=.returned (.bool true)/\Gr w w':=by
 have sP:nds.length=L.length:=by rw[<-aL,U1j]
 have Ka:=U10 aL;have NI:=U10 hG;have mY:=U10 hW;have RZ:=U10 hP;have S0:=U10 hC;have d9:=V7y.start (nds:=nds) Ya;rw[sP]at d9;obtain⟨N,Kb⟩:=ExZ (L.length)
 rw[Kb]at h0 hN d9 sP⊢;have oh:=U10 d9;have FT:=U10 sP;have HT:=U10 hT;have HL:=U10 Kb;have e1:((N:Int)==0)=false:=Ye
 have NJ:(N==0)=false:=Ye;have tP:=λ(W:World)=>run_make_row' (P:=prog) 70 4 (.bool false) 1 underlying70 Okx rfl .i64 .i64 N Ya Ya W
 clear hT Kb d9 sP aL hG hW hP hC;go_enter func8,ntmps8;go_wp2_with fail;obtain⟨W0,aI⟩:=ExZ (((w.alloc (.cells #[.slice g N N,(0:Int)] 26)).alloc (.cells (madeCells #[.bool false] N) 4)).alloc (.cells #[(0:Int)] 3))
 have hB:FX w (.slice g N N) (0:Int) W0:=by rw[<-aI];exact (FX.new w _ _ 26).gr (((Gr.refl _).alloc _).alloc _)
 have bj:V4l (w.heap.size+1) N 0 (List.replicate N false) W0:=by
  refine⟨List.length_replicate ..,Yb,?_⟩;have h1:=U1w (w.alloc (.cells #[.slice g N N,(0:Int)] 26)) (.cells (madeCells #[.bool false] N) 4);have h2:(((w.alloc (.cells #[.slice g N N,(0:Int)] 26)).alloc (.cells (madeCells #[.bool false] N) 4)).alloc (.cells #[(0:Int)] 3)).heap[(w.alloc (.cells #[.slice g N N,(0:Int)] 26)).heap.size]?=some (.cells (madeCells #[.bool false] N) 4):=(((Gr.refl _).alloc _).block Yb).trans h1;rw[aI]at h2;simp only[U1s]at h2;rw[h2];have h3:((List.replicate N false).map Value.bool).toArray=madeCells #[.bool false] N:=by
   apply U2q.1;rw[toList_madeCells_one];simp
  rw[h3]
 have zf:V5l (w.heap.size+1) 1 (.slice (w.heap.size+1+1:Nat) 1 1) [0] W0:=by
  refine⟨rfl,rfl,.inr ⟨w.heap.size+1+1,1,#[(0:Int)],rfl,Ya,?_,U12 _,Yd,rfl,rfl⟩⟩;have h1:=U1w ((w.alloc (.cells #[.slice g N N,(0:Int)] 26)).alloc (.cells (madeCells #[.bool false] N) 4)) (.cells #[(0:Int)] 3);rw[aI]at h1;simp only[U1s]at h1;exact h1
 have NK:Gr w W0:=by rw[<-aI];exact (((Gr.refl w).alloc _).alloc _).alloc _
 rw[aI];have HB:=U10 hB;have eu:=U10 bj;have I9:=U10 zf;have ow:=U10 NK;clear aI hB bj zf NK tP;obtain⟨iU,hI⟩:∃i,prog.info? 3=some i/\i.zero=some (.int .i64 0)/\i.size=1/\i.bytes=8:=by
  obtain⟨i,h1,h2⟩:=Option.map_eq_some_iff.1 O4j;simp only[U17]at h2;exact⟨i,h1,h2⟩
 have HI:=U10 hI;clear hI
 go_loopw [4,5] (λ v4 v5 wr=>∃(m n:Nat)(sb:List Bool)(xs:List Nat),v5=.int .i64 m/\V4l (w.heap.size+1) N m sb wr/\V5l (w.heap.size+1) n v4 (xs.map λ x:Nat=>(x:Int)) wr/\V7y nds sb xs/\FX w (.slice g N N) (0:Int) wr/\Gr w wr) (λ _ v5 _=>N-(intOf v5).toNat)
 case atStart=>exact⟨0,1,_,[0],rfl,eu.o,I9.o,oh.o,HB.o,ow.o⟩
 case round =>
  obtain⟨m,n,sb,xs,rfl,hs,ht,zn,hf,hg⟩:=hrel;have UW:=hs.le;cases n with
  |zero =>
   obtain⟨b0,b1,bf,bl⟩:=hf;obtain⟨a,c,rfl⟩:∃a c,u4=.slice a 0 c:=by
    rcases ht.row.2 with⟨h1,_⟩|⟨g',cap,cur,h1,_⟩
    exact⟨_,_,h1⟩
    exact⟨_,_,h1⟩
   have HG:=U10 hg;have mw:xs=[]:=by
    have:=ht.len;rw[U1j]at this;exact U3r.1 this
   subst mw;have hm:m=N:=by
    have h1:=zn.all NI.o RZ.o;rw[hs.cnt,FT.o]at h1;exact h1
   have m1:((m:Int)==(N:Int))=true:=Ye;have UX:(m==N)=true:=Ye;clear hs ht hg zn;go_wp2_with fail;exact U11 (v:=.bool true) (by simp[results,results8,go_sem]) rfl ⟨rfl,HG.o⟩
  |succ k =>
   obtain⟨gt,cap,rfl⟩:∃q c,u4=.slice (some ⟨q,0,none⟩) (k+1) c:=by
    rcases ht.row.2 with⟨_,h1⟩|⟨g',cap,cur,h1,_⟩
    omega
    exact⟨_,_,h1⟩
   obtain⟨z,hz,aQ,jt,C1,aW⟩:=ht.pop;have wD:xs.length=k+1:=by have:=ht.len;rw[U1j]at this;exact this
   obtain⟨j,Kc⟩:∃j,xs[k]?=some j:=⟨_,U1e Ya⟩
   rw[U1m,Kc]at hz;simp only[U25,U1f]at hz;subst hz;have NL:xs=xs.take k++[j]:=by
    have h1:=List.take_append_drop k xs;rw[U1u Ya,U1t Ya]at h1;rw[(U14.1 Kc).2]at h1;exact h1.symm
   have UY:k+1<=N:=by have:=zn.le;rw[wD,FT.o]at this;exact this
   rw[NL]at zn;have e9:j<N:=by have:=(zn.td j Yb).1;rw[FT.o]at this;exact this
   obtain⟨r,hr⟩:∃r,L[j]?=some r:=⟨_,U1e (by have:=HL.o;omega)⟩
   have Dt:nds[j]?=some r.nd:=by rw[<-Ka.o,U1m,hr];rfl
   obtain⟨cr,zo⟩:=zn.pop NI.o mY.o Dt;have eO:k+r.nd.subs.length<=N:=by
    have:=zo.le;rw[FT.o,U1b,U26,wD]at this;omega
   have oy:=U10 zo;rw[<-List.map_take]at jt;have wk:IntKind.i64.wrap (((k+1:Nat):Int)-1)=(k:Int):=(U1k _ ⟨Ya,Ya⟩).trans Ya;have RA:IntKind.i64.wrap ((k:Int)+1-1)=(k:Int):=(U1k _ ⟨Ya,Ya⟩).trans Ya;have i1:(0:Int)<=(k:Int):=Ya;have i2:(k:Int)<((k+1:Nat):Int):=Ya;have i3:(k:Int)<(k:Int)+1:=Ya;have i4:decide ((0:Int)<((k+1:Nat):Int))=true:=decide_eq_true Ya;have i5:(k:Int)<=(cap:Int):=by
    rcases jt.row.2 with⟨h1,_⟩|⟨g',nL,cur,h1,h2,h3,h4,_⟩
    cases h1
    simp only[U3h]at h1;omega
   have HF:=U10 hf;obtain⟨b0,b1,bf,bl⟩:=hf;have HG:=U10 hg;have FU:=U10 hs;have S6:=U10 jt;clear hs ht jt hg zn zo Kc NL Dt;have d1:decide ((j:Int)<0)=false:=Yb;have d2:decide ((N:Int)<=(j:Int))=false:=Ye;have NM:decide (N<=j)=false:=Ye;refine Z230 ?_;intro j1;have j2:(j:Int)<(N:Int):=Ya;have uN:=FU.o.cell cr;have oa:=FU.o.lt;have BZ:=FU.o.free j;have vX:=U10 cr;clear cr
   go_upto_region 13 with fail
   have UZ:IntKind.i64.wrap ((m:Int)+1)=(m:Int)+1:=U1k _ ⟨Ya,Ya⟩;obtain⟨W2,dy⟩:=ExZ (wr.setCell ⟨w+1,j,none⟩ (.bool true))
   have dX:=FU.o.mark vX.o;have zp:∀q,q≠w.heap.size+1->(wr.setCell ⟨w+1,j,none⟩ (.bool true)).heap[q]?=wr.heap[q]?:=λ q hq=>U15 _ _ _ _ hq
   have nT:(wr.setCell ⟨w+1,j,none⟩ (.bool true)).heap.size=wr.heap.size:=by simp[World.setCell]
   have zq:V5l (w.heap.size+1) k (.slice gt k cap) ((xs.take k).map λ x:Nat=>(x:Int)) (wr.setCell ⟨w+1,j,none⟩ (.bool true)):=S6.o.kept λ q hq=>zp q (by
    simp only[Value.ownBlock,U1f]at hq;omega)
   have d5:=HF.o.of_block (zp w.heap.size Ya) (U41 nT.symm);have cb:Gr w (wr.setCell ⟨w+1,j,none⟩ (.bool true)):=HG.o.setCell (p:=⟨w+1,j,none⟩) (U2t _) _;rw[dy]at dX zq d5 cb nT;rw[dy];have wT:=HT.o.gr cb;obtain⟨c0,c1,c2,c3,c4,c5,c6⟩:=wT.cells j r hr;obtain⟨sV,uU,B5⟩:=wT.rows j r hr;obtain⟨NN,NO,NQ⟩:=Ofs (S0.o r (U2p hr));obtain⟨aK,hK,_⟩:=O61 sV NN;obtain⟨aS,mh,_⟩:=O61 uU NO;obtain⟨aU,wU,S7,B6⟩:=O61 B5 NQ;have Hw:g<W2.heap.size:=wT.lt.2;have B7:=U10 B5;obtain⟨nK,qI⟩:=ExZ (r.nd.keys.length)
   obtain⟨nS,wK⟩:=ExZ (r.nd.spots.length)
   obtain⟨nU,FW⟩:=ExZ (r.nd.subs.length)
   rw[hK,qI]at c2;rw[mh,wK]at c3;rw[wU,FW]at c4;rw[FW]at eO wU;have S8:=U10 wU;have Du:=U10 FW;obtain⟨b0,b1,bf,bl⟩:=d5;have qZ:=U10 (show FX w (.slice g N N) (0:Int) W2 from ⟨b0,b1,bf,bl⟩);have jS:=dX.le;have jo:=U10 dX;have ia:=U10 zq;have nH:=U10 cb;clear zp dX zq cb dy wT sV uU B5 hK mh wU qI wK FW hr uN BZ aQ;have t1:decide ((nK:Int)<(nK:Int))=false:=Yb
   have U':decide (nK<nK)=false:=Yb;have t2:decide ((nS:Int)<(nS:Int))=false:=Yb;have S9:decide (nS<nS)=false:=Yb;have t3:decide ((nU:Int)<(nU:Int))=false:=Yb;have Sa:decide (nU<nU)=false:=Yb;clear NN NO NQ
   go_upto_region 16 with fail
   obtain⟨W3,bH⟩:=ExZ (W2.alloc (.cells #[.int .u8 r.nd.kind,V2s r.nd.text,.slice aK nK nK,.slice aS nS nS,.slice aU nU nU,r.nd.sp.1,r.nd.sp.2] 40))
   rw[bH];have sW:Gr W2 W3:=by rw[<-bH];exact (Gr.refl _).alloc _
   have jO:W3.heap[W2.heap.size]?=some (.cells #[.int .u8 r.nd.kind,V2s r.nd.text,.slice aK nK nK,.slice aS nS nS,.slice aU nU nU,r.nd.sp.1,r.nd.sp.2] 40 (0,0)):=by
    rw[<-bH];exact U1w W2 _
   have f4:W3.cell? ⟨wr,4,none⟩=some (.slice aU nU nU):=by rw[<-nT,cell_of_block jO];rfl
   have NR:=jo.o.kept (sW.block jo.o.lt);have Dv:=ia.o.kept λ q hq=>sW.block (by
    simp only[Value.ownBlock,U1f]at hq;subst hq;exact (nT ▸ aW))
   have tI:=qZ.o.gr sW;have dp:=nH.o.trans sW;have iW:=sW.size;have jh:=U10 NR;have wP:=U10 Dv;have uM:=U10 tI;have kX:=U10 dp;have NS:=U10 (B7.o.of_block λ q e=>sW.block (B7.o.lt q e).2);rw[S8.o,Du.o]at NS;clear bH jO sW NR Dv tI dp c0 c1 c2 c3 c4 c5 c6 b0 b1 bf bl;cases aU with
   |none =>
    have jq:=S7 rfl;rw[Du.o]at jq;subst jq;have cw:r.nd.subs=[]:=U3r.1 Du.o;have zr:=oy.o;rw[cw,U3j]at zr;have wV:=U10 zr;clear cw zr;go_wp2_with (at_builtin;refine wpList_append_own_none rfl (.tmp 86) (.tmp 88) 36 rfl (w.heap.size+1+1) 3 iU 1 underlying36 HI.o.1 _ _ _ rfl wP.o.row rfl ?_)
    go_roundw
    case rel=>first|exact⟨m+1,k,_,xs.take k,by go_num,jh.o,wP.o,wV.o,uM.o,kX.o⟩|((repeat apply Exists.intro);exact⟨⟨m+1,k,_,xs.take k,rfl,jh.o,wP.o,wV.o,uM.o,kX.o⟩,rfl⟩)
    case measure=>simp[intOf];omega
   |some q =>
    obtain⟨gu,rfl,FN⟩:=B6 q rfl;have Aj:∀(q:Nat) u,(O6 r.nd.subs)[q]?=some u->W3.cell? ((⟨gu,0,none⟩:Addr).add q)=some u:=λ q u hu=>by
     have:=NS.o.cells (g:=gu) rfl q u hu;by_cases NT:q=0;subst NT;simpa [Addr.add]using this
     simpa [Addr.add,NT]using this
    have Dx:∀u∈O6 r.nd.subs,u.oneCell'=true:=λ u hu=>by
     obtain⟨x,_,rfl⟩:=U3k.1 hu;rfl
    have sP:(O6 r.nd.subs).length=nU*1:=by simp[O6,Du.o]
    have xU:k+nU<=2000000:=Ya;have FO:k+nU<=maxLen:=Yk;have FY:(k+nU)*8<=140737488355328:=Ya;have qx:w.heap.size+1+1<=W3.heap.size:=by have:=jh.o.lt;omega
    have HA:=U10 (And.intro Aj (And.intro Dx (And.intro sP (And.intro FO (And.intro FY qx)))));clear Aj Dx sP FO FY qx;go_wp2_with (at_builtin;refine wpList_append_own_at _ rfl (.tmp 86) (.tmp 88) 36 rfl (w.heap.size+1+1) 3 iU (0:Int) 1 8 underlying36 HI.o.1 HI.o.2.1 HI.o.2.2.1 HI.o.2.2.2 rfl Yd _ _ _ rfl wP.o.row ⟨gu,0,none⟩ nU nU (O6 r.nd.subs) rfl HA.o.2.2.1 HA.o.1 HA.o.2.1 HA.o.2.2.2.1 HA.o.2.2.2.2.1 HA.o.2.2.2.2.2 ?_;intro v' w4 wW jF _ Kd);have NU:=jh.o.kept (jF.block _ jh.o.lt (λ e=>absurd (show w.heap.size+1=gt from U2m e) Ya));have lH:=uM.o.of_block (jF.block _ uM.o.2.2.2 (λ e=>absurd (show w.heap.size=gt from U2m e) Ya)) jF.size;have Dy:V5l (w.heap.size+1) (k+nU) v' ((xs.take k++r.nd.subs).map λ x:Nat=>(x:Int)) w4:=⟨by rw[U1j,U1b,Du.o];have:=wP.o.len;rw[U1j]at this;omega,by
     rw[U2x,U2x,U4o (l:=r.nd.subs)];exact wW⟩
    have Ck:Gr w w4:=by
     refine⟨jF.os.trans kX.o.os,jF.tape.trans kX.o.tape,jF.output.trans kX.o.output,U1l kX.o.size jF.size,λ q hq=>?_⟩;have MQ:q<W3.heap.size:=U13 hq kX.o.size;exact (jF.block q MQ (λ e=>absurd (show q=gt from U2m e) Ya)).trans (kX.o.block hq)
    clear wW jF Kd
    go_roundw
    case rel=>first|exact⟨m+1,k+nU,_,xs.take k++r.nd.subs,by go_num,NU,Dy,oy.o,lH,Ck⟩|((repeat apply Exists.intro);exact⟨⟨m+1,k+nU,_,xs.take k++r.nd.subs,rfl,NU,Dy,oy.o,lH,Ck⟩,rfl⟩)
    case measure=>simp[intOf];omega
