/- The proof's part 41. -/
import Derived.Test.YtnkgknbdaiakgaaGreatDoorP39
set_option maxHeartbeats 16000000
set_option linter.all false
set_option maxRecDepth 100000
namespace Go.Proofs.YtnkgknbdaiakgaaGreatDoor
open Pl Go.Proofs.Tryz Go.RowKit Go.Shelf Go.Joins
attribute [local go_sem] Uy
def V9t(w:World)(R B base:Nat)(s:ByteArray)(own:Nat->Nat)(iv nsv:Value)(X:Va Vb)(e:Ending)(w':World):Prop:=match X with
 |.non=>True
 |.bad c p=>e = .returned (fv c p)/\c≠0/\∃own',St (FV own) (FV own') w w'/\w'.cell? ⟨R,2,none⟩=some (.string s)/\(∀k,own' k≠0->own k≠0\/w.heap.size<=k)
 |.ok g'=>e = .returned f0/\∃nv' L' own' x',x'.iv=iv/\x'.nsv=nsv/\GM w' R B base s nv' L' own' x' g'/\St (FV own) (FV own') w w'/\(∀k,own' k≠0->own k≠0\/w.heap.size<=k)
def Vao(w:World)(R B base:Nat)(s:ByteArray)(own:Nat->Nat)(x:GrX)(Y:Va (Nat×Nat×Vb))(s5 s6:Value)(w':World):Prop :=
 ∃b5 b6:Nat,s5 = .pointer (some ⟨b5,0,none⟩)/\s6 = .pointer (some ⟨b6,0,none⟩)/\b5≠b6/\w.heap.size<=b5/\w.heap.size<=b6/\match Y with
  |.non=>True
  |.bad c p=>(∃n d:Int,FX b5 n d w')/\FX b6 c p w'/\c≠0/\∃own',St (FV own) (FV own') w w'/\w'.cell? ⟨R,2,none⟩=some (.string s)/\(∀k,own' k≠0->own k≠0\/w.heap.size<=k)
  |.ok (n,d,g')=>FX b5 n d w'/\FX b6 (0:Int) (0:Int) w'/\∃nv' L' own',own' b5=0/\own' b6=0/\GM w' R B base s nv' L' own' x g'/\St (FV own) (FV own') w w'/\(∀k,own' k≠0->own k≠0\/w.heap.size<=k)
theorem O40.open{V w2:World}{R B base:Nat}{s:ByteArray}{own:Nat->Nat}{x:GrX}{Y:Va (Nat×Nat×Vb)}{e:Ending}(h:O40 V R B base s own x Y e w2)(hn:Y ≠ .non) :
    ∃(n d c q:Int),e = .returned (.tuple #[.agg #[n,d],.agg #[c,q]])/\∃own',St (FV own) (FV own') V w2:=by
 cases Y with
 |non=>exact absurd rfl hn
 |bad c p =>
  obtain⟨⟨n,d,he⟩,_,own',a9,_⟩:=h;exact⟨n,d,c,p,he,own',a9⟩
 |ok r =>
  obtain⟨n,d,g'⟩:=r;obtain⟨he,_,_,own',_,a9,_⟩:=h;exact⟨n,d,0,0,he,own',a9⟩
theorem O4j{W V w2 w3:World}{R B base:Nat}{s:ByteArray}{own:Nat->Nat}{x:GrX}{Y:Va (Nat×Nat×Vb)}{n d c q:Int}(h:O40 V R B base s own x Y (.returned (.tuple #[.agg #[n,d],.agg #[c,q]])) w2)
    (gV:Gr W V)(g3:Gr w2 w3)(aa:∀k,own k≠0->k<W.heap.size)(hR:R<W.heap.size){b5 b6:Nat}(a8:b5≠b6)(h5:W.heap.size<=b5)(h6:W.heap.size<=b6)(o5:b5<V.heap.size\/w2.heap.size<=b5)(o6:b6<V.heap.size\/w2.heap.size<=b6)
    {x5 y5 x6 y6:Value} (f5:FX b5 x5 y5 w3) (f6:FX b6 x6 y6 w3) :
    Vao W R B base s own x Y (.pointer (some ⟨b5,0,none⟩)) (.pointer (some ⟨b6,0,none⟩)) ((((w3.setCell ⟨b5,0,none⟩ n).setCell ⟨b5,1,none⟩ d).setCell ⟨b6,0,none⟩ c).setCell ⟨b6,1,none⟩ q):=by
 refine⟨b5,b6,rfl,rfl,a8,h5,h6,?_⟩;cases Y with
 |non=>trivial
 |bad c' p' =>
  obtain⟨⟨n',d',he⟩,hc,own',a9,hs,lP⟩:=h;have h1:n=n'/\d=d'/\c=(c':Int)/\q=(p':Int):=by simpa [fv,and_assoc]using he
  obtain⟨rfl,rfl,rfl,rfl⟩:=h1;have hz:=gV.size;obtain⟨a1,a2,a3,a4,a5⟩:=V67 f5 f6 a8 ((gV.st).trans (a9.gr g3)) h5 h6 n d c' p';refine⟨⟨n,d,a1⟩,a2,hc,own',a3,?_,λ k hk=>(lP k hk).imp id (λ h=>by omega)⟩;have aJ:=a9.size;exact (Us (w:=w3) (a:=⟨R,2,none⟩) (a4 R (by omega) (by omega))).trans ((g3.use.1 _ _ (by omega)).trans hs)
 |ok r =>
  obtain⟨n',d',g'⟩:=r;obtain⟨he,nv',L',own',cE,a9,lP⟩:=h;have h1:n=(n':Int)/\d=(d':Int)/\c=0/\q=0:=by simpa [f0,and_assoc]using he
  obtain⟨rfl,rfl,rfl,rfl⟩:=h1;have hz:=gV.size;obtain⟨a1,a2,a3,a4,a5⟩:=V67 f5 f6 a8 ((gV.st).trans (a9.gr g3)) h5 h6 n' d' (0:Int) (0:Int);have hz:∀b,W.heap.size<=b->(b<V.heap.size\/w2.heap.size<=b)->own' b=0:=λ b hb ho=>Ue λ hk=>by
   rcases ho with ho|ho
   rcases lP b hk with h|h
   have:=aa b h;omega
   omega
   have:=(cE.v.lt b hk).2;omega
  have z5:=hz b5 h5 o5;have z6:=hz b6 h6 o6;refine⟨a1,a2,nv',L',own',z5,z6,⟨(cE.v.gr g3).kept (λ k hk=>a4 k (λ e=>hk (by rw[e];exact z5)) (λ e=>hk (by rw[e];exact z6))) a5,cE.nd,cE.sec,cE.dep,cE.many⟩,a3,λ k hk=>(lP k hk).imp id (λ h=>?_)⟩;have:=gV.size;omega
theorem O9c(t:Nat×Nat)(over:Vb->Nat->Nat->Pl.Ov)(oa:∀g d i n d',over g d i = .go n d'->d'<=d+2):∀(ks:List Pl.KW)(an d:Nat)(g:Vb)(n d2:Nat)(g2:Vb),V20 t over ks an d g = .ok (n,d2,g2)->g.nds.length<=20000001->g2.nds.length<=20000001/\d2<=d+2*ks.length
 | [],an,d,g,n,d2,g2,h,hl=>by
  unfold V20 at h;cases h;exact⟨hl,by omega⟩
 | (w,a,b)::ks,an,d,g,n,d2,g2,h,hl=>by
  unfold V20 at h
  split at h;cases h
  cases h
  rename_i n1 d1 g1 hs
  obtain⟨h1,h2⟩:=O7k hs (λ i n' d' e=>oa g d i n' d' e) hl;obtain⟨h3,h4⟩:=O9c t over oa ks n1 d1 g1 n d2 g2 h h1;refine⟨h3,?_⟩;rw[Ub];omega
theorem Odl{g g2:Vb}{an d n d2:Nat}{w:Pl.Bs}{a b:Nat}{t:Nat×Nat}{over:Nat->Pl.Ov}(h:V1n g an d w a b t over = .ok (n,d2,g2))(ht:t.1≠0)(bR:∀i n' d',over i = .go n' d'->Og g.srt n')(hl:g.srt.length=g.nds.length):Og g2.srt n:=by
 unfold V1n at h
 split at h;cases h
 split at h;cases h
 cases h
 rename_i h1
 cases h;exact bR _ _ _ h1
 split at h;cases h
 split at h;cases h;unfold Og;show ((g.srt++[t]).getD g.nds.length (0,0)).1≠0;rw[<-hl,Ui,U14 (U2 _),U34];exact ht
 cases h
structure TbS(R B z t:Nat)(n:Nat)(w:World):Prop where
 g:w.cell? ⟨z,0,none⟩=some (.pointer (some ⟨R,0,none⟩))
 c3:w.cell? ⟨R,3,none⟩=some (.map (some B))
 t:w.cell? ⟨t,0,none⟩=some (.int .i64 n)
structure V9u(z R:Nat)(k1 k2:Value)(w:World):Prop where
 g:w.cell? ⟨z,0,none⟩=some (.pointer (some ⟨R,0,none⟩))
 k:FX (z+1) k1 k2 w
 r:w.cell? ⟨R,1,none⟩=some (.int .i64 0)
 zl:z<w.heap.size
 rl:R<w.heap.size
theorem V9u.gr{z R:Nat}{k1 k2:Value}{w w':World}(h:V9u z R k1 k2 w)(g:Gr w w'):V9u z R k1 k2 w' :=
 ⟨(g.use.1 _ _ h.zl).trans h.g,h.k.gr g,(g.use.1 _ _ h.rl).trans h.r,U4 h.zl g.size,U4 h.rl g.size⟩
theorem Ok0(w:World)(R B base:Nat)(s:ByteArray)(nv:Value)(L:List Vw)(own:Nat->Nat)(x:GrX)(g:Vb)(h:GM w R B base s nv L own x g)
    (hL:L.length<=20000001)(hm:x.many<=30000000)(gk gs ck cs:Nat)(ws:List Pl.KW)(la:Nat)(eU:ws.length=la+1)(eA:la<=30000000)
    (fq:gk<w.heap.size)(bZ:gs<w.heap.size)(dw:own gk=0)(fN:own gs=0) 
    (aF:∀(j:Nat)(t:Pl.Bs)(a b:Nat),ws[j]?=some (t,a,b)->w.cell? ⟨gk,j,none⟩=some (V3a t)/\w.cell? ⟨gs,j*2,none⟩=some (.int .i64 a)/\w.cell? ⟨gs,j*2+1,none⟩=some (.int .i64 b))
    (X:Va Vb)(hX:V2a g ws=X)(a8:X ≠ .non) :
    Calls prog 88 #[.pointer (some ⟨R,0,none⟩),.agg #[.slice (some ⟨gk,0,none⟩) ws.length ck,.slice (some ⟨gs,0,none⟩) ws.length cs]] w (V9t w R B base s own x.iv x.nsv X):=by
 have H:=U0 h;have HX:=U0 hX;have lL:=U0 aF;clear h hX aF;have fI:=U0 eU;clear eU;go_enter func88,ntmps88
 go_upto_region 1 with fail
 obtain⟨W,hW⟩:=ExZ (((w.alloc (.cells #[.pointer (some ⟨R,0,none⟩)] 61)).alloc (.cells #[.slice (some ⟨gk,0,none⟩) ws.length ck,.slice (some ⟨gs,0,none⟩) ws.length cs] 42)).alloc (.cells #[(0:Int),(0:Int)] 29))
 obtain⟨bi,iW,gW,hz⟩:V9u w.heap.size R (.slice (some ⟨gk,0,none⟩) ws.length ck) (.slice (some ⟨gs,0,none⟩) ws.length cs) W/\FX (w.heap.size+1+1) (0:Int) (0:Int) W/\Gr w W/\W.heap.size=w.heap.size+1+1+1:=by
  obtain⟨w1,h1⟩:=ExZ (w.alloc (.cells #[.pointer (some ⟨R,0,none⟩)] 61))
  rw[h1]at hW;have g1:Gr w w1:=by rw[<-h1];exact (Gr.refl _).alloc _
  have z1:w1.heap.size=w.heap.size+1:=by rw[<-h1];simp
  have c1:w1.cell? ⟨w.heap.size,0,none⟩=some (.pointer (some ⟨R,0,none⟩)):=by rw[<-h1];simp
  obtain⟨f1,g2,z2⟩:=bx2 w1 (.slice (some ⟨gk,0,none⟩) ws.length ck) (.slice (some ⟨gs,0,none⟩) ws.length cs) 42;obtain⟨w2,h2⟩:=ExZ (w1.alloc (.cells #[.slice (some ⟨gk,0,none⟩) ws.length ck,.slice (some ⟨gs,0,none⟩) ws.length cs] 42))
  rw[h2]at hW f1 g2 z2;refine Z127 ?_;intro f2 g3 z3;rw[hW]at f2 g3 z3;rw[z1]at f1 z2;rw[z2]at f2 z3;have hR:=H.o.v.R_lt;refine⟨⟨((g2.trans g3).use.1 _ _ (by omega)).trans c1,f1.gr g3,((g1.trans (g2.trans g3)).use.1 _ _ hR.2).trans H.o.v.cells.1.2.1,by omega,by omega⟩,f2,g1.trans (g2.trans g3),z3⟩
 rw[hW];clear hW;have eE:=U0 bi;have rH:=U0 iW;have HG:=U0 gW;clear bi iW gW;obtain⟨Y,hY⟩:=ExZ (V20 (2,0) V2u ws.dropLast 0 1 g)
 have HY:=U0 hY;have bH:Y ≠ .non:=λ e=>by
  have:=HX.o;unfold V2a at this;rw[HY.o,e]at this;exact a8 this.symm
 clear hY;have iT:=U0 (λ V (q:Gr w V)=>O8c V R B base s nv L own x g (H.o.gr q) 0 1 (2,0) hL hm (by omega) gk gs ck cs ws la fI.o eA (U4 fq q.size) (U4 bZ q.size) dw fN
  (λ j t a b hj=>⟨(q.use.1 _ _ fq).trans (lL.o j t a b hj).1,(q.use.1 _ _ bZ).trans (lL.o j t a b hj).2.1,(q.use.1 _ _ bZ).trans (lL.o j t a b hj).2.2⟩) Y HY.o bH)
 refine Z211 ?_;intro aa HZ;clear hz
 go_cut [5,6] (λ s5 s6 W'=>Vao W R B base s own x Y s5 s6 W')
 case first =>
  have hS:=eE.o.gr (Gr.refl W).drew;refine Reg.begin' (W:=λ i=>i != 11&&i != 17&&i != 18) (S:=V9u w.heap.size R (.slice (some ⟨gk,0,none⟩) ws.length ck) (.slice (some ⟨gs,0,none⟩) ws.length cs)) (by kernel_rfl) ?_;refine Reg.tl 0 hS ?_ (hy:=by intro w ab;obtain⟨s1,⟨s2,s3,s4,s5⟩,s6,s7,s8⟩:=ab;go_simp;try with_reducible rfl);refine Reg.tl 1 hS ?_ (hy:=by intro w ab;obtain⟨s1,⟨s2,s3,s4,s5⟩,s6,s7,s8⟩:=ab;go_simp;try with_reducible rfl);refine Reg.ty 2 ?_;refine Z42 ?_;refine Reg.tl 5 hS ?_ (hy:=by intro w ab;obtain⟨s1,⟨s2,s3,s4,s5⟩,s6,s7,s8⟩:=ab;go_simp;try with_reducible rfl);refine Reg.ty 6 ?_;refine Reg.tl 7 hS ?_ (hy:=by intro w ab;obtain⟨s1,⟨s2,s3,s4,s5⟩,s6,s7,s8⟩:=ab;go_simp;try with_reducible rfl);refine Reg.ty 8 ?_;refine Reg.tl 9 hS ?_ (hy:=by intro w ab;obtain⟨s1,⟨s2,s3,s4,s5⟩,s6,s7,s8⟩:=ab;go_simp;try with_reducible rfl);refine Reg.ty 10 ?_;exact J104
 case rest =>
  obtain⟨b5,b6,rfl,rfl,vD,h5,h6,qM⟩:=hcut;have ae:=HX.o;unfold V2a at ae;rw[HY.o]at ae;have oE:=H.o.v.R_lt;cases Y with
  |non=>exact absurd rfl bH
  |bad c p =>
   simp only at ae;obtain⟨⟨n,d,f5⟩,f6,dT,ad,st2,dC,ke⟩:=qM;have hE:=rH.o.st st2 (λ e=>by have:=(H.o.v.lt _ e).2;omega);obtain⟨k0,k1,kf,kl⟩:=id f6;have IU:=U0 hE;have F6:=U0 f6;have dS:=U0 st2;clear hE f5 f6;go_wp2_with fail;refine (O20 c p (by omega) wc).mono ?_;rintro e w5 ⟨rfl,g5⟩;have nK:=F6.o.gr g5;have iz:=IU.o.gr g5;obtain⟨v0,v1,vf,vl⟩:=id nK;obtain⟨r0,r1,rf,rl⟩:=id iz;clear k0 k1 kf kl;go_wp2_with fail;have hF:=iz.set c p;have sF:St (FV own) (FV ad) w _:=((((HG.o.st).trans dS.o).gr g5).setCell (p:=⟨w.heap.size+1+1,0,none⟩) (.inr (by simp only;omega)) c).setCell (p:=⟨w.heap.size+1+1,1,none⟩) (.inr (by simp only;omega)) p;have aE:((w5.setCell ⟨w.heap.size+1+1,0,none⟩ c).setCell ⟨w.heap.size+1+1,1,none⟩ p).cell? ⟨R,2,none⟩=some (.string s):=by
    exact J64
   obtain⟨WF,am⟩:=ExZ (((w5.setCell ⟨w.heap.size+1+1,0,none⟩ c).setCell ⟨w.heap.size+1+1,1,none⟩ p))
   rw[am]at hF sF aE;rw[am];clear am;obtain⟨q0,q1,qf,ql⟩:=hF;rw[<-ae];exact U1 (v:=fv c p) (by simp[results,results88,go_sem,q0,q1,qf,ql]) rfl ⟨rfl,dT,ad,sF,aE,λ k hk=>(ke k hk).imp id (λ h=>by have:=HG.o.size;omega)⟩
  |ok r =>
   obtain⟨n,d,g'⟩:=r;simp only at ae;obtain⟨f5,f6,nv',L',own',z5,z6,cE,a9,lP⟩:=qM;have bU:∀k,w.heap.size<=k->k<W.heap.size->¬FV own k:=λ k h1 h2 e=>by have:=(H.o.v.lt k e).2;omega
   have hz:=HZ.o;have hE:=rH.o.st a9 (bU _ (by omega) (by omega));have vE:=eE.o.k.st a9 (bU _ (by omega) (by omega));have lW:wc.cell? ⟨w.heap.size,0,none⟩=some (.pointer (some ⟨R,0,none⟩)):=((a9.use _ eE.o.zl (bU _ (by omega) (by omega))).1 _).trans eE.o.g;have lE:w.heap.size<wc.heap.size:=U4 eE.o.zl a9.size;have HE:=U0 hE;have CE:=U0 vE;have rL:=U0 lW;refine Z132 ?_;intro F5 F6 bv bG jH k0 k1 kf kl wt a b eP;have aY:ws.getLast?=some (wt,a,b):=by rw[U2j,fI.o];exact eP
   rw[aY]at ae;simp only at ae;have bV:=U0 ae;have Fa:=U0 eP;clear hE vE lW f5 f6 a9 cE lP eP aY ae hz bU;go_wp2_with fail;refine (O1n wc).mono ?_;rintro e w5 ⟨rfl,g5⟩;obtain⟨x0,x1,xf,xl⟩:=CE.o.gr g5;clear k0 k1 kf kl;go_wp2_with fail;have iQ:=U4 fq HG.o.size;have iR:=U4 bZ HG.o.size;have V3f:∀o,w5.cell? ⟨gk,o,none⟩=w.cell? ⟨gk,o,none⟩:=λ o=>(g5.use.1 _ _ (U4 iQ bv.o.size)).trans (((bv.o.use gk iQ (λ e=>e dw)).1 _).trans (HG.o.use.1 _ _ fq))
   have wv:∀o,w5.cell? ⟨gs,o,none⟩=w.cell? ⟨gs,o,none⟩:=λ o=>(g5.use.1 _ _ (U4 iR bv.o.size)).trans (((bv.o.use gs iR (λ e=>e fN)).1 _).trans (HG.o.use.1 _ _ bZ))
   refine Z64 ?_;intro r1 r2 r3 w6 g6 lM cN;obtain⟨e0,e1,ef,el⟩:=F5.o.gr lM;have E6:=(lM.use.1 _ _ lE).trans rL.o;have IV:=U4 lE lM.size;have AC:=U0 lM;clear x0 x1 xf xl V3f wv r1 r2 r3 cN g5 g6 lM;have yv:=O9c _ _ (λ _ _ _ _ _ e=>Oc9 e) _ _ _ _ _ _ _ HY.o (by rw[<-H.o.nd,Ul];exact hL);have ym:L'.length<=20000001:=by have:=yv.1;rw[<-bG.o.nd,Ul]at this;exact this
   have pJ:d<=100000000:=by have:=yv.2;rw[U3j,fI.o]at this;omega
   clear yv;obtain⟨X',gG⟩:=ExZ (V1n g' n d wt a b (1,0) (λ i=>if (Vl g' i).1=2 then .go i (d+1) else .no))
   have CF:=bV.o;rw[gG]at CF;have Cw:X' ≠ .non:=λ e=>by rw[e]at CF;exact a8 CF.symm
   have fR:bs (⟨wt.toArray⟩:ByteArray)=wt:=by simp[bs]
   refine Z139 ?_;intro W7 oL G7 dv g7 z7;have QE:∀o,W7.cell? ⟨b5,o,none⟩=wc.cell? ⟨b5,o,none⟩:=λ o=>G7.o.use.1 _ _ F5.o.2.2.2
   have mp:=Oei 118 (λ _ _=>rfl) (.pointer (some ⟨b5,0,none⟩)) (.pointer (some ⟨w.heap.size,0,none⟩)) (λ i=>if (Vl g' i).1=2 then .go i (d+1) else .no) W7 R B base s nv' L' own' x g' (bG.o.gr G7.o)
    (λ W2 q2 i hi _=>Omn W2 R B base s nv' L' own' x g' (bG.o.gr (G7.o.trans q2)) b5 w.heap.size n d i hi (by omega) (by omega) (F5.o.gr (G7.o.trans q2)) (((G7.o.trans q2).use.1 _ _ lE).trans rL.o) (U4 lE (G7.o.trans q2).size))
    n d ⟨wt.toArray⟩ a b (1,0) ym hm (by omega) X' (by rw[fR];exact gG) Cw
   have jN:=U0 mp;have CG:=U0 CF;have MA:=U0 gG;clear mp CF gG QE g7 e0 e1 ef el E6 IV;obtain⟨e0,e1,ef,el⟩:=F5.o.gr G7.o;have mZ:=(G7.o.use.1 _ _ lE).trans rL.o;obtain⟨y0,y1,yf,yl⟩:=dv;go_wp2_with fail;refine jN.o.mono ?_;clear jN;cases X' with
   |non=>exact absurd rfl Cw
   |bad c q =>
    rintro e w8 ⟨⟨n2,d2,he⟩,dT,ad,aR,dC,ji⟩;subst he;refine Z192 ?_;intro nK DH iz k0 k1 kf kl kR;have CH:w.heap.size<=b6:=by have:=HG.o.size;omega
    have oO:=nK.set c q;have oP:St (FV own) (FV ad) w _:=(((((HG.o.st).trans bv.o).gr G7.o).trans aR).setCell (p:=⟨b6,0,none⟩) (.inr CH) c).setCell (p:=⟨b6,1,none⟩) (.inr CH) q;have uz:∀k,k≠b6->((w8.setCell ⟨b6,0,none⟩ c).setCell ⟨b6,1,none⟩ q).heap[k]?=w8.heap[k]?:=λ k hk=>by rw[U5 _ _ _ _ hk,U5 _ _ _ _ hk]
    have z8:((w8.setCell ⟨b6,0,none⟩ c).setCell ⟨b6,1,none⟩ q).heap.size=w8.heap.size:=by simp[World.setCell]
    clear y0 y1 yf yl e0 e1 ef el mZ;go_wp2_with fail;obtain⟨W8,mq⟩:=ExZ ((w8.setCell ⟨b6,0,none⟩ c).setCell ⟨b6,1,none⟩ q)
    rw[mq]at oO oP uz z8⊢;clear mq k0 k1 kf kl;refine Z164 ?_;intro W9 zk zm zn g9 re z9;refine (O20 c q (by omega) W9).mono ?_;rintro e cx ⟨rfl,fM⟩;have CI:=zk.gr fM;have Ak:=zn.gr fM;have tX:=zm.gr fM;have IM:cx.cell? ⟨R,2,none⟩=some (.string s):=by
     have CJ:R<w8.heap.size:=U4 (bG.o.gr G7.o).v.R_lt.2 aR.size;have IW:R≠b6:=λ e=>by have h1:=bG.o.v.oR;rw[e,z6]at h1;omega
     exact ((g9.trans fM).use.1 _ _ (by omega)).trans ((Us (w:=w8) (a:=⟨R,2,none⟩) (uz R IW)).trans dC)
    obtain⟨v0,v1,vf,vl⟩:=id CI;obtain⟨r0,r1,rf,rl⟩:=id Ak;go_wp2_with fail;have hF:=Ak.set c q;have sF:St (FV own) (FV ad) w _:=(tX.setCell (p:=⟨w.heap.size+1+1,0,none⟩) (.inr (by simp only;omega)) c).setCell (p:=⟨w.heap.size+1+1,1,none⟩) (.inr (by simp only;omega)) q;have aE:((cx.setCell ⟨w.heap.size+1+1,0,none⟩ c).setCell ⟨w.heap.size+1+1,1,none⟩ q).cell? ⟨R,2,none⟩=some (.string s):=by
     refine Z87 ?_;exact IM
    obtain⟨WF,am⟩:=ExZ (((cx.setCell ⟨w.heap.size+1+1,0,none⟩ c).setCell ⟨w.heap.size+1+1,1,none⟩ q))
    rw[am]at hF sF aE;rw[am];clear am;obtain⟨q0,q1,qf,ql⟩:=hF;have ae:=CG.o
    try simp only at ae
    rw[<-ae];refine U1 (v:=fv c q) (by simp[results,results88,go_sem,q0,q1,qf,ql]) rfl ⟨rfl,dT,ad,sF,aE,λ k hk=>?_⟩;refine Z208 ?_;intro kS;rcases ji k hk with h|h
    exact (jH.o k h).imp id (λ h=>by have:=HG.o.size;omega)
    exact .inr (by have:=HG.o.size;omega)
   |ok r2 =>
    obtain⟨n2,d2,g2⟩:=r2;rintro e w8 ⟨he,ib,L2,ad,cq,aR,ji⟩;subst he;refine Z192 ?_;intro nK DH iz k0 k1 kf kl kR;have CH:w.heap.size<=b6:=by have:=HG.o.size;omega
    have oO:=nK.set (0:Int) (0:Int);have oP:St (FV own) (FV ad) w _:=(((((HG.o.st).trans bv.o).gr G7.o).trans aR).setCell (p:=⟨b6,0,none⟩) (.inr CH) (0:Int)).setCell (p:=⟨b6,1,none⟩) (.inr CH) (0:Int);have uz:∀k,k≠b6->((w8.setCell ⟨b6,0,none⟩ (0:Int)).setCell ⟨b6,1,none⟩ (0:Int)).heap[k]?=w8.heap[k]?:=λ k hk=>by rw[U5 _ _ _ _ hk,U5 _ _ _ _ hk]
    have z8:((w8.setCell ⟨b6,0,none⟩ (0:Int)).setCell ⟨b6,1,none⟩ (0:Int)).heap.size=w8.heap.size:=by simp[World.setCell]
    clear y0 y1 yf yl e0 e1 ef el mZ;go_wp2_with fail;obtain⟨W8,mq⟩:=ExZ ((w8.setCell ⟨b6,0,none⟩ (0:Int)).setCell ⟨b6,1,none⟩ (0:Int))
    rw[mq]at oO oP uz z8⊢;clear mq k0 k1 kf kl;refine Z164 ?_;intro W9 zk zm zn g9 re z9;refine (O1n W9).mono ?_;rintro e cx ⟨rfl,fM⟩;have cD:=O7k MA.o (λ i n' d' e=>by
     split at e;cases e;omega
     cases e) (by rw[<-bG.o.nd,Ul];exact ym)
    have CK:Og g2.srt n2:=Odl MA.o (by decide) (λ i n' d' e=>by
     split at e
     rename_i h2
     cases e;unfold Og;have h3:(Vl g' i).1=2:=h2;unfold Vl at h3;rw[h3];decide
     cases e) (by rw[<-bG.o.nd,Ul];exact bG.o.v.sl)
    have o6:ad b6=0:=Ue λ hk=>(ji b6 hk).elim (λ h=>h z6) (λ h=>by have h1:=(F6.o.gr G7.o).2.2.2;omega)
    have qN:=(((cq.v.kept (w':=W8) (λ k hk=>uz k (λ e=>hk (by rw[e];exact o6))) (U39 z8.symm)).gr g9).gr fM)
    have uD:g2.srt.length<=20000001:=by have h1:=cD.1;rw[<-cq.nd,Ul]at h1;rw[cq.v.sl];exact h1
    have nN:=CK.lt;have tY:=re.gr fM;have CI:=zk.gr fM;have Ak:=zn.gr fM;have vC:¬FV own' w.heap.size:=λ e=>(jH.o _ e).elim (λ h=>by have:=(H.o.v.lt _ h).2;omega) (λ h=>by have:=HZ.o;omega)
    have CM:=U4 lE G7.o.size;have kC:w8.cell? ⟨w.heap.size,0,none⟩=some (.pointer (some ⟨R,0,none⟩)):=((aR.use w.heap.size CM vC).1 0).trans ((G7.o.use.1 _ _ lE).trans rL.o);have QF:w.heap.size<w8.heap.size:=U4 CM aR.size;have yw:cx.cell? ⟨w.heap.size,0,none⟩=some (.pointer (some ⟨R,0,none⟩)):=((g9.trans fM).use.1 _ _ (by omega)).trans ((Us (w:=w8) (a:=⟨w.heap.size,0,none⟩) (uz w.heap.size (by have:=HG.o.size;have:=HZ.o;omega))).trans kC);have tX:=(zm.gr fM).drew;obtain⟨⟨c0,c1,c2,c3,c4,c5,c6⟩,c7,c8,fz⟩:=qN.cells;have hS:TbS R B w.heap.size w8.heap.size n2 cx.drew:=⟨yw,c3,tY.1⟩
    obtain⟨D,uN,rv⟩:=qN.map;have jn:cx.drew.ownsMap prog 3 sortR B (g2.srt.length+x.many) D:=Oe uN rfl;obtain⟨w3,xg,sI,dQ⟩:=jn.update (Maps.int_keyed underlying3) underlying65 (by unfold maxLen;omega) (key := .int .i64 (n2:Int)) (kl := .int .i64 (n2:Int)) (U3f underlying3 (by simp[Lit.wf,IntKind.min,IntKind.max,IntKind.signed,IntKind.bits];omega)) (O7i (1,0));have vy:=qN.drew.sectioned n2 CK rv sI dQ n2 d2;have mm:FV own B:=by unfold FV;rw[H.o.v.oB];omega
    have ek:FV own R:=by unfold FV;rw[H.o.v.oR];omega
    have MB:=tX.grown dQ (λ k e=>by cases e;exact .inl mm);have aO:∀k,k<cx.heap.size->k≠B->w3.heap[k]?=cx.heap[k]?:=λ k hk a8=>dQ.block k hk (λ e=>a8 (U1x e))
    have iX:cx.heap.size<=w3.heap.size:=dQ.size;have uI:R≠B:=λ e=>by have h1:=H.o.v.oR;rw[e,H.o.v.oB]at h1;omega
    have Tx:B<w.heap.size:=H.o.v.B_lt.2;have qO:R<cx.heap.size:=qN.R_lt.2;have CN:∀k,k<cx.heap.size->k≠B->∀o,w3.cell? ⟨k,o,none⟩=cx.cell? ⟨k,o,none⟩:=λ k hk a8 o=>Us (w:=cx) (a:=⟨k,o,none⟩) (aO k hk a8)
    have MC:∀k,k<cx.heap.size->k≠B->∀o,w3.frozen? ⟨k,o,none⟩=cx.frozen? ⟨k,o,none⟩:=λ k hk a8 o=>U25 (w:=cx) (a:=⟨k,o,none⟩) (aO k hk a8)
    have j4:=(CN R qO uI 4).trans c4;have j5:=(CN R qO uI 5).trans c5;have j6:=(CN R qO uI 6).trans c6;have jf:∀o,w3.frozen? ⟨R,o,none⟩=false:=λ o=>(MC R qO uI o).trans (fz o)
    have QG:=(CN w.heap.size (by have:=g9.size;have:=fM.size;omega) (by omega) 0).trans yw;have QH:=tY.of_block (aO _ tY.2.2.2 (by omega)) iX;have f63:=CI.of_block (aO _ CI.2.2.2 (by omega)) iX;have MD:=Ak.of_block (aO _ Ak.2.2.2 (by omega)) iX;refine Z239 ?_;intro wm;have IX:=U0 vy;have IY:=U0 MB;have CO:=U0 cq;have IZ:=U0 ji;have QI:=U0 MD;have QJ:R<w3.heap.size:=U4 qO iX;have QK:w.heap.size<w3.heap.size:=by have:=g9.size;have:=fM.size;omega
    rw[show O1z (1,0) = .agg #[.int .u8 1,(0:Int)] from rfl]at xg;clear vy MB cq ji aR tX qN uN rv jn sI dQ CN MC c0 c1 c2 c3 c4 c5 c6 c7 c8 fz yw kC Ak CI tY re zk zn zm oP oO nK iz uz
    go_upto_region 7 with fail
    refine Reg.begin' (W:=λ i=>i != 7) (S:=TbS R B w.heap.size w8.heap.size n2) (by kernel_rfl) ?_;refine Reg.tl 0 hS ?_ (hy:=by intro w ab;obtain⟨s1,s2,s3⟩:=ab;go_simp;try with_reducible rfl);refine Reg.ty 1 ?_;refine Reg.ty 2 ?_;refine Reg.tl 3 hS ?_ (hy:=by intro w ab;obtain⟨s1,s2,s3⟩:=ab;go_simp;try with_reducible rfl);refine Reg.ty 4 ?_;refine Reg.tl 5 hS ?_ (hy:=by intro w ab;obtain⟨s1,s2,s3⟩:=ab;go_simp;try with_reducible rfl);refine Reg.ty 6 ?_;refine Reg.on 7 ?_;refine Z293 ?_;obtain⟨t0,t1,tf,tl⟩:=QH;obtain⟨v0,v1,vf,vl⟩:=f63;obtain⟨r0,r1,rf,rl⟩:=MD;go_wp2_with fail;obtain⟨W4,fm⟩:=ExZ (((w3.setCell ⟨R,4,none⟩ n2).setCell ⟨R,5,none⟩ d2).setCell ⟨R,6,none⟩ (.int .i64 ((x.many:Int)+1)))
    have I':GrV W4 R B base s 0 ib L2 ad (g2.srt.set n2 (1,0)) { x with sec:=n2,dep:=d2,many:=x.many+1 }:=by rw[<-fm];exact IX.o
    have yx:R≠w.heap.size+1+1:=by omega
    have EF:FX (w.heap.size+1+1) (0:Int) (0:Int) W4:=by rw[<-fm];exact ((QI.o.other yx _).other yx _).other yx _
    have yq:St (FV own) (FV ad) w W4:=by rw[<-fm];exact ((IY.o.setCell (p:=⟨R,4,none⟩) (.inl ek) _).setCell (p:=⟨R,5,none⟩) (.inl ek) _).setCell (p:=⟨R,6,none⟩) (.inl ek) _
    rw[fm];clear fm;have hF:=EF.set (0:Int) (0:Int);have sF:St (FV own) (FV ad) w _:=(yq.setCell (p:=⟨w.heap.size+1+1,0,none⟩) (.inr (by simp only;omega)) (0:Int)).setCell (p:=⟨w.heap.size+1+1,1,none⟩) (.inr (by simp only;omega)) (0:Int);have bF:∀k,k≠w.heap.size+1+1->((W4.setCell ⟨w.heap.size+1+1,0,none⟩ (0:Int)).setCell ⟨w.heap.size+1+1,1,none⟩ (0:Int)).heap[k]?=W4.heap[k]?:=λ k hk=>by rw[U5 _ _ _ _ hk,U5 _ _ _ _ hk]
    have zF:((W4.setCell ⟨w.heap.size+1+1,0,none⟩ (0:Int)).setCell ⟨w.heap.size+1+1,1,none⟩ (0:Int)).heap.size=W4.heap.size:=by simp[World.setCell]
    obtain⟨WF,am⟩:=ExZ (((W4.setCell ⟨w.heap.size+1+1,0,none⟩ (0:Int)).setCell ⟨w.heap.size+1+1,1,none⟩ (0:Int)))
    rw[am]at hF sF bF zF;rw[am];clear am;refine Z208 ?_;intro kS;have ME:∀k,ad k≠0->own k≠0\/W.heap.size<=k:=λ k hk=>by
     rcases IZ.o k hk with h|h
     exact jH.o k h
     exact .inr (by omega)
    have Ig:ad (w.heap.size+1+1)=0:=Ue λ hk=>(ME _ hk).elim (λ h=>by have:=(H.o.v.lt _ h).2;omega) (λ h=>by have:=HZ.o;omega)
    have QL:=I'.kept (w':=WF) (λ k hk=>bF k (λ e=>hk (by rw[e];exact Ig))) (U39 zF.symm);have ae:=CG.o
    try simp only at ae
    rw[<-ae];obtain⟨q0,q1,qf,ql⟩:=hF;exact U1 (v:=f0) (by simp[results,results88,go_sem,q0,q1,qf,ql]) rfl ⟨rfl,ib,L2,ad,{ x with sec:=n2,dep:=d2,many:=x.many+1 },rfl,rfl,⟨QL,CO.o.nd,rfl,rfl,by show x.many+1=g2.many+1;rw[CO.o.many]⟩,sF,λ k hk=>(ME k hk).imp id (λ h=>by have:=HG.o.size;omega)⟩
structure V9v(z R:Nat)(k1 k2:Value)(sec dep many:Nat)(w:World):Prop where
 k:FX z k1 k2 w
 c4:w.cell? ⟨R,4,none⟩=some (.int .i64 sec)
 c5:w.cell? ⟨R,5,none⟩=some (.int .i64 dep)
 c6:w.cell? ⟨R,6,none⟩=some (.int .i64 many)
 rl:R<w.heap.size
theorem V9v.gr{z R:Nat}{k1 k2:Value}{sec dep many:Nat}{w w':World}(h:V9v z R k1 k2 sec dep many w)(g:Gr w w'):V9v z R k1 k2 sec dep many w' :=
 ⟨h.k.gr g,(g.use.1 _ _ h.rl).trans h.c4,(g.use.1 _ _ h.rl).trans h.c5,(g.use.1 _ _ h.rl).trans h.c6,U4 h.rl g.size⟩
theorem Omp(w:World)(R B base:Nat)(s:ByteArray)(nv:Value)(L:List Vw)(own:Nat->Nat)(x:GrX)(g:Vb)(h:GM w R B base s nv L own x g)(jS:g.dep<=100000000)
    (hL:L.length<=20000001)(hm:x.many<=30000000)(gk gs ck cs:Nat)(ws:List Pl.KW)(la:Nat)(eU:ws.length=la+1)(eA:la<=30000000)
    (fq:gk<w.heap.size)(bZ:gs<w.heap.size)(dw:own gk=0)(fN:own gs=0) 
    (aF:∀(j:Nat)(t:Pl.Bs)(a b:Nat),ws[j]?=some (t,a,b)->w.cell? ⟨gk,j,none⟩=some (V3a t)/\w.cell? ⟨gs,j*2,none⟩=some (.int .i64 a)/\w.cell? ⟨gs,j*2+1,none⟩=some (.int .i64 b))
    (X:Va (Nat×Nat×Vb))(hX:V2z g ws=X)(a8:X ≠ .non) :
    Calls prog 89 #[.pointer (some ⟨R,0,none⟩),.agg #[.slice (some ⟨gk,0,none⟩) ws.length ck,.slice (some ⟨gs,0,none⟩) ws.length cs]] w (O40 w R B base s own x X):=by
 have H:=U0 h;have HX:=U0 hX;have lL:=U0 aF;clear h hX aF;have fI:=U0 eU;clear eU;go_enter func89,ntmps89
 go_upto_region 1 with fail
 obtain⟨W,hW⟩:=ExZ (((w.alloc (.cells #[.slice (some ⟨gk,0,none⟩) ws.length ck,.slice (some ⟨gs,0,none⟩) ws.length cs] 42)).alloc (.cells #[(0:Int),(0:Int)] 67)).alloc (.cells #[(0:Int),(0:Int)] 29))
 obtain⟨bi,iW,MF,gW,hz⟩:V9v w.heap.size R (.slice (some ⟨gk,0,none⟩) ws.length ck) (.slice (some ⟨gs,0,none⟩) ws.length cs) g.sec g.dep g.many W/\FX (w.heap.size+1) (0:Int) (0:Int) W/\FX (w.heap.size+1+1) (0:Int) (0:Int) W/\Gr w W/\W.heap.size=w.heap.size+1+1+1:=by
  refine Z195 ?_;intro f1 g1 z1 w1 h1;rw[h1]at hW f1 g1 z1;obtain⟨f2,g2,z2⟩:=bx2 w1 (0:Int) (0:Int) 67;obtain⟨w2,h2⟩:=ExZ (w1.alloc (.cells #[(0:Int),(0:Int)] 67))
  rw[h2]at hW f2 g2 z2;refine Z127 ?_;intro f3 g3 z3;rw[hW]at f3 g3 z3;rw[z1]at f2 z2;rw[z2]at f3 z3;have hR:=H.o.v.R_lt;obtain⟨⟨c0,c1,c2,c3,c4,c5,c6⟩,_⟩:=H.o.v.cells;have gg:=g1.trans (g2.trans g3);rw[H.o.sec]at c4;rw[H.o.dep]at c5;rw[H.o.many]at c6;exact⟨⟨f1.gr (g2.trans g3),(gg.use.1 _ _ hR.2).trans c4,(gg.use.1 _ _ hR.2).trans c5,(gg.use.1 _ _ hR.2).trans c6,by omega⟩,f2.gr g3,f3,gg,z3⟩
 rw[hW];clear hW;have eE:=U0 bi;have rH:=U0 iW;have vh:=U0 MF;have HG:=U0 gW;clear bi iW MF gW;obtain⟨Y,hY⟩:=ExZ (V20 (3,g.many) V1j ws.dropLast g.sec g.dep g)
 have HY:=U0 hY;have bH:Y ≠ .non:=λ e=>by
  have:=HX.o;unfold V2z at this;rw[HY.o,e]at this;exact a8 this.symm
 clear hY;have iT:=U0 (λ V (q:Gr w V)=>Oca V R B base s nv L own x g (H.o.gr q) g.sec g.dep (3,g.many) hL hm jS gk gs ck cs ws la fI.o eA (U4 fq q.size) (U4 bZ q.size) dw fN
  (λ j t a b hj=>⟨(q.use.1 _ _ fq).trans (lL.o j t a b hj).1,(q.use.1 _ _ bZ).trans (lL.o j t a b hj).2.1,(q.use.1 _ _ bZ).trans (lL.o j t a b hj).2.2⟩) Y HY.o bH)
 refine Z211 ?_;intro aa HZ;clear hz
 go_cut [6,7] (λ s5 s6 W'=>Vao W R B base s own x Y s5 s6 W')
 case first =>
  have hS:=eE.o.gr (Gr.refl W).drew;refine Reg.begin' (W:=λ i=>i != 13&&i != 19&&i != 20) (S:=V9v w.heap.size R (.slice (some ⟨gk,0,none⟩) ws.length ck) (.slice (some ⟨gs,0,none⟩) ws.length cs) g.sec g.dep g.many) (by kernel_rfl) ?_;refine Z32 ?_;refine Reg.ty 3 ?_;refine Reg.tl 4 hS ?_ (hy:=by intro w ab;obtain⟨⟨s2,s3,s4,s5⟩,s6,s7,s8,s9⟩:=ab;go_simp;try with_reducible rfl);refine Reg.tl 5 hS ?_ (hy:=by intro w ab;obtain⟨⟨s2,s3,s4,s5⟩,s6,s7,s8,s9⟩:=ab;go_simp;try with_reducible rfl);refine Reg.ty 6 ?_;refine Reg.ty 7 ?_;refine Reg.ty 8 ?_;refine Reg.tl 9 hS ?_ (hy:=by intro w ab;obtain⟨⟨s2,s3,s4,s5⟩,s6,s7,s8,s9⟩:=ab;go_simp;try with_reducible rfl);refine Z61 ?_;refine Reg.ty 12 ?_;refine Reg.all (rs:=[13,17,18]) (by kernel_rfl) (by simp) ?_;refine Z14 ?_;intro j hj;rcases hj with rfl|rfl|rfl
  skip;refine Reg.one (i:=13) rfl (by rfl) ?_;refine Z290 ?_;rintro e w2 ap;obtain⟨n,d,c,q,rfl,ad,a9⟩:=ap.open bH;dsimp only;refine Z74 ?_;refine Reg.all (rs:=[17,18]) (by kernel_rfl) (by simp) ?_;refine Z14 ?_;intro j hj;rcases hj with rfl|rfl
  skip;refine Reg.one (i:=17) rfl (by rfl) ?_;refine Z7 ?_;refine Reg.on 18 ?_;refine Z7 ?_;refine Z39 ?_;exact J185
  skip;refine Reg.one (i:=18) rfl (by rfl) ?_;refine Z7 ?_;refine Reg.on 17 ?_;refine Z7 ?_;refine Z38 ?_;exact J185
  skip;refine Reg.one (i:=17) rfl (by rfl) ?_;refine Z73 ?_;refine Reg.all (rs:=[13,18]) (by kernel_rfl) (by simp) ?_;refine Z14 ?_;intro j hj;rcases hj with rfl|rfl
  skip;refine Reg.one (i:=13) rfl (by rfl) ?_;refine Z146 ?_;rintro e w2 ap;obtain⟨n,d,c,q,rfl,ad,a9⟩:=ap.open bH;dsimp only;refine Z74 ?_;refine Reg.on 18 ?_;refine Z7 ?_;refine Z31 ?_;intro hv fa ga za ox r9 W3 r0 r1 rf rl k0 k1 kf kl f5 f6 gb;refine Z315 ?_;exact J68
  skip;refine Reg.one (i:=18) rfl (by rfl) ?_;refine Z54 ?_;refine Reg.on 13 ?_;refine Z94 ?_;rintro e w2 ap;obtain⟨n,d,c,q,rfl,ad,a9⟩:=ap.open bH;dsimp only;refine Z74 ?_;refine Z29 ?_;intro hv fa ga za gb f5 f6 r0 r1 rf rl k0 k1 kf kl fb zb;refine Z315 ?_;exact J67
  skip;refine Reg.one (i:=18) rfl (by rfl) ?_;refine Z72 ?_;refine Reg.all (rs:=[13,17]) (by kernel_rfl) (by simp) ?_;refine Z14 ?_;intro j hj;rcases hj with rfl|rfl
  skip;refine Reg.one (i:=13) rfl (by rfl) ?_;refine Z145 ?_;rintro e w2 ap;obtain⟨n,d,c,q,rfl,ad,a9⟩:=ap.open bH;dsimp only;refine Z74 ?_;refine Reg.on 17 ?_;refine Z7 ?_;refine Z30 ?_;intro hv fa ga za ox r9 W3 r0 r1 rf rl k0 k1 kf kl f5 f6 gb;refine Z315 ?_;exact J66
  skip;refine Reg.one (i:=17) rfl (by rfl) ?_;refine Z53 ?_;refine Reg.on 13 ?_;refine Z93 ?_;rintro e w2 ap;obtain⟨n,d,c,q,rfl,ad,a9⟩:=ap.open bH;dsimp only;refine Z74 ?_;refine Z28 ?_;intro hv fa ga za gb f6 f5 r0 r1 rf rl k0 k1 kf kl fb zb;refine Z315 ?_;exact J65
 case rest =>
  obtain⟨b5,b6,rfl,rfl,vD,h5,h6,qM⟩:=hcut;have ae:=HX.o;unfold V2z at ae;rw[HY.o]at ae;have oE:=H.o.v.R_lt;have hz:=HZ.o;cases Y with
  |non=>exact absurd rfl bH
  |bad c p =>
   simp only at ae;obtain⟨⟨n,d,f5⟩,f6,dT,ad,st2,dC,ke⟩:=qM;have bN:∀k,w.heap.size<=k->¬FV own k:=λ k h1 e=>by have:=(H.o.v.lt k e).2;omega
   have CP:=rH.o.st st2 (bN _ (by omega));have mm:=vh.o.st st2 (bN _ (by omega));obtain⟨k0,k1,kf,kl⟩:=id f6;have QM:=U0 CP;have Iu:=U0 mm;have F5:=U0 f5;have F6:=U0 f6;have dS:=U0 st2;clear CP mm f5 f6;go_wp2_with fail;refine (O20 c p (by omega) wc).mono ?_;rintro e w5 ⟨rfl,g5⟩;have wg:=F5.o.gr g5;have ui:=F6.o.gr g5;have hA:=QM.o.gr g5;have hB:=Iu.o.gr g5;have rM:=((HG.o.st).trans dS.o).gr g5;clear k0 k1 kf kl
   go_upto_region 3 with fail
   have hS:FX b5 n d w5.drew/\FX b6 c p w5.drew:=⟨wg.gr (Gr.refl w5).drew,ui.gr (Gr.refl w5).drew⟩
   obtain⟨r0,r1,rf,rl⟩:=id hA;obtain⟨rn,ro,rp,rq⟩:=id hB;refine Reg.begin' (W:=λ i=>i != 3) (S:=λ W=>FX b5 n d W/\FX b6 c p W) (by kernel_rfl) ?_;refine Z80 ?_;refine Z37 ?_;refine Z189 ?_;refine Z2 ?_;refine Z12 ?_;go_wp2_with fail;have cC:=V67 hA hB (by omega) rM (by omega) (by omega) n d c p;obtain⟨WF,am⟩:=ExZ (((((w5.setCell ⟨w.heap.size+1,0,none⟩ n).setCell ⟨w.heap.size+1,1,none⟩ d).setCell ⟨w.heap.size+1+1,0,none⟩ c).setCell ⟨w.heap.size+1+1,1,none⟩ p))
   rw[am]at cC;rw[am];obtain⟨DL,gH,sF,bF,zF⟩:=cC;clear am;refine Z256 ?_;intro q0 q1 qf ql y0 y1 yf yl;rw[<-ae];refine U1 (v := .tuple #[.agg #[n,d],fv c p]) (by simp[results,results89,go_sem,q0,q1,qf,ql,y0,y1,yf,yl]) rfl ⟨⟨n,d,rfl⟩,dT,ad,sF.drew,?_,λ k hk=>(ke k hk).imp id (λ h=>by have:=HG.o.size;omega)⟩;exact (Us (w:=w5) (a:=⟨R,2,none⟩) (bF R (by omega) (by omega))).trans ((g5.use.1 _ _ (U4 eE.o.rl dS.o.size)).trans dC)
  |ok r =>
   obtain⟨n,d,g'⟩:=r;simp only at ae;obtain⟨f5,f6,nv',L',own',z5,z6,cE,a9,lP⟩:=qM;have bU:∀k,w.heap.size<=k->k<W.heap.size->¬FV own k:=λ k h1 h2 e=>by have:=(H.o.v.lt k e).2;omega
   have hE:=rH.o.st a9 (bU _ (by omega) (by omega));have iz:=vh.o.st a9 (bU _ (by omega) (by omega));have vE:=eE.o.k.st a9 (bU _ (by omega) (by omega));have HE:=U0 hE;have QN:=U0 iz;have CE:=U0 vE;refine Z132 ?_;intro F5 F6 bv bG jH k0 k1 kf kl wt a b eP;have aY:ws.getLast?=some (wt,a,b):=by rw[U2j,fI.o];exact eP
   rw[aY]at ae;simp only at ae;have bV:=U0 ae;have Fa:=U0 eP;clear hE iz vE f5 f6 a9 cE lP eP aY ae bU;go_wp2_with fail;refine (O1n wc).mono ?_;rintro e w5 ⟨rfl,g5⟩;obtain⟨x0,x1,xf,xl⟩:=CE.o.gr g5;clear k0 k1 kf kl;go_wp2_with fail;have iQ:=U4 fq HG.o.size;have iR:=U4 bZ HG.o.size;have V3f:∀o,w5.cell? ⟨gk,o,none⟩=w.cell? ⟨gk,o,none⟩:=λ o=>(g5.use.1 _ _ (U4 iQ bv.o.size)).trans (((bv.o.use gk iQ (λ e=>e dw)).1 _).trans (HG.o.use.1 _ _ fq))
   have wv:∀o,w5.cell? ⟨gs,o,none⟩=w.cell? ⟨gs,o,none⟩:=λ o=>(g5.use.1 _ _ (U4 iR bv.o.size)).trans (((bv.o.use gs iR (λ e=>e fN)).1 _).trans (HG.o.use.1 _ _ bZ))
   refine Z64 ?_;intro r1 r2 r3 w6 g6 lM cN;have AC:=U0 lM;clear x0 x1 xf xl V3f wv r1 r2 r3 cN g5 g6 lM;obtain⟨XS,ny⟩:=ExZ (V12 g'.nds n wt)
   have ae:=bV.o;rw[ny]at ae;have kb:XS ≠ .non:=λ e=>by rw[e]at ae;exact a8 ae.symm
   refine Z139 ?_;intro W7 oL G7 dv g7 z7;have gd:=U0 (bG.o.gr G7.o);have lB:=U0 (Oc3 W7 R B base s 0 nv' L' own' g'.srt x gd.o.v n ⟨wt.toArray⟩ XS (by rw[bG.o.nd,show bs (⟨wt.toArray⟩:ByteArray)=wt by simp[bs]];exact ny) kb);have EG:=U0 dv;obtain⟨e0,e1,ef,el⟩:=F5.o.gr G7.o;obtain⟨y0,y1,yf,yl⟩:=dv;clear ny;go_wp2_with fail;refine lB.o.mono ?_;refine Z48 ?_;clear lB e0 e1 ef el y0 y1 yf yl;have wg:=F5.o.gr G7.o;have ui:=F6.o.gr G7.o;have hA:=HE.o.gr G7.o;have hB:=QN.o.gr G7.o;have MG:=EG.o;have rM:=(((HG.o.st).trans bv.o).gr G7.o)
   have Mw:own' (w.heap.size+1)=0:=Ue λ h=>(jH.o _ h).elim (λ h=>by have:=(H.o.v.lt _ h).2;omega) (λ h=>by omega)
   have A':own' (w.heap.size+1+1)=0:=Ue λ h=>(jH.o _ h).elim (λ h=>by have:=(H.o.v.lt _ h).2;omega) (λ h=>by omega)
   have IN:=HG.o.size;refine Z208 ?_;intro kS;have QO:w6.heap.size≠w.heap.size+1/\w6.heap.size≠w.heap.size+1+1:=by have:=bv.o.size;have:=AC.o.size;omega
   cases XS with
   |non=>exact absurd rfl kb
   |yes i =>
    have s0:((i:Int) != -1)=true:=by simp
    simp only at ae;dsimp only [O2p]
    go_upto_region 6 with fail
    have hS:FX b5 n d W7.drew/\FX w6.heap.size a b W7.drew:=⟨wg.gr (Gr.refl W7).drew,MG.gr (Gr.refl W7).drew⟩
    obtain⟨r0,r1,rf,rl⟩:=id hA;obtain⟨rn,ro,rp,rq⟩:=id hB;refine Reg.begin' (W:=λ i=>i != 5) (S:=λ W=>FX b5 n d W/\FX w6.heap.size a b W) (by kernel_rfl) ?_;refine Z321 ?_;refine Reg.ty 1 ?_;refine Reg.tl 2 hS ?_ (hy:=by intro w ab;obtain⟨⟨s0,s1,sf,sl⟩,⟨s2,s3,KM,KN⟩⟩:=ab;go_simp;try with_reducible rfl);refine Reg.ty 3 ?_;have J0:=MG;clear ui;have ui:=J0;refine Reg.on 4 ?_;refine Z37 ?_;refine Reg.on 5 ?_;refine Z293 ?_;go_wp2_with fail;have cC:=V67 hA hB (by omega) rM (by omega) (by omega) n d (5:Int) a;obtain⟨WF,am⟩:=ExZ (((((W7.setCell ⟨w.heap.size+1,0,none⟩ n).setCell ⟨w.heap.size+1,1,none⟩ d).setCell ⟨w.heap.size+1+1,0,none⟩ (5:Int)).setCell ⟨w.heap.size+1+1,1,none⟩ a))
    rw[am]at cC;rw[am];obtain⟨DL,gH,sF,bF,zF⟩:=cC;clear am;refine Z256 ?_;intro q0 q1 qf ql y0 y1 yf yl;rw[<-ae];refine U1 (v := .tuple #[.agg #[n,d],fv 5 a]) (by simp[results,results89,go_sem,q0,q1,qf,ql,y0,y1,yf,yl]) rfl ⟨⟨n,d,rfl⟩,by decide,own',sF.drew,?_,λ k hk=>(jH.o k hk).imp id (λ h=>by omega)⟩;exact (Us (w:=W7) (a:=⟨R,2,none⟩) (bF R (by omega) (by omega))).trans gd.o.v.cells.1.2.2.1
   |no =>
    have s0:((-1:Int) != -1)=false:=by simp
    simp only at ae;dsimp only [O2p]
    go_upto_region 7 with fail
    have hS:FX b5 n d W7.drew/\FX b6 (0:Int) (0:Int) W7.drew:=⟨wg.gr (Gr.refl W7).drew,ui.gr (Gr.refl W7).drew⟩
    obtain⟨r0,r1,rf,rl⟩:=id hA;obtain⟨rn,ro,rp,rq⟩:=id hB;refine Reg.begin' (W:=λ i=>i != 3) (S:=λ W=>FX b5 n d W/\FX b6 (0:Int) (0:Int) W) (by kernel_rfl) ?_;refine Z80 ?_;refine Z37 ?_;refine Z189 ?_;refine Z2 ?_;refine Z12 ?_;go_wp2_with fail;have cC:=V67 hA hB (by omega) rM (by omega) (by omega) n d (0:Int) (0:Int);obtain⟨WF,am⟩:=ExZ (((((W7.setCell ⟨w.heap.size+1,0,none⟩ n).setCell ⟨w.heap.size+1,1,none⟩ d).setCell ⟨w.heap.size+1+1,0,none⟩ (0:Int)).setCell ⟨w.heap.size+1+1,1,none⟩ (0:Int)))
    rw[am]at cC;rw[am];obtain⟨DL,gH,sF,bF,zF⟩:=cC;clear am;refine Z256 ?_;intro q0 q1 qf ql y0 y1 yf yl;rw[<-ae];have vy:=(gd.o.v.kept (w':=WF) (λ k hk=>bF k (λ e=>hk (by rw[e];exact Mw)) (λ e=>hk (by rw[e];exact A'))) zF).drew;exact U1 (v := .tuple #[.agg #[n,d],f0]) (by simp[results,results89,go_sem,q0,q1,qf,ql,y0,y1,yf,yl]) rfl ⟨rfl,nv',L',own',⟨vy,bG.o.nd,bG.o.sec,bG.o.dep,bG.o.many⟩,sF.drew,λ k hk=>(jH.o k hk).imp id (λ h=>by omega)⟩
