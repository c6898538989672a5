/- The proof's part 35. -/
import Derived.Test.YtnkgknbdaiakgaaGreatDoorY34
set_option maxHeartbeats 16000000
set_option linter.all false
set_option maxRecDepth 100000
namespace Go.Proofs.YtnkgknbdaiakgaaGreatDoor
section
open Pl Go.Proofs.Tryz Go.RowKit Go.Shelf Go.Joins
attribute [local go_sem] U28
variable {Tb:Nat->UInt8×UInt8}
theorem Onu(E:V19)(hE:O2r Tb E)(w:World)(R B base:Nat)(s:ByteArray)(root:Int)(V:V2c)(hV:O6e Tb s R B base root V)(nv:Value)(L:List NdR)(own:Nat->Nat)(h:RdV w R B base s root nv L own)(hg:GW Tb base w)(hs:s.size<=20000000)(table d n:Nat)(hn:n<=s.size)(hd:d<=256)(ht:table<=30000000)(X:Va (Nat×Ve))(hX:V1g E V (bs s) table n d (L.map (·.nd))=X)(a8:X≠.non):Calls prog 76 #[.pointer (some ⟨R,0,none⟩),table,n,d] w (O7s s R B base root own w X):=by
 cases hk:V23 E (bs s) n with
 |non=>unfold V1g at hX;rw[hk]at hX;exact absurd hX.symm a8
 |bad c p =>
  unfold V1g at hX;rw[hk]at hX;subst hX;exact Oek E hE w R B base s root nv L own h hg hs table d n hn c p hk
 |ok r =>
  obtain⟨ws,m⟩:=r;exact Ogh E hE w R B base s root V hV nv L own h hg hs table d n hn hd ht ws m hk X hX a8
theorem Ole:∀(f:Nat)(l:Pl.Bs)(c p:Nat),V55 f l=.bad c p->c=3:=by
 intro f
 induction f with
 |zero=>intro l c p h;cases h
 |succ f ih =>
  intro l c p h;unfold V55 at h;cases hs:V1y l with
  |bad c2 p2 =>
   rw[hs]at h;cases h;unfold V1y at hs;dsimp only at hs
   split at hs <;> cases hs
   rfl
  |ok n =>
   rw[hs]at h;cases n with
   |zero=>cases h
   |succ n =>
    simp only at h;cases hf:V55 f (l.drop (n+1)) with
    |bad c2 p2=>rw[hf]at h;cases h;exact ih _ _ _ hf
    |ok k=>rw[hf]at h;cases h
theorem Ogi(l:Pl.Bs)(n c p:Nat)(h:Vy l n=.bad c p):c=3:=by
 unfold Vy Pl.gap at h;cases hf:V55 ((l.drop n).length+1) (l.drop n) with
 |bad c2 p2=>rw[hf]at h;cases h;exact Ole _ _ _ _ hf
 |ok k=>rw[hf]at h;cases h
theorem O9r(s:ByteArray)(i:Int)(n0:Nat)(hi:i=n0)(iJ:n0<=s.size)(hs:s.size<=20000000)(w:World):Calls prog 75 #[.string s,i] w λ e w'=>∃m c p:Nat,e=.returned (.tuple #[m,fv c p])/\m<=s.size/\((Vy (bs s) n0=.ok m/\c=0/\p=0)\/(Vy (bs s) n0=.bad c p/\c≠0))/\Gr w w':=by
 refine (Opa s i n0 hi iJ Ya w).mono ?_;rintro e w' ⟨h,g⟩;cases hg:Vy (bs s) n0 with
 |ok m =>
  rw[hg]at h;obtain⟨rfl,hm⟩:=h;exact⟨m,0,0,rfl,hm,.inl ⟨rfl,rfl,rfl⟩,g⟩
 |bad c p =>
  rw[hg]at h;subst h;exact⟨0,c,p,rfl,Ya,.inr ⟨rfl,by have:=Ogi _ _ _ _ hg;omega⟩,g⟩
theorem Ob8{w:World}{base n:Nat}{v:Value}{xs:List Value}(h:w.ownsRow base 3 1 v n xs)(W:World):Calls prog 26 #[v] W λ e w'=>e=.returned (O7 v)/\W=w':=by
 rcases O1b h with⟨rfl,_⟩|⟨g,cap,rfl,h1,h2⟩
 exact O8u W
 exact Oam g n cap h1 h2 W
theorem Ob9{w:World}{base n:Nat}{a:Option Addr}{k c:Nat}{xs:List Value}(h:w.ownsRow base 3 1 (.slice a k c) n xs)(W:World):Calls prog 26 #[.slice a k c] W λ e w'=>e=.returned (.slice a k k)/\W=w':=Ob8 h W
def O8x(subs:List Nat)(a b:Nat)(uv:Value):NdR:=⟨V5k subs a b,Vp,Vp,uv⟩
theorem Oan(W:World)(R B base:Nat)(s:ByteArray)(root:Int)(nv:Value)(L:List NdR)(own:Nat->Nat)(h:RdV W R B base s root nv L own)(hr:Pl.room (L.map (·.nd))=true)(uv:Value)(subs:List Nat)(ho:W.ownsRow base 3 1 uv subs.length (O8 subs))(h0:∀b,uv.ownBlock=some b->own b=0)(a b:Nat)(b':Int)(hb:b'=b):Calls prog 74 #[.pointer (some ⟨R,0,none⟩),.agg #[.int .u8 7,.string ⟨#[]⟩,Vp,Vp,O7 uv,a,b']] W λ e w' => e=.returned L.length/\∃nv' own',RdV w' R B base s root nv' (L++[O8x subs a b (O7 uv)]) own'/\St (λ k=>FV own k\/uv.ownBlock=some k) (FV own') W w'/\(∀k,own' k≠0->own k≠0\/uv.ownBlock=some k\/W.heap.size<=k):=by
 have hl:L.length<=30000000:=by simp[Pl.room]at hr;omega
 subst hb;have h1:(O7 uv).oneCell'=true:=by
  rcases O1b ho with⟨rfl,_⟩|⟨g,cap,rfl,_,_⟩ <;> rfl
 have h2:(O7 uv).ownBlock=uv.ownBlock:=O31 uv;refine (O9n W R B base s root nv L own h hl (O8x subs a b (O7 uv)) h1 rfl rfl rfl rfl rfl (O2l ho) (λ e=>by cases e) (λ k e=>⟨h0 k (by rw[<-h2];exact e),(ho.lt k (by rw[<-h2];exact e)).2⟩) 7 ⟨#[]⟩ Vp Vp (O7 uv) a b (by simp[ndV,O8x,V5k])).mono ?_;rintro e w' ⟨rfl,nv',own',h3,h4,h5⟩;have e2:(O8x subs a b (O7 uv)).uv.ownBlock=uv.ownBlock:=h2;rw[e2]at h4 h5;exact⟨rfl,nv',own',h3,h4,h5⟩
def Pl.listEnd(n:Nat)(Y:Va (List Nat×Nat×Ve)):Va (Nat×Nat×Ve):=match Y with
 |.non => .non
 |.bad c p => .bad c p
 |.ok (subs,e,st1)=>if Pl.room st1 then .ok (st1.length,e+1,st1++[V5k subs n (e+1)]) else .non
def Opy(s:ByteArray)(R B base:Nat)(root:Int)(V:V2c)(d:Nat)(own:Nat->Nat)(w:World)(z0 bF:Nat)(Y:Va (List Nat×Nat×Ve))(k:Nat)(v7 v9:Value)(wr:World):Prop :=
 (∃(n:Nat)(subs:List Nat)(nv':Value)(L':List NdR)(own':Nat->Nat)(ua:Option Addr)(uc:Nat),v7=.int .i64 n/\v9=.slice ua subs.length uc/\n<=s.size/\RdV wr R B base s root nv' L' own'/\V1h V (bs s) d k n subs (L'.map (·.nd))=Y/\FX bF (0:Int) (0:Int) wr/\GW Tb base wr /\
  St (FV own) (FV own') w wr/\(∀k,own' k≠0->own k≠0\/z0<=k)/\z0<=wr.heap.size/\wr.ownsRow base 3 1 (.slice ua subs.length uc) subs.length (O8 subs)/\(∀b,(Value.slice ua subs.length uc).ownBlock=some b->own' b=0/\z0<=b)) \/
 (∃(m c p:Nat)(F':Nat->Prop),v7=.int .i64 m/\c≠0/\Y=.bad c p/\FX bF c p wr/\St (FV own) F' w wr/\RK R wr)
theorem Onv(s:ByteArray)(R B base:Nat)(root:Int)(V:V2c)(hV:O6e Tb s R B base root V)(w:World)(nv:Value)(L:List NdR)(own:Nat->Nat)(h:RdV w R B base s root nv L own)(hg:GW Tb base w)(hs:s.size<=20000000)(d n:Nat)(hb:V9 (bs s) n=91)(X:Va (Nat×Nat×Ve))(hX:V2n V (bs s) d n (L.map (·.nd))=X)(a8:X≠.non):Calls prog 45 #[.pointer (some ⟨R,0,none⟩),n,d] w (O4v s R B base root own w X):=by
 have hn:n<s.size:=U3a λ aQ=>by rw[O13 s n Ya]at hb;omega
 obtain⟨c0,c1,c2,c3,fz⟩:=h.cells;have hR:=h.R_lt;have H:=U10 h;have HG:=U10 hg;have HV:=U10 hV;have bO:¬FV own w.heap.size:=h.not_new (U12 _);unfold V2n at hX;have w1:IntKind.i64.wrap ((n:Int)+1)=(n:Int)+1:=U1i _ ⟨Ya,Ya⟩;by_cases gQ:256<d
 ·rw[U18 gQ]at hX;subst hX;have b1:decide ((256:Int)<(d:Int))=true:=by simp;omega
  clear c0 c1 c2 c3 fz h hg hV hb gQ;go_enter func45,ntmps45;go_wp2_with fail;exact U11 (v:=.tuple #[(0:Int),(0:Int),fv 4 n]) (by simp[results,results45,go_sem]) rfl ⟨rfl,Ya,FV own,St.auto,H.o.rk.gr Gr.auto⟩
 rw[U1b gQ]at hX;have b1:decide ((256:Int)<(d:Int))=false:=Ye
 have HX:=U10 hX;have HN:=U10 a8;have hd:d<=256:=Ya;clear c0 c1 c3 fz h hg hV hb gQ hX a8;go_enter func45,ntmps45;go_wp2_with fail;refine (O9r s _ (n+1) Yb Ya hs _).mono ?_;rintro e IU ⟨m,c,p,rfl,hm,Ct,g1⟩;have d9:=(FX.new w (.int .i64 0) (0:Int) 29).gr g1;obtain⟨z0,dL⟩:=ExZ (IU.heap.size)
 have ax:w.heap.size<z0:=by have:=g1.size;simp at this;omega
 have ud:=U10 (d9.set c p);have dn:=U10 (Gr.trans ((Gr.refl w).alloc (.cells #[(0:Int),(0:Int)] 29)) g1);have HZ:=U10 dL;have IV:=U10 Ct;obtain⟨f1,f2,f3,f4⟩:=d9;clear g1 dL Ct;go_wp2_with fail;obtain⟨Y,hY⟩:∃Y,(match Vy (bs s) (n+1) with
  |.bad c p => .bad c p
  |.ok g=>V1h V (bs s) d ((bs s).length+2) g [] (L.map (·.nd)):Va (List Nat×Nat×Ve))=Y:=⟨_,rfl⟩
 have Fe:Pl.listEnd n Y=X:=by
  rw[<-hY,<-HX.o];cases Vy (bs s) (n+1) <;> rfl
 have Er:=U10 Fe;have th:Hid (Y≠.non):=by
  intro e;rw[e]at Fe;exact HN.o Fe.symm
 have dy:St (FV own) (FV own) w ((IU.setCell w c).setCell ⟨w,1,none⟩ p):=(dn.o.st.setCell (.inr (U12 _)) _).setCell (.inr (U12 _)) _;have jk:=U10 dy;have HY:=U10 hY;clear Fe hY dy f1 f2 f3 f4
 go_loopg [7,9] ((bs s).length+2) (λ k v7 v9 wr=>Opy s R B base root V d own w z0 w.heap.size Y k v7 v9 wr)
 case atStart =>
  have hY:=HY.o;rcases IV.o with⟨nC,rfl,rfl⟩|⟨nC,hc⟩
  rw[nC]at hY;refine .inl ⟨m,[],nv,L,own,none,0,rfl,rfl,hm,?_,hY,ud.o,?_,jk.o,λ k hk => .inl hk,by simp;exact U4e HZ.o.symm,Or _ _ _ _,λ b e=>by simp[Value.ownBlock]at e⟩;exact ((H.o.gr dn.o).setCell bO _).setCell bO _
  exact HG.o.st jk.o (λ k hk=>(H.o.lt k hk).1)
  rw[nC]at hY;exact .inr ⟨m,c,p,FV own,rfl,hc,hY.symm,ud.o,jk.o,(((H.o.gr dn.o).setCell bO _).setCell bO _).rk⟩
 case round =>
  rcases hrel with⟨m2,subs,ic,L2,ac,ua,uc,rfl,rfl,jw,hr,bX,kK,mg,a9,bB,Cu,bZ,Cv⟩|⟨m2,c2,p2,F2,rfl,aE,lZ,kK,a9,jN⟩
  ·-- the fault is none
   obtain⟨gk,rfl⟩:∃f,gk=f+1:=by
    cases gk with
    |zero=>exact absurd bX.symm th.o
    |succ f=>exact⟨f,rfl⟩
   rw[V1h]at bX;obtain⟨v0,v1,vf,vl⟩:=kK;have e9:=U10 (show FX w (0:Int) (0:Int) wr from ⟨v0,v1,vf,vl⟩);have aP:=U10 hr;have MR:=U10 bX;have mL:=U10 mg;have fR:=U10 a9;have gx:=U10 bB;have Bn:=U10 Cu;have qp:=U10 bZ;have ej:=U10 Cv;have fy:=U10 ax;clear hr bX mg a9 bB Cu bZ Cv ax;go_wp2_with fail;refine Z153 ?_;intro w3 g3;have qq:=U10 (e9.o.gr g3);have aW:=U10 (aP.o.gr g3);have B8:=U10 (mL.o.gr g3);have jH:=U10 (fR.o.gr g3);have IW:=U10 (U1k Bn.o g3.size);have ke:=U10 (O1 qp.o (λ k e=>g3.block (qp.o.lt k e).2));clear g3 v0 v1 vf vl e9 aP mL fR Bn qp;obtain⟨tP,tQ,gO,tR,tS⟩:=aW.o.cells;go_wp2_with fail;refine (O25 w3 R s gO m2 m2 rfl).mono ?_;refine Z44 ?_;have bX:=MR.o;by_cases hb:V9 (bs s) m2=93
   ·rw[U18 hb]at bX;have bz:(((V9 (bs s) m2:Nat):Int) != 93)=false:=by simp;omega
    have lT:Hid (m2<s.size):=U3a λ aQ=>by rw[O13 s m2 Ya]at hb;omega
    have ag:=Er.o;rw[<-bX]at ag;simp only[Pl.listEnd]at ag;cases lD:Pl.room (L2.map (·.nd)) with
    |false=>rw[lD,U1b Yb]at ag;exact absurd ag.symm HN.o
    |true =>
    rw[lD,U18 rfl]at ag;have bV:=U10 ag;have Cw:=U10 lD;have rE:=qq;have nU:=aW;have mI:=jH;have d8:=gx;have Eo:=IW;have pd:=ke;clear ag lD bX hb tP tQ gO tR tS;obtain⟨p0,p1,pf,pl⟩:=rE.o;go_wp2_with fail;refine Z153 ?_;intro w9 g9;refine Z246 ?_;intro sT pa eO f9 z';clear g9 p0 p1 pf pl;have jx:IntKind.i64.wrap ((m2:Int)+1)=(m2:Int)+1:=U1i _ ⟨by have:=lT.o;omega,by have:=lT.o;omega⟩;go_wp2_with fail;refine Z310 ?_;intro hS;refine (Oan w9.drew R B base s root _ _ _ pa.o.drew Cw.o (Value.slice ua subs.length uc) subs (O1 f9.o (λ k e=>(Gr.refl w9).drew.block (f9.o.lt k e).2)) (λ b e=>(ej.o b e).1) n (m2+1) _ Yb).mono ?_;rintro e vJ ⟨rfl,B6,eZ,qr,gy,gC⟩;have Cx:¬(FV ac w.heap.size\/((Value.slice ua subs.length uc)).ownBlock=some w.heap.size):=by
     exact J66
    have cV:=hS.st gy Cx;refine Z132 ?_;refine Z65 ?_;obtain⟨p0,p1,pf,pl⟩:=cV;have dW:∀k,eZ k≠0->own k≠0\/z0<=k:=by
     intro k hk;rcases gC k hk with e|e|e
     exact d8.o k e;exact .inr (ej.o k e).2
     exact .inr (U1k z' (by simpa using e))
    have xh:¬FV eZ w.heap.size:=by
     intro hf;rcases dW _ hf with e|e
     exact bO e
     have:=fy.o;omega
    have gG:St (FV own) (FV eZ) w vJ:=(((eO.o.drew).to (λ i hi=>by
     rcases hi with hi|hi
     exact eO.o.own i hi
     exact .inr (by have:=(ej.o i hi).2;have:=fy.o;omega))).trans gy)
    have LH:=U10 qr;have cJ:=U10 gG;have oW:=U10 dW;clear qr gG dW gy gC Cx;refine Reg.on 12 ?_;go_simp;refine Z12 ?_;go_wp2_with fail;refine U11 (v:=.tuple #[.int .i64 (L2).length,.int .i64 (m2+1:Nat),f0]) (by simp[results,results45,go_sem,p0,p1,pf,pl]) rfl ?_;exact J189
   rw[U1b hb]at bX;have bz:(((V9 (bs s) m2:Nat):Int) != 93)=true:=Ye
   obtain⟨q0,q1,qf,ql⟩:=qq.o;refine Z151 ?_;intro wd;have Cy:=U10 bX;clear bX hb MR;go_wp2_with fail;have bX:=Cy.o;cases hZ:V (d+1) m2 (L2.map (·.nd)) with
   |non=>rw[hZ]at bX;exact absurd bX.symm th.o
   |bad c p =>
    rw[hZ]at bX;simp only at bX;refine Z214 ?_;refine Z116 ?_;intro w5 hc F5 cW xA;have jW:¬FV ac w.heap.size:=λ hf=>by
     rcases gx.o _ hf with e|e
     exact bO e
     have:=fy.o;omega
    have fV:=qq.o.st cW jW;have e9:=U10 (fV.set c p);have kh:=U10 ((((jH.o.trans cW).setCell (p:=w) (.inr (U12 _)) c).setCell (p:=⟨w,1,none⟩) (.inr (U12 _)) p));have bV:Hid (Va.bad c p=X):=by
     exact J65
    have HC:=U10 hc;have og:=U10 hc;obtain⟨a0,a1,af,al⟩:=fV;have kR:¬(c:Int)=0:=Ya;clear bX cW hZ hc q0 q1 qf ql tP tQ gO tR tS;go_wp2_with fail;refine Z231 ?_;intro w6 g6;have IX:=U10 (e9.o.gr g6);have Cz:=U10 (kh.o.gr g6);have qv:=U10 (xA.o.gr g6);clear e9 kh g6 a0 a1 af al;have e9:=IX;have kh:=Cz;have qx:¬(c:Int)=0:=by have:=HC.o;omega
    clear HC;obtain⟨p0,p1,pf,pl⟩:=e9.o;go_wp2_with fail;refine (O1s c p qx _).mono ?_;rintro e w9 ⟨rfl,g9⟩;obtain⟨u0,u1,uf,ul⟩:=e9.o.gr g9;have jh:=kh.o.gr g9;have qy:=qv.o.gr g9;clear g9 p0 p1 pf pl;go_wp2_with fail
    go_region
    all_goals go_wp2_with fail
    rw[<-bV.o];exact U11 (v:=.tuple #[(0:Int),(0:Int),fv c p]) (by simp[results,results45,go_sem,u0,u1,uf,ul]) rfl ⟨rfl,og.o,_,((jh.setCell (.inr (U12 _)) _).setCell (.inr (U12 _)) _).drew,((qy.set Ya _).set Ya _).drew⟩
   |ok r =>
    obtain⟨iv,n2,st2⟩:=r;rw[hZ]at bX;simp only at bX;have nw:subs.length<=30000000:=by
     by_cases aQ:30000000<subs.length;rw[U18 aQ]at bX;exact absurd bX.symm th.o
     omega
    rw[U1b Ya]at bX;refine Z214 ?_;rintro e w5 ⟨rfl,l0,EW,Em,L5,cm,uP,rfl,cW,en⟩;have jW:¬FV ac w.heap.size:=λ hf=>by
     rcases gx.o _ hf with e|e
     exact bO e
     have:=fy.o;omega
    have fV:=qq.o.st cW jW;have j7:=U10 (fV.set (0:Int) (0:Int));have fZ:Hid (∀k,cm k≠0->own k≠0\/z0<=k):=λ k hk=>by
     rcases en k hk with e|e
     exact gx.o k e
     exact .inr (U1k IW.o e)
    have uQ:¬FV cm w.heap.size:=λ hf=>by
     rcases fZ.o _ hf with e|e
     exact bO e
     have:=fy.o;omega
    refine Z74 ?_;intro iA fU;have iW:Hid (∀b,(Value.slice ua subs.length uc).ownBlock=some b->cm b=0/\z0<=b):=λ b e=>by
     refine⟨?_,(ej.o b e).2⟩;by_cases h0:cm b=0;exact h0
     rcases en b h0 with e2|e2
     exact absurd (ej.o b e).1 e2
     have:=(ke.o.lt b e).2;omega
    have qA:Hid (((w5.setCell w (0:Int)).setCell ⟨w,1,none⟩ (0:Int)).ownsRow base 3 1 (.slice ua subs.length uc) subs.length (O8 subs)) :=
     Od (Od (O1 ke.o (λ k e=>cW.block k (ke.o.lt k e).2 (λ hf=>hf (ej.o k e).1))) (λ k e=>by have:=(ej.o k e).2;have:=fy.o;show k≠w.heap.size;omega) _) (λ k e=>by have:=(ej.o k e).2;have:=fy.o;show k≠w.heap.size;omega) _
    obtain⟨a0,a1,af,al⟩:=fV;have vd:z0<=w5.heap.size:=U1k IW.o cW.size;have IY:=U10 bX;have MS:=U10 nw;obtain⟨iU,u1,u2,u3,u4⟩:=U3u O6y;have cQ:=U10 (And.intro u1 (And.intro u2 (And.intro u3 u4)));clear bX cW hZ q0 q1 qf ql tP tQ gO tR tS uP en u1 u2 u3 u4 qq aW B8 jH ke Cy nw;go_wp2_with fail;refine Z153 ?_;intro w6 g6;have sQ:z0<=w6.heap.size:=by have:=g6.size;simp[World.setCell]at this;omega
    have oY:=U10 (j7.o.gr g6);have kP:=U10 (iA.o.gr g6);have ik:=U10 (fU.o.gr g6);have qB:=U10 (O1 qA.o (λ k e=>g6.block (qA.o.lt k e).2));have MT:Hid (∀j u,[Value.int .i64 iv][j]?=some u->(w6.alloc (.cells #[iv] 3)).cell? ((⟨w6,0,none⟩:Addr).add j)=some u):=λ j u hu=>by
     have:=cell_one_new w6 iv 3 j u hu;exact this
    have kU:base<=w6.heap.size:=by have h1:=kP.o.R_lt;omega
    clear g6 a0 a1 af al j7 iA fU qA;obtain⟨uv,lW⟩:=ExZ (Value.slice ua subs.length uc)
    rw[lW]at qB iW⊢;clear ej lW;have CA:Hid (∀w7 gb cap,(w6.alloc (.cells #[iv] 3)).grownBy w7 uv.ownBlock->(uv.ownBlock=some gb\/gb=(w6.alloc (.cells #[iv] 3)).heap.size)->w7.ownsRow base 3 1 (.slice (some ⟨gb,0,none⟩) (subs.length+1) cap) (subs.length+1) (O8 subs++[.int .i64 iv]) ->
        RdV w7 R B base s root Em L5 cm/\FX w (0:Int) (0:Int) w7/\St (FV own) (FV cm) w w7/\(cm gb=0/\z0<=gb)/\z0<=w7.heap.size/\w7.ownsRow base 3 1 (.slice (some ⟨gb,0,none⟩) (subs.length+1) cap) (subs++[iv]).length (O8 (subs++[iv]))):=by
     intro w7 gb cap gt lz CB;have ue:St (λ k=>uv.ownBlock=some k) (λ k=>uv.ownBlock=some k) (w6.alloc (.cells #[iv] 3)) w7:=(St.refl _ _).grown gt (λ k e => .inl e);have IZ:=kP.o.alloc (.cells #[iv] 3);refine⟨IZ.kept (λ k hk=>ue.block k (IZ.lt k hk).2 (λ e=>hk (iW.o k e).1)) ue.size,(oY.o.gr ((Gr.refl _).alloc _)).st ue (λ e=>by have:=(iW.o _ e).2;have:=fy.o;omega),(ik.o.alloc _).grown gt (λ k e => .inr (by have:=(iW.o k e).2;have:=fy.o;omega)),?_,?_,by simpa [O8]using CB⟩
     rcases lz with e|e
     exact iW.o gb e
     refine⟨?_,by rw[e];simp;omega⟩;by_cases h0:cm gb=0;exact h0
     have:=(IZ.lt gb h0).2;omega
     have:=ue.size;simp at this;omega
    go_wp2_with (at_builtin;refine U3z _ rfl (.tmp 45) (.tmp 47) 36 rfl base 3 iU _ 1 8 underlying36 cQ.o.1 cQ.o.2.1 cQ.o.2.2.1 cQ.o.2.2.2 rfl Yd uv subs.length (O8 subs) rfl (qB.o.alloc _) ⟨w6,0,none⟩ 1 1 [.int .i64 iv] rfl Yb MT.o Yj Yd (by have:=MS.o;unfold maxLen;omega) (by have:=MS.o;omega) Ye _ rfl ?_;intro gb cap w7 bQ gt lz fY;have qC:=U10 (CA.o w7 gb cap gt lz bQ);clear bQ gt lz fY;have cd:=qC.o.1.cells.2.2.1;obtain⟨p0,p1,pf,pl⟩:=qC.o.2.1);refine (O9r s _ n2 rfl l0 hs _).mono ?_;rintro e w8 ⟨m8,c8,p8,rfl,UE,CC,g8⟩;have R0:∀o,¬FV cm (⟨w,o,none⟩:Addr).block:=λ _=>uQ
    obtain⟨a0,a1,af,al⟩:=qC.o.2.1.gr g8;have ug:=U10 ((qC.o.2.1.gr g8).set c8 p8);have Ak:=U10 (((qC.o.1.gr g8).setCell (p:=w) uQ c8).setCell (p:=⟨w,1,none⟩) uQ p8);have iw:=U10 (((qC.o.2.2.1.gr g8).setCell (p:=w) (.inr (U12 _)) c8).setCell (p:=⟨w,1,none⟩) (.inr (U12 _)) p8);have vK:Hid (∀b,(Value.slice gb (subs.length+1) cap).ownBlock=some b->cm b=0/\z0<=b):=λ b e=>by
     simp[Value.ownBlock]at e;subst e;exact qC.o.2.2.2.1
    have uh:gb≠w.heap.size:=by have:=qC.o.2.2.2.1.2;have:=fy.o;omega
    have mm:Hid (((w8.setCell w c8).setCell ⟨w,1,none⟩ p8).ownsRow base 3 1 (.slice gb (subs.length+1) cap) (subs++[iv]).length (O8 (subs++[iv]))) :=
     Od (Od (O1 qC.o.2.2.2.2.2 (λ k e=>g8.block (qC.o.2.2.2.2.2.lt k e).2)) (λ k e=>by simp[Value.ownBlock]at e;subst e;exact uh) _) (λ k e=>by simp[Value.ownBlock]at e;subst e;exact uh) _
    have C2:z0<=w8.heap.size:=U1k qC.o.2.2.2.2.1 g8.size;have bX:=IY.o;clear p0 p1 pf pl cd CA qB kP oY ik iW MT cQ g8;rcases CC with⟨nC,rfl,rfl⟩|⟨nC,I'⟩
    ·rw[nC]at bX;simp only at bX;have J0:=U10 bX;clear bX nC;go_wp2_with fail;refine Z153 ?_;intro CD qD;have qE:=U10 (ug.o.gr qD);have Am:=U10 (Ak.o.gr qD);have qF:=U10 (iw.o.gr qD);have lE:=U10 (O1 mm.o (λ k e=>qD.block (mm.o.lt k e).2));have CE:z0<=CD.heap.size:=by have:=qD.size;simp[World.setCell]at this;omega
     have gO:=Am.o.cells.2.2.1;clear qD ug Ak iw mm a0 a1 af al;go_wp2_with fail;refine (O25 CD R s gO m8 m8 rfl).mono ?_;refine Z44 ?_;have bX:=J0.o;by_cases hb:V9 (bs s) m8=93
     ·rw[U18 hb]at bX;have bz:(((V9 (bs s) m8:Nat):Int)==93)=true:=by simp;omega
      have lT:Hid (m8<s.size):=U3a λ aQ=>by rw[O13 s m8 Ya]at hb;omega
      have ag:=Er.o;rw[<-bX]at ag;simp only[Pl.listEnd]at ag;cases lD:Pl.room (L5.map (·.nd)) with
      |false=>rw[lD,U1b Yb]at ag;exact absurd ag.symm HN.o
      |true =>
      rw[lD,U18 rfl]at ag;have bV:=U10 ag;have Cw:=U10 lD;have rE:=qE;have nU:=Am;have mI:=qF;have d8:=fZ;have Eo:=U10 CE;have pd:=lE;have ej:=vK;clear ag lD bX hb gO;obtain⟨p0,p1,pf,pl⟩:=rE.o;go_wp2_with fail;refine Z153 ?_;intro w9 g9;refine Z246 ?_;intro sT pa eO f9 z';clear g9 p0 p1 pf pl;have jx:IntKind.i64.wrap ((m8:Int)+1)=(m8:Int)+1:=U1i _ ⟨by have:=lT.o;omega,by have:=lT.o;omega⟩;go_wp2_with fail;refine Z310 ?_;intro hS;refine (Oan w9.drew R B base s root _ _ _ pa.o.drew Cw.o (Value.slice gb (subs.length+1) cap) (subs++[iv]) (O1 f9.o (λ k e=>(Gr.refl w9).drew.block (f9.o.lt k e).2)) (λ b e=>(ej.o b e).1) n (m8+1) _ Yb).mono ?_;rintro e vJ ⟨rfl,B6,eZ,qr,gy,gC⟩;have Cx:¬(FV cm w.heap.size\/((Value.slice gb (subs.length+1) cap)).ownBlock=some w.heap.size):=by
       exact J66
      have cV:=hS.st gy Cx;refine Z132 ?_;refine Z65 ?_;obtain⟨p0,p1,pf,pl⟩:=cV;have dW:∀k,eZ k≠0->own k≠0\/z0<=k:=by
       intro k hk;rcases gC k hk with e|e|e
       exact d8.o k e;exact .inr (ej.o k e).2
       exact .inr (U1k z' (by simpa using e))
      have xh:¬FV eZ w.heap.size:=by
       intro hf;rcases dW _ hf with e|e
       exact bO e
       have:=fy.o;omega
      have gG:St (FV own) (FV eZ) w vJ:=(((eO.o.drew).to (λ i hi=>by
       rcases hi with hi|hi
       exact eO.o.own i hi
       exact .inr (by have:=(ej.o i hi).2;have:=fy.o;omega))).trans gy)
      have LH:=U10 qr;have cJ:=U10 gG;have oW:=U10 dW;clear qr gG dW gy gC Cx;refine Reg.on 12 ?_;go_simp;refine Z12 ?_;go_wp2_with fail;refine U11 (v:=.tuple #[.int .i64 (L5).length,.int .i64 (m8+1:Nat),f0]) (by simp[results,results45,go_sem,p0,p1,pf,pl]) rfl ?_;exact J189
     rw[U1b hb]at bX;have bz:(((V9 (bs s) m8:Nat):Int)==93)=false:=Ye
     obtain⟨q0,q1,qf,ql⟩:=qE.o;by_cases dH:V9 (bs s) m8=44
     ·rw[U18 dH]at bX;have ay:(((V9 (bs s) m8:Nat):Int) != 44)=false:=by simp;omega
      have R1:m8<s.size:=U3a λ aQ=>by rw[O13 s m8 Ya]at dH;omega
      have UF:IntKind.i64.wrap ((m8:Int)+1)=(m8:Int)+1:=U1i _ ⟨Ya,Ya⟩;have Ja:=U10 bX;clear bX hb dH;go_wp2_with fail;refine (O25 CD R s gO m8 m8 rfl).mono ?_;refine Z44 ?_;go_wp2_with fail;refine (O9r s _ (m8+1) Yb Ya hs _).mono ?_;rintro e lF ⟨m9,c9,p9,rfl,R2,vL,fQ⟩;have CF:=U10 vL;have vM:=U10 ((qE.o.gr fQ).set c9 p9);have ia:=U10 (((Am.o.gr fQ).setCell (p:=w) uQ c9).setCell (p:=⟨w,1,none⟩) uQ p9);have lG:=U10 (((qF.o.gr fQ).setCell (p:=w) (.inr (U12 _)) c9).setCell (p:=⟨w,1,none⟩) (.inr (U12 _)) p9);have yB:Hid (((lF.setCell w c9).setCell ⟨w,1,none⟩ p9).ownsRow base 3 1 (.slice gb (subs.length+1) cap) (subs++[iv]).length (O8 (subs++[iv]))) :=
       Od (Od (O1 lE.o (λ k e=>fQ.block (lE.o.lt k e).2)) (λ k e=>by simp[Value.ownBlock]at e;subst e;exact uh) _) (λ k e=>by simp[Value.ownBlock]at e;subst e;exact uh) _
      have Jb:z0<=lF.heap.size:=U1k CE fQ.size;obtain⟨r0,r1,rf,rl⟩:=qE.o.gr fQ;clear q0 q1 qf ql vL fQ gO;go_wp2_with fail
      go_roundg gk
      case measure=>omega
      case rel =>
       have bX:=Ja.o;rcases CF.o with⟨nC,rfl,rfl⟩|⟨nC,hc⟩
       rw[nC]at bX;simp only at bX;refine .inl ⟨m9,subs++[iv],Em,L5,cm,some ⟨gb,0,none⟩,cap,rfl,Yb,R2,ia.o,bX,vM.o,HG.o.st lG.o (λ k hk=>(H.o.lt k hk).1),lG.o,fZ.o,by simp[World.setCell];exact Jb,?_,?_⟩;simpa using yB.o
       intro b e;exact vK.o b (by simpa [Value.ownBlock]using e)
       rw[nC]at bX;exact .inr ⟨m9,c9,p9,FV cm,rfl,hc,bX.symm,vM.o,lG.o,ia.o.rk⟩
     rw[U1b dH]at bX;have ay:(((V9 (bs s) m8:Nat):Int) != 44)=true:=Ye
     have bV:Hid (Va.bad 3 m8=X):=by
      exact J65
     clear bX hb dH;go_wp2_with fail;refine (O25 CD R s gO m8 m8 rfl).mono ?_;refine Z44 ?_;go_wp2_with fail;refine (O3s m8 m8 rfl _).mono ?_;rintro e lF ⟨rfl,fQ⟩;obtain⟨u0,u1,uf,ul⟩:=qE.o.gr fQ;have gG:=qF.o.gr fQ;clear q0 q1 qf ql gO;go_wp2_with fail;rw[<-bV.o];exact U11 (v:=.tuple #[(0:Int),(0:Int),fv 3 m8]) (by simp[results,results45,go_sem,u0,u1,uf,ul]) rfl ⟨rfl,Ya,_,(gG.setCell (.inr (U12 _)) _).setCell (.inr (U12 _)) _,((Am.o.rk.gr fQ).set Ya _).set Ya _⟩
    rw[nC]at bX;simp only at bX;have bV:Hid (Va.bad c8 p8=X):=by
     exact J65
    have HC:=U10 I';have og:=U10 I';have kR:¬(c8:Int)=0:=Ya;clear bX nC I';go_wp2_with fail;refine (O1s c8 p8 kR _).mono ?_;rintro e CD ⟨rfl,qD⟩;have e9:=U10 (ug.o.gr qD);have kh:=U10 (iw.o.gr qD);have qv:=U10 (Ak.o.rk.gr qD);clear ug iw qD a0 a1 af al Ak mm;have qx:¬(c8:Int)=0:=by have:=HC.o;omega
    clear HC;obtain⟨p0,p1,pf,pl⟩:=e9.o;go_wp2_with fail;refine (O1s c8 p8 qx _).mono ?_;rintro e w9 ⟨rfl,g9⟩;obtain⟨u0,u1,uf,ul⟩:=e9.o.gr g9;have jh:=kh.o.gr g9;have qy:=qv.o.gr g9;clear g9 p0 p1 pf pl;go_wp2_with fail
    go_region
    all_goals go_wp2_with fail
    rw[<-bV.o];exact U11 (v:=.tuple #[(0:Int),(0:Int),fv c8 p8]) (by simp[results,results45,go_sem,u0,u1,uf,ul]) rfl ⟨rfl,og.o,_,((jh.setCell (.inr (U12 _)) _).setCell (.inr (U12 _)) _).drew,((qy.set Ya _).set Ya _).drew⟩
  -- a fault
  obtain⟨p0,p1,pf,pl⟩:=kK;have CG:=U10 (show FX w c2 p2 wr from ⟨p0,p1,pf,pl⟩);have ui:=U10 a9;have CH:=U10 jN;have bV:Hid (Va.bad c2 p2=X):=by
   have:=Er.o;rw[lZ]at this;exact this
  have HC:=U10 aE;have og:=U10 aE;have kR:¬(c2:Int)=0:=Ya;clear a9 lZ aE jN;go_wp2_with fail;refine (O1s c2 p2 kR _).mono ?_;rintro e w6 ⟨rfl,g6⟩;have e9:=U10 (CG.o.gr g6);have kh:=U10 (ui.o.gr g6);have qv:=U10 (CH.o.gr g6);clear CG ui CH g6 p0 p1 pf pl;have qx:¬(c2:Int)=0:=by have:=HC.o;omega
  clear HC;obtain⟨p0,p1,pf,pl⟩:=e9.o;go_wp2_with fail;refine (O1s c2 p2 qx _).mono ?_;rintro e w9 ⟨rfl,g9⟩;obtain⟨u0,u1,uf,ul⟩:=e9.o.gr g9;have jh:=kh.o.gr g9;have qy:=qv.o.gr g9;clear g9 p0 p1 pf pl;go_wp2_with fail
  go_region
  all_goals go_wp2_with fail
  rw[<-bV.o];exact U11 (v:=.tuple #[(0:Int),(0:Int),fv c2 p2]) (by simp[results,results45,go_sem,u0,u1,uf,ul]) rfl ⟨rfl,og.o,_,((jh.setCell (.inr (U12 _)) _).setCell (.inr (U12 _)) _).drew,((qy.set Ya _).set Ya _).drew⟩
end
section
open Pl Go.Proofs.Tryz Go.RowKit Go.Shelf Go.Joins
attribute [local go_sem] U28
variable {Tb:Nat->UInt8×UInt8}
def O2s(r:NdR)(a b:Int):NdR:=⟨{ r.nd with sp:=(a,b) },r.kv,r.sv,r.uv⟩
theorem RdV.span{W:World}{R B base:Nat}{s:ByteArray}{root:Int}{L:List NdR}{own:Nat->Nat}{g cap:Nat}(h:RdV W R B base s root (.slice g L.length cap) L own)(i:Nat)(r:NdR)(hr:L[i]?=some r)(a b:Int):RdV ((W.setCell ⟨g,i*7+5,none⟩ a).setCell ⟨g,i*7+6,none⟩ b) R B base s root (.slice g L.length cap) (L.set i (O2s r a b)) own /\St (FV own) (FV own) W ((W.setCell ⟨g,i*7+5,none⟩ a).setCell ⟨g,i*7+6,none⟩ b):=by
 have hi:i<L.length:=(U16.1 hr).1;have dI:own g=3:=h.oN g rfl;have MU:FV own g:=by unfold FV;omega
 have a9:St (FV own) (FV own) W ((W.setCell ⟨g,i*7+5,none⟩ a).setCell ⟨g,i*7+6,none⟩ b):=((St.refl _ W).setCell (p:=⟨g,i*7+5,none⟩) (.inl MU) _).setCell (p:=⟨g,i*7+6,none⟩) (.inl MU) _;refine⟨?_,a9⟩;obtain⟨WF,am⟩:=ExZ ((W.setCell ⟨g,i*7+5,none⟩ a).setCell ⟨g,i*7+6,none⟩ b)
 have bY:WF.heap.size=W.heap.size:=by subst am;simp[World.setCell]
 have aO:∀k,k≠g->WF.heap[k]?=W.heap[k]?:=by
  intro k hk;subst am;rw[U14 _ _ _ _ hk,U14 _ _ _ _ hk]
 have ad:(V3a L).length=L.length*7:=O4f L;have bO:WF.ownsRow base 40 7 (.slice g L.length cap) L.length (V3a (L.set i (O2s r a b))):=by
  subst am;have e1:=Ox h.nodes (i*7+5) Ya a;have e2:=Ox e1 (i*7+6) (by rw[U2k];omega) b;have f1:=O1y L i 5 Ya a r (O2s r a r.nd.sp.2) hr rfl;have f2:=O1y (L.set i (O2s r a r.nd.sp.2)) i 6 Ya b (O2s r a r.nd.sp.2) (O2s r a b) (by simp[hi]) rfl;rw[f1,f2]at e2
  simpa using e2
 rw[am];have ne:∀k t,own k=t->t≠3->k≠g:=λ k t e h3 e2=>by subst e2;omega
 obtain⟨D,h1,h2,h3,h4⟩:=h.map;refine⟨by rw[aO R (ne R 1 h.oR Ya)];exact h.blk,h.oR,h.oB,by rw[U2k];exact bO,h.oN,?_,?_,λ k hk=>by rw[bY];exact h.lt k hk⟩
 refine⟨D,Ot (by rw[Oab L i r (O2s r a b) hr rfl];exact h1) (aO B (ne B 2 h.oB Ya)),h2,by rw[U2k];exact h3,λ j x hx=>?_⟩;rw[U2n]at hx
 split at hx
 rename_i dv
 subst dv;simp only[hi,U2i,U1f]at hx;subst hx;exact h4 i r hr
 exact h4 j x hx
 have kp:∀(j:Nat)(x:NdR),V6a W base own j x->V6a WF base own j x:=λ j x hx =>
  ⟨O1 hx.k λ k e=>aO k (ne k _ (hx.tk k e) Ya),O1 hx.s λ k e=>aO k (ne k _ (hx.ts k e) Ya),hx.u.of_block λ k e=>aO k (ne k _ (hx.tu k e) Ya),λ h8=>O1 (hx.u8 h8) λ k e=>aO k (ne k _ (hx.tu k e) Ya),hx.tk,hx.ts,hx.tu⟩
 intro j x hx;rw[U2n]at hx
 split at hx
 rename_i dv
 subst dv;simp only[hi,U2i,U1f]at hx;subst hx;have:=kp i r (h.rows i r hr);exact⟨this.k,this.s,this.u,this.u8,this.tk,this.ts,this.tu⟩
 exact kp j x (h.rows j x hx)
theorem O6f(L:List NdR)(i:Nat)(r:NdR)(a b:Int)(hr:L[i]?=some r):(L.set i (O2s r a b)).map (·.nd)=(L.map (·.nd)).modify i λ nd=>{ nd with sp:=(a,b) }:=by
 apply U46;intro j;rw[U1m,U3s,U1m,U2n];by_cases e:i=j;subst e;have dO:=(U16.1 hr).1;simp[dO,hr,O2s];have:=(U16.1 hr).2;rw[this];exact⟨rfl,rfl,rfl,rfl,rfl,rfl⟩
 simp[e]
def Vih(E:V19)(s:ByteArray)(R B base:Nat)(root:Int)(V:V2c)(d T:Nat)(own:Nat->Nat)(w:World)(z0 bF:Nat)(Y:Va (Nat×Ve))(k:Nat)(v6 v7 v9:Value)(wr:World):Prop :=
 ∃(n:Nat)(b:Bool)(nv':Value)(L':List NdR)(own':Nat->Nat),v6=.int .i64 T/\v7=.int .i64 n/\v9=.bool b/\n<=s.size/\RdV wr R B base s root nv' L' own' /\
  (if b=true/\V9 (bs s) n=125 then Va.ok (n,L'.map (·.nd)) else V21 E V (bs s) T d k n (L'.map (·.nd)))=Y/\FX bF (0:Int) (0:Int) wr/\GW Tb base wr /\
  St (FV own) (FV own') w wr/\(∀k,own' k≠0->own k≠0\/z0<=k)/\z0<=wr.heap.size
theorem Olf(E:V19)(hE:O2r Tb E)(s:ByteArray)(R B base:Nat)(root:Int)(V:V2c)(hV:O6e Tb s R B base root V)(w:World)(nv:Value)(L:List NdR)(own:Nat->Nat)(h:RdV w R B base s root nv L own)(hg:GW Tb base w)(hs:s.size<=20000000)(d n:Nat)(hb:V9 (bs s) n=123)(X:Va (Nat×Nat×Ve))(hX:V1n E V (bs s) d n (L.map (·.nd))=X)(a8:X≠.non):Calls prog 46 #[.pointer (some ⟨R,0,none⟩),n,d] w (O4v s R B base root own w X):=by
 have hn:n<s.size:=U3a λ aQ=>by rw[O13 s n Ya]at hb;omega
 obtain⟨c0,c1,c2,c3,fz⟩:=h.cells;have hR:=h.R_lt;have H:=U10 h;have HG:=U10 hg;have HV:=U10 hV;have bO:¬FV own w.heap.size:=h.not_new (U12 _);unfold V1n at hX;have w1:IntKind.i64.wrap ((n:Int)+1)=(n:Int)+1:=U1i _ ⟨Ya,Ya⟩;by_cases gQ:256<d
 ·rw[U18 gQ]at hX;subst hX;have b1:decide ((256:Int)<(d:Int))=true:=by simp;omega
  clear c0 c1 c2 c3 fz h hg hV hb gQ;go_enter func46,ntmps46;go_wp2_with fail;exact U11 (v:=.tuple #[(0:Int),(0:Int),fv 4 n]) (by simp[results,results46,go_sem]) rfl ⟨rfl,Ya,FV own,St.auto,H.o.rk.gr Gr.auto⟩
 rw[U1b gQ]at hX;cases lD:Pl.room (L.map (·.nd)) with
 |false=>rw[lD,U1b Yb]at hX;exact absurd hX.symm a8
 |true =>
 rw[lD,U18 rfl]at hX;simp only at hX;have b1:decide ((256:Int)<(d:Int))=false:=Ye
 have hd:d<=256:=Ya;obtain⟨T,hT⟩:=ExZ (L.length)
 have R3:T<=20000000:=by simp[Pl.room]at lD;omega
 obtain⟨e0,Cn⟩:=ExZ (V7 (bs s) (n+1))
 have Jc:e0<=s.size:=by have:=V8 (bs s) (n+1) (by rw[O0];omega);rw[O0]at this;omega
 rw[Cn,U1n,hT]at hX;obtain⟨Y,hY⟩:=ExZ ((if V9 (bs s) e0=125 then Va.ok (e0,L.map (·.nd)++[Vt]) else V21 E V (bs s) T d ((bs s).length+2) e0 (L.map (·.nd)++[Vt])))
 rw[hY]at hX;have th:Hid (Y≠.non):=by
  intro e;rw[e]at hX;exact a8 hX.symm
 have HX:=U10 hX;have HN:=U10 a8;have Cw:=U10 lD;have Fg:=U10 hT;have sj:=U10 Cn;have HY:=U10 hY;clear c0 c1 c2 c3 fz h hg hV hb gQ hX a8 lD hT Cn hY;go_enter func46,ntmps46;go_wp2_with fail;refine (Od4 _ R B base s root nv L own (H.o.alloc _) Cw.o 0 0).mono ?_;rintro e IU ⟨rfl,ki,aA,aS,dy,da⟩;obtain⟨c0,c1,c2,c3,fz⟩:=aS.cells;have n8:¬FV own w.heap.size:=bO;have d9:=(FX.new w (0:Int) (0:Int) 29).st dy bO;have aN:=U10 aS;have jk:=U10 ((((St.refl (FV own) w).alloc (.cells #[(0:Int),(0:Int)] 29)).trans dy));have vN:=U10 da;have MV:=U10 d9;have ax:=dy.size;simp only[U1s]at ax;rw[Fg.o];clear aS dy da d9;go_wp2_with fail;refine (Oa s _ (n+1) Yb Ya Ya _).mono ?_;rintro e w2 ⟨rfl,g2⟩;rw[sj.o];have aP:=U10 (aN.o.gr g2);have fR:=U10 (jk.o.gr g2);have ud:=U10 (MV.o.gr g2);have ja:=U10 (HG.o.st fR.o (λ k hk=>(H.o.lt k hk).1));have gx:Hid (∀k,aA k≠0->own k≠0\/w.heap.size+1<=k):=λ k hk=>(vN.o k hk).imp id (λ e=>by simpa using e)
 obtain⟨z0,dL⟩:=ExZ (w.heap.size+1)
 have fy:Hid (w.heap.size<z0):=by show w.heap.size<z0;omega
 have tj:Hid (z0<=w2.heap.size):=by show z0<=w2.heap.size;have:=g2.size;omega
 rw[dL]at gx;clear g2 dL aN jk vN MV c0 c1 c2 c3 fz ax;go_wp2_with fail
 go_loopg [6,7,9] ((bs s).length+2) (λ k v6 v7 v9 wr=>Vih E s R B base root V d T own w z0 w.heap.size Y k v6 v7 v9 wr)
 case atStart =>
  refine⟨e0,true,ki,_,aA,rfl,rfl,rfl,Jc,aP.o,?_,ud.o,ja.o,fR.o,gx.o,tj.o⟩;rw[<-HY.o];simp[V5s,Vt]
 case round =>
  obtain⟨m2,b,ic,L2,ac,rfl,rfl,rfl,jw,hr,dt,kK,mg,a9,bB,Cu⟩:=hrel;obtain⟨v0,v1,vf,vl⟩:=kK;obtain⟨tP,tQ,gO,tR,tS⟩:=hr.cells;have e9:=U10 (show FX w (0:Int) (0:Int) wr from ⟨v0,v1,vf,vl⟩);have aW:=U10 hr;have Gt:=U10 dt;have mL:=U10 mg;have jH:=U10 a9;have jM:=U10 bB;have Bn:=U10 Cu;clear hr dt mg a9 bB Cu v0 v1 vf vl;by_cases bD:b=true/\V9 (bs s) m2=125
  ·have dt:=Gt.o;rw[U18 bD]at dt;obtain⟨rfl,hb⟩:=bD;have bz:(((V9 (bs s) m2:Nat):Int) != 125)=false:=by simp;omega
   have lT:Hid (m2<s.size):=U3a λ aQ=>by rw[O13 s m2 Ya]at hb;omega
   have ag:=HX.o;rw[<-dt]at ag;simp only at ag;cases aX:Pl.kind8 (L2.map (·.nd)) T with
   |false=>rw[aX,U1b Yb]at ag;exact absurd ag.symm HN.o
   |true =>
   rw[aX,U18 rfl]at ag;have bV:=U10 ag;have uO:=U10 aX;clear ag aX dt hb;go_wp2_with fail;refine (O25 wr R s gO m2 m2 rfl).mono ?_;refine Z44 ?_;have nU:=aW;have rE:=e9;have mI:=jH;have d8:=jM;clear tP tQ gO tR tS;have jx:IntKind.i64.wrap ((m2:Int)+1)=(m2:Int)+1:=U1i _ ⟨by have:=lT.o;omega,by have:=lT.o;omega⟩;obtain⟨rT,sX⟩:∃r,(L2)[T]?=some r:=by
    have hk:=uO.o;unfold Pl.kind8 at hk;rw[U1g,U1m]at hk
    replace hk:=hk.2
    cases hl:(L2)[T]? with
    |none=>rw[hl]at hk;cases hk
    |some x=>exact⟨x,rfl⟩
   have rC:T<(L2).length:=(U16.1 sX).1;obtain⟨gN,i9,Gu,ld,Gv,Gw,Gx,Gy,Gz,pi,xw,GA,GB,xx⟩:=nU.o.form Ya;have bN:=nU.o.cells;rw[ld]at bN;obtain⟨a0,a1,a2,a3,af⟩:=bN;have xy:∀o,wr.frozen? ⟨gN,o,none⟩=false:=λ o=>unfrozen_of_block pi o
   have nQ:(0:Int)<=(T:Int):=Ya;have eY:(T:Int)<((L2).length:Int):=Ya;have oL:Hid (RdV wr R B base s root (.slice gN (L2).length i9) L2 ac):=by rw[<-ld];exact nU.o
   obtain⟨p0,p1,pf,pl⟩:=rE.o;obtain⟨_,_,_,_,_,n5,n6,_⟩:=oL.o.ndCells rfl T rT sX;have GC:wr.cell? ⟨gN,T*7+5+1,none⟩=some (.int .i64 rT.nd.sp.2):=n6;clear n6;have Pk:w.heap.size≠gN:=λ e=>by
    have:own gN≠0\/z0<=gN:=d8.o gN Ya;rcases this with e2|e2
    exact bO (by unfold FV;rw[e];exact e2)
    have:=fy.o;omega
   have AX:=U10 sX;clear sX pi xx xw ld;go_wp2_with fail;have dm:=oL.o.span T rT AX.o (n:Int) ((m2:Int)+1);have ia:Hid (RdV ((wr.setCell ⟨gN,T*7+5,none⟩ (.int .i64 (n:Int))).setCell ⟨gN,T*7+5+1,none⟩ (.int .i64 ((m2:Int)+1))) R B base s root (.slice gN (L2).length i9) ((L2).set T (O2s rT (n:Int) ((m2:Int)+1))) ac):=dm.1;have cJ:Hid (St (FV own) (FV ac) w ((wr.setCell ⟨gN,T*7+5,none⟩ (.int .i64 (n:Int))).setCell ⟨gN,T*7+5+1,none⟩ (.int .i64 ((m2:Int)+1)))):=mI.o.trans dm.2;have xb:¬FV ac w.heap.size:=λ hf=>by
    rcases d8.o _ hf with e|e
    exact bO e
    have:=fy.o;omega
   have kS:Hid (FX w (0:Int) (0:Int) ((wr.setCell ⟨gN,T*7+5,none⟩ (.int .i64 (n:Int))).setCell ⟨gN,T*7+5+1,none⟩ (.int .i64 ((m2:Int)+1)))):=rE.o.st dm.2 xb;obtain⟨wS,fA⟩:=ExZ ((wr.setCell ⟨gN,T*7+5,none⟩ (.int .i64 (n:Int))).setCell ⟨gN,T*7+5+1,none⟩ (.int .i64 ((m2:Int)+1)))
   rw[fA]at ia cJ kS⊢;clear fA dm p0 p1 pf pl n5 GC xy a0 a1 a2 a3 af;obtain⟨p0,p1,pf,pl⟩:=kS.o
   go_region
   all_goals go_wp2_with fail
   rw[<-bV.o];refine U11 (v:=.tuple #[T,.int .i64 (m2+1:Nat),f0]) (by simp[results,results46,go_sem,p0,p1,pf,pl]) rfl ⟨rfl,by have:=lT.o;omega,by simpa using rC,_,_,ac,((ia.o.setCell xb _).setCell xb _).drew,?_,((cJ.o.setCell (.inr (U12 _)) _).setCell (.inr (U12 _)) _).drew,λ k hk=>(d8.o k hk).imp id (λ e=>by have:=fy.o;omega)⟩;rw[O6f _ T rT _ _ AX.o];rfl
  have dt:=Gt.o;rw[U1b bD]at dt;obtain⟨gk,rfl⟩:∃f,gk=f+1:=by
   cases gk with
   |zero=>exact absurd dt.symm th.o
   |succ f=>exact⟨f,rfl⟩
  rw[V21]at dt;have Bo:=U10 dt;clear dt;cases b with
  |true =>
   have bz:(((V9 (bs s) m2:Nat):Int) != 125)=true:=by simp;simp at bD;omega
   obtain⟨q0,q1,qf,ql⟩:=e9.o;clear bD;go_wp2_with fail;refine (O25 wr R s gO m2 m2 rfl).mono ?_;refine Z44 ?_;go_wp2_with fail;clear q0 q1 qf ql tP tQ gO tR tS bz;exact J198
  |false =>
   obtain⟨q0,q1,qf,ql⟩:=e9.o;clear bD;go_wp2_with fail;clear q0 q1 qf ql tP tQ gO tR tS;exact J198
end
section
open Pl Go.Proofs.Tryz Go.RowKit Go.Shelf Go.Joins
attribute [local go_sem] U28
variable {Tb:Nat->UInt8×UInt8}
theorem Oln(E:V19)(hE:O2r Tb E)(Jd:E.scal=Vl)(s:ByteArray)(hs:s.size<=20000000)(R B base:Nat)(root:Int):∀f,O6e Tb s R B base root (Vv E (bs s) f):=by
 intro f
 induction f with
 |zero =>
  intro w nv L own h hg n d hn hd X hX a8;exact absurd hX.symm a8
 |succ f ih =>
  intro w nv L own h hg n d hn hd X hX a8;obtain⟨c0,c1,c2,c3,fz⟩:=h.cells;have hR:=h.R_lt;have bO:¬FV own w.heap.size:=h.not_new (U12 _);have ga:=(Gr.refl w).alloc (.cells #[(0:Int),(0:Int)] 29);have aN:=U10 (h.gr ga);have dn:=U10 (hg.gr ga);have HN:=U10 a8;obtain⟨c,hc⟩:=ExZ (V9 (bs s) n)
  have HC:=U10 hc;rw[Vv]at hX;simp only[hc]at hX;by_cases h1:c=34\/c=39
  rw[U18 h1]at hX;have HX:=U10 hX;clear hX hc ga h hg c0 c1 c3 fz a8;by_cases dT:c=34
  have b1:((c:Int)==34)=true:=Ye
  exact J197
  have b1:((c:Int)==34)=false:=Ye;have b2:((c:Int)==39)=true:=Ye
  exact J197
  rw[U1b h1]at hX;have b1:((c:Int)==34)=false:=Ye
  have b2:((c:Int)==39)=false:=Ye
  by_cases vH:c=91
  ·rw[U18 vH]at hX;have b3:((c:Int)==91)=true:=by simp;omega
   have HX:=U10 hX;have HB:Hid (V9 (bs s) n=91):=by rw[<-vH];exact hc
   clear hX hc ga h hg c0 c1 c3 fz a8 h1 vH;go_enter func24,ntmps24;go_wp2_with fail;refine Z142 ?_;refine Z44 ?_;rw[HC.o];go_wp2_with fail;refine (Onv s R B base root _ ih _ nv L own aN.o dn.o hs d n HB.o X HX.o HN.o).mono ?_;exact J98
  rw[U1b vH]at hX;have b3:((c:Int)==91)=false:=Ye
  by_cases qG:c=123
  ·rw[U18 qG]at hX;have b4:((c:Int)==123)=true:=by simp;omega
   have HX:=U10 hX;have HB:Hid (V9 (bs s) n=123):=by rw[<-qG];exact hc
   clear hX hc ga h hg c0 c1 c3 fz a8 h1 vH qG;go_enter func24,ntmps24;go_wp2_with fail;refine Z142 ?_;refine Z44 ?_;rw[HC.o];go_wp2_with fail;refine (Olf E hE s R B base root _ ih _ nv L own aN.o dn.o hs d n HB.o X HX.o HN.o).mono ?_;exact J98
  rw[U1b qG]at hX;have b4:((c:Int)==123)=false:=Ye
  have HX:=U10 hX;clear hX hc ga h hg c0 c1 c3 fz a8 h1 vH qG;go_enter func24,ntmps24;go_wp2_with fail;refine Z142 ?_;refine Z44 ?_;rw[HC.o];go_wp2_with fail;refine (Oj7 E Jd _ R B base s root nv L own aN.o hs dn.o n d n rfl hn X HX.o HN.o).mono ?_;exact J98
end
section
open Pl Go.Proofs.Tryz Go.RowKit Go.Shelf Go.Joins
attribute [local go_sem] U28
def O1d(r:NdR):NdR:=⟨r.nd,O7 r.kv,O7 r.sv,O7 r.uv⟩
def Opi(g:Nat)(L:List NdR):Prop:=∃own:Nat->Nat,own g=3/\∀(i:Nat) r,L[i]?=some r->Ok own r.kv (4+3*i)/\Ok own r.sv (5+3*i)/\Ok own r.uv (6+3*i)
structure V2q(w:World)(base g:Nat)(L:List NdR):Prop where
 lt:base<=g/\g<w.heap.size
 cell:∀(i:Nat) r,L[i]?=some r->∀(j:Nat) v,(ndV r)[j]?=some v->w.cell? ⟨g,i*7+j,none⟩=some v
 rows:∀(i:Nat) r,L[i]?=some r->V2f w base 9 1 r.kv r.nd.keys.length (Oj r.nd.keys)/\V2f w base 38 2 r.sv r.nd.spots.length (Oc r.nd.spots)/\V2f w base 3 1 r.uv r.nd.subs.length (O8 r.nd.subs)
 tg:Opi g L
theorem V2q.gr{w w':World}{base g:Nat}{L:List NdR}(h:V2q w base g L)(k:Gr w w'):V2q w' base g L :=
 ⟨⟨h.lt.1,U13 h.lt.2 k.size⟩,λ i r hr j v hv=>(k.use.1 _ _ h.lt.2).trans (h.cell i r hr j v hv),λ i r hr=>by
  obtain⟨a,b,c⟩:=h.rows i r hr;exact⟨a.of_block λ k2 e=>k.block (a.lt k2 e).2,b.of_block λ k2 e=>k.block (b.lt k2 e).2,c.of_block λ k2 e=>k.block (c.lt k2 e).2⟩,h.tg⟩
theorem Obb{w:World}{base n:Nat}{v:Value}{xs:List Value}(h:w.ownsRow base 9 1 v n xs)(W:World):Calls prog 21 #[v] W λ e w'=>e=.returned (O7 v)/\W=w':=by
 rcases O1b h with⟨rfl,_⟩|⟨g,cap,rfl,h1,h2⟩
 exact O8t W
 exact O46 g n cap h1 h2 W
theorem O9u{w:World}{base n:Nat}{v:Value}{xs:List Value}(h:w.ownsRow base 38 2 v n xs)(W:World):Calls prog 22 #[v] W λ e w'=>e=.returned (O7 v)/\W=w':=by
 rcases O1b h with⟨rfl,_⟩|⟨g,cap,rfl,h1,h2⟩
 exact O7f W
 exact O5k g n cap h1 h2 W
theorem O4y{w:World}{base n:Nat}{v:Value}{xs:List Value}(h:V2f w base 3 1 v n xs)(W:World):Calls prog 26 #[v] W λ e w'=>e=.returned (O7 v)/\W=w':=by
 rcases Ou h with⟨rfl,_⟩|⟨g,cap,rfl,h1,h2⟩
 exact O8u W
 exact Oam g n cap h1 h2 W
theorem RdV.setRoot{w:World}{R B base:Nat}{s:ByteArray}{root:Int}{nv:Value}{L:List NdR}{own:Nat->Nat}(h:RdV w R B base s root nv L own)(r2:Int):RdV (w.setCell ⟨R,1,none⟩ r2) R B base s r2 nv L own:=by
 have hb:∀k,k≠R->(w.setCell ⟨R,1,none⟩ r2).heap[k]?=w.heap[k]?:=λ k hk=>U14 _ _ _ _ hk
 have ne:∀k t,own k=t->t≠1->k≠R:=λ k t e h3 e2=>by subst e2;have:=h.oR;omega
 obtain⟨D,h1,h2⟩:=h.map;refine⟨by simpa using block_setCell (i:=1) h.blk r2,h.oR,h.oB,O1 h.nodes λ k e=>hb k (ne k _ (h.oN k e) Ya),h.oN,⟨D,Ot h1 (hb B (ne B _ h.oB Ya)),h2⟩,λ i r hr=>?_,λ k hk=>⟨(h.lt k hk).1,by simpa [World.setCell]using (h.lt k hk).2⟩⟩;have hx:=h.rows i r hr;exact⟨O1 hx.k λ k e=>hb k (ne k _ (hx.tk k e) Ya),O1 hx.s λ k e=>hb k (ne k _ (hx.ts k e) Ya),hx.u.of_block λ k e=>hb k (ne k _ (hx.tu k e) Ya),λ h8=>O1 (hx.u8 h8) λ k e=>hb k (ne k _ (hx.tu k e) Ya),hx.tk,hx.ts,hx.tu⟩
theorem RdV.start(w0 w:World)(s:ByteArray)(hz:w0.heap.size<=w.heap.size):RdV ((w.alloc (.map #[] 0)).alloc (.cells #[Vp,(0:Int),.string s,.map (some w.heap.size)] 80)) (w.heap.size+1) w.heap.size w0.heap.size s 0 Vp [] (λ k=>if k=w.heap.size+1 then 1 else if k=w.heap.size then 2 else 0):=by
 refine⟨?_,Yb,?_,Or _ _ _ _,O6x _ _,?_,λ i r hr=>by simp at hr,?_⟩;have:=U1z (w.alloc (.map #[] 0)) (.cells #[Vp,(0:Int),.string s,.map (some w.heap.size)] 80);exact J4;rw[U1b Ya,U18 rfl]
 refine⟨.map [],?_,?_⟩;have h1:(w.alloc (.map #[] 0)).ownsMap prog 3 (plainElem (H:=Unit) prog 3) w.heap.size 0 (.map []):=World.ownsMap_made _ _ _ _;exact Ot h1 (((Gr.refl _).alloc _).block Yb)
 exact⟨⟨[],rfl⟩,λ i _=>rfl,λ i r hr=>by simp at hr⟩
 exact J154
def O6i(s:ByteArray)(w:World)(X:Va (Nat×Nat×Ve))(e:Ending)(w':World):Prop :=
 match X with
 |.non=>True
 |.bad c p=>e=.returned (.tuple #[.agg #[Vp,(0:Int)],(0:Int),fv c p])/\c≠0/\Gr w w'
 |.ok (i,m,st)=>∃g L,e=.returned (.tuple #[.agg #[.slice (some ⟨g,0,none⟩) st.length st.length,i],m,f0])/\m<=s.size/\i<st.length/\L.map (·.nd)=st/\V2q w' w.heap.size g L/\Gr w w'
def V6d(w7:World)(R base g cap:Nat)(L:List NdR)(n:Nat)(wr:World):Prop :=
 wr.ownsRow base 40 7 (.slice g L.length cap) L.length (V3a ((L.take n).map O1d++L.drop n))/\(∀k,k<w7.heap.size->k≠g->wr.heap[k]?=w7.heap[k]?)/\w7.heap.size<=wr.heap.size/\wr.os=w7.os/\wr.tape=w7.tape/\wr.output=w7.output
theorem Odc(L:List NdR)(n:Nat)(r:NdR)(hr:L[n]?=some r):((L.take n).map O1d++L.drop n)[n]?=some r:=by
 have hn:n<L.length:=(U16.1 hr).1;rw[U21 Ye];simp;rw[show n-min n L.length=0 from by omega]
 simpa using hr
theorem Olo(L:List NdR)(n:Nat)(r:NdR)(hr:L[n]?=some r):((L.take n).map O1d++L.drop n).set n (O1d r)=(L.take (n+1)).map O1d++L.drop (n+1):=by
 have hn:n<L.length:=(U16.1 hr).1;have hl:((L.take n).map O1d).length=n:=Ye;rw[U4i _ _ Ya,hl,U3y,U1u hn,U34,U4m,hr];simp
theorem V6d.step{w7 wr:World}{R base g cap n:Nat}{L:List NdR}(h:V6d w7 R base g cap L n wr)(r:NdR)(hr:L[n]?=some r):V6d w7 R base g cap L (n+1) (((wr.setCell ⟨g,n*7+2,none⟩ (O7 r.kv)).setCell ⟨g,n*7+3,none⟩ (O7 r.sv)).setCell ⟨g,n*7+4,none⟩ (O7 r.uv)):=by
 obtain⟨h1,h2,h3,h4,h5,h6⟩:=h;have hn:n<L.length:=(U16.1 hr).1;refine⟨?_,λ k hk hg=>?_,by simpa [World.setCell]using h3,h4,h5,h6⟩
 have ad:(V3a ((L.take n).map O1d++L.drop n)).length=L.length*7:=by rw[O4f];simp;omega
 have ei:=Odc L n r hr;have e1:=Ox h1 (n*7+2) Ya (O7 r.kv);have e2:=Ox e1 (n*7+3) (by rw[U2k];omega) (O7 r.sv);have e3:=Ox e2 (n*7+4) (by rw[U2k,U2k];omega) (O7 r.uv);obtain⟨M,hM⟩:=ExZ ((L.take n).map O1d++L.drop n)
 rw[hM]at e3 ei;have MW:n<M.length:=(U16.1 ei).1;have f1:=O1y M n 2 Ya (O7 r.kv) r ⟨r.nd,O7 r.kv,r.sv,r.uv⟩ ei rfl;have f2:=O1y (M.set n ⟨r.nd,O7 r.kv,r.sv,r.uv⟩) n 3 Ya (O7 r.sv) ⟨r.nd,O7 r.kv,r.sv,r.uv⟩ ⟨r.nd,O7 r.kv,O7 r.sv,r.uv⟩ (by simp[MW]) rfl;have f3:=O1y ((M.set n ⟨r.nd,O7 r.kv,r.sv,r.uv⟩).set n ⟨r.nd,O7 r.kv,O7 r.sv,r.uv⟩) n 4 Ya (O7 r.uv) ⟨r.nd,O7 r.kv,O7 r.sv,r.uv⟩ (O1d r) (by simp[MW]) rfl;rw[f1,f2,f3,List.set_set,List.set_set,<-hM,Olo L n r hr]at e3;exact e3
 rw[U14 _ _ _ _ hg,U14 _ _ _ _ hg,U14 _ _ _ _ hg];exact h2 k hk hg
variable {Tb:Nat->UInt8×UInt8}
structure RW(Tb:Nat->UInt8×UInt8)(w:World):Prop where
 int:V4d w
 q:QW Tb w
theorem RW.gr{w w':World}(h:RW Tb w)(g:Gr w w'):RW Tb w':=⟨h.int.gr g,h.q.gr g⟩
theorem GW.of{w:World}(h:V4d w)(hq:QW Tb w):GW Tb w.heap.size w:=by
 obtain⟨ev,pq,_⟩:=hq.es;obtain⟨m,hm⟩:=h.max;obtain⟨ep,he⟩:=h.err;refine⟨h,hq,Lib.lt_of_cell pq,Lib.lt_of_cell (hq.sh 0 _ rfl),?_,Lib.lt_of_cell hm,Lib.lt_of_cell he,?_⟩
 obtain⟨v0,nN⟩:∃v0,V5g[0]?=some v0:=⟨_,rfl⟩
 exact Lib.lt_of_cell (h.rad 0 v0 nN)
 have hp:=h.pow;have li:prog.globalNamed "internal/strconv.uint64pow10" = some 2:=Yc
 unfold Lib.TabIs World.var? at hp;rw[li]at hp;simp only[Option.bind_some]at hp;exact J11
theorem Odf{w:World}{base e size n:Nat}{v:Value}{xs:List Value}(h:w.ownsRow base e size v n xs):∃a k,O7 v=.slice a k k:=by
 rcases O1b h with⟨rfl,_⟩|⟨g,cap,rfl,_,_⟩
 exact⟨_,_,rfl⟩
 exact⟨_,_,rfl⟩
theorem O4a{w:World}{base e size n:Nat}{v:Value}{xs:List Value}(h:V2f w base e size v n xs):∃a k,O7 v=.slice a k k:=by
 rcases Ou h with⟨rfl,_⟩|⟨g,cap,rfl,_,_⟩
 exact⟨_,_,rfl⟩
 exact⟨_,_,rfl⟩
def O5q(g i:Nat)(r:NdR)(w:World):Prop:=w.cell? ⟨g,i*7+2,none⟩=some r.kv/\w.cell? ⟨g,i*7+3,none⟩=some r.sv/\w.cell? ⟨g,i*7+4,none⟩=some r.uv/\(∀o,w.frozen? ⟨g,o,none⟩=false)
theorem FX.other{b:Nat}{x y:Value}{w:World}(h:FX b x y w){b2 o:Nat}(hb:b2≠b)(v:Value):FX b x y (w.setCell ⟨b2,o,none⟩ v):=by
 obtain⟨h0,h1,hf,hl⟩:=h;refine⟨?_,?_,λ o=>by simp[hf],by simpa using hl⟩
 ·rw[U1p _ _ _ _ Yf];exact h0
 rw[U1p _ _ _ _ Yf];exact h1
theorem V6d.gr{w w7 wr:World}{R base g cap n:Nat}{L:List NdR}(h:V6d w7 R base g cap L n wr)(k:Gr w w7)(hg:w.heap.size<=g):Gr w wr :=
 Below.trans k ⟨h.2.2.2.1,h.2.2.2.2.1,h.2.2.2.2.2,h.2.2.1,λ i hi=>h.2.1 i (U13 hi k.size) Ya⟩
theorem V6d.cells{w7 wr:World}{R base g cap n:Nat}{L:List NdR}(h:V6d w7 R base g cap L n wr)(r:NdR)(hr:L[n]?=some r):O5q g n r wr:=by
 have hc:=h.1.cells (g:=g) rfl;have hj:∀j u,j<7->(ndV r)[j]?=some u->wr.cell? ⟨g,n*7+j,none⟩=some u:=by
  intro j u hj hu;have:=hc (n*7+j) u (by rw[O7m _ _ _ hj,Odc L n r hr];exact hu)
  rwa [U4g,U1q]at this
 refine⟨hj 2 _ Ya rfl,hj 3 _ Ya rfl,hj 4 _ Ya rfl,λ o=>?_⟩;rcases h.1.2 with⟨e,_⟩|⟨g',pm,cur,e,_,hb,_⟩
 cases e
 cases e;exact unfrozen_of_block hb o
theorem V6d.tree{w7 wr wF:World}{R B base g cap:Nat}{s:ByteArray}{root:Int}{L:List NdR}{own:Nat->Nat}(h:V6d w7 R base g cap L L.length wr)(hr:RdV w7 R B base s root (.slice g L.length cap) L own)(hb:∀k,own k≠0->own k≠1->wF.heap[k]?=wr.heap[k]?)(hz:wr.heap.size<=wF.heap.size):V2q wF base g (L.map O1d):=by
 have dI:own g=3:=hr.oN g rfl;have aZ:=hr.lt g Ya;have e:(L.take L.length).map O1d++L.drop L.length=L.map O1d:=Yb;have h1:=h.1;rw[e]at h1;refine⟨⟨aZ.1,U13 aZ.2 (U1k h.2.2.1 hz)⟩,λ i r hi j v hv=>?_,λ i r hi=>?_,own,dI,λ i r hi=>?_⟩;exact J75
 ·rw[U1m]at hi;cases hx:L[i]? with
  |none=>rw[hx]at hi;cases hi
  |some x =>
  rw[hx]at hi;cases hi;have hR:=hr.rows i x hx;have hb:∀k t,own k=t->4<=t->wF.heap[k]?=w7.heap[k]?:=λ k t e h4=>(hb k Ya Ya).trans (h.2.1 k (hr.lt k Ya).2 (λ e2=>by subst e2;omega))
  exact⟨O2l (O1 hR.k λ k e=>hb k _ (hR.tk k e) Ya),O2l (O1 hR.s λ k e=>hb k _ (hR.ts k e) Ya),O3o (hR.u.of_block λ k e=>hb k _ (hR.tu k e) Ya)⟩
 exact J139
theorem FX.of_block{b:Nat}{x y:Value}{w w':World}(h:FX b x y w)(hb:w'.heap[b]?=w.heap[b]?)(hz:w.heap.size<=w'.heap.size):FX b x y w' :=
 ⟨(U1r (w:=w) (a:=b) hb).trans h.1,(U1r (w:=w) (a:=⟨b,1,none⟩) hb).trans h.2.1,λ o=>(U33 (w:=w) (a:=⟨b,o,none⟩) hb).trans (h.2.2.1 o),U13 h.2.2.2 hz⟩
def Vbo(R F:Nat)(a b:Value)(w:World):Prop:=w.cell? R=some a/\w.cell? ⟨R,1,none⟩=some b/\FX F (0:Int) (0:Int) w
theorem O9v(w:World)(hw:RW Tb w)(s:ByteArray)(hs:s.size<=20000000)(i:Int)(n:Nat)(hi:i=n)(hn:n<=s.size)(jc:Int)(k:Nat)(hk:(min (max jc 0) 256:Int)=k)(X:Va (Nat×Nat×Ve))(hX:V1j ⟨Vu Tb,Vl⟩ (bs s) n k=X)(a8:X≠.non):Calls prog 10 #[.string s,i,jc] w (O6i s w X):=by
 subst hi;have MX:k<=256:=Ya
 unfold V1j at hX;rw[show min k 256+1=k+1 from by omega]at hX;have HX:=U10 hX;have HN:=U10 a8;have HG:=U10 (GW.of hw.int hw.q);have t0:decide ((n:Int)<0)=false:=Yb
 have t1:decide ((s.size:Int)<(n:Int))=false:=Ye;have t2:decide (s.size<n)=false:=Ye;refine Z267 ?_;intro wk;have R5 := @run_makeMap prog;clear hX a8 hw;go_enter func10,ntmps10;go_wp2_with fail;have bL:=RdV.start w ((w.alloc (.cells #[Vp,(0:Int)] 26)).alloc (.cells #[(0:Int),(0:Int)] 29)) s Ye;simp only[U1s]at bL;obtain⟨W0,aI⟩:=ExZ (((((w.alloc (.cells #[Vp,(0:Int)] 26)).alloc (.cells #[(0:Int),(0:Int)] 29)).alloc (.map #[] 0)).alloc (.cells #[Vp,(0:Int),.string s,.map (some (w.heap.size+1+1))] 80)))
 have ei:Gr w W0:=by subst aI;exact ((((Gr.refl w).alloc _).alloc _).alloc _).alloc _
 have Fh:FX w Vp (0:Int) W0:=by
  subst aI;exact (((FX.new w Vp (0:Int) _).gr ((Gr.refl _).alloc _)).gr ((Gr.refl _).alloc _)).gr ((Gr.refl _).alloc _)
 have kb:FX (w.heap.size+1) (0:Int) (0:Int) W0:=by
  subst aI;have:=FX.new (w.alloc (.cells #[Vp,(0:Int)] 26)) (0:Int) (0:Int) 29;simp only[U1s]at this;exact (this.gr ((Gr.refl _).alloc _)).gr ((Gr.refl _).alloc _)
 have dL:w.heap.size+4<=W0.heap.size:=by subst aI;simp
 rw[aI]at bL⊢;obtain⟨uj,qH⟩:∃o:Nat->Nat,(λ k=>if k=w.heap.size+1+1+1 then 1 else if k=w.heap.size+1+1 then 2 else 0)=o:=⟨_,rfl⟩
 have az:∀k,uj k≠0->w.heap.size+2<=k:=by
  subst qH;intro k hk;by_cases h1:k=w.heap.size+1+1+1;omega
  simp only[h1,U2c]at hk;by_cases h2:k=w.heap.size+1+1;omega
  simp only[h2,U2c]at hk;exact absurd rfl hk
 rw[qH]at bL;obtain⟨R,A4⟩:=ExZ (w.heap.size+1+1+1)
 obtain⟨B,MY⟩:=ExZ (w.heap.size+1+1)
 rw[A4]at bL⊢;rw[MY]at bL⊢;have UG:w.heap.size+3=R:=Ya
 clear aI qH A4 MY;have iJ:¬FV uj w.heap.size:=λ h=>by have:=az _ h;omega
 have n8:¬FV uj (w.heap.size+1):=λ h=>by have:=az _ h;omega
 refine (show Calls prog 24 #[.pointer (some ⟨R,0,none⟩),.int .i64 (n:Int),.int .i64 ((k:Int)+1)] W0 _ from Oln ⟨Vu Tb,Vl⟩ rfl rfl s hs R B w.heap.size 0 258 W0 Vp [] uj bL (HG.o.gr ei) n (k+1) hn Ya X HX.o HN.o).mono ?_;cases X with
 |non=>exact absurd rfl HN.o
 |bad c p =>
  rintro e w1 ⟨rfl,hc,F',a9,x0,x1,x2,x3,nD⟩;have r1:w1.cell? ⟨R,1,none⟩=some x1:=by rw[cell_of_block nD];rfl
  have Je:∀o,w1.frozen? ⟨R,o,none⟩=false:=λ o=>unfrozen_of_block nD o
  have CI:=Fh.st a9 iJ;have d9:=kb.st a9 n8;have ud:=U10 ((d9.other (b2:=R) (o:=1) Ya (0:Int)).set c p);have gd:=U10 (((CI.other (b2:=R) (o:=1) Ya (0:Int)).other (b2:=w.heap.size+1) (o:=0) Ya c).other (b2:=w.heap.size+1) (o:=1) Ya p);have qI:Gr w w1:=a9.below ei (λ k hk=>by have:=az k hk;omega);have oT:=U10 qI;obtain⟨pR,pS,ff,fl⟩:=d9;have kR:¬(c:Int)=0:=Ya;have HC:=U10 hc;clear a9 CI nD qI hc bL Fh kb;go_wp2_with fail;refine Z231 ?_;intro w2 g2;obtain⟨u0,u1,uf,ul⟩:=ud.o.gr g2;obtain⟨v0,v1,vf,vl⟩:=gd.o.gr g2;refine Z158 ?_;intro oQ;clear g2 pR pS ff fl r1 Je;have R6:=oQ.o;go_wp2_with fail
  go_region
  all_goals go_wp2_with fail
  all_goals exact U11 (v:=.tuple #[.agg #[Vp,(0:Int)],(0:Int),fv c p]) (by simp[results,results10,go_sem,u0,u1,uf,ul,v0,v1,vf,vl]) rfl ⟨rfl,HC.o,Gr.auto⟩
 |ok r =>
  obtain⟨i,m,st⟩:=r;rintro e w1 ⟨rfl,hm,hi,ki,L1,aA,aS,rfl,a9,bB⟩;rw[U1n]at hi;have mn:∀k,aA k≠0->w.heap.size+2<=k:=λ k hk=>by
   rcases bB k hk with e|e
   exact az k e
   omega
  have IB:¬FV aA w.heap.size:=λ h=>by have:=mn _ h;omega
  have rR:¬FV aA (w.heap.size+1):=λ h=>by have:=mn _ h;omega
  have CI:=Fh.st a9 iJ;have d9:=kb.st a9 n8;obtain⟨r0,r1,r2,r3,Je⟩:=aS.cells;have ud:=U10 ((d9.other (b2:=R) (o:=1) Ya i).set (0:Int) (0:Int));have gd:=U10 (((CI.other (b2:=R) (o:=1) Ya i).other (b2:=w.heap.size+1) (o:=0) Ya (0:Int)).other (b2:=w.heap.size+1) (o:=1) Ya (0:Int));have aP:=U10 (((aS.setRoot i).setCell (p:=⟨w+1,0,none⟩) rR (0:Int)).setCell (p:=⟨w+1,1,none⟩) rR (0:Int));have qI:Gr w w1:=a9.below ei (λ k hk=>by have:=az k hk;omega);have oT:=U10 qI;obtain⟨pR,pS,ff,fl⟩:=d9;have CJ:=U10 mn;clear a9 CI qI bB bL Fh kb r0 r2 r3 mn az aS;go_wp2_with fail;refine Z153 ?_;intro w2 g2;have Fi:=U10 (ud.o.gr g2);have vO:=U10 (gd.o.gr g2);have oG:=aP.o.gr g2;refine Z158 ?_;intro oQ;obtain⟨g,cap,cur,rfl,px,aZ,dI,nY,ti,lj,dh,Fj,cA,EE⟩:=oG.form Ya;obtain⟨s0,s1,s2,s3,sz⟩:=oG.cells;have kj:V6d w2 R w.heap.size g cap L1 0 w2:=by
   refine⟨?_,λ _ _ _=>rfl,U12 _,rfl,rfl,rfl⟩
   simpa using oG.nodes
  have qJ:=U10 kj;have aW:=U10 oG;have li:w.heap.size+2<=g:=CJ.o g Ya;have R7:L1.length<=9223372036854775807:=by unfold maxLen at cA;omega
  have qK:=U10 (show L1.length<=cap/\cap<=9223372036854775807 from ⟨Fj,by unfold maxLen at cA;omega⟩);clear g2 pR pS ff fl r1 Je lj dh EE kj oG ud gd aP oT Fj cA;go_wp2_with fail
  go_loopw [52] (λ v wr=>∃j:Nat,v=.int .i64 j/\j<=L1.length/\V6d w2 R w.heap.size g cap L1 j wr) (λ v _=>L1.length-(intOf v).toNat)
  case atStart=>exact⟨0,rfl,Ya,qJ.o⟩
  case round =>
   obtain⟨j,rfl,hj,hcut⟩:=hrel;have di:=U10 hcut;have Fk:R≠g:=U3p nY;have xG:=aW.o.R_lt.2;have nD:=hcut.2.1 R xG Fk;have q0:wr.cell? R=some (.slice g L1.length cap):=(U1r (w:=w2) (a:=R) nD).trans s0;have q1:wr.cell? ⟨R,1,none⟩=some (.int .i64 i):=(U1r (w:=w2) (a:=⟨R,1,none⟩) nD).trans s1;have qz:∀o,wr.frozen? ⟨R,o,none⟩=false:=λ o=>(U33 (w:=w2) (a:=⟨R,o,none⟩) nD).trans (sz o)
   clear hcut nD;by_cases vP:j<L1.length
   ·have d1:decide ((j:Int)<(L1.length:Int))=true:=by simp;omega
    have d2:decide (j<L1.length)=true:=Ye;refine Z252 ?_;intro i1;have i2:(j:Int)<(L1.length:Int):=Ya;refine Z194 ?_;intro wj;obtain⟨rj,qL⟩:∃rj,L1[j]?=some rj:=⟨_,U1h vP⟩
    have R8:=U10 qL;have ex:=U10 (aW.o.rows j rj qL);have hS:O5q g j rj wr.drew:=di.o.cells rj qL;have ce:=di.o.step rj qL;obtain⟨ka,kn,CK⟩:=Odf ex.o.k;obtain⟨sa,sn,CM⟩:=Odf ex.o.s;obtain⟨ua,un,CN⟩:=O4a ex.o.u;have kI:=Obb ex.o.k;have yC:=O9u ex.o.s;have yD:=O4y ex.o.u;rw[CK]at kI ce;rw[CM]at yC ce;rw[CN]at yD ce;have iC:=U10 kI;have LJ:=U10 yC;have LK:=U10 yD;have jO:=U10 ce;clear qL ce CK CM CN kI yC yD;go_wp2_with fail;refine Reg.begin' (W:=λ i=>i != 20&&i != 23&&i != 26) (S:=O5q g j rj) Yc ?_;refine Z302 ?_;obtain⟨p1,p2,p3,pf⟩:=(show O5q g j rj wr from hS)
    exact J167
   have d1:decide ((j:Int)<(L1.length:Int))=false:=Ye;have d2:decide (j<L1.length)=false:=Ye;have Jf:j=L1.length:=Ya;have R9:w.heap.size≠g:=Ya;have GU:w.heap.size+1≠g:=Ya;have Ra:=U10 (vO.o.of_block (di.o.2.1 _ vO.o.2.2.2 R9) di.o.2.2.1);have At:=U10 (Fi.o.of_block (di.o.2.1 _ Fi.o.2.2.2 GU) di.o.2.2.1);have Jg:=U10 (di.o.gr oQ.o Ya);have Rb:R≠w.heap.size:=Ya;have Rc:R≠w.heap.size+1:=Ya;go_wp2_with fail;refine (O8v g L1.length cap qK.o.1 qK.o.2 _).mono ?_;refine Z44 ?_;go_wp2_with fail;obtain⟨wS,fA⟩:=ExZ (wr.setCell R (.slice g L1.length L1.length))
   have hS:Vbo R (w.heap.size+1) (.slice g L1.length L1.length) i wS.drew:=by
    subst fA;refine⟨?_,?_,At.o.other Rc _⟩;show (wr.setCell R _).cell? _=_;rw[U2v _ _ _ (by rw[q0];rfl)]
    show (wr.setCell R _).cell? _=_;rw[U1p _ _ _ _ Yb];exact q1
   have Rd:FX w Vp (0:Int) wS.drew:=by subst fA;exact Ra.o.other Rb _
   have Jh:Hid (Gr w wS):=by subst fA;exact Jg.o.setCell (p:=R) (by show w.heap.size<=R;omega) _
   have Re:Hid (∀k,aA k≠0->aA k≠1->wS.drew.heap[k]?=wr.heap[k]?):=by
    subst fA;intro k h0 h1;exact U14 _ _ _ _ (λ e=>by rw[show k=R from e]at h1;exact h1 aW.o.oR)
   have Eo:Hid (wr.heap.size<=wS.drew.heap.size):=by subst fA;show wr.heap.size<=(wr.setCell _ _).heap.size;simp[World.setCell]
   rw[fA];clear fA q0 q1 qz;refine Reg.begin' (W:=λ i=>i != 8) (S:=Vbo R (w.heap.size+1) (.slice g L1.length L1.length) i) Yc ?_;refine Z31 ?_;refine Reg.ty 4 ?_;refine Reg.tl 3 hS ?_ (hy:=by intro w ab;obtain⟨x1,x2,x3,x4,x5,x6⟩:=ab;go_simp;try with_reducible rfl);refine Reg.tl 5 hS ?_ (hy:=by intro w ab;obtain⟨x1,x2,x3,x4,x5,x6⟩:=ab;go_simp;try with_reducible rfl);obtain⟨p1,p2,p3,p4,p5,p6⟩:=(show Vbo R (w.heap.size+1) (.slice g L1.length L1.length) i wS from hS)
   obtain⟨v0,v1,vf,vl⟩:=(show FX w Vp (0:Int) wS from Rd)
   refine Reg.on 6 ?_;go_simp;have bi:Vbo R (w.heap.size+1) (.slice g L1.length L1.length) i ((wS.drew.setCell w (.slice g L1.length L1.length)).setCell ⟨w,1,none⟩ i):=by
    refine⟨?_,?_,(hS.2.2.other Ya _).other Ya _⟩
    ·rw[U1p _ _ _ _ Yf,U1p _ _ _ _ Yf];exact p1
    rw[U1p _ _ _ _ Yf,U1p _ _ _ _ Yf];exact p2
   refine Z239 ?_;refine Reg.ty 7 ?_;refine Reg.on 8 ?_;go_simp;refine Z12 ?_;go_wp2_with fail;refine U11 (v:=.tuple #[.agg #[.slice g L1.length L1.length,i],m,f0]) (by simp[results,results10,go_sem,p3,p4,p5,p6,v0,v1,vf,vl]) rfl ?_;refine⟨g,L1.map O1d,Yb,hm,by simpa using hi,by simp[U47,Function.comp_def,O1d],?_,?_⟩
   have MZ:=di.o;rw[Jf]at MZ;refine MZ.tree aW.o (λ k h0 h1=>?_) ?_
   have dp:k≠w.heap.size:=λ e=>IB (by rw[<-e];exact h0)
   have bx:k≠w.heap.size+1:=λ e=>rR (by rw[<-e];exact h0)
   show (World.setCell _ _ _).heap[k]?=_;rw[U14 _ _ _ _ bx,U14 _ _ _ _ bx,U14 _ _ _ _ dp,U14 _ _ _ _ dp];exact Re.o k h0 h1
   have:=Eo.o
   simpa [World.setCell]using this
   have dh:=Jh.o;exact Gr.auto
end
