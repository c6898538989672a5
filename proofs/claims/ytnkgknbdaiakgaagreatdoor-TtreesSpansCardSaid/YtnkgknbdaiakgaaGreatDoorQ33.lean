/- The proof's part 33. -/
import Derived.Test.YtnkgknbdaiakgaaGreatDoorQ32
set_option maxHeartbeats 16000000
set_option linter.all false
set_option maxRecDepth 100000
namespace Go.Proofs.YtnkgknbdaiakgaaGreatDoor
section
open Pl Go.Proofs.Tryz Go.RowKit Go.Shelf Go.Joins
attribute [local go_sem] U22
variable {Tb:Nat->UInt8×UInt8}
theorem On2(E:Vv)(hE:O2l Tb E)(w:World)(R B base:Nat)(s:ByteArray)(root:Int)(V:V1n)(hV:O5w Tb s R B base root V)(nv:Value)(L:List Vy)(own:Nat->Nat)(h:RdV w R B base s root nv L own)(hg:GW Tb base w)(hs:s.size<=20000000)(table d n:Nat)(hn:n<=s.size)(hd:d<=256)(ht:table<=30000000)(X:V9 (Nat×Vc))(hX:V1l E V (bs s) table n d (L.map (·.nd))=X)(a8:X≠.non):Calls prog 76 #[.pointer (some ⟨R,0,none⟩),table,n,d] w (O7b s R B base root own w X):=by
 cases hk:V1q E (bs s) n with
 |non=>unfold V1l at hX;rw[hk]at hX;exact absurd hX.symm a8
 |bad c p =>
  unfold V1l at hX;rw[hk]at hX;subst hX;exact Odj E hE w R B base s root nv L own h hg hs table d n hn c p hk
 |ok r =>
  obtain⟨ws,m⟩:=r;exact Ofh E hE w R B base s root V hV nv L own h hg hs table d n hn hd ht ws m hk X hX a8
theorem Okm:∀(f:Nat)(l:Pl.Bs)(c p:Nat),V4r f l=.bad c p->c=3:=by
 intro f
 induction f with
 |zero=>intro l c p h;cases h
 |succ f ih =>
  intro l c p h;unfold V4r at h;cases hs:V1x l with
  |bad c2 p2 =>
   rw[hs]at h;cases h;unfold V1x at hs;dsimp only at hs
   split at hs <;> cases hs
   rfl
  |ok n =>
   rw[hs]at h;cases n with
   |zero=>cases h
   |succ n =>
    simp only at h;cases hf:V4r f (l.drop (n+1)) with
    |bad c2 p2=>rw[hf]at h;cases h;exact ih _ _ _ hf
    |ok k=>rw[hf]at h;cases h
theorem Ofi(l:Pl.Bs)(n c p:Nat)(h:Vt l n=.bad c p):c=3:=by
 unfold Vt Pl.gap at h;cases hf:V4r ((l.drop n).length+1) (l.drop n) with
 |bad c2 p2=>rw[hf]at h;cases h;exact Okm _ _ _ _ hf
 |ok k=>rw[hf]at h;cases h
theorem O93(s:ByteArray)(i:Int)(n0:Nat)(hi:i=n0)(iY:n0<=s.size)(hs:s.size<=20000000)(w:World):Calls prog 75 #[.string s,i] w λ e w'=>∃m c p:Nat,e=.returned (.tuple #[m,fv c p])/\m<=s.size/\((Vt (bs s) n0=.ok m/\c=0/\p=0)\/(Vt (bs s) n0=.bad c p/\c≠0))/\Gr w w':=by
 refine (Oob s i n0 hi iY Ya w).mono ?_;rintro e w' ⟨h,g⟩;cases hg:Vt (bs s) n0 with
 |ok m =>
  rw[hg]at h;obtain⟨rfl,hm⟩:=h;exact⟨m,0,0,rfl,hm,.inl ⟨rfl,rfl,rfl⟩,g⟩
 |bad c p =>
  rw[hg]at h;subst h;exact⟨0,c,p,rfl,Ya,.inr ⟨rfl,by have:=Ofi _ _ _ _ hg;omega⟩,g⟩
theorem O5e{w:World}{base n:Nat}{v:Value}{xs:List Value}(h:w.ownsRow base 3 1 v n xs)(W:World):Calls prog 26 #[v] W λ e w'=>e=.returned (O3 v)/\W=w':=by
 rcases O17 h with⟨rfl,_⟩|⟨g,cap,rfl,h1,h2⟩
 exact O87 W
 exact O9z g n cap h1 h2 W
theorem Oaj{w:World}{base n:Nat}{a:Option Addr}{k c:Nat}{xs:List Value}(h:w.ownsRow base 3 1 (.slice a k c) n xs)(W:World):Calls prog 26 #[.slice a k c] W λ e w'=>e=.returned (.slice a k k)/\W=w':=O5e h W
def O8a(subs:List Nat)(a b:Nat)(uv:Value):Vy:=⟨V4e subs a b,Vo,Vo,uv⟩
theorem Oa0(W:World)(R B base:Nat)(s:ByteArray)(root:Int)(nv:Value)(L:List Vy)(own:Nat->Nat)(h:RdV W R B base s root nv L own)(hr:Pl.room (L.map (·.nd))=true)(uv:Value)(subs:List Nat)(ho:W.ownsRow base 3 1 uv subs.length (O6 subs))(h0:∀b,uv.ownBlock=some b->own b=0)(a b:Nat)(b':Int)(hb:b'=b):Calls prog 74 #[.pointer (some ⟨R,0,none⟩),.agg #[.int .u8 7,.string ⟨#[]⟩,Vo,Vo,O3 uv,a,b']] W λ e w' => e=.returned L.length/\∃nv' own',RdV w' R B base s root nv' (L++[O8a subs a b (O3 uv)]) own'/\St (λ k=>FV own k\/uv.ownBlock=some k) (FV own') W w'/\(∀k,own' k≠0->own k≠0\/uv.ownBlock=some k\/W.heap.size<=k):=by
 have hl:L.length<=30000000:=by simp[Pl.room]at hr;omega
 subst hb;have h1:(O3 uv).oneCell'=true:=by
  rcases O17 ho with⟨rfl,_⟩|⟨g,cap,rfl,_,_⟩ <;> rfl
 have h2:(O3 uv).ownBlock=uv.ownBlock:=O2v uv;refine (O8y W R B base s root nv L own h hl (O8a subs a b (O3 uv)) h1 rfl rfl rfl rfl rfl (O2d ho) (λ e=>by cases e) (λ k e=>⟨h0 k (by rw[<-h2];exact e),(ho.lt k (by rw[<-h2];exact e)).2⟩) 7 ⟨#[]⟩ Vo Vo (O3 uv) a b (by simp[ndV,O8a,V4e])).mono ?_;rintro e w' ⟨rfl,nv',own',h3,h4,h5⟩;have e2:(O8a subs a b (O3 uv)).uv.ownBlock=uv.ownBlock:=h2;rw[e2]at h4 h5;exact⟨rfl,nv',own',h3,h4,h5⟩
def Pl.listEnd(n:Nat)(Y:V9 (List Nat×Nat×Vc)):V9 (Nat×Nat×Vc):=match Y with
 |.non => .non
 |.bad c p => .bad c p
 |.ok (subs,e,st1)=>if Pl.room st1 then .ok (st1.length,e+1,st1++[V4e subs n (e+1)]) else .non
def Op6(s:ByteArray)(R B base:Nat)(root:Int)(V:V1n)(d:Nat)(own:Nat->Nat)(w:World)(z0 bF:Nat)(Y:V9 (List Nat×Nat×Vc))(k:Nat)(v7 v9:Value)(wr:World):Prop :=
 (∃(n:Nat)(subs:List Nat)(nv':Value)(L':List Vy)(own':Nat->Nat)(ua:Option Addr)(uc:Nat),v7=.int .i64 n/\v9=.slice ua subs.length uc/\n<=s.size/\RdV wr R B base s root nv' L' own'/\V1f V (bs s) d k n subs (L'.map (·.nd))=Y/\FX bF (0:Int) (0:Int) wr/\GW Tb base wr /\
  St (FV own) (FV own') w wr/\(∀k,own' k≠0->own k≠0\/z0<=k)/\z0<=wr.heap.size/\wr.ownsRow base 3 1 (.slice ua subs.length uc) subs.length (O6 subs)/\(∀b,(Value.slice ua subs.length uc).ownBlock=some b->own' b=0/\z0<=b)) \/
 (∃(m c p:Nat)(F':Nat->Prop),v7=.int .i64 m/\c≠0/\Y=.bad c p/\FX bF c p wr/\St (FV own) F' w wr/\RK R wr)
theorem On3(s:ByteArray)(R B base:Nat)(root:Int)(V:V1n)(hV:O5w Tb s R B base root V)(w:World)(nv:Value)(L:List Vy)(own:Nat->Nat)(h:RdV w R B base s root nv L own)(hg:GW Tb base w)(hs:s.size<=20000000)(d n:Nat)(hb:Va (bs s) n=91)(X:V9 (Nat×Nat×Vc))(hX:V2a V (bs s) d n (L.map (·.nd))=X)(a8:X≠.non):Calls prog 45 #[.pointer (some ⟨R,0,none⟩),n,d] w (O4l s R B base root own w X):=by
 have hn:n<s.size:=U3a λ aP=>by rw[O12 s n Ya]at hb;omega
 obtain⟨c0,c1,c2,c3,fz⟩:=h.cells;have hR:=h.R_lt;have H:=U10 h;have HG:=U10 hg;have HV:=U10 hV;have bT:¬FV own w.heap.size:=h.not_new (U12 _);unfold V2a at hX;have w1:IntKind.i64.wrap ((n:Int)+1)=(n:Int)+1:=U1k _ ⟨Ya,Ya⟩;by_cases hH:256<d
 ·rw[U1a hH]at hX;subst hX;have b1:decide ((256:Int)<(d:Int))=true:=by simp;omega
  clear c0 c1 c2 c3 fz h hg hV hb hH;go_enter func45,ntmps45;go_wp2_with fail;exact U11 (v:=.tuple #[(0:Int),(0:Int),fv 4 n]) (by simp[results,results45,go_sem]) rfl ⟨rfl,Ya,FV own,St.auto,H.o.rk.gr Gr.auto⟩
 rw[U1c hH]at hX;have b1:decide ((256:Int)<(d:Int))=false:=Ye
 have HX:=U10 hX;have HN:=U10 a8;have hd:d<=256:=Ya;clear c0 c1 c3 fz h hg hV hb hH hX a8;go_enter func45,ntmps45;go_wp2_with fail;refine (O93 s _ (n+1) Yb Ya hs _).mono ?_;rintro e Jp ⟨m,c,p,rfl,hm,CW,g1⟩;have dl:=(FX.new w (.int .i64 0) (0:Int) 29).gr g1;obtain⟨z0,fI⟩:=ExZ (Jp.heap.size)
 have az:w.heap.size<z0:=by have:=g1.size;simp at this;omega
 have qZ:=U10 (dl.set c p);have ej:=U10 (Gr.trans ((Gr.refl w).alloc (.cells #[(0:Int),(0:Int)] 29)) g1);have HZ:=U10 fI;have Jq:=U10 CW;obtain⟨f1,f2,f3,f4⟩:=dl;clear g1 fI CW;go_wp2_with fail;obtain⟨Y,hY⟩:∃Y,(match Vt (bs s) (n+1) with
  |.bad c p => .bad c p
  |.ok g=>V1f V (bs s) d ((bs s).length+2) g [] (L.map (·.nd)):V9 (List Nat×Nat×Vc))=Y:=⟨_,rfl⟩
 have FF:Pl.listEnd n Y=X:=by
  rw[<-hY,<-HX.o];cases Vt (bs s) (n+1) <;> rfl
 have EU:=U10 FF;have tL:Hid (Y≠.non):=by
  intro e;rw[e]at FF;exact HN.o FF.symm
 have dK:St (FV own) (FV own) w ((Jp.setCell w c).setCell ⟨w,1,none⟩ p):=(ej.o.st.setCell (.inr (U12 _)) _).setCell (.inr (U12 _)) _;have jC:=U10 dK;have HY:=U10 hY;clear FF hY dK f1 f2 f3 f4
 go_loopg [7,9] ((bs s).length+2) (λ k v7 v9 wr=>Op6 s R B base root V d own w z0 w.heap.size Y k v7 v9 wr)
 case atStart =>
  have hY:=HY.o;rcases Jq.o with⟨og,rfl,rfl⟩|⟨og,hc⟩
  rw[og]at hY;refine .inl ⟨m,[],nv,L,own,none,0,rfl,rfl,hm,?_,hY,qZ.o,?_,jC.o,λ k hk => .inl hk,by simp;exact U41 HZ.o.symm,Ot _ _ _ _,λ b e=>by simp[Value.ownBlock]at e⟩;exact ((H.o.gr ej.o).setCell bT _).setCell bT _
  exact HG.o.st jC.o (λ k hk=>(H.o.lt k hk).1)
  rw[og]at hY;exact .inr ⟨m,c,p,FV own,rfl,hc,hY.symm,qZ.o,jC.o,(((H.o.gr ej.o).setCell bT _).setCell bT _).rk⟩
 case round =>
  rcases hrel with⟨m2,subs,io,L2,ac,ua,uc,rfl,rfl,jM,hr,ca,l9,lK,aa,bL,CX,dG,CY⟩|⟨m2,c2,p2,F2,rfl,aF,mr,l9,aa,gY⟩
  ·-- the fault is none
   obtain⟨gk,rfl⟩:∃f,gk=f+1:=by
    cases gk with
    |zero=>exact absurd ca.symm tL.o
    |succ f=>exact⟨f,rfl⟩
   rw[V1f]at ca;obtain⟨v0,v1,vf,vl⟩:=l9;have eB:=U10 (show FX w (0:Int) (0:Int) wr from ⟨v0,v1,vf,vl⟩);have aO:=U10 hr;have Nj:=U10 ca;have nz:=U10 lK;have fW:=U10 aa;have gG:=U10 bL;have BR:=U10 CX;have r9:=U10 dG;have eD:=U10 CY;have fB:=U10 az;clear hr ca lK aa bL CX dG CY az;go_wp2_with fail;refine Z155 ?_;intro w3 g3;have rc:=U10 (eB.o.gr g3);have bm:=U10 (aO.o.gr g3);have BC:=U10 (nz.o.gr g3);have k9:=U10 (fW.o.gr g3);have Jr:=U10 (U1l BR.o g3.size);have kM:=U10 (O1 r9.o (λ k e=>g3.block (r9.o.lt k e).2));clear g3 v0 v1 vf vl eB aO nz fW BR r9;obtain⟨uw,ux,gX,uy,uz⟩:=bm.o.cells;go_wp2_with fail;refine (O1y w3 R s gX m2 m2 rfl).mono ?_;refine Z48 ?_;have ca:=Nj.o;by_cases hb:Va (bs s) m2=93
   ·rw[U1a hb]at ca;have bJ:(((Va (bs s) m2:Nat):Int) != 93)=false:=by simp;omega
    have mm:Hid (m2<s.size):=U3a λ aP=>by rw[O12 s m2 Ya]at hb;omega
    have ae:=EU.o;rw[<-ca]at ae;simp only[Pl.listEnd]at ae;cases lU:Pl.room (L2.map (·.nd)) with
    |false=>rw[lU,U1c Yb]at ae;exact absurd ae.symm HN.o
    |true =>
    rw[lU,U1a rfl]at ae;have bY:=U10 ae;have CZ:=U10 lU;have sq:=rc;have oV:=bm;have nw:=k9;have dk:=gG;have ER:=Jr;have pU:=kM;clear ae lU ca hb uw ux gX uy uz;obtain⟨p0,p1,pf,pl⟩:=sq.o;go_wp2_with fail;refine Z155 ?_;intro w9 g9;refine Z245 ?_;intro tE pT eU fm Au;clear g9 p0 p1 pf pl;have jP:IntKind.i64.wrap ((m2:Int)+1)=(m2:Int)+1:=U1k _ ⟨by have:=mm.o;omega,by have:=mm.o;omega⟩;go_wp2_with fail;refine Z310 ?_;intro hS;refine (Oa0 w9.drew R B base s root _ _ _ pT.o.drew CZ.o (Value.slice ua subs.length uc) subs (O1 fm.o (λ k e=>(Gr.refl w9).drew.block (fm.o.lt k e).2)) (λ b e=>(eD.o b e).1) n (m2+1) _ Yb).mono ?_;rintro e wJ ⟨rfl,BA,fj,rd,gH,gJ⟩;have wK:¬(FV ac w.heap.size\/((Value.slice ua subs.length uc)).ownBlock=some w.heap.size):=by
     exact J71
    have d6:=hS.st gH wK;refine Z133 ?_;refine Z61 ?_;obtain⟨p0,p1,pf,pl⟩:=d6;have er:∀k,fj k≠0->own k≠0\/z0<=k:=by
     intro k hk;rcases gJ k hk with e|e|e
     exact dk.o k e;exact .inr (eD.o k e).2
     exact .inr (U1l Au (by simpa using e))
    have xV:¬FV fj w.heap.size:=by
     intro hf;rcases er _ hf with e|e
     exact bT e
     have:=fB.o;omega
    have gL:St (FV own) (FV fj) w wJ:=(((eU.o.drew).to (λ i hi=>by
     rcases hi with hi|hi
     exact eU.o.own i hi
     exact .inr (by have:=(eD.o i hi).2;have:=fB.o;omega))).trans gH)
    have Me:=U10 rd;have cQ:=U10 gL;have pQ:=U10 er;clear rd gL er gH gJ wK;refine Reg.on 12 ?_;go_simp;refine Z12 ?_;go_wp2_with fail;refine U11 (v:=.tuple #[.int .i64 (L2).length,.int .i64 (m2+1:Nat),f0]) (by simp[results,results45,go_sem,p0,p1,pf,pl]) rfl ?_;exact J194
   rw[U1c hb]at ca;have bJ:(((Va (bs s) m2:Nat):Int) != 93)=true:=Ye
   obtain⟨q0,q1,qf,ql⟩:=rc.o;refine Z152 ?_;intro wd;have C':=U10 ca;clear ca hb Nj;go_wp2_with fail;have ca:=C'.o;cases hZ:V (d+1) m2 (L2.map (·.nd)) with
   |non=>rw[hZ]at ca;exact absurd ca.symm tL.o
   |bad c p =>
    rw[hZ]at ca;simp only at ca;refine Z213 ?_;refine Z116 ?_;intro w5 hc F5 d7 yh;have kI:¬FV ac w.heap.size:=λ hf=>by
     rcases gG.o _ hf with e|e
     exact bT e
     have:=fB.o;omega
    have gd:=rc.o.st d7 kI;have eB:=U10 (gd.set c p);have kN:=U10 ((((k9.o.trans d7).setCell (p:=w) (.inr (U12 _)) c).setCell (p:=⟨w,1,none⟩) (.inr (U12 _)) p));have bY:Hid (V9.bad c p=X):=by
     exact J70
    have HC:=U10 hc;have pi:=U10 hc;obtain⟨a0,a1,af,al⟩:=gd;have lp:¬(c:Int)=0:=Ya;clear ca d7 hZ hc q0 q1 qf ql uw ux gX uy uz;go_wp2_with fail;refine Z231 ?_;intro w6 g6;have Js:=U10 (eB.o.gr g6);have D0:=U10 (kN.o.gr g6);have re:=U10 (yh.o.gr g6);clear eB kN g6 a0 a1 af al;have eB:=Js;have kN:=D0;have rg:¬(c:Int)=0:=by have:=HC.o;omega
    clear HC;obtain⟨p0,p1,pf,pl⟩:=eB.o;go_wp2_with fail;refine (O1k c p rg _).mono ?_;rintro e w9 ⟨rfl,g9⟩;obtain⟨u0,u1,uf,ul⟩:=eB.o.gr g9;have jA:=kN.o.gr g9;have rh:=re.o.gr g9;clear g9 p0 p1 pf pl;go_wp2_with fail
    go_region
    all_goals go_wp2_with fail
    rw[<-bY.o];exact U11 (v:=.tuple #[(0:Int),(0:Int),fv c p]) (by simp[results,results45,go_sem,u0,u1,uf,ul]) rfl ⟨rfl,pi.o,_,((jA.setCell (.inr (U12 _)) _).setCell (.inr (U12 _)) _).drew,((rh.set Ya _).set Ya _).drew⟩
   |ok r =>
    obtain⟨iv,n2,st2⟩:=r;rw[hZ]at ca;simp only at ca;have oa:subs.length<=30000000:=by
     by_cases aP:30000000<subs.length;rw[U1a aP]at ca;exact absurd ca.symm tL.o
     omega
    rw[U1c Ya]at ca;refine Z213 ?_;rintro e w5 ⟨rfl,oU,yM,EP,L5,cq,vw,rfl,d7,eE⟩;have kI:¬FV ac w.heap.size:=λ hf=>by
     rcases gG.o _ hf with e|e
     exact bT e
     have:=fB.o;omega
    have gd:=rc.o.st d7 kI;have jl:=U10 (gd.set (0:Int) (0:Int));have gh:Hid (∀k,cq k≠0->own k≠0\/z0<=k):=λ k hk=>by
     rcases eE k hk with e|e
     exact gG.o k e
     exact .inr (U1l Jr.o e)
    have vx:¬FV cq w.heap.size:=λ hf=>by
     rcases gh.o _ hf with e|e
     exact bT e
     have:=fB.o;omega
    refine Z75 ?_;intro iO gc;have jd:Hid (∀b,(Value.slice ua subs.length uc).ownBlock=some b->cq b=0/\z0<=b):=λ b e=>by
     refine⟨?_,(eD.o b e).2⟩;by_cases h0:cq b=0;exact h0
     rcases eE b h0 with e2|e2
     exact absurd (eD.o b e).1 e2
     have:=(kM.o.lt b e).2;omega
    have rn:Hid (((w5.setCell w (0:Int)).setCell ⟨w,1,none⟩ (0:Int)).ownsRow base 3 1 (.slice ua subs.length uc) subs.length (O6 subs)) :=
     Od (Od (O1 kM.o (λ k e=>d7.block k (kM.o.lt k e).2 (λ hf=>hf (eD.o k e).1))) (λ k e=>by have:=(eD.o k e).2;have:=fB.o;show k≠w.heap.size;omega) _) (λ k e=>by have:=(eD.o k e).2;have:=fB.o;show k≠w.heap.size;omega) _
    obtain⟨a0,a1,af,al⟩:=gd;have vJ:z0<=w5.heap.size:=U1l Jr.o d7.size;have Jt:=U10 ca;have Nk:=U10 oa;obtain⟨iU,u1,u2,u3,u4⟩:=U3w O4j;have fV:=U10 (And.intro u1 (And.intro u2 (And.intro u3 u4)));clear ca d7 hZ q0 q1 qf ql uw ux gX uy uz vw eE u1 u2 u3 u4 rc bm BC k9 kM C' oa;go_wp2_with fail;refine Z155 ?_;intro w6 g6;have tA:z0<=w6.heap.size:=by have:=g6.size;simp[World.setCell]at this;omega
    have pR:=U10 (jl.o.gr g6);have lj:=U10 (iO.o.gr g6);have iw:=U10 (gc.o.gr g6);have ro:=U10 (O1 rn.o (λ k e=>g6.block (rn.o.lt k e).2));have AS:Hid (∀j u,[Value.int .i64 iv][j]?=some u->(w6.alloc (.cells #[iv] 3)).cell? ((⟨w6,0,none⟩:Addr).add j)=some u):=λ j u hu=>by
     have:=cell_one_new w6 iv 3 j u hu;exact this
    have jm:base<=w6.heap.size:=by have h1:=lj.o.R_lt;omega
    clear g6 a0 a1 af al jl iO gc rn;obtain⟨uv,mo⟩:=ExZ (Value.slice ua subs.length uc)
    rw[mo]at ro jd⊢;clear eD mo;have D1:Hid (∀w7 gb cap,(w6.alloc (.cells #[iv] 3)).grownBy w7 uv.ownBlock->(uv.ownBlock=some gb\/gb=(w6.alloc (.cells #[iv] 3)).heap.size)->w7.ownsRow base 3 1 (.slice (some ⟨gb,0,none⟩) (subs.length+1) cap) (subs.length+1) (O6 subs++[.int .i64 iv]) ->
        RdV w7 R B base s root EP L5 cq/\FX w (0:Int) (0:Int) w7/\St (FV own) (FV cq) w w7/\(cq gb=0/\z0<=gb)/\z0<=w7.heap.size/\w7.ownsRow base 3 1 (.slice (some ⟨gb,0,none⟩) (subs.length+1) cap) (subs++[iv]).length (O6 (subs++[iv]))):=by
     intro w7 gb cap nY FG D2;have uH:St (λ k=>uv.ownBlock=some k) (λ k=>uv.ownBlock=some k) (w6.alloc (.cells #[iv] 3)) w7:=(St.refl _ _).grown nY (λ k e => .inl e);have Ju:=lj.o.alloc (.cells #[iv] 3);refine⟨Ju.kept (λ k hk=>uH.block k (Ju.lt k hk).2 (λ e=>hk (jd.o k e).1)) uH.size,(pR.o.gr ((Gr.refl _).alloc _)).st uH (λ e=>by have:=(jd.o _ e).2;have:=fB.o;omega),(iw.o.alloc _).grown nY (λ k e => .inr (by have:=(jd.o k e).2;have:=fB.o;omega)),?_,?_,by simpa [O6]using D2⟩
     rcases FG with e|e
     exact jd.o gb e
     refine⟨?_,by rw[e];simp;omega⟩;by_cases h0:cq gb=0;exact h0
     have:=(Ju.lt gb h0).2;omega
     have:=uH.size;simp at this;omega
    go_wp2_with (at_builtin;refine wpList_append_lies _ rfl (.tmp 45) (.tmp 47) 36 rfl base 3 iU _ 1 8 underlying36 fV.o.1 fV.o.2.1 fV.o.2.2.1 fV.o.2.2.2 rfl Yd uv subs.length (O6 subs) rfl (ro.o.alloc _) ⟨w6,0,none⟩ 1 1 [.int .i64 iv] rfl Yb AS.o Ym Yd (by have:=Nk.o;unfold maxLen;omega) (by have:=Nk.o;omega) Ye _ rfl ?_;intro gb cap w7 kH nY FG ls;have rp:=U10 (D1.o w7 gb cap nY FG kH);clear kH nY FG ls;have bX:=rp.o.1.cells.2.2.1;obtain⟨p0,p1,pf,pl⟩:=rp.o.2.1);refine (O93 s _ n2 rfl oU hs _).mono ?_;rintro e w8 ⟨m8,c8,p8,rfl,UO,D3,g8⟩;have Rh:∀o,¬FV cq (⟨w,o,none⟩:Addr).block:=λ _=>vx
    obtain⟨a0,a1,af,al⟩:=rp.o.2.1.gr g8;have uI:=U10 ((rp.o.2.1.gr g8).set c8 p8);have AP:=U10 (((rp.o.1.gr g8).setCell (p:=w) vx c8).setCell (p:=⟨w,1,none⟩) vx p8);have iF:=U10 (((rp.o.2.2.1.gr g8).setCell (p:=w) (.inr (U12 _)) c8).setCell (p:=⟨w,1,none⟩) (.inr (U12 _)) p8);have wL:Hid (∀b,(Value.slice gb (subs.length+1) cap).ownBlock=some b->cq b=0/\z0<=b):=λ b e=>by
     simp[Value.ownBlock]at e;subst e;exact rp.o.2.2.2.1
    have uJ:gb≠w.heap.size:=by have:=rp.o.2.2.2.1.2;have:=fB.o;omega
    have mF:Hid (((w8.setCell w c8).setCell ⟨w,1,none⟩ p8).ownsRow base 3 1 (.slice gb (subs.length+1) cap) (subs++[iv]).length (O6 (subs++[iv]))) :=
     Od (Od (O1 rp.o.2.2.2.2.2 (λ k e=>g8.block (rp.o.2.2.2.2.2.lt k e).2)) (λ k e=>by simp[Value.ownBlock]at e;subst e;exact uJ) _) (λ k e=>by simp[Value.ownBlock]at e;subst e;exact uJ) _
    have Cx:z0<=w8.heap.size:=U1l rp.o.2.2.2.2.1 g8.size;have ca:=Jt.o;clear p0 p1 pf pl bX D1 ro lj pR iw jd AS fV g8;rcases D3 with⟨og,rfl,rfl⟩|⟨og,Jv⟩
    ·rw[og]at ca;simp only at ca;have Jw:=U10 ca;clear ca og;go_wp2_with fail;refine Z155 ?_;intro D4 rq;have ru:=U10 (uI.o.gr rq);have AQ:=U10 (AP.o.gr rq);have rv:=U10 (iF.o.gr rq);have lV:=U10 (O1 mF.o (λ k e=>rq.block (mF.o.lt k e).2));have D5:z0<=D4.heap.size:=by have:=rq.size;simp[World.setCell]at this;omega
     have gX:=AQ.o.cells.2.2.1;clear rq uI AP iF mF a0 a1 af al;go_wp2_with fail;refine (O1y D4 R s gX m8 m8 rfl).mono ?_;refine Z48 ?_;have ca:=Jw.o;by_cases hb:Va (bs s) m8=93
     ·rw[U1a hb]at ca;have bJ:(((Va (bs s) m8:Nat):Int)==93)=true:=by simp;omega
      have mm:Hid (m8<s.size):=U3a λ aP=>by rw[O12 s m8 Ya]at hb;omega
      have ae:=EU.o;rw[<-ca]at ae;simp only[Pl.listEnd]at ae;cases lU:Pl.room (L5.map (·.nd)) with
      |false=>rw[lU,U1c Yb]at ae;exact absurd ae.symm HN.o
      |true =>
      rw[lU,U1a rfl]at ae;have bY:=U10 ae;have CZ:=U10 lU;have sq:=ru;have oV:=AQ;have nw:=rv;have dk:=gh;have ER:=U10 D5;have pU:=lV;have eD:=wL;clear ae lU ca hb gX;obtain⟨p0,p1,pf,pl⟩:=sq.o;go_wp2_with fail;refine Z155 ?_;intro w9 g9;refine Z245 ?_;intro tE pT eU fm Au;clear g9 p0 p1 pf pl;have jP:IntKind.i64.wrap ((m8:Int)+1)=(m8:Int)+1:=U1k _ ⟨by have:=mm.o;omega,by have:=mm.o;omega⟩;go_wp2_with fail;refine Z310 ?_;intro hS;refine (Oa0 w9.drew R B base s root _ _ _ pT.o.drew CZ.o (Value.slice gb (subs.length+1) cap) (subs++[iv]) (O1 fm.o (λ k e=>(Gr.refl w9).drew.block (fm.o.lt k e).2)) (λ b e=>(eD.o b e).1) n (m8+1) _ Yb).mono ?_;rintro e wJ ⟨rfl,BA,fj,rd,gH,gJ⟩;have wK:¬(FV cq w.heap.size\/((Value.slice gb (subs.length+1) cap)).ownBlock=some w.heap.size):=by
       exact J71
      have d6:=hS.st gH wK;refine Z133 ?_;refine Z61 ?_;obtain⟨p0,p1,pf,pl⟩:=d6;have er:∀k,fj k≠0->own k≠0\/z0<=k:=by
       intro k hk;rcases gJ k hk with e|e|e
       exact dk.o k e;exact .inr (eD.o k e).2
       exact .inr (U1l Au (by simpa using e))
      have xV:¬FV fj w.heap.size:=by
       intro hf;rcases er _ hf with e|e
       exact bT e
       have:=fB.o;omega
      have gL:St (FV own) (FV fj) w wJ:=(((eU.o.drew).to (λ i hi=>by
       rcases hi with hi|hi
       exact eU.o.own i hi
       exact .inr (by have:=(eD.o i hi).2;have:=fB.o;omega))).trans gH)
      have Me:=U10 rd;have cQ:=U10 gL;have pQ:=U10 er;clear rd gL er gH gJ wK;refine Reg.on 12 ?_;go_simp;refine Z12 ?_;go_wp2_with fail;refine U11 (v:=.tuple #[.int .i64 (L5).length,.int .i64 (m8+1:Nat),f0]) (by simp[results,results45,go_sem,p0,p1,pf,pl]) rfl ?_;exact J194
     rw[U1c hb]at ca;have bJ:(((Va (bs s) m8:Nat):Int)==93)=false:=Ye
     obtain⟨q0,q1,qf,ql⟩:=ru.o;by_cases dE:Va (bs s) m8=44
     ·rw[U1a dE]at ca;have aA:(((Va (bs s) m8:Nat):Int) != 44)=false:=by simp;omega
      have Ri:m8<s.size:=U3a λ aP=>by rw[O12 s m8 Ya]at dE;omega
      have UP:IntKind.i64.wrap ((m8:Int)+1)=(m8:Int)+1:=U1k _ ⟨Ya,Ya⟩;have Jy:=U10 ca;clear ca hb dE;go_wp2_with fail;refine (O1y D4 R s gX m8 m8 rfl).mono ?_;refine Z48 ?_;go_wp2_with fail;refine (O93 s _ (m8+1) Yb Ya hs _).mono ?_;rintro e mG ⟨m9,c9,p9,rfl,Rj,wM,jx⟩;have D6:=U10 wM;have wN:=U10 ((ru.o.gr jx).set c9 p9);have il:=U10 (((AQ.o.gr jx).setCell (p:=w) vx c9).setCell (p:=⟨w,1,none⟩) vx p9);have lW:=U10 (((rv.o.gr jx).setCell (p:=w) (.inr (U12 _)) c9).setCell (p:=⟨w,1,none⟩) (.inr (U12 _)) p9);have ze:Hid (((mG.setCell w c9).setCell ⟨w,1,none⟩ p9).ownsRow base 3 1 (.slice gb (subs.length+1) cap) (subs++[iv]).length (O6 (subs++[iv]))) :=
       Od (Od (O1 lV.o (λ k e=>jx.block (lV.o.lt k e).2)) (λ k e=>by simp[Value.ownBlock]at e;subst e;exact uJ) _) (λ k e=>by simp[Value.ownBlock]at e;subst e;exact uJ) _
      have Jz:z0<=mG.heap.size:=U1l D5 jx.size;obtain⟨r0,r1,rf,rl⟩:=ru.o.gr jx;clear q0 q1 qf ql wM jx gX;go_wp2_with fail
      go_roundg gk
      case measure=>omega
      case rel =>
       have ca:=Jy.o;rcases D6.o with⟨og,rfl,rfl⟩|⟨og,hc⟩
       rw[og]at ca;simp only at ca;refine .inl ⟨m9,subs++[iv],EP,L5,cq,some ⟨gb,0,none⟩,cap,rfl,Yb,Rj,il.o,ca,wN.o,HG.o.st lW.o (λ k hk=>(H.o.lt k hk).1),lW.o,gh.o,by simp[World.setCell];exact Jz,?_,?_⟩;simpa using ze.o
       intro b e;exact wL.o b (by simpa [Value.ownBlock]using e)
       rw[og]at ca;exact .inr ⟨m9,c9,p9,FV cq,rfl,hc,ca.symm,wN.o,lW.o,il.o.rk⟩
     rw[U1c dE]at ca;have aA:(((Va (bs s) m8:Nat):Int) != 44)=true:=Ye
     have bY:Hid (V9.bad 3 m8=X):=by
      exact J70
     clear ca hb dE;go_wp2_with fail;refine (O1y D4 R s gX m8 m8 rfl).mono ?_;refine Z48 ?_;go_wp2_with fail;refine (O3m m8 m8 rfl _).mono ?_;rintro e mG ⟨rfl,jx⟩;obtain⟨u0,u1,uf,ul⟩:=ru.o.gr jx;have gL:=rv.o.gr jx;clear q0 q1 qf ql gX;go_wp2_with fail;rw[<-bY.o];exact U11 (v:=.tuple #[(0:Int),(0:Int),fv 3 m8]) (by simp[results,results45,go_sem,u0,u1,uf,ul]) rfl ⟨rfl,Ya,_,(gL.setCell (.inr (U12 _)) _).setCell (.inr (U12 _)) _,((AQ.o.rk.gr jx).set Ya _).set Ya _⟩
    rw[og]at ca;simp only at ca;have bY:Hid (V9.bad c8 p8=X):=by
     exact J70
    have HC:=U10 Jv;have pi:=U10 Jv;have lp:¬(c8:Int)=0:=Ya;clear ca og Jv;go_wp2_with fail;refine (O1k c8 p8 lp _).mono ?_;rintro e D4 ⟨rfl,rq⟩;have eB:=U10 (uI.o.gr rq);have kN:=U10 (iF.o.gr rq);have re:=U10 (AP.o.rk.gr rq);clear uI iF rq a0 a1 af al AP mF;have rg:¬(c8:Int)=0:=by have:=HC.o;omega
    clear HC;obtain⟨p0,p1,pf,pl⟩:=eB.o;go_wp2_with fail;refine (O1k c8 p8 rg _).mono ?_;rintro e w9 ⟨rfl,g9⟩;obtain⟨u0,u1,uf,ul⟩:=eB.o.gr g9;have jA:=kN.o.gr g9;have rh:=re.o.gr g9;clear g9 p0 p1 pf pl;go_wp2_with fail
    go_region
    all_goals go_wp2_with fail
    rw[<-bY.o];exact U11 (v:=.tuple #[(0:Int),(0:Int),fv c8 p8]) (by simp[results,results45,go_sem,u0,u1,uf,ul]) rfl ⟨rfl,pi.o,_,((jA.setCell (.inr (U12 _)) _).setCell (.inr (U12 _)) _).drew,((rh.set Ya _).set Ya _).drew⟩
  -- a fault
  obtain⟨p0,p1,pf,pl⟩:=l9;have D7:=U10 (show FX w c2 p2 wr from ⟨p0,p1,pf,pl⟩);have oh:=U10 aa;have D8:=U10 gY;have bY:Hid (V9.bad c2 p2=X):=by
   have:=EU.o;rw[mr]at this;exact this
  have HC:=U10 aF;have pi:=U10 aF;have lp:¬(c2:Int)=0:=Ya;clear aa mr aF gY;go_wp2_with fail;refine (O1k c2 p2 lp _).mono ?_;rintro e w6 ⟨rfl,g6⟩;have eB:=U10 (D7.o.gr g6);have kN:=U10 (oh.o.gr g6);have re:=U10 (D8.o.gr g6);clear D7 oh D8 g6 p0 p1 pf pl;have rg:¬(c2:Int)=0:=by have:=HC.o;omega
  clear HC;obtain⟨p0,p1,pf,pl⟩:=eB.o;go_wp2_with fail;refine (O1k c2 p2 rg _).mono ?_;rintro e w9 ⟨rfl,g9⟩;obtain⟨u0,u1,uf,ul⟩:=eB.o.gr g9;have jA:=kN.o.gr g9;have rh:=re.o.gr g9;clear g9 p0 p1 pf pl;go_wp2_with fail
  go_region
  all_goals go_wp2_with fail
  rw[<-bY.o];exact U11 (v:=.tuple #[(0:Int),(0:Int),fv c2 p2]) (by simp[results,results45,go_sem,u0,u1,uf,ul]) rfl ⟨rfl,pi.o,_,((jA.setCell (.inr (U12 _)) _).setCell (.inr (U12 _)) _).drew,((rh.set Ya _).set Ya _).drew⟩
end
section
open Pl Go.Proofs.Tryz Go.RowKit Go.Shelf Go.Joins
attribute [local go_sem] U22
variable {Tb:Nat->UInt8×UInt8}
def O2m(r:Vy)(a b:Int):Vy:=⟨{ r.nd with sp:=(a,b) },r.kv,r.sv,r.uv⟩
theorem RdV.span{W:World}{R B base:Nat}{s:ByteArray}{root:Int}{L:List Vy}{own:Nat->Nat}{g cap:Nat}(h:RdV W R B base s root (.slice g L.length cap) L own)(i:Nat)(r:Vy)(hr:L[i]?=some r)(a b:Int):RdV ((W.setCell ⟨g,i*7+5,none⟩ a).setCell ⟨g,i*7+6,none⟩ b) R B base s root (.slice g L.length cap) (L.set i (O2m r a b)) own /\St (FV own) (FV own) W ((W.setCell ⟨g,i*7+5,none⟩ a).setCell ⟨g,i*7+6,none⟩ b):=by
 have hi:i<L.length:=(U14.1 hr).1;have dR:own g=3:=h.oN g rfl;have Nl:FV own g:=by unfold FV;omega
 have aa:St (FV own) (FV own) W ((W.setCell ⟨g,i*7+5,none⟩ a).setCell ⟨g,i*7+6,none⟩ b):=((St.refl _ W).setCell (p:=⟨g,i*7+5,none⟩) (.inl Nl) _).setCell (p:=⟨g,i*7+6,none⟩) (.inl Nl) _;refine⟨?_,aa⟩;obtain⟨WF,ao⟩:=ExZ ((W.setCell ⟨g,i*7+5,none⟩ a).setCell ⟨g,i*7+6,none⟩ b)
 have dc:WF.heap.size=W.heap.size:=by subst ao;simp[World.setCell]
 have bv:∀k,k≠g->WF.heap[k]?=W.heap[k]?:=by
  intro k hk;subst ao;rw[U15 _ _ _ _ hk,U15 _ _ _ _ hk]
 have ap:(V34 L).length=L.length*7:=O46 L;have bT:WF.ownsRow base 40 7 (.slice g L.length cap) L.length (V34 (L.set i (O2m r a b))):=by
  subst ao;have e1:=Oy h.nodes (i*7+5) Ya a;have e2:=Oy e1 (i*7+6) (by rw[U2c];omega) b;have f1:=O1r L i 5 Ya a r (O2m r a r.nd.sp.2) hr rfl;have f2:=O1r (L.set i (O2m r a r.nd.sp.2)) i 6 Ya b (O2m r a r.nd.sp.2) (O2m r a b) (by simp[hi]) rfl;rw[f1,f2]at e2
  simpa using e2
 rw[ao];have ne:∀k t,own k=t->t≠3->k≠g:=λ k t e h3 e2=>by subst e2;omega
 obtain⟨D,h1,h2,h3,h4⟩:=h.map;refine⟨by rw[bv R (ne R 1 h.oR Ya)];exact h.blk,h.oR,h.oB,by rw[U2c];exact bT,h.oN,?_,?_,λ k hk=>by rw[dc];exact h.lt k hk⟩
 refine⟨D,Ow (by rw[O9n L i r (O2m r a b) hr rfl];exact h1) (bv B (ne B 2 h.oB Ya)),h2,by rw[U2c];exact h3,λ j x hx=>?_⟩;rw[U2h]at hx
 split at hx
 rename_i dY
 subst dY;simp only[hi,U2o,U1f]at hx;subst hx;exact h4 i r hr
 exact h4 j x hx
 have kp:∀(j:Nat)(x:Vy),V5n W base own j x->V5n WF base own j x:=λ j x hx =>
  ⟨O1 hx.k λ k e=>bv k (ne k _ (hx.tk k e) Ya),O1 hx.s λ k e=>bv k (ne k _ (hx.ts k e) Ya),hx.u.of_block λ k e=>bv k (ne k _ (hx.tu k e) Ya),λ h8=>O1 (hx.u8 h8) λ k e=>bv k (ne k _ (hx.tu k e) Ya),hx.tk,hx.ts,hx.tu⟩
 intro j x hx;rw[U2h]at hx
 split at hx
 rename_i dY
 subst dY;simp only[hi,U2o,U1f]at hx;subst hx;have:=kp i r (h.rows i r hr);exact⟨this.k,this.s,this.u,this.u8,this.tk,this.ts,this.tu⟩
 exact kp j x (h.rows j x hx)
theorem O5x(L:List Vy)(i:Nat)(r:Vy)(a b:Int)(hr:L[i]?=some r):(L.set i (O2m r a b)).map (·.nd)=(L.map (·.nd)).modify i λ nd=>{ nd with sp:=(a,b) }:=by
 apply U4f;intro j;rw[U1m,U3p,U1m,U2h];by_cases e:i=j;subst e;have dT:=(U14.1 hr).1;simp[dT,hr,O2m];have:=(U14.1 hr).2;rw[this];exact⟨rfl,rfl,rfl,rfl,rfl,rfl⟩
 simp[e]
def Vha(E:Vv)(s:ByteArray)(R B base:Nat)(root:Int)(V:V1n)(d T:Nat)(own:Nat->Nat)(w:World)(z0 bF:Nat)(Y:V9 (Nat×Vc))(k:Nat)(v6 v7 v9:Value)(wr:World):Prop :=
 ∃(n:Nat)(b:Bool)(nv':Value)(L':List Vy)(own':Nat->Nat),v6=.int .i64 T/\v7=.int .i64 n/\v9=.bool b/\n<=s.size/\RdV wr R B base s root nv' L' own' /\
  (if b=true/\Va (bs s) n=125 then V9.ok (n,L'.map (·.nd)) else V29 E V (bs s) T d k n (L'.map (·.nd)))=Y/\FX bF (0:Int) (0:Int) wr/\GW Tb base wr /\
  St (FV own) (FV own') w wr/\(∀k,own' k≠0->own k≠0\/z0<=k)/\z0<=wr.heap.size
theorem Okn(E:Vv)(hE:O2l Tb E)(s:ByteArray)(R B base:Nat)(root:Int)(V:V1n)(hV:O5w Tb s R B base root V)(w:World)(nv:Value)(L:List Vy)(own:Nat->Nat)(h:RdV w R B base s root nv L own)(hg:GW Tb base w)(hs:s.size<=20000000)(d n:Nat)(hb:Va (bs s) n=123)(X:V9 (Nat×Nat×Vc))(hX:V1h E V (bs s) d n (L.map (·.nd))=X)(a8:X≠.non):Calls prog 46 #[.pointer (some ⟨R,0,none⟩),n,d] w (O4l s R B base root own w X):=by
 have hn:n<s.size:=U3a λ aP=>by rw[O12 s n Ya]at hb;omega
 obtain⟨c0,c1,c2,c3,fz⟩:=h.cells;have hR:=h.R_lt;have H:=U10 h;have HG:=U10 hg;have HV:=U10 hV;have bT:¬FV own w.heap.size:=h.not_new (U12 _);unfold V1h at hX;have w1:IntKind.i64.wrap ((n:Int)+1)=(n:Int)+1:=U1k _ ⟨Ya,Ya⟩;by_cases hH:256<d
 ·rw[U1a hH]at hX;subst hX;have b1:decide ((256:Int)<(d:Int))=true:=by simp;omega
  clear c0 c1 c2 c3 fz h hg hV hb hH;go_enter func46,ntmps46;go_wp2_with fail;exact U11 (v:=.tuple #[(0:Int),(0:Int),fv 4 n]) (by simp[results,results46,go_sem]) rfl ⟨rfl,Ya,FV own,St.auto,H.o.rk.gr Gr.auto⟩
 rw[U1c hH]at hX;cases lU:Pl.room (L.map (·.nd)) with
 |false=>rw[lU,U1c Yb]at hX;exact absurd hX.symm a8
 |true =>
 rw[lU,U1a rfl]at hX;simp only at hX;have b1:decide ((256:Int)<(d:Int))=false:=Ye
 have hd:d<=256:=Ya;obtain⟨T,hT⟩:=ExZ (L.length)
 have Rl:T<=20000000:=by simp[Pl.room]at lU;omega
 obtain⟨e0,CO⟩:=ExZ (V7 (bs s) (n+1))
 have JA:e0<=s.size:=by have:=V8 (bs s) (n+1) (by rw[O0];omega);rw[O0]at this;omega
 rw[CO,U1j,hT]at hX;obtain⟨Y,hY⟩:=ExZ ((if Va (bs s) e0=125 then V9.ok (e0,L.map (·.nd)++[V16]) else V29 E V (bs s) T d ((bs s).length+2) e0 (L.map (·.nd)++[V16])))
 rw[hY]at hX;have tL:Hid (Y≠.non):=by
  intro e;rw[e]at hX;exact a8 hX.symm
 have HX:=U10 hX;have HN:=U10 a8;have CZ:=U10 lU;have Rm:=U10 hT;have sN:=U10 CO;have HY:=U10 hY;clear c0 c1 c2 c3 fz h hg hV hb hH hX a8 lU hT CO hY;go_enter func46,ntmps46;go_wp2_with fail;refine (Oca _ R B base s root nv L own (H.o.alloc _) CZ.o 0 0).mono ?_;rintro e Jp ⟨rfl,kO,aC,aZ,dK,dm⟩;obtain⟨c0,c1,c2,c3,fz⟩:=aZ.cells;have nX:¬FV own w.heap.size:=bT;have dl:=(FX.new w (0:Int) (0:Int) 29).st dK bT;have aN:=U10 aZ;have jC:=U10 ((((St.refl (FV own) w).alloc (.cells #[(0:Int),(0:Int)] 29)).trans dK));have wO:=U10 dm;have Nm:=U10 dl;have az:=dK.size;simp only[U1s]at az;rw[Rm.o];clear aZ dK dm dl;go_wp2_with fail;refine (O9 s _ (n+1) Yb Ya Ya _).mono ?_;rintro e w2 ⟨rfl,g2⟩;rw[sN.o];have aO:=U10 (aN.o.gr g2);have fW:=U10 (jC.o.gr g2);have qZ:=U10 (Nm.o.gr g2);have nH:=U10 (HG.o.st fW.o (λ k hk=>(H.o.lt k hk).1));have gG:Hid (∀k,aC k≠0->own k≠0\/w.heap.size+1<=k):=λ k hk=>(wO.o k hk).imp id (λ e=>by simpa using e)
 obtain⟨z0,fI⟩:=ExZ (w.heap.size+1)
 have fB:Hid (w.heap.size<z0):=by show w.heap.size<z0;omega
 have tN:Hid (z0<=w2.heap.size):=by show z0<=w2.heap.size;have:=g2.size;omega
 rw[fI]at gG;clear g2 fI aN jC wO Nm c0 c1 c2 c3 fz az;go_wp2_with fail
 go_loopg [6,7,9] ((bs s).length+2) (λ k v6 v7 v9 wr=>Vha E s R B base root V d T own w z0 w.heap.size Y k v6 v7 v9 wr)
 case atStart =>
  refine⟨e0,true,kO,_,aC,rfl,rfl,rfl,JA,aO.o,?_,qZ.o,nH.o,fW.o,gG.o,tN.o⟩;rw[<-HY.o];simp[V58,V16]
 case round =>
  obtain⟨m2,b,io,L2,ac,rfl,rfl,rfl,jM,hr,dD,l9,lK,aa,bL,CX⟩:=hrel;obtain⟨v0,v1,vf,vl⟩:=l9;obtain⟨uw,ux,gX,uy,uz⟩:=hr.cells;have eB:=U10 (show FX w (0:Int) (0:Int) wr from ⟨v0,v1,vf,vl⟩);have bm:=U10 hr;have H7:=U10 dD;have nz:=U10 lK;have k9:=U10 aa;have ko:=U10 bL;have BR:=U10 CX;clear hr dD lK aa bL CX v0 v1 vf vl;by_cases de:b=true/\Va (bs s) m2=125
  ·have dD:=H7.o;rw[U1a de]at dD;obtain⟨rfl,hb⟩:=de;have bJ:(((Va (bs s) m2:Nat):Int) != 125)=false:=by simp;omega
   have mm:Hid (m2<s.size):=U3a λ aP=>by rw[O12 s m2 Ya]at hb;omega
   have ae:=HX.o;rw[<-dD]at ae;simp only at ae;cases bh:Pl.kind8 (L2.map (·.nd)) T with
   |false=>rw[bh,U1c Yb]at ae;exact absurd ae.symm HN.o
   |true =>
   rw[bh,U1a rfl]at ae;have bY:=U10 ae;have vt:=U10 bh;clear ae bh dD hb;go_wp2_with fail;refine (O1y wr R s gX m2 m2 rfl).mono ?_;refine Z48 ?_;have oV:=bm;have sq:=eB;have nw:=k9;have dk:=ko;clear uw ux gX uy uz;have jP:IntKind.i64.wrap ((m2:Int)+1)=(m2:Int)+1:=U1k _ ⟨by have:=mm.o;omega,by have:=mm.o;omega⟩;obtain⟨rT,tJ⟩:∃r,(L2)[T]?=some r:=by
    have hk:=vt.o;unfold Pl.kind8 at hk;rw[U1h,U1m]at hk
    replace hk:=hk.2
    cases hl:(L2)[T]? with
    |none=>rw[hl]at hk;cases hk
    |some x=>exact⟨x,rfl⟩
   have vz:T<(L2).length:=(U14.1 tJ).1;obtain⟨gN,ij,H8,lD,H9,Ha,Hc,Hd,He,pW,yd,Hf,Hg,ye⟩:=oV.o.form Ya;have cA:=oV.o.cells;rw[lD]at cA;obtain⟨a0,a1,a2,a3,af⟩:=cA;have yg:∀o,wr.frozen? ⟨gN,o,none⟩=false:=λ o=>unfrozen_of_block pW o
   have pI:(0:Int)<=(T:Int):=Ya;have fh:(T:Int)<((L2).length:Int):=Ya;have pJ:Hid (RdV wr R B base s root (.slice gN (L2).length ij) L2 ac):=by rw[<-lD];exact oV.o
   obtain⟨p0,p1,pf,pl⟩:=sq.o;obtain⟨_,_,_,_,_,n5,n6,_⟩:=pJ.o.ndCells rfl T rT tJ;have Hh:wr.cell? ⟨gN,T*7+5+1,none⟩=some (.int .i64 rT.nd.sp.2):=n6;clear n6;have PL:w.heap.size≠gN:=λ e=>by
    have:own gN≠0\/z0<=gN:=dk.o gN Ya;rcases this with e2|e2
    exact bT (by unfold FV;rw[e];exact e2)
    have:=fB.o;omega
   have Bt:=U10 tJ;clear tJ pW ye yd lD;go_wp2_with fail;have cg:=pJ.o.span T rT Bt.o (n:Int) ((m2:Int)+1);have il:Hid (RdV ((wr.setCell ⟨gN,T*7+5,none⟩ (.int .i64 (n:Int))).setCell ⟨gN,T*7+5+1,none⟩ (.int .i64 ((m2:Int)+1))) R B base s root (.slice gN (L2).length ij) ((L2).set T (O2m rT (n:Int) ((m2:Int)+1))) ac):=cg.1;have cQ:Hid (St (FV own) (FV ac) w ((wr.setCell ⟨gN,T*7+5,none⟩ (.int .i64 (n:Int))).setCell ⟨gN,T*7+5+1,none⟩ (.int .i64 ((m2:Int)+1)))):=nw.o.trans cg.2;have xN:¬FV ac w.heap.size:=λ hf=>by
    rcases dk.o _ hf with e|e
    exact bT e
    have:=fB.o;omega
   have lq:Hid (FX w (0:Int) (0:Int) ((wr.setCell ⟨gN,T*7+5,none⟩ (.int .i64 (n:Int))).setCell ⟨gN,T*7+5+1,none⟩ (.int .i64 ((m2:Int)+1)))):=sq.o.st cg.2 xN;obtain⟨wS,fC⟩:=ExZ ((wr.setCell ⟨gN,T*7+5,none⟩ (.int .i64 (n:Int))).setCell ⟨gN,T*7+5+1,none⟩ (.int .i64 ((m2:Int)+1)))
   rw[fC]at il cQ lq⊢;clear fC cg p0 p1 pf pl n5 Hh yg a0 a1 a2 a3 af;obtain⟨p0,p1,pf,pl⟩:=lq.o
   go_region
   all_goals go_wp2_with fail
   rw[<-bY.o];refine U11 (v:=.tuple #[T,.int .i64 (m2+1:Nat),f0]) (by simp[results,results46,go_sem,p0,p1,pf,pl]) rfl ⟨rfl,by have:=mm.o;omega,by simpa using vz,_,_,ac,((il.o.setCell xN _).setCell xN _).drew,?_,((cQ.o.setCell (.inr (U12 _)) _).setCell (.inr (U12 _)) _).drew,λ k hk=>(dk.o k hk).imp id (λ e=>by have:=fB.o;omega)⟩;rw[O5x _ T rT _ _ Bt.o];rfl
  have dD:=H7.o;rw[U1c de]at dD;obtain⟨gk,rfl⟩:∃f,gk=f+1:=by
   cases gk with
   |zero=>exact absurd dD.symm tL.o
   |succ f=>exact⟨f,rfl⟩
  rw[V29]at dD;have BS:=U10 dD;clear dD;cases b with
  |true =>
   have bJ:(((Va (bs s) m2:Nat):Int) != 125)=true:=by simp;simp at de;omega
   obtain⟨q0,q1,qf,ql⟩:=eB.o;clear de;go_wp2_with fail;refine (O1y wr R s gX m2 m2 rfl).mono ?_;refine Z48 ?_;go_wp2_with fail;clear q0 q1 qf ql uw ux gX uy uz bJ;exact J203
  |false =>
   obtain⟨q0,q1,qf,ql⟩:=eB.o;clear de;go_wp2_with fail;clear q0 q1 qf ql uw ux gX uy uz;exact J203
end
section
open Pl Go.Proofs.Tryz Go.RowKit Go.Shelf Go.Joins
attribute [local go_sem] U22
variable {Tb:Nat->UInt8×UInt8}
theorem Okv(E:Vv)(hE:O2l Tb E)(JB:E.scal=Ve)(s:ByteArray)(hs:s.size<=20000000)(R B base:Nat)(root:Int):∀f,O5w Tb s R B base root (Vz E (bs s) f):=by
 intro f
 induction f with
 |zero =>
  intro w nv L own h hg n d hn hd X hX a8;exact absurd hX.symm a8
 |succ f ih =>
  intro w nv L own h hg n d hn hd X hX a8;obtain⟨c0,c1,c2,c3,fz⟩:=h.cells;have hR:=h.R_lt;have bT:¬FV own w.heap.size:=h.not_new (U12 _);have ga:=(Gr.refl w).alloc (.cells #[(0:Int),(0:Int)] 29);have aN:=U10 (h.gr ga);have ej:=U10 (hg.gr ga);have HN:=U10 a8;obtain⟨c,hc⟩:=ExZ (Va (bs s) n)
  have HC:=U10 hc;rw[Vz]at hX;simp only[hc]at hX;by_cases h1:c=34\/c=39
  rw[U1a h1]at hX;have HX:=U10 hX;clear hX hc ga h hg c0 c1 c3 fz a8;by_cases lr:c=34
  have b1:((c:Int)==34)=true:=Ye
  exact J202
  have b1:((c:Int)==34)=false:=Ye;have b2:((c:Int)==39)=true:=Ye
  exact J202
  rw[U1c h1]at hX;have b1:((c:Int)==34)=false:=Ye
  have b2:((c:Int)==39)=false:=Ye
  by_cases wH:c=91
  ·rw[U1a wH]at hX;have b3:((c:Int)==91)=true:=by simp;omega
   have HX:=U10 hX;have HB:Hid (Va (bs s) n=91):=by rw[<-wH];exact hc
   clear hX hc ga h hg c0 c1 c3 fz a8 h1 wH;go_enter func24,ntmps24;go_wp2_with fail;refine Z144 ?_;refine Z48 ?_;rw[HC.o];go_wp2_with fail;refine (On3 s R B base root _ ih _ nv L own aN.o ej.o hs d n HB.o X HX.o HN.o).mono ?_;exact J101
  rw[U1c wH]at hX;have b3:((c:Int)==91)=false:=Ye
  by_cases lR:c=123
  ·rw[U1a lR]at hX;have b4:((c:Int)==123)=true:=by simp;omega
   have HX:=U10 hX;have HB:Hid (Va (bs s) n=123):=by rw[<-lR];exact hc
   clear hX hc ga h hg c0 c1 c3 fz a8 h1 wH lR;go_enter func24,ntmps24;go_wp2_with fail;refine Z144 ?_;refine Z48 ?_;rw[HC.o];go_wp2_with fail;refine (Okn E hE s R B base root _ ih _ nv L own aN.o ej.o hs d n HB.o X HX.o HN.o).mono ?_;exact J101
  rw[U1c lR]at hX;have b4:((c:Int)==123)=false:=Ye
  have HX:=U10 hX;clear hX hc ga h hg c0 c1 c3 fz a8 h1 wH lR;go_enter func24,ntmps24;go_wp2_with fail;refine Z144 ?_;refine Z48 ?_;rw[HC.o];go_wp2_with fail;refine (Oic E JB _ R B base s root nv L own aN.o hs ej.o n d n rfl hn X HX.o HN.o).mono ?_;exact J101
end
section
open Pl Go.Proofs.Tryz Go.RowKit Go.Shelf Go.Joins
attribute [local go_sem] U22
def Or(r:Vy):Vy:=⟨r.nd,O3 r.kv,O3 r.sv,O3 r.uv⟩
def Ooj(g:Nat)(L:List Vy):Prop:=∃own:Nat->Nat,own g=3/\∀(i:Nat) r,L[i]?=some r->Ok own r.kv (4+3*i)/\Ok own r.sv (5+3*i)/\Ok own r.uv (6+3*i)
structure V2b(w:World)(base g:Nat)(L:List Vy):Prop where
 lt:base<=g/\g<w.heap.size
 cell:∀(i:Nat) r,L[i]?=some r->∀(j:Nat) v,(ndV r)[j]?=some v->w.cell? ⟨g,i*7+j,none⟩=some v
 rows:∀(i:Nat) r,L[i]?=some r->V26 w base 9 1 r.kv r.nd.keys.length (Oh r.nd.keys)/\V26 w base 38 2 r.sv r.nd.spots.length (Oc r.nd.spots)/\V26 w base 3 1 r.uv r.nd.subs.length (O6 r.nd.subs)
 tg:Ooj g L
theorem V2b.gr{w w':World}{base g:Nat}{L:List Vy}(h:V2b w base g L)(k:Gr w w'):V2b w' base g L :=
 ⟨⟨h.lt.1,U13 h.lt.2 k.size⟩,λ i r hr j v hv=>(k.use.1 _ _ h.lt.2).trans (h.cell i r hr j v hv),λ i r hr=>by
  obtain⟨a,b,c⟩:=h.rows i r hr;exact⟨a.of_block λ k2 e=>k.block (a.lt k2 e).2,b.of_block λ k2 e=>k.block (b.lt k2 e).2,c.of_block λ k2 e=>k.block (c.lt k2 e).2⟩,h.tg⟩
theorem Oal{w:World}{base n:Nat}{v:Value}{xs:List Value}(h:w.ownsRow base 9 1 v n xs)(W:World):Calls prog 21 #[v] W λ e w'=>e=.returned (O3 v)/\W=w':=by
 rcases O17 h with⟨rfl,_⟩|⟨g,cap,rfl,h1,h2⟩
 exact O86 W
 exact O3y g n cap h1 h2 W
theorem O96{w:World}{base n:Nat}{v:Value}{xs:List Value}(h:w.ownsRow base 38 2 v n xs)(W:World):Calls prog 22 #[v] W λ e w'=>e=.returned (O3 v)/\W=w':=by
 rcases O17 h with⟨rfl,_⟩|⟨g,cap,rfl,h1,h2⟩
 exact O6u W
 exact O55 g n cap h1 h2 W
theorem O4n{w:World}{base n:Nat}{v:Value}{xs:List Value}(h:V26 w base 3 1 v n xs)(W:World):Calls prog 26 #[v] W λ e w'=>e=.returned (O3 v)/\W=w':=by
 rcases Oo h with⟨rfl,_⟩|⟨g,cap,rfl,h1,h2⟩
 exact O87 W
 exact O9z g n cap h1 h2 W
theorem RdV.setRoot{w:World}{R B base:Nat}{s:ByteArray}{root:Int}{nv:Value}{L:List Vy}{own:Nat->Nat}(h:RdV w R B base s root nv L own)(r2:Int):RdV (w.setCell ⟨R,1,none⟩ r2) R B base s r2 nv L own:=by
 have hb:∀k,k≠R->(w.setCell ⟨R,1,none⟩ r2).heap[k]?=w.heap[k]?:=λ k hk=>U15 _ _ _ _ hk
 have ne:∀k t,own k=t->t≠1->k≠R:=λ k t e h3 e2=>by subst e2;have:=h.oR;omega
 obtain⟨D,h1,h2⟩:=h.map;refine⟨by simpa using block_setCell (i:=1) h.blk r2,h.oR,h.oB,O1 h.nodes λ k e=>hb k (ne k _ (h.oN k e) Ya),h.oN,⟨D,Ow h1 (hb B (ne B _ h.oB Ya)),h2⟩,λ i r hr=>?_,λ k hk=>⟨(h.lt k hk).1,by simpa [World.setCell]using (h.lt k hk).2⟩⟩;have hx:=h.rows i r hr;exact⟨O1 hx.k λ k e=>hb k (ne k _ (hx.tk k e) Ya),O1 hx.s λ k e=>hb k (ne k _ (hx.ts k e) Ya),hx.u.of_block λ k e=>hb k (ne k _ (hx.tu k e) Ya),λ h8=>O1 (hx.u8 h8) λ k e=>hb k (ne k _ (hx.tu k e) Ya),hx.tk,hx.ts,hx.tu⟩
theorem RdV.start(w0 w:World)(s:ByteArray)(hz:w0.heap.size<=w.heap.size):RdV ((w.alloc (.map #[] 0)).alloc (.cells #[Vo,(0:Int),.string s,.map (some w.heap.size)] 80)) (w.heap.size+1) w.heap.size w0.heap.size s 0 Vo [] (λ k=>if k=w.heap.size+1 then 1 else if k=w.heap.size then 2 else 0):=by
 refine⟨?_,Yb,?_,Ot _ _ _ _,O6e _ _,?_,λ i r hr=>by simp at hr,?_⟩;have:=U1w (w.alloc (.map #[] 0)) (.cells #[Vo,(0:Int),.string s,.map (some w.heap.size)] 80);exact J5;rw[U1c Ya,U1a rfl]
 refine⟨.map [],?_,?_⟩;have h1:(w.alloc (.map #[] 0)).ownsMap prog 3 (plainElem (H:=Unit) prog 3) w.heap.size 0 (.map []):=World.ownsMap_made _ _ _ _;exact Ow h1 (((Gr.refl _).alloc _).block Yb)
 exact⟨⟨[],rfl⟩,λ i _=>rfl,λ i r hr=>by simp at hr⟩
 exact J160
def O60(s:ByteArray)(w:World)(X:V9 (Nat×Nat×Vc))(e:Ending)(w':World):Prop :=
 match X with
 |.non=>True
 |.bad c p=>e=.returned (.tuple #[.agg #[Vo,(0:Int)],(0:Int),fv c p])/\c≠0/\Gr w w'
 |.ok (i,m,st)=>∃g L,e=.returned (.tuple #[.agg #[.slice (some ⟨g,0,none⟩) st.length st.length,i],m,f0])/\m<=s.size/\i<st.length/\L.map (·.nd)=st/\V2b w' w.heap.size g L/\Gr w w'
def V5r(w7:World)(R base g cap:Nat)(L:List Vy)(n:Nat)(wr:World):Prop :=
 wr.ownsRow base 40 7 (.slice g L.length cap) L.length (V34 ((L.take n).map Or++L.drop n))/\(∀k,k<w7.heap.size->k≠g->wr.heap[k]?=w7.heap[k]?)/\w7.heap.size<=wr.heap.size/\wr.os=w7.os/\wr.tape=w7.tape/\wr.output=w7.output
theorem Oci(L:List Vy)(n:Nat)(r:Vy)(hr:L[n]?=some r):((L.take n).map Or++L.drop n)[n]?=some r:=by
 have hn:n<L.length:=(U14.1 hr).1;rw[U1y Ye];simp;rw[show n-min n L.length=0 from by omega]
 simpa using hr
theorem Okw(L:List Vy)(n:Nat)(r:Vy)(hr:L[n]?=some r):((L.take n).map Or++L.drop n).set n (Or r)=(L.take (n+1)).map Or++L.drop (n+1):=by
 have hn:n<L.length:=(U14.1 hr).1;have hl:((L.take n).map Or).length=n:=Ye;rw[U4a _ _ Ya,hl,U42,U1u hn,U34,List.take_add_one,hr];simp
theorem V5r.step{w7 wr:World}{R base g cap n:Nat}{L:List Vy}(h:V5r w7 R base g cap L n wr)(r:Vy)(hr:L[n]?=some r):V5r w7 R base g cap L (n+1) (((wr.setCell ⟨g,n*7+2,none⟩ (O3 r.kv)).setCell ⟨g,n*7+3,none⟩ (O3 r.sv)).setCell ⟨g,n*7+4,none⟩ (O3 r.uv)):=by
 obtain⟨h1,h2,h3,h4,h5,h6⟩:=h;have hn:n<L.length:=(U14.1 hr).1;refine⟨?_,λ k hk hg=>?_,by simpa [World.setCell]using h3,h4,h5,h6⟩
 have ap:(V34 ((L.take n).map Or++L.drop n)).length=L.length*7:=by rw[O46];simp;omega
 have eC:=Oci L n r hr;have e1:=Oy h1 (n*7+2) Ya (O3 r.kv);have e2:=Oy e1 (n*7+3) (by rw[U2c];omega) (O3 r.sv);have e3:=Oy e2 (n*7+4) (by rw[U2c,U2c];omega) (O3 r.uv);obtain⟨M,hM⟩:=ExZ ((L.take n).map Or++L.drop n)
 rw[hM]at e3 eC;have Nn:n<M.length:=(U14.1 eC).1;have f1:=O1r M n 2 Ya (O3 r.kv) r ⟨r.nd,O3 r.kv,r.sv,r.uv⟩ eC rfl;have f2:=O1r (M.set n ⟨r.nd,O3 r.kv,r.sv,r.uv⟩) n 3 Ya (O3 r.sv) ⟨r.nd,O3 r.kv,r.sv,r.uv⟩ ⟨r.nd,O3 r.kv,O3 r.sv,r.uv⟩ (by simp[Nn]) rfl;have f3:=O1r ((M.set n ⟨r.nd,O3 r.kv,r.sv,r.uv⟩).set n ⟨r.nd,O3 r.kv,O3 r.sv,r.uv⟩) n 4 Ya (O3 r.uv) ⟨r.nd,O3 r.kv,O3 r.sv,r.uv⟩ (Or r) (by simp[Nn]) rfl;rw[f1,f2,f3,List.set_set,List.set_set,<-hM,Okw L n r hr]at e3;exact e3
 rw[U15 _ _ _ _ hg,U15 _ _ _ _ hg,U15 _ _ _ _ hg];exact h2 k hk hg
variable {Tb:Nat->UInt8×UInt8}
structure RW(Tb:Nat->UInt8×UInt8)(w:World):Prop where
 int:V3y w
 q:QW Tb w
theorem RW.gr{w w':World}(h:RW Tb w)(g:Gr w w'):RW Tb w':=⟨h.int.gr g,h.q.gr g⟩
theorem GW.of{w:World}(h:V3y w)(hq:QW Tb w):GW Tb w.heap.size w:=by
 obtain⟨ev,q8,_⟩:=hq.es;obtain⟨m,hm⟩:=h.max;obtain⟨ep,he⟩:=h.err;refine⟨h,hq,Lib.lt_of_cell q8,Lib.lt_of_cell (hq.sh 0 _ rfl),?_,Lib.lt_of_cell hm,Lib.lt_of_cell he,?_⟩
 obtain⟨v0,oG⟩:∃v0,V50[0]?=some v0:=⟨_,rfl⟩
 exact Lib.lt_of_cell (h.rad 0 v0 oG)
 have hp:=h.pow;have ki:prog.globalNamed "internal/strconv.uint64pow10" = some 2:=Yc
 unfold Lib.TabIs World.var? at hp;rw[ki]at hp;simp only[Option.bind_some]at hp;exact J14
theorem Ocj{w:World}{base e size n:Nat}{v:Value}{xs:List Value}(h:w.ownsRow base e size v n xs):∃a k,O3 v=.slice a k k:=by
 rcases O17 h with⟨rfl,_⟩|⟨g,cap,rfl,_,_⟩
 exact⟨_,_,rfl⟩
 exact⟨_,_,rfl⟩
theorem O42{w:World}{base e size n:Nat}{v:Value}{xs:List Value}(h:V26 w base e size v n xs):∃a k,O3 v=.slice a k k:=by
 rcases Oo h with⟨rfl,_⟩|⟨g,cap,rfl,_,_⟩
 exact⟨_,_,rfl⟩
 exact⟨_,_,rfl⟩
def O59(g i:Nat)(r:Vy)(w:World):Prop:=w.cell? ⟨g,i*7+2,none⟩=some r.kv/\w.cell? ⟨g,i*7+3,none⟩=some r.sv/\w.cell? ⟨g,i*7+4,none⟩=some r.uv/\(∀o,w.frozen? ⟨g,o,none⟩=false)
theorem FX.other{b:Nat}{x y:Value}{w:World}(h:FX b x y w){b2 o:Nat}(hb:b2≠b)(v:Value):FX b x y (w.setCell ⟨b2,o,none⟩ v):=by
 obtain⟨h0,h1,hf,hl⟩:=h;refine⟨?_,?_,λ o=>by simp[hf],by simpa using hl⟩
 ·rw[U1n _ _ _ _ Yf];exact h0
 rw[U1n _ _ _ _ Yf];exact h1
theorem V5r.gr{w w7 wr:World}{R base g cap n:Nat}{L:List Vy}(h:V5r w7 R base g cap L n wr)(k:Gr w w7)(hg:w.heap.size<=g):Gr w wr :=
 Below.trans k ⟨h.2.2.2.1,h.2.2.2.2.1,h.2.2.2.2.2,h.2.2.1,λ i hi=>h.2.1 i (U13 hi k.size) Ya⟩
theorem V5r.cells{w7 wr:World}{R base g cap n:Nat}{L:List Vy}(h:V5r w7 R base g cap L n wr)(r:Vy)(hr:L[n]?=some r):O59 g n r wr:=by
 have hc:=h.1.cells (g:=g) rfl;have hj:∀j u,j<7->(ndV r)[j]?=some u->wr.cell? ⟨g,n*7+j,none⟩=some u:=by
  intro j u hj hu;have:=hc (n*7+j) u (by rw[O71 _ _ _ hj,Oci L n r hr];exact hu)
  rwa [U49,U1v]at this
 refine⟨hj 2 _ Ya rfl,hj 3 _ Ya rfl,hj 4 _ Ya rfl,λ o=>?_⟩;rcases h.1.2 with⟨e,_⟩|⟨g',nL,cur,e,_,hb,_⟩
 cases e
 cases e;exact unfrozen_of_block hb o
theorem V5r.tree{w7 wr wF:World}{R B base g cap:Nat}{s:ByteArray}{root:Int}{L:List Vy}{own:Nat->Nat}(h:V5r w7 R base g cap L L.length wr)(hr:RdV w7 R B base s root (.slice g L.length cap) L own)(hb:∀k,own k≠0->own k≠1->wF.heap[k]?=wr.heap[k]?)(hz:wr.heap.size<=wF.heap.size):V2b wF base g (L.map Or):=by
 have dR:own g=3:=hr.oN g rfl;have aW:=hr.lt g Ya;have e:(L.take L.length).map Or++L.drop L.length=L.map Or:=Yb;have h1:=h.1;rw[e]at h1;refine⟨⟨aW.1,U13 aW.2 (U1l h.2.2.1 hz)⟩,λ i r hi j v hv=>?_,λ i r hi=>?_,own,dR,λ i r hi=>?_⟩;exact J80
 ·rw[U1m]at hi;cases hx:L[i]? with
  |none=>rw[hx]at hi;cases hi
  |some x =>
  rw[hx]at hi;cases hi;have hR:=hr.rows i x hx;have hb:∀k t,own k=t->4<=t->wF.heap[k]?=w7.heap[k]?:=λ k t e h4=>(hb k Ya Ya).trans (h.2.1 k (hr.lt k Ya).2 (λ e2=>by subst e2;omega))
  exact⟨O2d (O1 hR.k λ k e=>hb k _ (hR.tk k e) Ya),O2d (O1 hR.s λ k e=>hb k _ (hR.ts k e) Ya),O3g (hR.u.of_block λ k e=>hb k _ (hR.tu k e) Ya)⟩
 exact J144
theorem FX.of_block{b:Nat}{x y:Value}{w w':World}(h:FX b x y w)(hb:w'.heap[b]?=w.heap[b]?)(hz:w.heap.size<=w'.heap.size):FX b x y w' :=
 ⟨(U1r (w:=w) (a:=b) hb).trans h.1,(U1r (w:=w) (a:=⟨b,1,none⟩) hb).trans h.2.1,λ o=>(U33 (w:=w) (a:=⟨b,o,none⟩) hb).trans (h.2.2.1 o),U13 h.2.2.2 hz⟩
def Vas(R F:Nat)(a b:Value)(w:World):Prop:=w.cell? R=some a/\w.cell? ⟨R,1,none⟩=some b/\FX F (0:Int) (0:Int) w
theorem O97(w:World)(hw:RW Tb w)(s:ByteArray)(hs:s.size<=20000000)(i:Int)(n:Nat)(hi:i=n)(hn:n<=s.size)(jw:Int)(k:Nat)(hk:(min (max jw 0) 256:Int)=k)(X:V9 (Nat×Nat×Vc))(hX:V1g ⟨Vi Tb,Ve⟩ (bs s) n k=X)(a8:X≠.non):Calls prog 10 #[.string s,i,jw] w (O60 s w X):=by
 subst hi;have No:k<=256:=Ya
 unfold V1g at hX;rw[show min k 256+1=k+1 from by omega]at hX;have HX:=U10 hX;have HN:=U10 a8;have HG:=U10 (GW.of hw.int hw.q);have t0:decide ((n:Int)<0)=false:=Yb
 have t1:decide ((s.size:Int)<(n:Int))=false:=Ye;have t2:decide (s.size<n)=false:=Ye;refine Z264 ?_;intro wk;have Rn := @run_makeMap prog;clear hX a8 hw;go_enter func10,ntmps10;go_wp2_with fail;have bQ:=RdV.start w ((w.alloc (.cells #[Vo,(0:Int)] 26)).alloc (.cells #[(0:Int),(0:Int)] 29)) s Ye;simp only[U1s]at bQ;obtain⟨W0,aI⟩:=ExZ (((((w.alloc (.cells #[Vo,(0:Int)] 26)).alloc (.cells #[(0:Int),(0:Int)] 29)).alloc (.map #[] 0)).alloc (.cells #[Vo,(0:Int),.string s,.map (some (w.heap.size+1+1))] 80)))
 have eC:Gr w W0:=by subst aI;exact ((((Gr.refl w).alloc _).alloc _).alloc _).alloc _
 have zf:FX w Vo (0:Int) W0:=by
  subst aI;exact (((FX.new w Vo (0:Int) _).gr ((Gr.refl _).alloc _)).gr ((Gr.refl _).alloc _)).gr ((Gr.refl _).alloc _)
 have kL:FX (w.heap.size+1) (0:Int) (0:Int) W0:=by
  subst aI;have:=FX.new (w.alloc (.cells #[Vo,(0:Int)] 26)) (0:Int) (0:Int) 29;simp only[U1s]at this;exact (this.gr ((Gr.refl _).alloc _)).gr ((Gr.refl _).alloc _)
 have fI:w.heap.size+4<=W0.heap.size:=by subst aI;simp
 rw[aI]at bQ⊢;obtain⟨uK,rx⟩:∃o:Nat->Nat,(λ k=>if k=w.heap.size+1+1+1 then 1 else if k=w.heap.size+1+1 then 2 else 0)=o:=⟨_,rfl⟩
 have aB:∀k,uK k≠0->w.heap.size+2<=k:=by
  subst rx;intro k hk;by_cases h1:k=w.heap.size+1+1+1;omega
  simp only[h1,U2f]at hk;by_cases h2:k=w.heap.size+1+1;omega
  simp only[h2,U2f]at hk;exact absurd rfl hk
 rw[rx]at bQ;obtain⟨R,Az⟩:=ExZ (w.heap.size+1+1+1)
 obtain⟨B,Np⟩:=ExZ (w.heap.size+1+1)
 rw[Az]at bQ⊢;rw[Np]at bQ⊢;have UQ:w.heap.size+3=R:=Ya
 clear aI rx Az Np;have iY:¬FV uK w.heap.size:=λ h=>by have:=aB _ h;omega
 have nX:¬FV uK (w.heap.size+1):=λ h=>by have:=aB _ h;omega
 refine (show Calls prog 24 #[.pointer (some ⟨R,0,none⟩),.int .i64 (n:Int),.int .i64 ((k:Int)+1)] W0 _ from Okv ⟨Vi Tb,Ve⟩ rfl rfl s hs R B w.heap.size 0 258 W0 Vo [] uK bQ (HG.o.gr eC) n (k+1) hn Ya X HX.o HN.o).mono ?_;cases X with
 |non=>exact absurd rfl HN.o
 |bad c p =>
  rintro e w1 ⟨rfl,hc,F',aa,x0,x1,x2,x3,om⟩;have r1:w1.cell? ⟨R,1,none⟩=some x1:=by rw[cell_of_block om];rfl
  have JC:∀o,w1.frozen? ⟨R,o,none⟩=false:=λ o=>unfrozen_of_block om o
  have uL:=zf.st aa iY;have dl:=kL.st aa nX;have qZ:=U10 ((dl.other (b2:=R) (o:=1) Ya (0:Int)).set c p);have ia:=U10 (((uL.other (b2:=R) (o:=1) Ya (0:Int)).other (b2:=w.heap.size+1) (o:=0) Ya c).other (b2:=w.heap.size+1) (o:=1) Ya p);have ry:Gr w w1:=aa.below eC (λ k hk=>by have:=aB k hk;omega);have pN:=U10 ry;obtain⟨uo,qG,ff,fl⟩:=dl;have lp:¬(c:Int)=0:=Ya;have HC:=U10 hc;clear aa uL om ry hc bQ zf kL;go_wp2_with fail;refine Z231 ?_;intro w2 g2;obtain⟨u0,u1,uf,ul⟩:=qZ.o.gr g2;obtain⟨v0,v1,vf,vl⟩:=ia.o.gr g2;refine Z160 ?_;intro pM;clear g2 uo qG ff fl r1 JC;have Ro:=pM.o;go_wp2_with fail
  go_region
  all_goals go_wp2_with fail
  all_goals exact U11 (v:=.tuple #[.agg #[Vo,(0:Int)],(0:Int),fv c p]) (by simp[results,results10,go_sem,u0,u1,uf,ul,v0,v1,vf,vl]) rfl ⟨rfl,HC.o,Gr.auto⟩
 |ok r =>
  obtain⟨i,m,st⟩:=r;rintro e w1 ⟨rfl,hm,hi,kO,L1,aC,aZ,rfl,aa,bL⟩;rw[U1j]at hi;have mH:∀k,aC k≠0->w.heap.size+2<=k:=λ k hk=>by
   rcases bL k hk with e|e
   exact aB k e
   omega
  have Je:¬FV aC w.heap.size:=λ h=>by have:=mH _ h;omega
  have jS:¬FV aC (w.heap.size+1):=λ h=>by have:=mH _ h;omega
  have uL:=zf.st aa iY;have dl:=kL.st aa nX;obtain⟨r0,r1,r2,r3,JC⟩:=aZ.cells;have qZ:=U10 ((dl.other (b2:=R) (o:=1) Ya i).set (0:Int) (0:Int));have ia:=U10 (((uL.other (b2:=R) (o:=1) Ya i).other (b2:=w.heap.size+1) (o:=0) Ya (0:Int)).other (b2:=w.heap.size+1) (o:=1) Ya (0:Int));have aO:=U10 (((aZ.setRoot i).setCell (p:=⟨w+1,0,none⟩) jS (0:Int)).setCell (p:=⟨w+1,1,none⟩) jS (0:Int));have ry:Gr w w1:=aa.below eC (λ k hk=>by have:=aB k hk;omega);have pN:=U10 ry;obtain⟨uo,qG,ff,fl⟩:=dl;have D9:=U10 mH;clear aa uL ry bL bQ zf kL r0 r2 r3 mH aB aZ;go_wp2_with fail;refine Z155 ?_;intro w2 g2;have uM:=U10 (qZ.o.gr g2);have wP:=U10 (ia.o.gr g2);have pE:=aO.o.gr g2;refine Z160 ?_;intro pM;obtain⟨g,cap,cur,rfl,qe,aW,dR,oZ,tM,lF,cM,FH,cE,C1⟩:=pE.form Ya;obtain⟨s0,s1,s2,s3,sz⟩:=pE.cells;have kP:V5r w2 R w.heap.size g cap L1 0 w2:=by
   refine⟨?_,λ _ _ _=>rfl,U12 _,rfl,rfl,rfl⟩
   simpa using pE.nodes
  have rz:=U10 kP;have bm:=U10 pE;have ki:w.heap.size+2<=g:=D9.o g Ya;have Rp:L1.length<=9223372036854775807:=by unfold maxLen at cE;omega
  have rA:=U10 (show L1.length<=cap/\cap<=9223372036854775807 from ⟨FH,by unfold maxLen at cE;omega⟩);clear g2 uo qG ff fl r1 JC lF cM C1 kP pE qZ ia aO pN FH cE;go_wp2_with fail
  go_loopw [52] (λ v wr=>∃j:Nat,v=.int .i64 j/\j<=L1.length/\V5r w2 R w.heap.size g cap L1 j wr) (λ v _=>L1.length-(intOf v).toNat)
  case atStart=>exact⟨0,rfl,Ya,rz.o⟩
  case round =>
   obtain⟨j,rfl,hj,hcut⟩:=hrel;have dv:=U10 hcut;have FJ:R≠g:=U3l oZ;have ym:=bm.o.R_lt.2;have om:=hcut.2.1 R ym FJ;have q0:wr.cell? R=some (.slice g L1.length cap):=(U1r (w:=w2) (a:=R) om).trans s0;have q1:wr.cell? ⟨R,1,none⟩=some (.int .i64 i):=(U1r (w:=w2) (a:=⟨R,1,none⟩) om).trans s1;have qz:∀o,wr.frozen? ⟨R,o,none⟩=false:=λ o=>(U33 (w:=w2) (a:=⟨R,o,none⟩) om).trans (sz o)
   clear hcut om;by_cases e9:j<L1.length
   ·have d1:decide ((j:Int)<(L1.length:Int))=true:=by simp;omega
    have d2:decide (j<L1.length)=true:=Ye;refine Z230 ?_;intro i1;have i2:(j:Int)<(L1.length:Int):=Ya;refine Z153 ?_;intro wj;obtain⟨rj,rB⟩:∃rj,L1[j]?=some rj:=⟨_,U1e e9⟩
    have Rq:=U10 rB;have iJ:=U10 (bm.o.rows j rj rB);have hS:O59 g j rj wr.drew:=dv.o.cells rj rB;have cj:=dv.o.step rj rB;obtain⟨ka,kn,Da⟩:=Ocj iJ.o.k;obtain⟨sa,sn,Db⟩:=Ocj iJ.o.s;obtain⟨ua,un,Dc⟩:=O42 iJ.o.u;have l8:=Oal iJ.o.k;have uN:=O96 iJ.o.s;have zg:=O4n iJ.o.u;rw[Da]at l8 cj;rw[Db]at uN cj;rw[Dc]at zg cj;have fO:=U10 l8;have Mg:=U10 uN;have Mh:=U10 zg;have ky:=U10 cj;clear rB cj Da Db Dc l8 uN zg;go_wp2_with fail;refine Reg.begin' (W:=λ i=>i != 20&&i != 23&&i != 26) (S:=O59 g j rj) Yc ?_;refine Z304 ?_;obtain⟨p1,p2,p3,pf⟩:=(show O59 g j rj wr from hS)
    exact J170
   have d1:decide ((j:Int)<(L1.length:Int))=false:=Ye;have d2:decide (j<L1.length)=false:=Ye;have JD:j=L1.length:=Ya;have Rr:w.heap.size≠g:=Ya;have Hy:w.heap.size+1≠g:=Ya;have Rs:=U10 (wP.o.of_block (dv.o.2.1 _ wP.o.2.2.2 Rr) dv.o.2.2.1);have AT:=U10 (uM.o.of_block (dv.o.2.1 _ uM.o.2.2.2 Hy) dv.o.2.2.1);have JE:=U10 (dv.o.gr pM.o Ya);have Rt:R≠w.heap.size:=Ya;have Ru:R≠w.heap.size+1:=Ya;go_wp2_with fail;refine (O88 g L1.length cap rA.o.1 rA.o.2 _).mono ?_;refine Z48 ?_;go_wp2_with fail;obtain⟨wS,fC⟩:=ExZ (wr.setCell R (.slice g L1.length L1.length))
   have hS:Vas R (w.heap.size+1) (.slice g L1.length L1.length) i wS.drew:=by
    subst fC;refine⟨?_,?_,AT.o.other Ru _⟩;show (wr.setCell R _).cell? _=_;rw[U2v _ _ _ (by rw[q0];rfl)]
    show (wr.setCell R _).cell? _=_;rw[U1n _ _ _ _ Yb];exact q1
   have Rv:FX w Vo (0:Int) wS.drew:=by subst fC;exact Rs.o.other Rt _
   have JF:Hid (Gr w wS):=by subst fC;exact JE.o.setCell (p:=R) (by show w.heap.size<=R;omega) _
   have FK:Hid (∀k,aC k≠0->aC k≠1->wS.drew.heap[k]?=wr.heap[k]?):=by
    subst fC;intro k h0 h1;exact U15 _ _ _ _ (λ e=>by rw[show k=R from e]at h1;exact h1 bm.o.oR)
   have ER:Hid (wr.heap.size<=wS.drew.heap.size):=by subst fC;show wr.heap.size<=(wr.setCell _ _).heap.size;simp[World.setCell]
   rw[fC];clear fC q0 q1 qz;refine Reg.begin' (W:=λ i=>i != 8) (S:=Vas R (w.heap.size+1) (.slice g L1.length L1.length) i) Yc ?_;refine Z32 ?_;refine Reg.ty 4 ?_;refine Reg.tl 3 hS ?_ (hy:=by intro w ab;obtain⟨x1,x2,x3,x4,x5,x6⟩:=ab;go_simp;try with_reducible rfl);refine Reg.tl 5 hS ?_ (hy:=by intro w ab;obtain⟨x1,x2,x3,x4,x5,x6⟩:=ab;go_simp;try with_reducible rfl);obtain⟨p1,p2,p3,p4,p5,p6⟩:=(show Vas R (w.heap.size+1) (.slice g L1.length L1.length) i wS from hS)
   obtain⟨v0,v1,vf,vl⟩:=(show FX w Vo (0:Int) wS from Rv)
   refine Reg.on 6 ?_;go_simp;have br:Vas R (w.heap.size+1) (.slice g L1.length L1.length) i ((wS.drew.setCell w (.slice g L1.length L1.length)).setCell ⟨w,1,none⟩ i):=by
    refine⟨?_,?_,(hS.2.2.other Ya _).other Ya _⟩
    ·rw[U1n _ _ _ _ Yf,U1n _ _ _ _ Yf];exact p1
    rw[U1n _ _ _ _ Yf,U1n _ _ _ _ Yf];exact p2
   refine Z239 ?_;refine Reg.ty 7 ?_;refine Reg.on 8 ?_;go_simp;refine Z12 ?_;go_wp2_with fail;refine U11 (v:=.tuple #[.agg #[.slice g L1.length L1.length,i],m,f0]) (by simp[results,results10,go_sem,p3,p4,p5,p6,v0,v1,vf,vl]) rfl ?_;refine⟨g,L1.map Or,Yb,hm,by simpa using hi,by simp[U4o,Function.comp_def,Or],?_,?_⟩
   have Nq:=dv.o;rw[JD]at Nq;refine Nq.tree bm.o (λ k h0 h1=>?_) ?_
   have dB:k≠w.heap.size:=λ e=>Je (by rw[<-e];exact h0)
   have bB:k≠w.heap.size+1:=λ e=>jS (by rw[<-e];exact h0)
   show (World.setCell _ _ _).heap[k]?=_;rw[U15 _ _ _ _ bB,U15 _ _ _ _ bB,U15 _ _ _ _ dB,U15 _ _ _ _ dB];exact FK.o k h0 h1
   have:=ER.o
   simpa [World.setCell]using this
   have cM:=JF.o;exact Gr.auto
end
section
open Pl Go.Proofs.Tryz Go.RowKit Go.Shelf Go.Joins
attribute [local go_sem] U22
variable {Tb:Nat->UInt8×UInt8}
theorem V2b.cells{w:World}{base g:Nat}{L:List Vy}(h:V2b w base g L)(i:Nat)(r:Vy)(hr:L[i]?=some r):w.cell? ⟨g,i*7,none⟩=some (.int .u8 r.nd.kind)/\w.cell? ⟨g,i*7+1,none⟩=some (V2s r.nd.text)/\w.cell? ⟨g,i*7+2,none⟩=some r.kv/\w.cell? ⟨g,i*7+3,none⟩=some r.sv/\w.cell? ⟨g,i*7+4,none⟩=some r.uv /\w.cell? ⟨g,i*7+5,none⟩=some (.int .i64 r.nd.sp.1)/\w.cell? ⟨g,i*7+6,none⟩=some (.int .i64 r.nd.sp.2) :=
 ⟨h.cell i r hr 0 _ rfl,h.cell i r hr 1 _ rfl,h.cell i r hr 2 _ rfl,h.cell i r hr 3 _ rfl,h.cell i r hr 4 _ rfl,h.cell i r hr 5 _ rfl,h.cell i r hr 6 _ rfl⟩
end
