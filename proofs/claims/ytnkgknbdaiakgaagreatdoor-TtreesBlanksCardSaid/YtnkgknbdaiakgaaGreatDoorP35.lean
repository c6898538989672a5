/- The proof's part 35. -/
import Derived.Test.YtnkgknbdaiakgaaGreatDoorP33
import Derived.Test.YtnkgknbdaiakgaaGreatDoorP34
set_option maxHeartbeats 16000000
set_option linter.all false
set_option maxRecDepth 100000
namespace Go.Proofs.YtnkgknbdaiakgaaGreatDoor
open Pl Go.Proofs.Tryz Go.RowKit Go.Shelf Go.Joins
attribute [local go_sem] Uy
variable {Tb:Nat->UInt8×UInt8}
theorem Olz(E:Vz)(hE:O2f Tb E)(w:World)(R B base:Nat)(s:ByteArray)(root:Int)(V:V24)(hV:O5s Tb s R B base root V)(nv:Value)(L:List Vw)(own:Nat->Nat)(h:RdV w R B base s root nv L own)(hg:GW Tb base w)(hs:s.size<=20000000)
    (table d n:Nat)(hn:n<=s.size)(hd:d<=256)(ht:table<=30000000)(X:Va (Nat×Vc))(hX:V1s E V (bs s) table n d (L.map (·.nd))=X)(a8:X ≠ .non) :
    Calls prog 76 #[.pointer (some ⟨R,0,none⟩),table,n,d] w (O7c s R B base root own w X):=by
 cases hk:V1k E (bs s) n with
 |non=>unfold V1s at hX;rw[hk]at hX;exact absurd hX.symm a8
 |bad c p =>
  unfold V1s at hX;rw[hk]at hX;subst hX;exact Odf E hE w R B base s root nv L own h hg hs table d n hn c p hk
 |ok r =>
  obtain⟨ws,m⟩:=r;exact Of4 E hE w R B base s root V hV nv L own h hg hs table d n hn hd ht ws m hk X hX a8
theorem Oje:∀(f:Nat)(l:Pl.Bs)(c p:Nat),V4y f l = .bad c p->c=3:=by
 intro f
 induction f with
 |zero=>intro l c p h;cases h
 |succ f ih =>
  intro l c p h;unfold V4y at h;cases hs:V1r l with
  |bad c2 p2 =>
   rw[hs]at h;cases h;unfold V1r at hs;dsimp only at hs
   split at hs <;> cases hs
   rfl
  |ok n =>
   rw[hs]at h;cases n with
   |zero=>cases h
   |succ n =>
    simp only at h;cases hf:V4y f (l.drop (n+1)) with
    |bad c2 p2=>rw[hf]at h;cases h;exact ih _ _ _ hf
    |ok k=>rw[hf]at h;cases h
theorem Of5(l:Pl.Bs)(n c p:Nat)(h:Vt l n = .bad c p):c=3:=by
 unfold Vt Pl.gap at h;cases hf:V4y ((l.drop n).length+1) (l.drop n) with
 |bad c2 p2=>rw[hf]at h;cases h;exact Oje _ _ _ _ hf
 |ok k=>rw[hf]at h;cases h
theorem O96(s:ByteArray)(i:Int)(n0:Nat)(hi:i=n0)(iF:n0<=s.size)(hs:s.size<=20000000)(w:World) :
    Calls prog 75 #[.string s,i] w λ e w'=>∃m c p:Nat,e = .returned (.tuple #[m,fv c p])/\m<=s.size/\((Vt (bs s) n0 = .ok m/\c=0/\p=0)\/(Vt (bs s) n0 = .bad c p/\c≠0))/\Gr w w':=by
 refine (Onu s i n0 hi iF (by omega) w).mono ?_;rintro e w' ⟨h,g⟩;cases hg:Vt (bs s) n0 with
 |ok m =>
  rw[hg]at h;obtain⟨rfl,hm⟩:=h;exact⟨m,0,0,rfl,hm,.inl ⟨rfl,rfl,rfl⟩,g⟩
 |bad c p =>
  rw[hg]at h;subst h;exact⟨0,c,p,rfl,by omega,.inr ⟨rfl,by have:=Of5 _ _ _ _ hg;omega⟩,g⟩
theorem O5k{w:World}{base n:Nat}{v:Value}{xs:List Value}(h:w.ownsRow base 3 1 v n xs)(W:World):Calls prog 26 #[v] W λ e w'=>e = .returned (O4 v)/\W=w':=by
 rcases O15 h with⟨rfl,_⟩|⟨g,cap,rfl,h1,h2⟩
 exact O81 W
 exact O9r g n cap h1 h2 W
theorem Oaq{w:World}{base n:Nat}{a:Option Addr}{k c:Nat}{xs:List Value}(h:w.ownsRow base 3 1 (.slice a k c) n xs)(W:World):Calls prog 26 #[.slice a k c] W λ e w'=>e = .returned (.slice a k k)/\W=w':=O5k h W
def O84(subs:List Nat)(a b:Nat)(uv:Value):Vw:=⟨V58 subs a b,Vn,Vn,uv⟩
theorem O9s(W:World)(R B base:Nat)(s:ByteArray)(root:Int)(nv:Value)(L:List Vw)(own:Nat->Nat)(h:RdV W R B base s root nv L own)(hr:Pl.room (L.map (·.nd))=true)
    (uv:Value)(subs:List Nat)(ho:W.ownsRow base 3 1 uv subs.length (O7 subs))(h0:∀b,uv.ownBlock=some b->own b=0)(a b:Nat)(b':Int)(hb:b'=b) :
    Calls prog 74 #[.pointer (some ⟨R,0,none⟩),.agg #[.int .u8 7,.string ⟨#[]⟩,Vn,Vn,O4 uv,a,b']] W λ e w' =>
     e = .returned L.length/\∃nv' own',RdV w' R B base s root nv' (L++[O84 subs a b (O4 uv)]) own'/\St (λ k=>FV own k\/uv.ownBlock=some k) (FV own') W w'/\(∀k,own' k≠0->own k≠0\/uv.ownBlock=some k\/W.heap.size<=k):=by
 have hl:L.length<=30000000:=by simp[Pl.room]at hr;omega
 subst hb;have h1:(O4 uv).oneCell'=true:=by
  rcases O15 ho with⟨rfl,_⟩|⟨g,cap,rfl,_,_⟩ <;> rfl
 have h2:(O4 uv).ownBlock=uv.ownBlock:=O2r uv;refine (O8w W R B base s root nv L own h hl (O84 subs a b (O4 uv)) h1 rfl rfl rfl rfl rfl (O2c ho) (λ e=>by cases e) (λ k e=>⟨h0 k (by rw[<-h2];exact e),(ho.lt k (by rw[<-h2];exact e)).2⟩) 7 ⟨#[]⟩ Vn Vn (O4 uv) a b (by simp[ndV,O84,V58])).mono ?_;rintro e w' ⟨rfl,nv',own',h3,h4,h5⟩;have e2:(O84 subs a b (O4 uv)).uv.ownBlock=uv.ownBlock:=h2;rw[e2]at h4 h5;exact⟨rfl,nv',own',h3,h4,h5⟩
def Pl.listEnd(n:Nat)(Y:Va (List Nat×Nat×Vc)):Va (Nat×Nat×Vc):=match Y with
 |.non => .non
 |.bad c p => .bad c p
 |.ok (subs,e,st1)=>if Pl.room st1 then .ok (st1.length,e+1,st1++[V58 subs n (e+1)]) else .non
def Oov(s:ByteArray)(R B base:Nat)(root:Int)(V:V24)(d:Nat)(own:Nat->Nat)(w:World)(z0 bF:Nat)(Y:Va (List Nat×Nat×Vc))(k:Nat)(v7 v9:Value)(wr:World):Prop :=
 (∃(n:Nat)(subs:List Nat)(nv':Value)(L':List Vw)(own':Nat->Nat)(ua:Option Addr)(uc:Nat),v7 = .int .i64 n/\v9 = .slice ua subs.length uc/\n<=s.size/\RdV wr R B base s root nv' L' own'/\V1h V (bs s) d k n subs (L'.map (·.nd))=Y/\FX bF (0:Int) (0:Int) wr/\GW Tb base wr /\
  St (FV own) (FV own') w wr/\(∀k,own' k≠0->own k≠0\/z0<=k)/\z0<=wr.heap.size/\wr.ownsRow base 3 1 (.slice ua subs.length uc) subs.length (O7 subs)/\(∀b,(Value.slice ua subs.length uc).ownBlock=some b->own' b=0/\z0<=b)) \/
 (∃(m c p:Nat)(F':Nat->Prop),v7 = .int .i64 m/\c≠0/\Y = .bad c p/\FX bF c p wr/\St (FV own) F' w wr/\RK R wr)
theorem Om0(s:ByteArray)(R B base:Nat)(root:Int)(V:V24)(hV:O5s Tb s R B base root V)(w:World)(nv:Value)(L:List Vw)(own:Nat->Nat)(h:RdV w R B base s root nv L own)(hg:GW Tb base w)(hs:s.size<=20000000)
    (d n:Nat)(hb:V9 (bs s) n=91)(X:Va (Nat×Nat×Vc))(hX:V2s V (bs s) d n (L.map (·.nd))=X)(a8:X ≠ .non) :
    Calls prog 45 #[.pointer (some ⟨R,0,none⟩),n,d] w (O4c s R B base root own w X):=by
 have hn:n<s.size:=U2a λ aK=>by rw[O10 s n (by omega)]at hb;omega
 obtain⟨c0,c1,c2,c3,fz⟩:=h.cells;have hR:=h.R_lt;have H:=U0 h;have HG:=U0 hg;have HV:=U0 hV;have bN:¬FV own w.heap.size:=h.not_new (U2 _);unfold V2s at hX;have w1:IntKind.i64.wrap ((n:Int)+1)=(n:Int)+1:=Uk _ ⟨by omega,by omega⟩;by_cases gP:256<d
 ·rw[Ua gP]at hX;subst hX;have b1:decide ((256:Int)<(d:Int))=true:=by simp;omega
  clear c0 c1 c2 c3 fz h hg hV hb gP;go_enter func45,ntmps45;go_wp2_with fail;exact U1 (v := .tuple #[(0:Int),(0:Int),fv 4 n]) (by simp[results,results45,go_sem]) rfl ⟨rfl,by omega,FV own,St.auto,H.o.rk.gr Gr.auto⟩
 rw[Ud gP]at hX;have b1:decide ((256:Int)<(d:Int))=false:=by simp;omega
 have HX:=U0 hX;have HN:=U0 a8;have hd:d<=256:=by omega
 clear c0 c1 c3 fz h hg hV hb gP hX a8;go_enter func45,ntmps45;go_wp2_with fail;refine (O96 s _ (n+1) (by simp) (by omega) hs _).mono ?_;rintro e I4 ⟨m,c,p,rfl,hm,BY,g1⟩;have dl:=(FX.new w (.int .i64 0) (0:Int) 29).gr g1;obtain⟨z0,fE⟩:=ExZ (I4.heap.size)
 have ay:w.heap.size<z0:=by have:=g1.size;simp at this;omega
 have tH:=U0 (dl.set c p);have dW:=U0 (Gr.trans ((Gr.refl w).alloc (.cells #[(0:Int),(0:Int)] 29)) g1);have HZ:=U0 fE;have I5:=U0 BY;obtain⟨f1,f2,f3,f4⟩:=dl;clear g1 fE BY;go_wp2_with fail;obtain⟨Y,hY⟩:∃Y,(match Vt (bs s) (n+1) with
  |.bad c p => .bad c p
  |.ok g=>V1h V (bs s) d ((bs s).length+2) g [] (L.map (·.nd)):Va (List Nat×Nat×Vc))=Y:=⟨_,rfl⟩
 have Ew:Pl.listEnd n Y=X:=by
  rw[<-hY,<-HX.o];cases Vt (bs s) (n+1) <;> rfl
 have DM:=U0 Ew;have sA:Hid (Y ≠ .non):=by
  intro e;rw[e]at Ew;exact HN.o Ew.symm
 have dH:St (FV own) (FV own) w ((I4.setCell ⟨w.heap.size,0,none⟩ c).setCell ⟨w.heap.size,1,none⟩ p):=(dW.o.st.setCell (.inr (U2 _)) _).setCell (.inr (U2 _)) _;have jg:=U0 dH;have HY:=U0 hY;clear Ew hY dH f1 f2 f3 f4
 go_loopg [7,9] ((bs s).length+2) (λ k v7 v9 wr=>Oov s R B base root V d own w z0 w.heap.size Y k v7 v9 wr)
 case atStart =>
  have hY:=HY.o;rcases I5.o with⟨nw,rfl,rfl⟩|⟨nw,hc⟩
  rw[nw]at hY;refine .inl ⟨m,[],nv,L,own,none,0,rfl,rfl,hm,?_,hY,tH.o,?_,jg.o,λ k hk => .inl hk,by simp;exact U39 HZ.o.symm,On _ _ _ _,λ b e=>by simp[Value.ownBlock]at e⟩;exact ((H.o.gr dW.o).setCell bN _).setCell bN _
  exact HG.o.st jg.o (λ k hk=>(H.o.lt k hk).1)
  rw[nw]at hY;exact .inr ⟨m,c,p,FV own,rfl,hc,hY.symm,tH.o,jg.o,(((H.o.gr dW.o).setCell bN _).setCell bN _).rk⟩
 case round =>
  rcases hrel with⟨m2,subs,ib,L2,ad,ua,uc,rfl,rfl,jn,hr,bX,kF,lp,a9,bB,BZ,dD,B'⟩|⟨m2,c2,p2,F2,rfl,aE,lT,kF,a9,jM⟩
  ·-- the fault is none
   obtain⟨gk,rfl⟩:∃f,gk=f+1:=by
    cases gk with
    |zero=>exact absurd bX.symm sA.o
    |succ f=>exact⟨f,rfl⟩
   rw[V1h]at bX;obtain⟨v0,v1,vf,vl⟩:=kF;have eo:=U0 (show FX w.heap.size (0:Int) (0:Int) wr from ⟨v0,v1,vf,vl⟩);have aP:=U0 hr;have M6:=U0 bX;have kM:=U0 lp;have fT:=U0 a9;have gv:=U0 bB;have AY:=U0 BZ;have qj:=U0 dD;have ew:=U0 B';have fy:=U0 ay;clear hr bX lp a9 bB BZ dD B' ay;go_wp2_with fail;refine Z153 ?_;intro w3 g3;have qm:=U0 (eo.o.gr g3);have aW:=U0 (aP.o.gr g3);have AI:=U0 (kM.o.gr g3);have jG:=U0 (fT.o.gr g3);have I6:=U0 (Uj AY.o g3.size);have jX:=U0 (O1 qj.o (λ k e=>g3.block (qj.o.lt k e).2));clear g3 v0 v1 vf vl eo aP kM fT AY qj;obtain⟨tz,tA,gM,tC,tD⟩:=aW.o.cells;go_wp2_with fail;refine (O1w w3 R s gM m2 m2 rfl).mono ?_;refine Z48 ?_;have bX:=M6.o;by_cases hb:V9 (bs s) m2=93
   ·rw[Ua hb]at bX;have bA:(((V9 (bs s) m2:Nat):Int) != 93)=false:=by simp;omega
    have lO:Hid (m2<s.size):=U2a λ aK=>by rw[O10 s m2 (by omega)]at hb;omega
    have ae:=DM.o;rw[<-bX]at ae;simp only[Pl.listEnd]at ae;cases ly:Pl.room (L2.map (·.nd)) with
    |false=>rw[ly,Ud (by simp)]at ae;exact absurd ae.symm HN.o
    |true =>
    rw[ly,Ua rfl]at ae;have bV:=U0 ae;have C0:=U0 ly;have rd:=qm;have nO:=aW;have mG:=jG;have dj:=gv;have DK:=I6;have oW:=jX;clear ae ly bX hb tz tA gM tC tD;obtain⟨p0,p1,pf,pl⟩:=rd.o;go_wp2_with fail;refine Z153 ?_;intro w9 g9;refine Z243 ?_;intro sm oV eQ fc zr;clear g9 p0 p1 pf pl;have jp:IntKind.i64.wrap ((m2:Int)+1)=(m2:Int)+1:=Uk _ ⟨by have:=lO.o;omega,by have:=lO.o;omega⟩;go_wp2_with fail;refine Z306 ?_;intro hS;refine (O9s w9.drew R B base s root _ _ _ oV.o.drew C0.o (Value.slice ua subs.length uc) subs (O1 fc.o (λ k e=>(Gr.refl w9).drew.block (fc.o.lt k e).2)) (λ b e=>(ew.o b e).1) n (m2+1) _ (by simp)).mono ?_;rintro e vq ⟨rfl,AG,f9,qn,gx,gy⟩;have C1:¬(FV ad w.heap.size\/((Value.slice ua subs.length uc)).ownBlock=some w.heap.size):=by
     exact J42
    have d7:=hS.st gx C1;refine Z133 ?_;refine Z61 ?_;obtain⟨p0,p1,pf,pl⟩:=d7;have ed:∀k,f9 k≠0->own k≠0\/z0<=k:=by
     intro k hk;rcases gy k hk with e|e|e
     exact dj.o k e;exact .inr (ew.o k e).2
     exact .inr (Uj zr (by simpa using e))
    have wL:¬FV f9 w.heap.size:=by
     intro hf;rcases ed _ hf with e|e
     exact bN e
     have:=fy.o;omega
    have gC:St (FV own) (FV f9) w vq:=(((eQ.o.drew).to (λ i hi=>by
     rcases hi with hi|hi
     exact eQ.o.own i hi
     exact .inr (by have:=(ew.o i hi).2;have:=fy.o;omega))).trans gx)
    have KQ:=U0 qn;have cO:=U0 gC;have oQ:=U0 ed;clear qn gC ed gx gy C1;refine Reg.on 12 ?_;go_simp;refine Z12 ?_;go_wp2_with fail;refine U1 (v := .tuple #[.int .i64 (L2).length,.int .i64 (m2+1:Nat),f0]) (by simp[results,results45,go_sem,p0,p1,pf,pl]) rfl ?_;exact J189
   rw[Ud hb]at bX;have bA:(((V9 (bs s) m2:Nat):Int) != 93)=true:=by simp;omega
   obtain⟨q0,q1,qf,ql⟩:=qm.o;refine Z151 ?_;intro wd;have C2:=U0 bX;clear bX hb M6;go_wp2_with fail;have bX:=C2.o;cases hZ:V (d+1) m2 (L2.map (·.nd)) with
   |non=>rw[hZ]at bX;exact absurd bX.symm sA.o
   |bad c p =>
    rw[hZ]at bX;simp only at bX;refine Z213 ?_;refine Z116 ?_;intro w5 hc F5 d8 wY;have jW:¬FV ad w.heap.size:=λ hf=>by
     rcases gv.o _ hf with e|e
     exact bN e
     have:=fy.o;omega
    have fX:=qm.o.st d8 jW;have eo:=U0 (fX.set c p);have jY:=U0 ((((jG.o.trans d8).setCell (p:=⟨w.heap.size,0,none⟩) (.inr (U2 _)) c).setCell (p:=⟨w.heap.size,1,none⟩) (.inr (U2 _)) p));have bV:Hid (Va.bad c p=X):=by
     exact J41
    have HC:=U0 hc;have o9:=U0 hc;obtain⟨a0,a1,af,al⟩:=fX;have kL:¬(c:Int)=0:=by omega
    clear bX d8 hZ hc q0 q1 qf ql tz tA gM tC tD;go_wp2_with fail;refine Z230 ?_;intro w6 g6;have I7:=U0 (eo.o.gr g6);have C3:=U0 (jY.o.gr g6);have qo:=U0 (wY.o.gr g6);clear eo jY g6 a0 a1 af al;have eo:=I7;have jY:=C3;have qp:¬(c:Int)=0:=by have:=HC.o;omega
    clear HC;obtain⟨p0,p1,pf,pl⟩:=eo.o;go_wp2_with fail;refine (O1k c p qp _).mono ?_;rintro e w9 ⟨rfl,g9⟩;obtain⟨u0,u1,uf,ul⟩:=eo.o.gr g9;have je:=jY.o.gr g9;have qq:=qo.o.gr g9;clear g9 p0 p1 pf pl;go_wp2_with fail
    go_region
    all_goals go_wp2_with fail
    rw[<-bV.o];exact U1 (v := .tuple #[(0:Int),(0:Int),fv c p]) (by simp[results,results45,go_sem,u0,u1,uf,ul]) rfl ⟨rfl,o9.o,_,((je.setCell (.inr (U2 _)) _).setCell (.inr (U2 _)) _).drew,((qq.set (by omega) _).set (by omega) _).drew⟩
   |ok r =>
    obtain⟨iv,n2,st2⟩:=r;rw[hZ]at bX;simp only at bX;have nY:subs.length<=30000000:=by
     by_cases aK:30000000<subs.length;rw[Ua aK]at bX;exact absurd bX.symm sA.o
     omega
    rw[Ud (by omega)]at bX;refine Z213 ?_;rintro e w5 ⟨rfl,nN,xW,DI,L5,co,uo,rfl,d8,ex⟩;have jW:¬FV ad w.heap.size:=λ hf=>by
     rcases gv.o _ hf with e|e
     exact bN e
     have:=fy.o;omega
    have fX:=qm.o.st d8 jW;have iV:=U0 (fX.set (0:Int) (0:Int));have gc:Hid (∀k,co k≠0->own k≠0\/z0<=k):=λ k hk=>by
     rcases ex k hk with e|e
     exact gv.o k e
     exact .inr (Uj I6.o e)
    have uq:¬FV co w.heap.size:=λ hf=>by
     rcases gc.o _ hf with e|e
     exact bN e
     have:=fy.o;omega
    refine Z75 ?_;intro ix fW;have iO:Hid (∀b,(Value.slice ua subs.length uc).ownBlock=some b->co b=0/\z0<=b):=λ b e=>by
     refine⟨?_,(ew.o b e).2⟩;by_cases h0:co b=0;exact h0
     rcases ex b h0 with e2|e2
     exact absurd (ew.o b e).1 e2
     have:=(jX.o.lt b e).2;omega
    have qr:Hid (((w5.setCell ⟨w.heap.size,0,none⟩ (0:Int)).setCell ⟨w.heap.size,1,none⟩ (0:Int)).ownsRow base 3 1 (.slice ua subs.length uc) subs.length (O7 subs)) :=
     Od (Od (O1 jX.o (λ k e=>d8.block k (jX.o.lt k e).2 (λ hf=>hf (ew.o k e).1))) (λ k e=>by have:=(ew.o k e).2;have:=fy.o;show k≠w.heap.size;omega) _) (λ k e=>by have:=(ew.o k e).2;have:=fy.o;show k≠w.heap.size;omega) _
    obtain⟨a0,a1,af,al⟩:=fX;have uE:z0<=w5.heap.size:=Uj I6.o d8.size;have I8:=U0 bX;have M7:=U0 nY;obtain⟨iU,u1,u2,u3,u4⟩:=U2u O6c;have fS:=U0 (And.intro u1 (And.intro u2 (And.intro u3 u4)));clear bX d8 hZ q0 q1 qf ql tz tA gM tC tD uo ex u1 u2 u3 u4 qm aW AI jG jX C2 nY;go_wp2_with fail;refine Z153 ?_;intro w6 g6;have se:z0<=w6.heap.size:=by have:=g6.size;simp[World.setCell]at this;omega
    have oT:=U0 (iV.o.gr g6);have kJ:=U0 (ix.o.gr g6);have ij:=U0 (fW.o.gr g6);have qt:=U0 (O1 qr.o (λ k e=>g6.block (qr.o.lt k e).2));have M8:Hid (∀j u,[Value.int .i64 iv][j]?=some u->(w6.alloc (.cells #[iv] 3)).cell? ((⟨w6.heap.size,0,none⟩:Addr).add j)=some u):=λ j u hu=>by
     have:=cell_one_new w6 iv 3 j u hu;exact this
    have kR:base<=w6.heap.size:=by have h1:=kJ.o.R_lt;omega
    clear g6 a0 a1 af al iV ix fW qr;obtain⟨uv,lQ⟩:=ExZ (Value.slice ua subs.length uc)
    rw[lQ]at qt iO⊢;clear ew lQ;have C4:Hid (∀w7 gb cap,(w6.alloc (.cells #[iv] 3)).grownBy w7 uv.ownBlock->(uv.ownBlock=some gb\/gb=(w6.alloc (.cells #[iv] 3)).heap.size)->w7.ownsRow base 3 1 (.slice (some ⟨gb,0,none⟩) (subs.length+1) cap) (subs.length+1) (O7 subs++[.int .i64 iv]) ->
        RdV w7 R B base s root DI L5 co/\FX w.heap.size (0:Int) (0:Int) w7/\St (FV own) (FV co) w w7/\(co gb=0/\z0<=gb)/\z0<=w7.heap.size/\w7.ownsRow base 3 1 (.slice (some ⟨gb,0,none⟩) (subs.length+1) cap) (subs++[iv]).length (O7 (subs++[iv]))):=by
     intro w7 gb cap mZ Ex C5;have tI:St (λ k=>uv.ownBlock=some k) (λ k=>uv.ownBlock=some k) (w6.alloc (.cells #[iv] 3)) w7:=(St.refl _ _).grown mZ (λ k e => .inl e);have I9:=kJ.o.alloc (.cells #[iv] 3);refine⟨I9.kept (λ k hk=>tI.block k (I9.lt k hk).2 (λ e=>hk (iO.o k e).1)) tI.size,(oT.o.gr ((Gr.refl _).alloc _)).st tI (λ e=>by have:=(iO.o _ e).2;have:=fy.o;omega),(ij.o.alloc _).grown mZ (λ k e => .inr (by have:=(iO.o k e).2;have:=fy.o;omega)),?_,?_,by simpa [O7]using C5⟩
     rcases Ex with e|e
     exact iO.o gb e
     refine⟨?_,by rw[e];simp;omega⟩;by_cases h0:co gb=0;exact h0
     have:=(I9.lt gb h0).2;omega
     have:=tI.size;simp at this;omega
    go_wp2_with (at_builtin;refine wpList_append_lies _ rfl (.tmp 45) (.tmp 47) 36 rfl base 3 iU _ 1 8 underlying36 fS.o.1 fS.o.2.1 fS.o.2.2.1 fS.o.2.2.2 rfl (by decide) uv subs.length (O7 subs) rfl (qt.o.alloc _) ⟨w6.heap.size,0,none⟩ 1 1 [.int .i64 iv] rfl (by simp) M8.o (by simp[Value.oneCell']) (by decide) (by have:=M7.o;unfold maxLen;omega) (by have:=M7.o;omega) (by simp;omega) _ rfl ?_;intro gb cap w7 jV mZ Ex kS;have qv:=U0 (C4.o w7 gb cap mZ Ex jV);clear jV mZ Ex kS;have cb:=qv.o.1.cells.2.2.1;obtain⟨p0,p1,pf,pl⟩:=qv.o.2.1);refine (O96 s _ n2 rfl nN hs _).mono ?_;rintro e w8 ⟨m8,c8,p8,rfl,Tm,C6,g8⟩;have PQ:∀o,¬FV co (⟨w.heap.size,o,none⟩:Addr).block:=λ _=>uq
    obtain⟨a0,a1,af,al⟩:=qv.o.2.1.gr g8;have tJ:=U0 ((qv.o.2.1.gr g8).set c8 p8);have A9:=U0 (((qv.o.1.gr g8).setCell (p:=⟨w.heap.size,0,none⟩) uq c8).setCell (p:=⟨w.heap.size,1,none⟩) uq p8);have ir:=U0 (((qv.o.2.2.1.gr g8).setCell (p:=⟨w.heap.size,0,none⟩) (.inr (U2 _)) c8).setCell (p:=⟨w.heap.size,1,none⟩) (.inr (U2 _)) p8);have vr:Hid (∀b,(Value.slice (some ⟨gb,0,none⟩) (subs.length+1) cap).ownBlock=some b->co b=0/\z0<=b):=λ b e=>by
     simp[Value.ownBlock]at e;subst e;exact qv.o.2.2.2.1
    have tK:gb≠w.heap.size:=by have:=qv.o.2.2.2.1.2;have:=fy.o;omega
    have mh:Hid (((w8.setCell ⟨w.heap.size,0,none⟩ c8).setCell ⟨w.heap.size,1,none⟩ p8).ownsRow base 3 1 (.slice (some ⟨gb,0,none⟩) (subs.length+1) cap) (subs++[iv]).length (O7 (subs++[iv]))) :=
     Od (Od (O1 qv.o.2.2.2.2.2 (λ k e=>g8.block (qv.o.2.2.2.2.2.lt k e).2)) (λ k e=>by simp[Value.ownBlock]at e;subst e;exact tK) _) (λ k e=>by simp[Value.ownBlock]at e;subst e;exact tK) _
    have BP:z0<=w8.heap.size:=Uj qv.o.2.2.2.2.1 g8.size;have bX:=I8.o;clear p0 p1 pf pl cb C4 qt kJ oT ij iO M8 fS g8;rcases C6 with⟨nw,rfl,rfl⟩|⟨nw,Ia⟩
    ·rw[nw]at bX;simp only at bX;have Ib:=U0 bX;clear bX nw;go_wp2_with fail;refine Z153 ?_;intro C7 qx;have qy:=U0 (tJ.o.gr qx);have Aa:=U0 (A9.o.gr qx);have qA:=U0 (ir.o.gr qx);have lz:=U0 (O1 mh.o (λ k e=>qx.block (mh.o.lt k e).2));have C8:z0<=C7.heap.size:=by have:=qx.size;simp[World.setCell]at this;omega
     have gM:=Aa.o.cells.2.2.1;clear qx tJ A9 ir mh a0 a1 af al;go_wp2_with fail;refine (O1w C7 R s gM m8 m8 rfl).mono ?_;refine Z48 ?_;have bX:=Ib.o;by_cases hb:V9 (bs s) m8=93
     ·rw[Ua hb]at bX;have bA:(((V9 (bs s) m8:Nat):Int)==93)=true:=by simp;omega
      have lO:Hid (m8<s.size):=U2a λ aK=>by rw[O10 s m8 (by omega)]at hb;omega
      have ae:=DM.o;rw[<-bX]at ae;simp only[Pl.listEnd]at ae;cases ly:Pl.room (L5.map (·.nd)) with
      |false=>rw[ly,Ud (by simp)]at ae;exact absurd ae.symm HN.o
      |true =>
      rw[ly,Ua rfl]at ae;have bV:=U0 ae;have C0:=U0 ly;have rd:=qy;have nO:=Aa;have mG:=qA;have dj:=gc;have DK:=U0 C8;have oW:=lz;have ew:=vr;clear ae ly bX hb gM;obtain⟨p0,p1,pf,pl⟩:=rd.o;go_wp2_with fail;refine Z153 ?_;intro w9 g9;refine Z243 ?_;intro sm oV eQ fc zr;clear g9 p0 p1 pf pl;have jp:IntKind.i64.wrap ((m8:Int)+1)=(m8:Int)+1:=Uk _ ⟨by have:=lO.o;omega,by have:=lO.o;omega⟩;go_wp2_with fail;refine Z306 ?_;intro hS;refine (O9s w9.drew R B base s root _ _ _ oV.o.drew C0.o (Value.slice (some ⟨gb,0,none⟩) (subs.length+1) cap) (subs++[iv]) (O1 fc.o (λ k e=>(Gr.refl w9).drew.block (fc.o.lt k e).2)) (λ b e=>(ew.o b e).1) n (m8+1) _ (by simp)).mono ?_;rintro e vq ⟨rfl,AG,f9,qn,gx,gy⟩;have C1:¬(FV co w.heap.size\/((Value.slice (some ⟨gb,0,none⟩) (subs.length+1) cap)).ownBlock=some w.heap.size):=by
       exact J42
      have d7:=hS.st gx C1;refine Z133 ?_;refine Z61 ?_;obtain⟨p0,p1,pf,pl⟩:=d7;have ed:∀k,f9 k≠0->own k≠0\/z0<=k:=by
       intro k hk;rcases gy k hk with e|e|e
       exact dj.o k e;exact .inr (ew.o k e).2
       exact .inr (Uj zr (by simpa using e))
      have wL:¬FV f9 w.heap.size:=by
       intro hf;rcases ed _ hf with e|e
       exact bN e
       have:=fy.o;omega
      have gC:St (FV own) (FV f9) w vq:=(((eQ.o.drew).to (λ i hi=>by
       rcases hi with hi|hi
       exact eQ.o.own i hi
       exact .inr (by have:=(ew.o i hi).2;have:=fy.o;omega))).trans gx)
      have KQ:=U0 qn;have cO:=U0 gC;have oQ:=U0 ed;clear qn gC ed gx gy C1;refine Reg.on 12 ?_;go_simp;refine Z12 ?_;go_wp2_with fail;refine U1 (v := .tuple #[.int .i64 (L5).length,.int .i64 (m8+1:Nat),f0]) (by simp[results,results45,go_sem,p0,p1,pf,pl]) rfl ?_;exact J189
     rw[Ud hb]at bX;have bA:(((V9 (bs s) m8:Nat):Int)==93)=false:=by simp;omega
     obtain⟨q0,q1,qf,ql⟩:=qy.o;by_cases dk:V9 (bs s) m8=44
     ·rw[Ua dk]at bX;have aA:(((V9 (bs s) m8:Nat):Int) != 44)=false:=by simp;omega
      have PR:m8<s.size:=U2a λ aK=>by rw[O10 s m8 (by omega)]at dk;omega
      have Tn:IntKind.i64.wrap ((m8:Int)+1)=(m8:Int)+1:=Uk _ ⟨by omega,by omega⟩;have Ic:=U0 bX;clear bX hb dk;go_wp2_with fail;refine (O1w C7 R s gM m8 m8 rfl).mono ?_;refine Z48 ?_;go_wp2_with fail;refine (O96 s _ (m8+1) (by simp) (by omega) hs _).mono ?_;rintro e mi ⟨m9,c9,p9,rfl,PS,vs,j8⟩;have C9:=U0 vs;have vt:=U0 ((qy.o.gr j8).set c9 p9);have i9:=U0 (((Aa.o.gr j8).setCell (p:=⟨w.heap.size,0,none⟩) uq c9).setCell (p:=⟨w.heap.size,1,none⟩) uq p9);have lA:=U0 (((qA.o.gr j8).setCell (p:=⟨w.heap.size,0,none⟩) (.inr (U2 _)) c9).setCell (p:=⟨w.heap.size,1,none⟩) (.inr (U2 _)) p9);have ye:Hid (((mi.setCell ⟨w.heap.size,0,none⟩ c9).setCell ⟨w.heap.size,1,none⟩ p9).ownsRow base 3 1 (.slice (some ⟨gb,0,none⟩) (subs.length+1) cap) (subs++[iv]).length (O7 (subs++[iv]))) :=
       Od (Od (O1 lz.o (λ k e=>j8.block (lz.o.lt k e).2)) (λ k e=>by simp[Value.ownBlock]at e;subst e;exact tK) _) (λ k e=>by simp[Value.ownBlock]at e;subst e;exact tK) _
      have Id:z0<=mi.heap.size:=Uj C8 j8.size;obtain⟨r0,r1,rf,rl⟩:=qy.o.gr j8;clear q0 q1 qf ql vs j8 gM;go_wp2_with fail
      go_roundg gk
      case measure=>omega
      case rel =>
       have bX:=Ic.o;rcases C9.o with⟨nw,rfl,rfl⟩|⟨nw,hc⟩
       rw[nw]at bX;simp only at bX;refine .inl ⟨m9,subs++[iv],DI,L5,co,some ⟨gb,0,none⟩,cap,rfl,by simp,PS,i9.o,bX,vt.o,HG.o.st lA.o (λ k hk=>(H.o.lt k hk).1),lA.o,gc.o,by simp[World.setCell];exact Id,?_,?_⟩;simpa using ye.o
       intro b e;exact vr.o b (by simpa [Value.ownBlock]using e)
       rw[nw]at bX;exact .inr ⟨m9,c9,p9,FV co,rfl,hc,bX.symm,vt.o,lA.o,i9.o.rk⟩
     rw[Ud dk]at bX;have aA:(((V9 (bs s) m8:Nat):Int) != 44)=true:=by simp;omega
     have bV:Hid (Va.bad 3 m8=X):=by
      exact J41
     clear bX hb dk;go_wp2_with fail;refine (O1w C7 R s gM m8 m8 rfl).mono ?_;refine Z48 ?_;go_wp2_with fail;refine (O3h m8 m8 rfl _).mono ?_;rintro e mi ⟨rfl,j8⟩;obtain⟨u0,u1,uf,ul⟩:=qy.o.gr j8;have gC:=qA.o.gr j8;clear q0 q1 qf ql gM;go_wp2_with fail;rw[<-bV.o];exact U1 (v := .tuple #[(0:Int),(0:Int),fv 3 m8]) (by simp[results,results45,go_sem,u0,u1,uf,ul]) rfl ⟨rfl,by omega,_,(gC.setCell (.inr (U2 _)) _).setCell (.inr (U2 _)) _,((Aa.o.rk.gr j8).set (by omega) _).set (by omega) _⟩
    rw[nw]at bX;simp only at bX;have bV:Hid (Va.bad c8 p8=X):=by
     exact J41
    have HC:=U0 Ia;have o9:=U0 Ia;have kL:¬(c8:Int)=0:=by omega
    clear bX nw Ia;go_wp2_with fail;refine (O1k c8 p8 kL _).mono ?_;rintro e C7 ⟨rfl,qx⟩;have eo:=U0 (tJ.o.gr qx);have jY:=U0 (ir.o.gr qx);have qo:=U0 (A9.o.rk.gr qx);clear tJ ir qx a0 a1 af al A9 mh;have qp:¬(c8:Int)=0:=by have:=HC.o;omega
    clear HC;obtain⟨p0,p1,pf,pl⟩:=eo.o;go_wp2_with fail;refine (O1k c8 p8 qp _).mono ?_;rintro e w9 ⟨rfl,g9⟩;obtain⟨u0,u1,uf,ul⟩:=eo.o.gr g9;have je:=jY.o.gr g9;have qq:=qo.o.gr g9;clear g9 p0 p1 pf pl;go_wp2_with fail
    go_region
    all_goals go_wp2_with fail
    rw[<-bV.o];exact U1 (v := .tuple #[(0:Int),(0:Int),fv c8 p8]) (by simp[results,results45,go_sem,u0,u1,uf,ul]) rfl ⟨rfl,o9.o,_,((je.setCell (.inr (U2 _)) _).setCell (.inr (U2 _)) _).drew,((qq.set (by omega) _).set (by omega) _).drew⟩
  -- a fault
  obtain⟨p0,p1,pf,pl⟩:=kF;have Ca:=U0 (show FX w.heap.size c2 p2 wr from ⟨p0,p1,pf,pl⟩);have tL:=U0 a9;have Cb:=U0 jM;have bV:Hid (Va.bad c2 p2=X):=by
   have:=DM.o;rw[lT]at this;exact this
  have HC:=U0 aE;have o9:=U0 aE;have kL:¬(c2:Int)=0:=by omega
  clear a9 lT aE jM;go_wp2_with fail;refine (O1k c2 p2 kL _).mono ?_;rintro e w6 ⟨rfl,g6⟩;have eo:=U0 (Ca.o.gr g6);have jY:=U0 (tL.o.gr g6);have qo:=U0 (Cb.o.gr g6);clear Ca tL Cb g6 p0 p1 pf pl;have qp:¬(c2:Int)=0:=by have:=HC.o;omega
  clear HC;obtain⟨p0,p1,pf,pl⟩:=eo.o;go_wp2_with fail;refine (O1k c2 p2 qp _).mono ?_;rintro e w9 ⟨rfl,g9⟩;obtain⟨u0,u1,uf,ul⟩:=eo.o.gr g9;have je:=jY.o.gr g9;have qq:=qo.o.gr g9;clear g9 p0 p1 pf pl;go_wp2_with fail
  go_region
  all_goals go_wp2_with fail
  rw[<-bV.o];exact U1 (v := .tuple #[(0:Int),(0:Int),fv c2 p2]) (by simp[results,results45,go_sem,u0,u1,uf,ul]) rfl ⟨rfl,o9.o,_,((je.setCell (.inr (U2 _)) _).setCell (.inr (U2 _)) _).drew,((qq.set (by omega) _).set (by omega) _).drew⟩
end Go.Proofs.YtnkgknbdaiakgaaGreatDoor
namespace Go.Proofs.YtnkgknbdaiakgaaGreatDoor
open Pl Go.Proofs.Tryz Go.RowKit Go.Shelf Go.Joins
attribute [local go_sem] Uy
variable {Tb:Nat->UInt8×UInt8}
def O2i(r:Vw)(a b:Int):Vw:=⟨{ r.nd with sp:=(a,b) },r.kv,r.sv,r.uv⟩
theorem RdV.span{W:World}{R B base:Nat}{s:ByteArray}{root:Int}{L:List Vw}{own:Nat->Nat}{g cap:Nat}(h:RdV W R B base s root (.slice (some ⟨g,0,none⟩) L.length cap) L own)(i:Nat)(r:Vw)(hr:L[i]?=some r)(a b:Int) :
    RdV ((W.setCell ⟨g,i*7+5,none⟩ a).setCell ⟨g,i*7+6,none⟩ b) R B base s root (.slice (some ⟨g,0,none⟩) L.length cap) (L.set i (O2i r a b)) own /\
    St (FV own) (FV own) W ((W.setCell ⟨g,i*7+5,none⟩ a).setCell ⟨g,i*7+6,none⟩ b):=by
 have hi:i<L.length:=(U7.1 hr).1;have dM:own g=3:=h.oN g rfl;have M9:FV own g:=by unfold FV;omega
 have a9:St (FV own) (FV own) W ((W.setCell ⟨g,i*7+5,none⟩ a).setCell ⟨g,i*7+6,none⟩ b):=((St.refl _ W).setCell (p:=⟨g,i*7+5,none⟩) (.inl M9) _).setCell (p:=⟨g,i*7+6,none⟩) (.inl M9) _;refine⟨?_,a9⟩;obtain⟨WF,am⟩:=ExZ ((W.setCell ⟨g,i*7+5,none⟩ a).setCell ⟨g,i*7+6,none⟩ b)
 have d5:WF.heap.size=W.heap.size:=by subst am;simp[World.setCell]
 have aN:∀k,k≠g->WF.heap[k]?=W.heap[k]?:=by
  intro k hk;subst am;rw[U5 _ _ _ _ hk,U5 _ _ _ _ hk]
 have ao:(V35 L).length=L.length*7:=O42 L;have bN:WF.ownsRow base 40 7 (.slice (some ⟨g,0,none⟩) L.length cap) L.length (V35 (L.set i (O2i r a b))):=by
  subst am;have e1:=Ou h.nodes (i*7+5) (by omega) a;have e2:=Ou e1 (i*7+6) (by rw[U1i];omega) b;have f1:=O1p L i 5 (by omega) a r (O2i r a r.nd.sp.2) hr rfl;have f2:=O1p (L.set i (O2i r a r.nd.sp.2)) i 6 (by omega) b (O2i r a r.nd.sp.2) (O2i r a b) (by simp[hi]) rfl;rw[f1,f2]at e2
  simpa using e2
 rw[am];have ne:∀k t,own k=t->t≠3->k≠g:=λ k t e h3 e2=>by subst e2;omega
 obtain⟨D,h1,h2,h3,h4⟩:=h.map;refine⟨by rw[aN R (ne R 1 h.oR (by omega))];exact h.blk,h.oR,h.oB,by rw[U1i];exact bN,h.oN,?_,?_,λ k hk=>by rw[d5];exact h.lt k hk⟩
 refine⟨D,Oq (by rw[O9m L i r (O2i r a b) hr rfl];exact h1) (aN B (ne B 2 h.oB (by omega))),h2,by rw[U1i];exact h3,λ j x hx=>?_⟩;rw[U1o]at hx
 split at hx
 rename_i eJ
 subst eJ;simp only[hi,U1j,Uc]at hx;subst hx;exact h4 i r hr
 exact h4 j x hx
 have kp:∀(j:Nat)(x:Vw),V5r W base own j x->V5r WF base own j x:=λ j x hx =>
  ⟨O1 hx.k λ k e=>aN k (ne k _ (hx.tk k e) (by omega)),O1 hx.s λ k e=>aN k (ne k _ (hx.ts k e) (by omega)),hx.u.of_block λ k e=>aN k (ne k _ (hx.tu k e) (by omega)),λ h8=>O1 (hx.u8 h8) λ k e=>aN k (ne k _ (hx.tu k e) (by omega)),hx.tk,hx.ts,hx.tu⟩
 intro j x hx;rw[U1o]at hx
 split at hx
 rename_i eJ
 subst eJ;simp only[hi,U1j,Uc]at hx;subst hx;have:=kp i r (h.rows i r hr);exact⟨this.k,this.s,this.u,this.u8,this.tk,this.ts,this.tu⟩
 exact kp j x (h.rows j x hx)
theorem O5t(L:List Vw)(i:Nat)(r:Vw)(a b:Int)(hr:L[i]?=some r):(L.set i (O2i r a b)).map (·.nd)=(L.map (·.nd)).modify i λ nd=>{ nd with sp:=(a,b) }:=by
 apply U3g;intro j;rw[Uq,U2n,Uq,U1o];by_cases e:i=j;subst e;have eK:=(U7.1 hr).1;simp[eK,hr,O2i];have:=(U7.1 hr).2;rw[this];exact⟨rfl,rfl,rfl,rfl,rfl,rfl⟩
 simp[e]
def Vhg(E:Vz)(s:ByteArray)(R B base:Nat)(root:Int)(V:V24)(d T:Nat)(own:Nat->Nat)(w:World)(z0 bF:Nat)(Y:Va (Nat×Vc))(k:Nat)(v6 v7 v9:Value)(wr:World):Prop :=
 ∃(n:Nat)(b:Bool)(nv':Value)(L':List Vw)(own':Nat->Nat),v6 = .int .i64 T/\v7 = .int .i64 n/\v9 = .bool b/\n<=s.size/\RdV wr R B base s root nv' L' own' /\
  (if b=true/\V9 (bs s) n=125 then Va.ok (n,L'.map (·.nd)) else V2g E V (bs s) T d k n (L'.map (·.nd)))=Y/\FX bF (0:Int) (0:Int) wr/\GW Tb base wr /\
  St (FV own) (FV own') w wr/\(∀k,own' k≠0->own k≠0\/z0<=k)/\z0<=wr.heap.size
theorem Ojf(E:Vz)(hE:O2f Tb E)(s:ByteArray)(R B base:Nat)(root:Int)(V:V24)(hV:O5s Tb s R B base root V)(w:World)(nv:Value)(L:List Vw)(own:Nat->Nat)(h:RdV w R B base s root nv L own)(hg:GW Tb base w)(hs:s.size<=20000000)
    (d n:Nat)(hb:V9 (bs s) n=123)(X:Va (Nat×Nat×Vc))(hX:V1z E V (bs s) d n (L.map (·.nd))=X)(a8:X ≠ .non) :
    Calls prog 46 #[.pointer (some ⟨R,0,none⟩),n,d] w (O4c s R B base root own w X):=by
 have hn:n<s.size:=U2a λ aK=>by rw[O10 s n (by omega)]at hb;omega
 obtain⟨c0,c1,c2,c3,fz⟩:=h.cells;have hR:=h.R_lt;have H:=U0 h;have HG:=U0 hg;have HV:=U0 hV;have bN:¬FV own w.heap.size:=h.not_new (U2 _);unfold V1z at hX;have w1:IntKind.i64.wrap ((n:Int)+1)=(n:Int)+1:=Uk _ ⟨by omega,by omega⟩;by_cases gP:256<d
 ·rw[Ua gP]at hX;subst hX;have b1:decide ((256:Int)<(d:Int))=true:=by simp;omega
  clear c0 c1 c2 c3 fz h hg hV hb gP;go_enter func46,ntmps46;go_wp2_with fail;exact U1 (v := .tuple #[(0:Int),(0:Int),fv 4 n]) (by simp[results,results46,go_sem]) rfl ⟨rfl,by omega,FV own,St.auto,H.o.rk.gr Gr.auto⟩
 rw[Ud gP]at hX;cases ly:Pl.room (L.map (·.nd)) with
 |false=>rw[ly,Ud (by simp)]at hX;exact absurd hX.symm a8
 |true =>
 rw[ly,Ua rfl]at hX;simp only at hX;have b1:decide ((256:Int)<(d:Int))=false:=by simp;omega
 have hd:d<=256:=by omega
 obtain⟨T,hT⟩:=ExZ (L.length)
 have PU:T<=20000000:=by simp[Pl.room]at ly;omega
 obtain⟨e0,xH⟩:=ExZ (V7 (bs s) (n+1))
 have Ie:e0<=s.size:=by have:=V8 (bs s) (n+1) (by rw[O0];omega);rw[O0]at this;omega
 rw[xH,Ul,hT]at hX;obtain⟨Y,hY⟩:=ExZ ((if V9 (bs s) e0=125 then Va.ok (e0,L.map (·.nd)++[V1f]) else V2g E V (bs s) T d ((bs s).length+2) e0 (L.map (·.nd)++[V1f])))
 rw[hY]at hX;have sA:Hid (Y ≠ .non):=by
  intro e;rw[e]at hX;exact a8 hX.symm
 have HX:=U0 hX;have HN:=U0 a8;have C0:=U0 ly;have If:=U0 hT;have rH:=U0 xH;have HY:=U0 hY;clear c0 c1 c2 c3 fz h hg hV hb gP hX a8 ly hT xH hY;go_enter func46,ntmps46;go_wp2_with fail;refine (Obn _ R B base s root nv L own (H.o.alloc _) C0.o 0 0).mono ?_;rintro e I4 ⟨rfl,jZ,aC,aU,dH,dm⟩;obtain⟨c0,c1,c2,c3,fz⟩:=aU.cells;have mY:¬FV own w.heap.size:=bN;have dl:=(FX.new w (0:Int) (0:Int) 29).st dH bN;have aL:=U0 aU;have jg:=U0 ((((St.refl (FV own) w).alloc (.cells #[(0:Int),(0:Int)] 29)).trans dH));have vw:=U0 dm;have Ma:=U0 dl;have ay:=dH.size;simp only[Uv]at ay;rw[If.o];clear aU dH dm dl;go_wp2_with fail;refine (O9 s _ (n+1) (by simp) (by omega) (by omega) _).mono ?_;rintro e w2 ⟨rfl,g2⟩;rw[rH.o];have aP:=U0 (aL.o.gr g2);have fT:=U0 (jg.o.gr g2);have tH:=U0 (Ma.o.gr g2);have pa:=U0 (HG.o.st fT.o (λ k hk=>(H.o.lt k hk).1));have gv:Hid (∀k,aC k≠0->own k≠0\/w.heap.size+1<=k):=λ k hk=>(vw.o k hk).imp id (λ e=>by simpa using e)
 obtain⟨z0,fE⟩:=ExZ (w.heap.size+1)
 have fy:Hid (w.heap.size<z0):=by show w.heap.size<z0;omega
 have sC:Hid (z0<=w2.heap.size):=by show z0<=w2.heap.size;have:=g2.size;omega
 rw[fE]at gv;clear g2 fE aL jg vw Ma c0 c1 c2 c3 fz ay;go_wp2_with fail
 go_loopg [6,7,9] ((bs s).length+2) (λ k v6 v7 v9 wr=>Vhg E s R B base root V d T own w z0 w.heap.size Y k v6 v7 v9 wr)
 case atStart =>
  refine⟨e0,true,jZ,_,aC,rfl,rfl,rfl,Ie,aP.o,?_,tH.o,pa.o,fT.o,gv.o,sC.o⟩;rw[<-HY.o];simp[V5i,V1f]
 case round =>
  obtain⟨m2,b,ib,L2,ad,rfl,rfl,rfl,jn,hr,dy,kF,lp,a9,bB,BZ⟩:=hrel;obtain⟨v0,v1,vf,vl⟩:=kF;obtain⟨tz,tA,gM,tC,tD⟩:=hr.cells;have eo:=U0 (show FX w.heap.size (0:Int) (0:Int) wr from ⟨v0,v1,vf,vl⟩);have aW:=U0 hr;have Ft:=U0 dy;have kM:=U0 lp;have jG:=U0 a9;have jL:=U0 bB;have AY:=U0 BZ;clear hr dy lp a9 bB BZ v0 v1 vf vl;by_cases bY:b=true/\V9 (bs s) m2=125
  ·have dy:=Ft.o;rw[Ua bY]at dy;obtain⟨rfl,hb⟩:=bY;have bA:(((V9 (bs s) m2:Nat):Int) != 125)=false:=by simp;omega
   have lO:Hid (m2<s.size):=U2a λ aK=>by rw[O10 s m2 (by omega)]at hb;omega
   have ae:=HX.o;rw[<-dy]at ae;simp only at ae;cases be:Pl.kind8 (L2.map (·.nd)) T with
   |false=>rw[be,Ud (by simp)]at ae;exact absurd ae.symm HN.o
   |true =>
   rw[be,Ua rfl]at ae;have bV:=U0 ae;have um:=U0 be;clear ae be dy hb;go_wp2_with fail;refine (O1w wr R s gM m2 m2 rfl).mono ?_;refine Z48 ?_;have nO:=aW;have rd:=eo;have mG:=jG;have dj:=jL;clear tz tA gM tC tD;have jp:IntKind.i64.wrap ((m2:Int)+1)=(m2:Int)+1:=Uk _ ⟨by have:=lO.o;omega,by have:=lO.o;omega⟩;obtain⟨rT,sx⟩:∃r,(L2)[T]?=some r:=by
    have hk:=um.o;unfold Pl.kind8 at hk;rw[Uf,Uq]at hk
    replace hk:=hk.2
    cases hl:(L2)[T]? with
    |none=>rw[hl]at hk;cases hk
    |some x=>exact⟨x,rfl⟩
   have ut:T<(L2).length:=(U7.1 sx).1;obtain⟨gN,gZ,Fu,l8,Fv,Fw,Fx,Fy,Fz,oZ,wV,FA,FB,wW⟩:=nO.o.form (by omega);have cX:=nO.o.cells;rw[l8]at cX;obtain⟨a0,a1,a2,a3,af⟩:=cX;have wX:∀o,wr.frozen? ⟨gN,o,none⟩=false:=λ o=>unfrozen_of_block oZ o
   have mF:(0:Int)<=(T:Int):=by omega
   have ei:(T:Int)<((L2).length:Int):=by omega
   have oH:Hid (RdV wr R B base s root (.slice (some ⟨gN,0,none⟩) (L2).length gZ) L2 ad):=by rw[<-l8];exact nO.o
   obtain⟨p0,p1,pf,pl⟩:=rd.o;obtain⟨_,_,_,_,_,n5,n6,_⟩:=oH.o.ndCells rfl T rT sx;have FC:wr.cell? ⟨gN,T*7+5+1,none⟩=some (.int .i64 rT.nd.sp.2):=n6;clear n6;have NF:w.heap.size≠gN:=λ e=>by
    have:own gN≠0\/z0<=gN:=dj.o gN (by omega);rcases this with e2|e2
    exact bN (by unfold FV;rw[e];exact e2)
    have:=fy.o;omega
   have Ay:=U0 sx;clear sx oZ wW wV l8;go_wp2_with fail;have dv:=oH.o.span T rT Ay.o (n:Int) ((m2:Int)+1);have i9:Hid (RdV ((wr.setCell ⟨gN,T*7+5,none⟩ (.int .i64 (n:Int))).setCell ⟨gN,T*7+5+1,none⟩ (.int .i64 ((m2:Int)+1))) R B base s root (.slice (some ⟨gN,0,none⟩) (L2).length gZ) ((L2).set T (O2i rT (n:Int) ((m2:Int)+1))) ad):=dv.1;have cO:Hid (St (FV own) (FV ad) w ((wr.setCell ⟨gN,T*7+5,none⟩ (.int .i64 (n:Int))).setCell ⟨gN,T*7+5+1,none⟩ (.int .i64 ((m2:Int)+1)))):=mG.o.trans dv.2;have wE:¬FV ad w.heap.size:=λ hf=>by
    rcases dj.o _ hf with e|e
    exact bN e
    have:=fy.o;omega
   have kN:Hid (FX w.heap.size (0:Int) (0:Int) ((wr.setCell ⟨gN,T*7+5,none⟩ (.int .i64 (n:Int))).setCell ⟨gN,T*7+5+1,none⟩ (.int .i64 ((m2:Int)+1)))):=rd.o.st dv.2 wE;obtain⟨wS,fA⟩:=ExZ ((wr.setCell ⟨gN,T*7+5,none⟩ (.int .i64 (n:Int))).setCell ⟨gN,T*7+5+1,none⟩ (.int .i64 ((m2:Int)+1)))
   rw[fA]at i9 cO kN⊢;clear fA dv p0 p1 pf pl n5 FC wX a0 a1 a2 a3 af;obtain⟨p0,p1,pf,pl⟩:=kN.o
   go_region
   all_goals go_wp2_with fail
   rw[<-bV.o];refine U1 (v := .tuple #[T,.int .i64 (m2+1:Nat),f0]) (by simp[results,results46,go_sem,p0,p1,pf,pl]) rfl ⟨rfl,by have:=lO.o;omega,by simpa using ut,_,_,ad,((i9.o.setCell wE _).setCell wE _).drew,?_,((cO.o.setCell (.inr (U2 _)) _).setCell (.inr (U2 _)) _).drew,λ k hk=>(dj.o k hk).imp id (λ e=>by have:=fy.o;omega)⟩;rw[O5t _ T rT _ _ Ay.o];rfl
  have dy:=Ft.o;rw[Ud bY]at dy;obtain⟨gk,rfl⟩:∃f,gk=f+1:=by
   cases gk with
   |zero=>exact absurd dy.symm sA.o
   |succ f=>exact⟨f,rfl⟩
  rw[V2g]at dy;have AZ:=U0 dy;clear dy;cases b with
  |true =>
   have bA:(((V9 (bs s) m2:Nat):Int) != 125)=true:=by simp;simp at bY;omega
   obtain⟨q0,q1,qf,ql⟩:=eo.o;clear bY;go_wp2_with fail;refine (O1w wr R s gM m2 m2 rfl).mono ?_;refine Z48 ?_;go_wp2_with fail;clear q0 q1 qf ql tz tA gM tC tD bA;exact J198
  |false =>
   obtain⟨q0,q1,qf,ql⟩:=eo.o;clear bY;go_wp2_with fail;clear q0 q1 qf ql tz tA gM tC tD;exact J198
end Go.Proofs.YtnkgknbdaiakgaaGreatDoor
namespace Go.Proofs.YtnkgknbdaiakgaaGreatDoor
open Pl Go.Proofs.Tryz Go.RowKit Go.Shelf Go.Joins
attribute [local go_sem] Uy
variable {Tb:Nat->UInt8×UInt8}
theorem Ojq(E:Vz)(hE:O2f Tb E)(Ig:E.scal=Vd)(s:ByteArray)(hs:s.size<=20000000)(R B base:Nat)(root:Int):∀f,O5s Tb s R B base root (V19 E (bs s) f):=by
 intro f
 induction f with
 |zero =>
  intro w nv L own h hg n d hn hd X hX a8;exact absurd hX.symm a8
 |succ f ih =>
  intro w nv L own h hg n d hn hd X hX a8;obtain⟨c0,c1,c2,c3,fz⟩:=h.cells;have hR:=h.R_lt;have bN:¬FV own w.heap.size:=h.not_new (U2 _);have ga:=(Gr.refl w).alloc (.cells #[(0:Int),(0:Int)] 29);have aL:=U0 (h.gr ga);have dW:=U0 (hg.gr ga);have HN:=U0 a8;obtain⟨c,hc⟩:=ExZ (V9 (bs s) n)
  have HC:=U0 hc;rw[V19]at hX;simp only[hc]at hX;by_cases h1:c=34\/c=39
  rw[Ua h1]at hX;have HX:=U0 hX;clear hX hc ga h hg c0 c1 c3 fz a8;by_cases kP:c=34
  have b1:((c:Int)==34)=true:=by simp;omega
  exact J197
  have b1:((c:Int)==34)=false:=by simp;omega
  have b2:((c:Int)==39)=true:=by simp;omega
  exact J197
  rw[Ud h1]at hX;have b1:((c:Int)==34)=false:=by simp;omega
  have b2:((c:Int)==39)=false:=by simp;omega
  by_cases Ab:c=91
  ·rw[Ua Ab]at hX;have b3:((c:Int)==91)=true:=by simp;omega
   have HX:=U0 hX;have HB:Hid (V9 (bs s) n=91):=by rw[<-Ab];exact hc
   clear hX hc ga h hg c0 c1 c3 fz a8 h1 Ab;go_enter func24,ntmps24;go_wp2_with fail;refine Z143 ?_;refine Z48 ?_;rw[HC.o];go_wp2_with fail;refine (Om0 s R B base root _ ih _ nv L own aL.o dW.o hs d n HB.o X HX.o HN.o).mono ?_;exact J100
  rw[Ud Ab]at hX;have b3:((c:Int)==91)=false:=by simp;omega
  by_cases qB:c=123
  ·rw[Ua qB]at hX;have b4:((c:Int)==123)=true:=by simp;omega
   have HX:=U0 hX;have HB:Hid (V9 (bs s) n=123):=by rw[<-qB];exact hc
   clear hX hc ga h hg c0 c1 c3 fz a8 h1 Ab qB;go_enter func24,ntmps24;go_wp2_with fail;refine Z143 ?_;refine Z48 ?_;rw[HC.o];go_wp2_with fail;refine (Ojf E hE s R B base root _ ih _ nv L own aL.o dW.o hs d n HB.o X HX.o HN.o).mono ?_;exact J100
  rw[Ud qB]at hX;have b4:((c:Int)==123)=false:=by simp;omega
  have HX:=U0 hX;clear hX hc ga h hg c0 c1 c3 fz a8 h1 Ab qB;go_enter func24,ntmps24;go_wp2_with fail;refine Z143 ?_;refine Z48 ?_;rw[HC.o];go_wp2_with fail;refine (Ohh E Ig _ R B base s root nv L own aL.o hs dW.o n d n rfl hn X HX.o HN.o).mono ?_;exact J100
end Go.Proofs.YtnkgknbdaiakgaaGreatDoor
namespace Go.Proofs.YtnkgknbdaiakgaaGreatDoor
open Pl Go.Proofs.Tryz Go.RowKit Go.Shelf Go.Joins
attribute [local go_sem] Uy
def O1a(r:Vw):Vw:=⟨r.nd,O4 r.kv,O4 r.sv,O4 r.uv⟩
def Oo2(g:Nat)(L:List Vw):Prop:=∃own:Nat->Nat,own g=3/\∀(i:Nat) r,L[i]?=some r->Oi own r.kv (4+3*i)/\Oi own r.sv (5+3*i)/\Oi own r.uv (6+3*i)
structure V2n(w:World)(base g:Nat)(L:List Vw):Prop where
 lt:base<=g/\g<w.heap.size
 cell:∀(i:Nat) r,L[i]?=some r->∀(j:Nat) v,(ndV r)[j]?=some v->w.cell? ⟨g,i*7+j,none⟩=some v
 rows:∀(i:Nat) r,L[i]?=some r->V26 w base 9 1 r.kv r.nd.keys.length (Oh r.nd.keys)/\V26 w base 38 2 r.sv r.nd.spots.length (Oc r.nd.spots)/\V26 w base 3 1 r.uv r.nd.subs.length (O7 r.nd.subs)
 tg:Oo2 g L
theorem V2n.gr{w w':World}{base g:Nat}{L:List Vw}(h:V2n w base g L)(k:Gr w w'):V2n w' base g L :=
 ⟨⟨h.lt.1,U4 h.lt.2 k.size⟩,λ i r hr j v hv=>(k.use.1 _ _ h.lt.2).trans (h.cell i r hr j v hv),λ i r hr=>by
  obtain⟨a,b,c⟩:=h.rows i r hr;exact⟨a.of_block λ k2 e=>k.block (a.lt k2 e).2,b.of_block λ k2 e=>k.block (b.lt k2 e).2,c.of_block λ k2 e=>k.block (c.lt k2 e).2⟩,h.tg⟩
theorem Oat{w:World}{base n:Nat}{v:Value}{xs:List Value}(h:w.ownsRow base 9 1 v n xs)(W:World):Calls prog 21 #[v] W λ e w'=>e = .returned (O4 v)/\W=w':=by
 rcases O15 h with⟨rfl,_⟩|⟨g,cap,rfl,h1,h2⟩
 exact O80 W
 exact O3u g n cap h1 h2 W
theorem O9a{w:World}{base n:Nat}{v:Value}{xs:List Value}(h:w.ownsRow base 38 2 v n xs)(W:World):Calls prog 22 #[v] W λ e w'=>e = .returned (O4 v)/\W=w':=by
 rcases O15 h with⟨rfl,_⟩|⟨g,cap,rfl,h1,h2⟩
 exact O6x W
 exact O4v g n cap h1 h2 W
theorem O4i{w:World}{base n:Nat}{v:Value}{xs:List Value}(h:V26 w base 3 1 v n xs)(W:World):Calls prog 26 #[v] W λ e w'=>e = .returned (O4 v)/\W=w':=by
 rcases Or h with⟨rfl,_⟩|⟨g,cap,rfl,h1,h2⟩
 exact O81 W
 exact O9r g n cap h1 h2 W
theorem RdV.setRoot{w:World}{R B base:Nat}{s:ByteArray}{root:Int}{nv:Value}{L:List Vw}{own:Nat->Nat}(h:RdV w R B base s root nv L own)(r2:Int):RdV (w.setCell ⟨R,1,none⟩ r2) R B base s r2 nv L own:=by
 have hb:∀k,k≠R->(w.setCell ⟨R,1,none⟩ r2).heap[k]?=w.heap[k]?:=λ k hk=>U5 _ _ _ _ hk
 have ne:∀k t,own k=t->t≠1->k≠R:=λ k t e h3 e2=>by subst e2;have:=h.oR;omega
 obtain⟨D,h1,h2⟩:=h.map;refine⟨by simpa using block_setCell (i:=1) h.blk r2,h.oR,h.oB,O1 h.nodes λ k e=>hb k (ne k _ (h.oN k e) (by omega)),h.oN,⟨D,Oq h1 (hb B (ne B _ h.oB (by omega))),h2⟩,λ i r hr=>?_,λ k hk=>⟨(h.lt k hk).1,by simpa [World.setCell]using (h.lt k hk).2⟩⟩;have hx:=h.rows i r hr;exact⟨O1 hx.k λ k e=>hb k (ne k _ (hx.tk k e) (by omega)),O1 hx.s λ k e=>hb k (ne k _ (hx.ts k e) (by omega)),hx.u.of_block λ k e=>hb k (ne k _ (hx.tu k e) (by omega)),λ h8=>O1 (hx.u8 h8) λ k e=>hb k (ne k _ (hx.tu k e) (by omega)),hx.tk,hx.ts,hx.tu⟩
theorem RdV.start(w0 w:World)(s:ByteArray)(hz:w0.heap.size<=w.heap.size) :
    RdV ((w.alloc (.map #[] 0)).alloc (.cells #[Vn,(0:Int),.string s,.map (some w.heap.size)] 80)) (w.heap.size+1) w.heap.size w0.heap.size s 0 Vn [] (λ k=>if k=w.heap.size+1 then 1 else if k=w.heap.size then 2 else 0):=by
 refine⟨?_,by simp,?_,On _ _ _ _,O6a _ _,?_,λ i r hr=>by simp at hr,?_⟩;have:=U10 (w.alloc (.map #[] 0)) (.cells #[Vn,(0:Int),.string s,.map (some w.heap.size)] 80);exact J15;rw[Ud (by omega),Ua rfl]
 refine⟨.map [],?_,?_⟩;have h1:(w.alloc (.map #[] 0)).ownsMap prog 3 (plainElem (H:=Unit) prog 3) w.heap.size 0 (.map []):=World.ownsMap_made _ _ _ _;exact Oq h1 (((Gr.refl _).alloc _).block (by simp))
 exact⟨⟨[],rfl⟩,λ i _=>rfl,λ i r hr=>by simp at hr⟩
 exact J157
def O5z(s:ByteArray)(w:World)(X:Va (Nat×Nat×Vc))(e:Ending)(w':World):Prop :=
 match X with
 |.non=>True
 |.bad c p=>e = .returned (.tuple #[.agg #[Vn,(0:Int)],(0:Int),fv c p])/\c≠0/\Gr w w'
 |.ok (i,m,st)=>∃g L,e = .returned (.tuple #[.agg #[.slice (some ⟨g,0,none⟩) st.length st.length,i],m,f0])/\m<=s.size/\i<st.length/\L.map (·.nd)=st/\V2n w' w.heap.size g L/\Gr w w'
def V5t(w7:World)(R base g cap:Nat)(L:List Vw)(n:Nat)(wr:World):Prop :=
 wr.ownsRow base 40 7 (.slice (some ⟨g,0,none⟩) L.length cap) L.length (V35 ((L.take n).map O1a++L.drop n))/\(∀k,k<w7.heap.size->k≠g->wr.heap[k]?=w7.heap[k]?)/\w7.heap.size<=wr.heap.size/\wr.os=w7.os/\wr.tape=w7.tape/\wr.output=w7.output
theorem Oc2(L:List Vw)(n:Nat)(r:Vw)(hr:L[n]?=some r):((L.take n).map O1a++L.drop n)[n]?=some r:=by
 have hn:n<L.length:=(U7.1 hr).1;rw[U14 (by simp;omega)];simp;rw[show n-min n L.length=0 from by omega]
 simpa using hr
theorem Ojr(L:List Vw)(n:Nat)(r:Vw)(hr:L[n]?=some r):((L.take n).map O1a++L.drop n).set n (O1a r)=(L.take (n+1)).map O1a++L.drop (n+1):=by
 have hn:n<L.length:=(U7.1 hr).1;have hl:((L.take n).map O1a).length=n:=by simp;omega
 rw[U3c _ _ (by omega),hl,U34,Uw hn,U26,List.take_add_one,hr];simp
theorem V5t.step{w7 wr:World}{R base g cap n:Nat}{L:List Vw}(h:V5t w7 R base g cap L n wr)(r:Vw)(hr:L[n]?=some r) :
    V5t w7 R base g cap L (n+1) (((wr.setCell ⟨g,n*7+2,none⟩ (O4 r.kv)).setCell ⟨g,n*7+3,none⟩ (O4 r.sv)).setCell ⟨g,n*7+4,none⟩ (O4 r.uv)):=by
 obtain⟨h1,h2,h3,h4,h5,h6⟩:=h;have hn:n<L.length:=(U7.1 hr).1;refine⟨?_,λ k hk hg=>?_,by simpa [World.setCell]using h3,h4,h5,h6⟩
 have ao:(V35 ((L.take n).map O1a++L.drop n)).length=L.length*7:=by rw[O42];simp;omega
 have et:=Oc2 L n r hr;have e1:=Ou h1 (n*7+2) (by omega) (O4 r.kv);have e2:=Ou e1 (n*7+3) (by rw[U1i];omega) (O4 r.sv);have e3:=Ou e2 (n*7+4) (by rw[U1i,U1i];omega) (O4 r.uv);obtain⟨M,hM⟩:=ExZ ((L.take n).map O1a++L.drop n)
 rw[hM]at e3 et;have Mb:n<M.length:=(U7.1 et).1;have f1:=O1p M n 2 (by omega) (O4 r.kv) r ⟨r.nd,O4 r.kv,r.sv,r.uv⟩ et rfl;have f2:=O1p (M.set n ⟨r.nd,O4 r.kv,r.sv,r.uv⟩) n 3 (by omega) (O4 r.sv) ⟨r.nd,O4 r.kv,r.sv,r.uv⟩ ⟨r.nd,O4 r.kv,O4 r.sv,r.uv⟩ (by simp[Mb]) rfl;have f3:=O1p ((M.set n ⟨r.nd,O4 r.kv,r.sv,r.uv⟩).set n ⟨r.nd,O4 r.kv,O4 r.sv,r.uv⟩) n 4 (by omega) (O4 r.uv) ⟨r.nd,O4 r.kv,O4 r.sv,r.uv⟩ (O1a r) (by simp[Mb]) rfl;rw[f1,f2,f3,List.set_set,List.set_set,<-hM,Ojr L n r hr]at e3;exact e3
 rw[U5 _ _ _ _ hg,U5 _ _ _ _ hg,U5 _ _ _ _ hg];exact h2 k hk hg
