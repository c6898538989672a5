/- The proof's part 41. -/
import Derived.Test.YtnkgknbdaiakgaaGreatDoorY16
import Derived.Test.YtnkgknbdaiakgaaGreatDoorY40
set_option maxHeartbeats 16000000
set_option linter.all false
set_option maxRecDepth 100000
namespace Go.Proofs.YtnkgknbdaiakgaaGreatDoor
open Pl Go.Proofs.Tryz Go.RowKit Go.Shelf Go.Joins
attribute [local go_sem] U28
def V5j(PT:Lib.PrintTabs)(l:Pl.Bs):Pl.Bs:=(Lib.quoteZ PT ⟨l.toArray⟩).map λ n=>UInt8.ofNat n.toNat
structure TxW(PT:Lib.PrintTabs)(w:World):Prop where
 int:V4d w
 pr:Lib.PrintTabsAt 7 8 9 10 PT w
 u8:Lib.Utf8Tabs 4 5 w
theorem TxW.gr{PT:Lib.PrintTabs}{w w':World}(h:TxW PT w)(g:Gr w w'):TxW PT w':=⟨h.int.gr g,printTabs_below h.pr g,Utf8Tabs_below h.u8 g⟩
theorem Og(a b:ByteArray):bs (a++b)=bs a++bs b:=by
 show (a++b).data.toList=_;rw[U2m,Array.toList_append]
theorem Ods(PT:Lib.PrintTabs)(l:Pl.Bs)(hl:l.length<=1000000)(w:World)(hw:TxW PT w):Calls prog 29 #[.string ⟨l.toArray⟩] w λ e w'=>∃q:ByteArray,e=.returned (.string q)/\bs q=V5j PT l/\Gr w w':=by
 refine (strconv_Quote PT ⟨l.toArray⟩ w ?_ hw.pr hw.u8).mono ?_
 have:(⟨l.toArray⟩:ByteArray).size=l.length:=by simp[ByteArray.size]
 omega
 rintro e w' ⟨rfl,hb⟩;exact⟨_,rfl,rfl,hb⟩
structure TxS(z b g k:Nat)(v0 v1:Value)(n c u:Nat)(w:World):Prop where
 t:FX z v0 v1 w
 b4:w.cell? ⟨b,4,none⟩=some (.slice g n c)
 u:w.cell? ⟨g,k,none⟩=some (.int .i64 u)
theorem TxS.gr{z b g k:Nat}{v0 v1:Value}{n c u:Nat}{w w':World}(h:TxS z b g k v0 v1 n c u w)(q:Gr w w'):TxS z b g k v0 v1 n c u w' :=
 ⟨h.t.gr q,(q.use.1 _ _ (Lib.lt_of_cell h.b4)).trans h.b4,(q.use.1 _ _ (Lib.lt_of_cell h.u)).trans h.u⟩
theorem Ofl(PT:Lib.PrintTabs):∀(f i:Nat)(t:Pl.Bs)(w:World)(_:TxW PT w)(base gn:Nat)(L:List NdR)(_:V2q w base gn L)(_:V5h (L.map (·.nd))=true)(_:L.length<=1000000)(_:i<=1000000)(_:V2e (V5j PT) (L.map (·.nd)) f i=some t)(_:t.length<=1000000000000000000)(root:Int),Calls prog 11 #[.agg #[.slice gn L.length L.length,root],i] w λ e w'=>∃q:ByteArray,e=.returned (.string q)/\bs q=t/\Gr w w':=by
 intro f
 induction f with
 |zero=>intro i t w _ base gn L _ _ _ _ h _ root;cases h
 |succ f ih =>
  intro i t w hw base gn L hT yp vz dO h My root;obtain⟨AA,gW,zW⟩:=bx2 w (.slice gn L.length L.length) root 26;obtain⟨W,hW⟩:=ExZ (w.alloc (.cells #[.slice gn L.length L.length,root] 26))
  rw[hW]at AA gW zW;have HW:=U10 hW;have rD:=U10 AA;have HG:=U10 gW;have HT:=U10 (hT.gr gW);have rp:=U10 (hw.gr gW);have FR:=U10 yp;have Ti:=U10 ih;obtain⟨p0,p1,pf,pl⟩:=AA;have i0:decide ((i:Int)<0)=false:=Yb
  unfold V2e at h;rw[U1m]at h;clear hW hw hT yp ih gW zW;cases hr:L[i]? with
  |none =>
   rw[hr]at h;simp only[Option.map_none,U1f]at h;subst h;have Iv:L.length<=i:=by simpa using hr
   have d1:decide ((L.length:Int)<=(i:Int))=true:=Ye;have d2:decide (L.length<=i)=true:=Ye
   go_enter func11,ntmps11
   go_upto_region 1 with fail
   rw[show w.alloc (.cells #[.slice gn L.length L.length,root] 26)=W from HW.o];go_wp2_with fail;exact U11 (v:=.string ⟨#[]⟩) (by simp[results,results11,go_sem]) rfl ⟨_,rfl,rfl,HG.o⟩
  |some r =>
   rw[hr]at h;simp only[U29]at h;have Tj:i<L.length:=(U16.1 hr).1;have d1:decide ((L.length:Int)<=(i:Int))=false:=Ye
   have d2:decide (L.length<=i)=false:=Ye;refine Z139 ?_;intro j1 j2;obtain⟨u,hu⟩:∃u,V20 (V2e (V5j PT) (L.map (·.nd)) f) (V5j PT) r.nd.keys r.nd.subs=some u:=by
    cases hs:V20 (V2e (V5j PT) (L.map (·.nd)) f) (V5j PT) r.nd.keys r.nd.subs with
    |none=>rw[hs]at h;cases h
    |some u=>exact⟨u,rfl⟩
   rw[hu]at h;simp only[U1f]at h;have uF:=FR.o;unfold V5h at uF;rw[U2h]at uF;have OJ:=uF r.nd (List.mem_map_of_mem (U2g hr));simp only[U1g,U1x,U2h]at OJ;obtain⟨⟨⟨⟨hk,ht⟩,lh⟩,nw⟩,Fo⟩:=OJ;have bN:∀m v,(ndV r)[m]?=some v->W.cell? ⟨gn,i*7+m,none⟩=some v:=λ m v hv=>HT.o.cell i r hr m v hv
   obtain⟨FS,OK,FT⟩:=HT.o.rows i r hr;obtain⟨ka,kc,sO⟩:∃a c,r.kv=.slice a r.nd.keys.length c:=by
    rcases Ou FS with⟨e,e2⟩|⟨g,c,e,_,_⟩
    exact J78
    exact⟨_,_,e⟩
   obtain⟨sa,sc,kT⟩:∃a c,r.sv=.slice a r.nd.spots.length c:=by
    rcases Ou OK with⟨e,e2⟩|⟨g,c,e,_,_⟩
    exact J78
    exact⟨_,_,e⟩
   obtain⟨ua,uc,lW⟩:∃a c,r.uv=.slice a r.nd.subs.length c:=by
    rcases Ou FT with⟨e,e2⟩|⟨g,c,e,_,_⟩
    exact J78
    exact⟨_,_,e⟩
   have q0:W.cell? ⟨gn,i*7,none⟩=some (.int .u8 r.nd.kind):=bN 0 (.int .u8 r.nd.kind) rfl;refine Z162 ?_;intro q1 q2 q3 q4 q5 q6;rw[sO]at FS;rw[lW]at FT;have rN:=U10 FS;have L3:=U10 FT;have HU:=U10 hu;have H:=U10 h;have Tk:=U10 lh;have Tl:=U10 Fo;have ad:t.length=(Lib.itoa (r.nd.kind:Int)).length+((V5j PT r.nd.text).length+u.length):=by rw[<-h];simp
   clear h hu bN FS OK FT sO kT lW lh Fo uF hr;go_enter func11,ntmps11
   go_upto_region 1 with fail
   rw[show w.alloc (.cells #[.slice gn L.length L.length,root] 26)=W from HW.o]
   go_upto_region 4 with fail
   have vS:=U1z W (.cells #[.int .u8 r.nd.kind,.string ⟨r.nd.text.toArray⟩,.slice ka r.nd.keys.length kc,.slice sa r.nd.spots.length sc,.slice ua r.nd.subs.length uc,r.nd.sp.1,r.nd.sp.2] 40);have g1:Gr W (W.alloc (.cells #[.int .u8 r.nd.kind,.string ⟨r.nd.text.toArray⟩,.slice ka r.nd.keys.length kc,.slice sa r.nd.spots.length sc,.slice ua r.nd.subs.length uc,r.nd.sp.1,r.nd.sp.2] 40)):=(Gr.refl W).alloc _;obtain⟨W1,aK⟩:=ExZ (W.alloc (.cells #[.int .u8 r.nd.kind,.string ⟨r.nd.text.toArray⟩,.slice ka r.nd.keys.length kc,.slice sa r.nd.spots.length sc,.slice ua r.nd.subs.length uc,r.nd.sp.1,r.nd.sp.2] 40))
   rw[aK]at vS g1⊢;clear aK q0 q1 q2 q3 q4 q5 q6 p0 p1 pf pl;have N5:=U10 vS;have dn:=U10 g1;obtain⟨⟨b0,b1,b2,b3,b4,b5,b6⟩,bf,bl⟩:=Odh vS;have hS:W1.drew.cell? W=some (.int .u8 r.nd.kind)/\W1.drew.cell? ⟨W,1,none⟩=some (.string ⟨r.nd.text.toArray⟩):=⟨b0,b1⟩
   have wk:IntKind.i64.wrap (r.nd.kind:Int)=(r.nd.kind:Int):=U1i _ ⟨Ya,Ya⟩;have L4:=U10 (λ W (q:TxW PT W)=>strconv_Itoa (r.nd.kind:Int) Ya Ya W q.int.pow);have Tm:=U10 (λ W (q:TxW PT W)=>Ods PT r.nd.text ht W q);refine Reg.begin' (W:=λ _=>true) (S:=λ V=>V.cell? W=some (.int .u8 r.nd.kind)/\V.cell? ⟨W,1,none⟩=some (.string ⟨r.nd.text.toArray⟩)) Yc ?_;refine Reg.ty 0 ?_;refine Reg.tl 1 hS ?_ (hy:=by intro w ab;obtain⟨s0,s1⟩:=ab;go_simp;try with_reducible rfl);refine Reg.ty 2 ?_;refine Reg.ty 4 ?_;refine Reg.tl 5 hS ?_ (hy:=by intro w ab;obtain⟨s0,s1⟩:=ab;go_simp;try with_reducible rfl);refine Z189 ?_;refine (L4.o _ (rp.o.gr (g1.trans (Gr.refl W1).drew))).mono ?_;rintro e w2 ⟨rfl,k,os,fj⟩;have g2:Gr W1 w2:=by rw[fj];exact (Gr.refl W1).drew.trans (O4m _ _ _)
   clear fj;have bi:w2.cell? W=some (.int .u8 r.nd.kind)/\w2.cell? ⟨W,1,none⟩=some (.string ⟨r.nd.text.toArray⟩):=⟨(g2.use.1 _ _ bl).trans b0,(g2.use.1 _ _ bl).trans b1⟩
   refine Z239 ?_;refine Reg.on 6 ?_;go_simp;refine (Tm.o w2 (rp.o.gr (g1.trans g2))).mono ?_;rintro e w3 ⟨q,rfl,hq,g3⟩;have aC:w3.cell? W=some (.int .u8 r.nd.kind)/\w3.cell? ⟨W,1,none⟩=some (.string ⟨r.nd.text.toArray⟩):=⟨(g3.use.1 _ _ (U13 bl g2.size)).trans bi.1,(g3.use.1 _ _ (U13 bl g2.size)).trans bi.2⟩
   refine Z16 ?_;have OL:q.size=(V5j PT r.nd.text).length:=by rw[<-hq,O0]
   refine Reg.takeY (i:=7) (v:=?_) rfl Yc Yc Yc (λ _ _ _ h=>h) Yh ?_ ?_;rotate_left;exact J91
   refine Z49 ?_;refine Reg.ty 8 ?_;refine Z12 ?_;obtain⟨ts,FU⟩:=ExZ ((({ data:=(Lib.itoa (r.nd.kind:Int)).toArray }:ByteArray)++q))
   have iu:bs ts=Lib.itoa (r.nd.kind:Int)++V5j PT r.nd.text:=by rw[<-FU,Og,hq]
   have a9:bs ts++u=t:=by rw[iu,<-H.o];simp
   rw[FU];have OM:=g2.trans g3;have bv:=U10 a9;have L6:=U10 OM;clear a9 OM g2 g3 bi aC hS FU iu;go_wp2_with fail
   go_loopw [6,7] (λ v6 v7 wr=>∃(m:Nat)(tb:ByteArray)(us:Pl.Bs),v6=.string tb/\v7=.int .i64 m/\m<=r.nd.subs.length/\V20 (V2e (V5j PT) (L.map (·.nd)) f) (V5j PT) (r.nd.keys.drop m) (r.nd.subs.drop m)=some us/\bs tb++us=t/\Gr W1 wr) (λ _ v7 _=>r.nd.subs.length-(intOf v7).toNat)
   case atStart=>exact⟨0,ts,u,rfl,rfl,U2y _,HU.o,bv.o,L6.o⟩
   case round =>
    obtain⟨m,tb,us,rfl,rfl,hm,zt,uG,cS⟩:=hrel;have f2:=(cS.use.1 _ _ bl).trans b2;have f4:=(cS.use.1 _ _ bl).trans b4;have oT:=U10 cS;by_cases iL:m<r.nd.subs.length
    ·have e1:decide ((m:Int)<(r.nd.subs.length:Int))=true:=by simp;omega
     have e2:decide (m<r.nd.subs.length)=true:=Ye;obtain⟨a,ub,ON,CY,iz⟩:=V7o iL zt;obtain⟨gu,cu,qS,rX,eF⟩:=L3.o.form Ya;simp only[U3v]at qS;obtain⟨rfl,_,rfl⟩:=qS;have zN:=L3.o.cells (g:=gu) rfl m (.int .i64 r.nd.subs[m]) (by simp[O8,iL]);have aZ:=(L3.o.lt gu rfl).2;have zN:=(dn.o.use.1 _ _ aZ).trans zN;have aZ:=U13 aZ dn.o.size;have Tn:a.length<=1000000000000000000:=by
      have:=U2b List.length uG;rw[iz]at this;simp only[U1c,U17]at this;omega
     have Gd:=U10 (λ V (g:Gr W1 V)=>Ti.o r.nd.subs[m] a V (rp.o.gr (dn.o.trans g)) base gn L (HT.o.gr (dn.o.trans g)) FR.o vz (Tl.o _ (U4a iL)) ON Tn root);have Po:=U10 CY;refine Z250 ?_;intro j3 j4 wm;clear CY ON;by_cases xF:m<r.nd.keys.length
     ·have e3:decide ((m:Int)<(r.nd.keys.length:Int))=true:=by simp;omega
      have e4:decide (m<r.nd.keys.length)=true:=Ye;have j5:(m:Int)<(r.nd.keys.length:Int):=Ya;obtain⟨gk,ck,DX,qM,To⟩:=rN.o.form Ya;simp only[U3v]at DX;obtain⟨rfl,_,rfl⟩:=DX;have bP:=rN.o.cells (g:=gk) rfl m (.string ⟨r.nd.keys[m].toArray⟩) (by simp[Oj,xF]);have lh:=(rN.o.lt gk rfl).2;have bP:=(((dn.o.trans cS).use.1 _ _ lh).trans bP)
      have Tp:r.nd.keys[m].length<=1000000:=Tk.o _ (U4a xF);have Tq:=U10 (Ods PT r.nd.keys[m] Tp wr (rp.o.gr (dn.o.trans cS)));rw[U1h xF]at iz;simp only at iz;have L8:=U10 iz;have L9:=U10 uG;have aa:=U2b List.length uG;rw[iz,U1c,O0]at aa;simp only[U1c,U17]at aa;clear zt iz uG cS rX eF qM To;go_wp2_with fail;refine Tq.o.mono ?_;rintro e wq ⟨qk,rfl,OO,gq⟩;have Tr:qk.size=(V5j PT r.nd.keys[m]).length:=by rw[<-OO,O0]
      have mz:¬ 9223372036854775807<tb.size+qk.size:=Ya;have Ts:decide (9223372036854775807<tb.size+qk.size)=false:=Ye;have zJ:=U10 (oT.o.trans gq);obtain⟨Tt,An⟩:=ExZ (tb++qk)
      have ay:bs Tt++(40::(a++(41::ub)))=t:=by rw[<-An,Og,OO,U3f,<-L8.o,L9.o]
      clear f2 f4 bP;exact J108
     have e3:decide ((m:Int)<(r.nd.keys.length:Int))=false:=Ye;have e4:decide (m<r.nd.keys.length)=false:=Ye;rw[U2t Ya]at iz;simp only[U23]at iz;have ay:bs tb++(40::(a++(41::ub)))=t:=by rw[<-iz,uG]
     obtain⟨wq,Tu⟩:∃wq,wq=wr:=⟨_,rfl⟩
     subst Tu;have zJ:=oT;clear zt iz uG cS rX eF;exact J108
    have pE:m=r.nd.subs.length:=Ya;subst pE;have e1:decide ((r.nd.subs.length:Int)<(r.nd.subs.length:Int))=false:=Yb;have e2:decide (r.nd.subs.length<r.nd.subs.length)=false:=Yb;rw[List.drop_length]at zt;have kD:us=[]:=by unfold V20 at zt;exact (U2u zt).symm
    rw[kD,U3k]at uG;have La:=U10 uG;clear uG zt cS;go_wp2_with fail;exact U11 (v:=.string tb) (by simp[results,results11,go_sem]) rfl ⟨_,rfl,La.o,HG.o.trans (dn.o.trans oT.o)⟩
theorem O6l(w:World)(s:ByteArray)(c:Nat)(W:World)(q:Gr (Lib.bytesWorld w 5 s) W):(convert 22 9 (.slice w.heap.size s.size c)).run prog W=.ok (.string s) W:=by
 refine Z114 ?_;intro e0;have bP:∀i,i<s.size->W.cell? ⟨w.heap.size,0+i,none⟩=some (.int .u8 ((s.data.toList.map λ x=>(x.toNat:Int)).getD i 0)):=by
  intro i hi;have h:=U3e w 5 s i hi;have:=(q.use.1 _ _ (Lib.lt_of_cell h)).trans h;rw[U1q,this];have eY:i<s.data.toList.length:=by rw[Array.length_toList];exact hi
  simp[List.getD,U1h eY]
 rw[run_convert_bytes_arg W 22 5 underlying22 underlying5 w.heap.size 0 s.size c (s.data.toList.map λ x=>(x.toNat:Int)) (by rw[U1n,Array.length_toList];rfl) bP 9 underlying9,e0]
theorem O2z(Tb:Nat->UInt8×UInt8)(w:World)(bW:RW Tb w)(s:ByteArray)(hs:s.size<=20000000)(c p:Nat)(hc:c≠0)(hX:V1f ⟨Vu Tb,Vl⟩ (bs s)=.bad c p):Calls prog 16 #[.string s,c,p] w λ e w'=>e=.returned (.bool true)/\Gr w w':=by
 refine Z154 ?_;intro zR gB cB;have zv:=U10 (λ W (g:Gr w W)=>Odr Tb (Lib.bytesWorld W 5 s) (bW.gr (g.trans (Oi W 5 s))) s hs (some ⟨W,0,none⟩) s.size (grownCap W s.size 0 5) (λ V q=>O6l W s _ V q) c p hX);have vX:=U10 gB;clear gB hX bW;have dE:=zR.o;go_enter func16,ntmps16;go_wp2_with fail;clear dE;refine cB.o.mono ?_;rintro e w2 ⟨he,dF,g2⟩;subst he;obtain⟨hA,gA,zA⟩:=bx2 w2 Vp (0:Int) 26;obtain⟨W0,aI⟩:=ExZ (w2.alloc (.cells #[Vp,(0:Int)] 26))
 rw[aI]at hA gA zA;obtain⟨hB,gB,zB⟩:=bx2 W0 c p 29;obtain⟨W1,aK⟩:=ExZ (W0.alloc (.cells #[c,p] 29))
 rw[aK]at hB gB zB;rw[zA]at hB zB;have rW:=hA.gr gB;have dn:=U10 ((vX.o.trans g2).trans (gA.trans gB));have HA:=U10 rW;have HB:=U10 hB;have HZ:=U10 zB;have lY:=U10 (show (w2.alloc (.cells #[Vp,(0:Int)] 26)).alloc (.cells #[c,p] 29)=W1 by rw[aI,aK]);clear cB hA hB rW gA gB zA zB aI aK;have dE:=zR.o;go_wp2_with fail;rw[show (w2.alloc (.cells #[.slice none 0 0,(0:Int)] 26)).alloc (.cells #[c,p] 29)=W1 from lY.o,<-HZ.o];clear dE;refine (zv.o W1 dn.o).mono ?_;rintro e w5 ⟨rfl,g5⟩;have gE:=(Oi W1 5 s).trans g5;obtain⟨p0,p1,pf,pl⟩:=HA.o.gr gE;obtain⟨q0,q1,qf,ql⟩:=HB.o.gr gE;have HE:=U10 gE;go_wp2_with fail;exact U11 (v:=.bool true) (by simp[results,results16,go_sem]) rfl ⟨rfl,dn.o.trans HE.o⟩
theorem O80(Tb:Nat->UInt8×UInt8)(PT:Lib.PrintTabs)(w:World)(bW:RW Tb w)(sG:TxW PT w)(s ae:ByteArray)(hs:s.size<=20000000)(g:Vc)(hX:V1f ⟨Vu Tb,Vl⟩ (bs s)=.ok g)(yp:V5h g.nds=true)(hl:g.nds.length<=1000000)(F:Nat)(hT:V2e (V5j PT) g.nds F 0=some (bs ae))(hz:ae.size<=1000000000000000000):Calls prog 13 #[.string s,.string ae] w λ e w'=>e=.returned (.bool true)/\Gr w w':=by
 refine Z154 ?_;intro zR gB cB;have rp:=U10 sG;have HT:=U10 hT;have FR:=U10 yp;have vX:=U10 gB;clear gB hX bW sG hT yp;have dE:=zR.o;go_enter func13,ntmps13;go_wp2_with fail;clear dE;refine cB.o.mono ?_;rintro e w2 ⟨gn,L,he,hL,sD,g2⟩;subst he;have HL:=U10 hL;have Fl:L.length<=1000000:=by rw[<-hL,U1n]at hl;exact hl
 refine Z226 ?_;intro W0 aI hA gA zA;refine Z101 ?_;intro W1 aK gB hB zB;have rW:=hA.gr gB;have cx:=(vX.o.trans g2).trans (gA.trans gB);have DY:=U10 (Ofl PT F 0 (bs ae) W1 (rp.o.gr cx) _ gn L (sD.gr (gA.trans gB)) (by rw[HL.o];exact FR.o) Fl Ya (by rw[HL.o];exact HT.o) (by rw[O0];exact hz) 0);have dn:=U10 cx;refine Z275 ?_;intro lY;obtain⟨p0,p1,pf,pl⟩:=rW;obtain⟨q0,q1,qf,ql⟩:=hB;clear cB hA gA gB zA zB aI aK hL hl
 go_upto_region 2 with fail
 refine Z265 ?_;go_wp2_with fail;refine DY.o.mono ?_;rintro e w5 ⟨q,rfl,hq,g5⟩;have Tv:q=ae:=by
  cases q with|mk q=>cases ae with|mk v=>exact U2b _ (U32.1 hq)
 subst Tv;have HE:=U10 g5;go_wp2_with fail;exact U11 (v:=.bool true) (by simp[results,results13,go_sem]) rfl ⟨rfl,dn.o.trans HE.o⟩
end Go.Proofs.YtnkgknbdaiakgaaGreatDoor
namespace Go.Proofs.YtnkgknbdaiakgaaGreatDoor
open Pl Go.Proofs.Tryz Go.RowKit Go.Shelf Go.Joins
namespace Pl
def V7z:Bs:=[97,46,98,32,61,32,49,10,91,99,46,100,93,10,120,32,61,32,50,10,91,91,101,93,93,10,91,91,101,93,93,10,121,32,61,32,51,10]
def V80:Bs:=[56,34,34,34,97,34,40,56,34,34,34,98,34,40,52,34,49,34,41,41,34,99,34,40,56,34,34,34,100,34,40,56,34,34,34,120,34,40,52,34,50,34,41,41,41,34,101,34,40,55,34,34,40,56,34,34,41,40,56,34,34,34,121,34,40,52,34,51,34,41,41,41]
def V81:Bs:=[97,46,98,32,61,32,49,10,91,97,46,99,93]
def V82:Bs:=[97,32,61,32,49,10,97,32,61,32,50]
def V83:Bs:=[91,97,93,10,91,97,93]
def V84:Bs:=[97,46,98,32,61,32,49,10,91,97,93]
def V6x(r:Va Vc)(c p:Nat):Bool:=match r with|.bad a b=>a==c&&b==p|_=>false
theorem V69{r:Va Vc}{c p:Nat}(h:V6x r c p=true):r=.bad c p:=by
 cases r with
 |bad a b=>simp only[V6x,U1g,U2w]at h;rw[h.1,h.2]
 |ok g=>cases h
 |non=>cases h
def V8k(Q:Bs->Bs)(F:Nat)(t:Bs)(r:Va Vc):Bool:=match r with|.ok g=>V5h g.nds&&decide (g.nds.length<=1000000)&&(V2e Q g.nds F 0==some t)|_=>false
theorem V92{Q:Bs->Bs}{F:Nat}{t:Bs}{r:Va Vc}(h:V8k Q F t r=true):∃g,r=.ok g/\V5h g.nds=true/\g.nds.length<=1000000/\V2e Q g.nds F 0=some t:=by
 cases r with
 |bad a b=>cases h
 |ok g =>
  simp only[V8k,U1g,U2w,U1x]at h;exact⟨g,rfl,h.1.1,h.1.2,h.2⟩
 |non=>cases h
def Vc3(r:Va Vc):Bool:=match r with|.ok _=>true|_=>false
theorem Va2{r:Va Vc}(h:Vc3 r=true):∃g,r=.ok g:=by
 cases r with
 |bad a b=>cases h
 |ok g=>exact⟨g,rfl⟩
 |non=>cases h
end Pl
theorem Opn(Tb:Nat->UInt8×UInt8)(PT:Lib.PrintTabs):V8k (V5j PT) 9 V80 (V1f ⟨Vu Tb,Vl⟩ V7z)=true:=Yc
theorem Opo(Tb:Nat->UInt8×UInt8):Vc3 (V1f ⟨Vu Tb,Vl⟩ V81)=true:=Yc
theorem Opp(Tb:Nat->UInt8×UInt8):V6x (V1f ⟨Vu Tb,Vl⟩ V83) 5 5=true:=Yc
theorem Opq(Tb:Nat->UInt8×UInt8):V6x (V1f ⟨Vu Tb,Vl⟩ V82) 5 6=true:=Yc
theorem Opr(Tb:Nat->UInt8×UInt8):V6x (V1f ⟨Vu Tb,Vl⟩ V84) 5 9=true:=Yc
end Go.Proofs.YtnkgknbdaiakgaaGreatDoor
namespace Go.Proofs.YtnkgknbdaiakgaaGreatDoor
open Pl Go.Proofs.Tryz Go.RowKit Go.Shelf Go.Joins
attribute [local go_sem] U28
theorem Ogv(Tb:Nat->UInt8×UInt8)(PT:Lib.PrintTabs)(w:World)(bW:RW Tb w)(sG:TxW PT w):Calls prog 13 #[.string ⟨V7z.toArray⟩,.string ⟨V80.toArray⟩] w λ e w'=>e=.returned (.bool true)/\Gr w w':=by
 obtain⟨g,h1,h2,h3,h4⟩:=V92 (Opn Tb PT);exact O80 Tb PT w bW sG ⟨V7z.toArray⟩ ⟨V80.toArray⟩ Yd g h1 h2 h3 9 h4 Yd
theorem Ook(Tb:Nat->UInt8×UInt8)(w:World)(bW:RW Tb w):Calls prog 16 #[.string ⟨V82.toArray⟩,(5:Int),(6:Int)] w λ e w'=>e=.returned (.bool true)/\Gr w w' :=
 O2z Tb w bW ⟨V82.toArray⟩ Yd 5 6 Yd (V69 (Opq Tb))
theorem Ool(Tb:Nat->UInt8×UInt8)(w:World)(bW:RW Tb w):Calls prog 16 #[.string ⟨V83.toArray⟩,(5:Int),(5:Int)] w λ e w'=>e=.returned (.bool true)/\Gr w w' :=
 O2z Tb w bW ⟨V83.toArray⟩ Yd 5 5 Yd (V69 (Opp Tb))
theorem Oom(Tb:Nat->UInt8×UInt8)(w:World)(bW:RW Tb w):Calls prog 16 #[.string ⟨V84.toArray⟩,(5:Int),(9:Int)] w λ e w'=>e=.returned (.bool true)/\Gr w w' :=
 O2z Tb w bW ⟨V84.toArray⟩ Yd 5 9 Yd (V69 (Opr Tb))
theorem Om0(w:World)(l:List UInt8)(n c:Nat)(hn:l.length=n)(fz:Nat×Nat)(W:World)(q:Gr (w.alloc (.cells (l.map O4).toArray 5 fz)) W):(convert 22 9 (.slice w.heap.size n c)).run prog W=.ok (.string ⟨l.toArray⟩) W:=by
 subst hn;refine Z114 ?_;intro e0;have bP:∀i,i<l.length->W.cell? ⟨w.heap.size,0+i,none⟩=some (.int .u8 ((l.map λ x=>(x.toNat:Int)).getD i 0)):=by
  intro i hi;have h:(w.alloc (.cells (l.map O4).toArray 5 fz)).cell? ⟨w,i,none⟩=some (O4 l[i]):=by
   have hb:=U1z w (.cells (l.map O4).toArray 5 fz);unfold World.cell?;rw[hb];simp[hi]
  have:=(q.use.1 _ _ (Lib.lt_of_cell h)).trans h;rw[U1q,this];simp[List.getD,U1h hi,O4]
 rw[run_convert_bytes_arg W 22 5 underlying22 underlying5 w.heap.size 0 l.length c (l.map λ x=>(x.toNat:Int)) (by rw[U1n]) bP 9 underlying9,e0]
theorem Om1(Tb:Nat->UInt8×UInt8)(PT:Lib.PrintTabs)(w:World)(bW:RW Tb w)(sG:TxW PT w):Calls prog 6 #[] w λ e w'=>e=.returned (.bool true)/\Gr w w':=by
 have HT:=U10 (Ogv Tb PT w bW sG);have HC:=U10 (λ W (g:Gr w W)=>Ook Tb W (bW.gr g));have HD:=U10 (λ W (g:Gr w W)=>Ool Tb W (bW.gr g));have HE:=U10 (λ W (g:Gr w W)=>Oom Tb W (bW.gr g));have ex:=U10 bW;clear bW sG;go_enter func6,ntmps6;go_wp2_with fail;refine HT.o.mono ?_;rintro e w1 ⟨rfl,g1⟩;have dn:=U10 g1;have kc:=λ(w:World)(C:Array Value)(n c:Nat)=>Lib.run_convert_bytes_const (P:=prog) w 22 5 C n c underlying22 underlying5
 obtain⟨g,hg⟩:=Va2 (Opo Tb);have gA:Gr w1 (w1.alloc (.cells #[.int .u8 97,.int .u8 46,.int .u8 98,.int .u8 32,.int .u8 61,.int .u8 32,.int .u8 49,.int .u8 10,.int .u8 91,.int .u8 97,.int .u8 46,.int .u8 99,.int .u8 93] 5 (13,14))):=(Gr.refl w1).alloc _;have cB:=U10 (O7z Tb _ (ex.o.gr (g1.trans gA)) ⟨V81.toArray⟩ Yd (some ⟨w1,0,none⟩) 13 13 (λ W q=>Om0 w1 V81 13 13 rfl (13,14) W q) _ hg Yb);have Lb:=U10 (g1.trans gA);clear g1 gA hg;go_wp2_with fail;refine cB.o.mono ?_;rintro e w2 ⟨gn,L,he,_,_,g2⟩;subst he;refine Z226 ?_;intro W0 aI hA gA zA;refine Z101 ?_;intro W1 aK gB hB zB;have kt:=U10 ((Lb.o.trans g2).trans (gA.trans gB));have HB:=U10 hB;refine Z275 ?_;intro lY;clear cB hA hB gA gB zA zB aI aK g2 kc
 go_upto_region 5 with fail
 refine Z265 ?_;go_wp2_with fail;refine (HC.o _ kt.o).mono ?_;rintro e w5 ⟨rfl,g5⟩;have qO:=U10 g5;clear g5;go_wp2_with fail;refine (HD.o _ (kt.o.trans qO.o)).mono ?_;rintro e w6 ⟨rfl,g6⟩;have xW:=U10 (qO.o.trans g6);clear g6;go_wp2_with fail;refine (HE.o _ (kt.o.trans xW.o)).mono ?_;rintro e w7 ⟨rfl,g7⟩;have tF:=U10 (xW.o.trans g7);obtain⟨q0,q1,qf,ql⟩:=HB.o.gr tF.o;clear g7;go_wp2_with fail;exact U11 (v:=.bool true) (by simp[results,results6,go_sem]) rfl ⟨rfl,kt.o.trans tF.o⟩
