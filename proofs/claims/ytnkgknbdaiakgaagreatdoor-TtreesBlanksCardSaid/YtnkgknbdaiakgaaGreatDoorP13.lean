/- The proof's part 13. -/
import Derived.Test.YtnkgknbdaiakgaaGreatDoorP04
set_option maxHeartbeats 16000000
set_option linter.all false
namespace Go.Proofs.YtnkgknbdaiakgaaGreatDoor
open Pl Go.Proofs.Tryz Go.RowKit Go.Joins
theorem Oj0(w:World)(R:Nat)(s:ByteArray)(a:Nat)(q:UInt8)(out:List UInt8)(ov:Value)(h:RdQ w R s a q out ov)
    (aa:a<s.size)(hs:s.size<=20000000)(ho:out.length<=a) :
    Calls prog 250 #[.pointer (some ⟨R,0,none⟩)] w λ e w'=>match V3i q ((bs s).drop a) with
     |.go n t over=>e = .returned (.bool over)/\∃aH,RdQ w' R s (a+n) q (out++t) aH/\St (FQ R ov) (FQ R aH) w w'
     |.bad _=>False:=by
 obtain⟨X,hX⟩:∃X:Ending->World->Prop,X=λ e w'=>match V3i q ((bs s).drop a) with
     |.go n t over=>e = .returned (.bool over)/\∃aH,RdQ w' R s (a+n) q (out++t) aH/\St (FQ R ov) (FQ R aH) w w'
     |.bad _=>False:=⟨_,rfl⟩
 rw[<-hX];have HX:=U0 hX;clear hX;obtain⟨c0,c1,c2,c3,fz⟩:=h.cells;have DX:=fz 1;have hR:=h.lt;have HS:=U0 h;clear fz h;go_enter func250,ntmps250;go_wp2_with fail
 go_loopw [3] (λ n wr=>∃k:Nat,n = .int .i64 k/\k<=5/\k<=Pl.run q ((bs s).drop a)/\∃m,wr=w.drewN m) (λ n _=>5-(intOf n).toNat)
 case atStart=>exact⟨0,rfl,by omega,by omega,0,rfl⟩
 case round =>
  obtain⟨k,rfl,uO,ju,m,rfl⟩:=hrel;have hw:=Uk ((a:Int)+k) (by omega);have bx:(0:Int)<=(a:Int)+k:=by omega
  have fw:((a:Int)+k).toNat=a+k:=by omega
  rcases V8h q (bs s) a k (by rw[O0];omega) ju with⟨h1,h2,h3,h4⟩|fg
  ·have pm:a+k<s.size:=by rw[<-O0];exact h1
   obtain⟨b1,b2⟩:=V1o _ _ _ (show ((s[a+k]'pm).toNat==q.toNat)=true from h3);have uP:decide ((k:Int)<5)=true:=by simp;omega
   clear h3;have cb:(a:Int)+k<(s.size:Int):=by omega
   go_wp2_with fail
   go_quiet (fail)
   clear hw;go_wp2_with fail
   go_roundw
   case rel=>exact⟨k+1,by go_num,by omega,h4,_,rfl⟩
   case measure=>simp[intOf];omega
  obtain⟨hM,a9⟩:=fg uO;have HM:=U0 hM;clear hM fg;rcases a9 with h1|⟨h1,h2⟩|⟨h1,h2,h3⟩
  all_goals first
   |(have NZ:=h3;have pm:a+k<s.size:=by { rw[<-O0];exact h1 };obtain⟨b1,b2⟩:=V1o _ _ _ (show ((s[a+k]'pm).toNat==q.toNat)=false from h3);clear h3 NZ;have uP:decide ((k:Int)<5)=true:=by { simp;omega };have cb:(a:Int)+k<(s.size:Int):=by omega)
   |(have Gf:=h2;rw[O0]at h1;have uP:decide ((k:Int)<5)=false:=by { simp;omega };have N':decide ((a:Int)+k<(s.size:Int))=true:=by { simp;omega })
   |(rw[O0]at h1;have N':decide ((a:Int)+k<(s.size:Int))=false:=by { simp;omega })
  all_goals
   go_wp2_with fail
   go_quiet (fail)
   clear hw;by_cases hk:3<=k
   ·have rx:decide (3<=(k:Int))=true:=by simp;omega
    go_wp2_with fail
    go_loopw [48] (λ i wr=>∃(j:Nat)(px:Value),i = .int .i64 j/\j<=(k-3)/\RdQ wr R s (a+j) q (out++List.replicate j q) px/\St (FQ R ov) (FQ R px) w wr) (λ i _=>(k-3)-(intOf i).toNat)
    case atStart=>exact⟨0,ov,rfl,by omega,by simpa using (HS.o.drewN _),St.auto⟩
    case round =>
     obtain⟨j,px,rfl,hj,fe,dH⟩:=hrel;obtain⟨d0,d1,d2,d3,gz⟩:=fe.cells;have OA:=gz 1;have aU:=fe.lt;have HD:=U0 fe;have HT:=U0 dH;clear fe dH gz c0 c1 c2 c3 d0 d3;by_cases ru:j<(k-3)
     ·go_wp2_with fail;refine (O3e _ R s (a+j) q (out++List.replicate j q) px (RdQ.auto HD.o) 1 1 rfl (by omega) [q] wr.heap.size 0 1 (by simp) (by omega) (O4q _ _ _ _ (by simp)) (by simp;omega)).mono ?_;rintro e w1 ⟨rfl,Gg,d9,aR⟩;have aP:=U0 d9;have jr:=U0 aR;clear d9 aR;go_wp2_with fail
      go_roundw
      case rel =>
       refine⟨j+1,Gg,by go_num,by omega,?_,?_⟩;have:=aP.o;rw[U2p,show List.replicate j q++[q]=List.replicate (j+1) q from by rw[List.replicate_succ']]at this;exact this
       have h1:=HT.o;have h2:=jr.o;exact St.auto
      case measure=>simp[intOf];omega
     have Gh:¬(j:Int)<((k:Int)-3):=by omega
     go_wp2_with fail;have e3:j=k-3:=by omega
     have fe:=HD.o;have dH:=HT.o;rw[HX.o];unfold V3i;rw[HM.o];simp only;rw[Ua hk];have e4:(↑a + ↑j+3:Int)=((a+k:Nat):Int):=by omega
     rw[e3]at fe;refine⟨rfl,px,?_,?_⟩;rw[e4];exact fe.setAt (a+k)
     exact dH.setCell (.inl (.inl rfl)) _
   first
    |(exfalso;omega)
    | (have rx:decide (3<=(k:Int))=false:=by simp;omega
       go_wp2_with fail
       go_loopw [48] (λ i wr=>∃(j:Nat)(px:Value),i = .int .i64 j/\j<=k/\RdQ wr R s (a+j) q (out++List.replicate j q) px/\St (FQ R ov) (FQ R px) w wr) (λ i _=>k-(intOf i).toNat)
       case atStart=>exact⟨0,ov,rfl,by omega,by simpa using (HS.o.drewN _),St.auto⟩
       case round =>
        obtain⟨j,px,rfl,hj,fe,dH⟩:=hrel;obtain⟨d0,d1,d2,d3,gz⟩:=fe.cells;have OA:=gz 1;have aU:=fe.lt;have HD:=U0 fe;have HT:=U0 dH;clear fe dH gz c0 c1 c2 c3 d0 d3;by_cases ru:j<k
        ·go_wp2_with fail;refine (O3e _ R s (a+j) q (out++List.replicate j q) px (RdQ.auto HD.o) 1 1 rfl (by omega) [q] wr.heap.size 0 1 (by simp) (by omega) (O4q _ _ _ _ (by simp)) (by simp;omega)).mono ?_;rintro e w1 ⟨rfl,Gg,d9,aR⟩;have aP:=U0 d9;have jr:=U0 aR;clear d9 aR;go_wp2_with fail
         go_roundw
         case rel =>
          refine⟨j+1,Gg,by go_num,by omega,?_,?_⟩;have:=aP.o;rw[U2p,show List.replicate j q++[q]=List.replicate (j+1) q from by rw[List.replicate_succ']]at this;exact this
          have h1:=HT.o;have h2:=jr.o;exact St.auto
         case measure=>simp[intOf];omega
        have Gh:¬(j:Int)<(k:Int):=by omega
        go_wp2_with fail;have e3:j=k:=by omega
        have fe:=HD.o;have dH:=HT.o;rw[HX.o];unfold V3i;rw[HM.o];simp only;rw[Ud hk];rw[e3]at fe;exact⟨rfl,px,fe,dH⟩)
def O4s(R:Nat)(s:ByteArray)(a:Nat)(q:UInt8)(out:List UInt8)(ov:Value)(w:World)(c:Option Pl.SR)(e:Ending)(w':World):Prop :=
 match c with
 |none=>e = .returned (.tuple #[.bool false,.bool false,f0])/\Gr w w'
 |some (.go n t over)=>e = .returned (.tuple #[.bool true,.bool over,f0])/\∃aH,RdQ w' R s (a+n) q (out++t) aH/\St (FQ R ov) (FQ R aH) w w'
 |some (.bad p)=>e = .returned (.tuple #[.bool true,.bool false,fv 3 (a+p)])/\Gr w w'
theorem Oj1(q:UInt8)(l:List UInt8):∃n t b,V3i q l = .go n t b:=by
 unfold V3i;simp only;split <;> exact⟨_,_,_,rfl⟩
theorem Oay{w:World}{b:Nat}{x y u v:Value}(h0:w.cell? ⟨b,0,none⟩=some u)(h1:w.cell? ⟨b,1,none⟩=some v) :
    ((w.setCell ⟨b,0,none⟩ x).setCell ⟨b,1,none⟩ y).cell? ⟨b,0,none⟩=some x/\((w.setCell ⟨b,0,none⟩ x).setCell ⟨b,1,none⟩ y).cell? ⟨b,1,none⟩=some y:=by
 refine⟨?_,?_⟩;exact J19
 exact J18
theorem Onp{w:World}{b:Nat}{x y u v:Value}(h0:w.cell? ⟨b,0,none⟩=some u)(h1:w.cell? ⟨b,1,none⟩=some v) :
    ((w.setCell ⟨b,0,none⟩ x).setCell ⟨b,1,none⟩ y).drew.cell? ⟨b,0,none⟩=some x/\((w.setCell ⟨b,0,none⟩ x).setCell ⟨b,1,none⟩ y).drew.cell? ⟨b,1,none⟩=some y:=Oay h0 h1
theorem O8x(w:World)(R:Nat)(s:ByteArray)(a:Nat)(q:UInt8)(out:List UInt8)(ov:Value)(h:RdQ w R s a q out ov)
    (aa:a<s.size)(hs:s.size<=20000000)(ho:out.length<=a)(hm:(s[a].toNat==q.toNat)=true) :
    Calls prog 249 #[.pointer (some ⟨R,0,none⟩)] w (O4s R s a q out ov w (V1e q ((bs s).drop a))):=by
 have eL:V1e q ((bs s).drop a)=some (V3i q ((bs s).drop a)):=by
  rw[O8 s a aa];unfold V1e;simp only;rw[Ua hm]
 obtain⟨n,t,b,xh⟩:=Oj1 q ((bs s).drop a);rw[eL,xh];obtain⟨X,hX⟩:∃X:Ending->World->Prop,X=O4s R s a q out ov w (some (.go n t b)):=⟨_,rfl⟩
 rw[<-hX];have HX:=U0 hX;have HM:=U0 xh;obtain⟨b1,b2⟩:=V1o _ _ _ hm;refine Z231 ?_;intro c0 c1 c2 c3 fz hR;have HS:=U0 h;clear fz h hm xh eL hX c3;go_enter func249,ntmps249;go_wp2_with fail
 go_quiet (fail)
 go_wp2_with fail
 go_region_held3 (λ w'=>w'.cell? ⟨w.heap.size,0,none⟩=some (.int .i64 0)/\w'.cell? ⟨w.heap.size,1,none⟩=some (.int .i64 0)) (first|go_keep|exact Oay (by assumption) (by assumption)|exact Onp (by assumption) (by assumption))
  (first|(go_at_call 250;refine (Oj0 _ R s a q out ov (RdQ.auto HS.o) aa hs ho).mono ?_;rw[HM.o];rintro e w1 ⟨rfl,aH,hr,a9⟩;have aO:=a9.use w.heap.size (by simp) (λ hF=>by have:=HS.o.own_lt hF;omega);obtain⟨ah,ar⟩:=aO;have e0:w1.cell? ⟨w.heap.size,0,none⟩=some (.int .i64 0):=(by rw[ah];simp[go_sem]);have e1:w1.cell? ⟨w.heap.size,1,none⟩=some (.int .i64 0):=(by rw[ah];simp[go_sem]);have e2:w1.frozen? ⟨w.heap.size,0,none⟩=false:=(by rw[ar];simp[go_sem]);have e3:w1.frozen? ⟨w.heap.size,1,none⟩=false:=(by rw[ar];simp[go_sem]);clear ah ar;have HR:=U0 hr;have HT:=U0 a9;clear hr a9))
 all_goals go_wp2_with fail
 refine U1 (v := .tuple #[.bool true,.bool b,f0]) (by simp[results,results249,go_sem,e0,e1]) rfl ?_;rw[HX.o];have a9:=HT.o;have eG:¬FQ R aH w.heap.size:=λ hF=>by
  rcases HT.o.own _ hF with hF|hF
  have:=HS.o.own_lt hF;omega
  simp at hF;omega
 exact⟨rfl,aH,RdQ.auto HR.o,St.auto⟩
theorem O8y(w:World)(R:Nat)(s:ByteArray)(a:Nat)(q:UInt8)(out:List UInt8)(ov:Value)(h:RdQ w R s a q out ov)
    (aa:a<s.size)(hs:s.size<=20000000)(hm:(s[a].toNat==q.toNat)=false)(hf:Pl.feed ((bs s).drop a) = .ok 0) :
    Calls prog 249 #[.pointer (some ⟨R,0,none⟩)] w λ e w'=>e = .returned (.tuple #[.bool false,.bool false,f0])/\Gr w w':=by
 have HF:=U0 hf;obtain⟨b1,b2⟩:=V1o _ _ _ hm;refine Z231 ?_;intro c0 c1 c2 c3 fz hR;have HS:=U0 h;clear fz h hm hf c3;go_enter func249,ntmps249;go_wp2_with fail
 go_quiet (fail)
 go_wp2_with fail;refine Z284 ?_;refine Z85 ?_;intro w1 g1 ah ar ay;have e0:w1.cell? ⟨w.heap.size,0,none⟩=some (.int .i64 0):=(by rw[ah _ _ (by simp)];simp[go_sem])
 have e1:w1.cell? ⟨w.heap.size,1,none⟩=some (.int .i64 0):=(by rw[ah _ _ (by simp)];simp[go_sem])
 have e2:w1.frozen? ⟨w.heap.size,0,none⟩=false:=(by rw[ar _ _ (by simp)];simp[go_sem])
 have e3:w1.frozen? ⟨w.heap.size,1,none⟩=false:=(by rw[ar _ _ (by simp)];simp[go_sem])
 clear ah ar;go_wp2_with fail;refine Z125 ?_;intro k2 k3 g2;generalize (w1.setCell ⟨w.heap.size,0,none⟩ (0:Int)).setCell ⟨w.heap.size,1,none⟩ (0:Int)=W2 at *;obtain⟨m0,m1⟩:=k2;have m2:=(k3 0).trans e2;have m3:=(k3 1).trans e3;clear e0 e1 e2 e3 k3 ay
 set_option maxRecDepth 100000 in
 go_still_tail 10,(by kernel_rfl)
 go_wp2_with fail;exact U1 (v := .tuple #[.bool false,.bool false,f0]) (by simp[results,results249,go_sem,m0,m1]) rfl ⟨rfl,Gr.auto⟩
theorem Oai(w:World)(R:Nat)(s:ByteArray)(a:Nat)(q:UInt8)(out:List UInt8)(ov:Value)(h:RdQ w R s a q out ov)
    (aa:a<s.size)(hs:s.size<=20000000)(hm:(s[a].toNat==q.toNat)=false)(hf:Pl.feed ((bs s).drop a) = .bad 3 1) :
    Calls prog 249 #[.pointer (some ⟨R,0,none⟩)] w λ e w'=>e = .returned (.tuple #[.bool true,.bool false,fv 3 (a+1)])/\Gr w w':=by
 have HF:=U0 hf;obtain⟨b1,b2⟩:=V1o _ _ _ hm;refine Z231 ?_;intro c0 c1 c2 c3 fz hR;have HS:=U0 h;clear fz h hm hf c3;go_enter func249,ntmps249;go_wp2_with fail
 go_quiet (fail)
 go_wp2_with fail;refine Z284 ?_;refine Z85 ?_;intro w1 g1 ah ar ay;have e0:w1.cell? ⟨w.heap.size,0,none⟩=some (.int .i64 0):=(by rw[ah _ _ (by simp)];simp[go_sem])
 have e1:w1.cell? ⟨w.heap.size,1,none⟩=some (.int .i64 0):=(by rw[ah _ _ (by simp)];simp[go_sem])
 have e2:w1.frozen? ⟨w.heap.size,0,none⟩=false:=(by rw[ar _ _ (by simp)];simp[go_sem])
 have e3:w1.frozen? ⟨w.heap.size,1,none⟩=false:=(by rw[ar _ _ (by simp)];simp[go_sem])
 clear ah ar;go_wp2_with fail;have k2:=Oay (x := .int .i64 3) (y := .int .i64 ((a:Int)+1)) e0 e1;have k3:∀o,((w1.setCell ⟨w.heap.size,0,none⟩ (3:Int)).setCell ⟨w.heap.size,1,none⟩ (.int .i64 ((a:Int)+1))).frozen? ⟨w.heap.size,o,none⟩=w1.frozen? ⟨w.heap.size,o,none⟩:=by
  exact J20
 have g2:Gr w ((w1.setCell ⟨w.heap.size,0,none⟩ (3:Int)).setCell ⟨w.heap.size,1,none⟩ (.int .i64 ((a:Int)+1))):=Gr.auto;generalize (w1.setCell ⟨w.heap.size,0,none⟩ (3:Int)).setCell ⟨w.heap.size,1,none⟩ (.int .i64 ((a:Int)+1))=W2 at *;obtain⟨m0,m1⟩:=k2;have m2:=(k3 0).trans e2;have m3:=(k3 1).trans e3;clear e0 e1 e2 e3 k3 ay
 set_option maxRecDepth 100000 in
 go_still_tail 10,(by kernel_rfl)
 go_wp2_with fail;exact U1 (v := .tuple #[.bool true,.bool false,fv 3 (a+1)]) (by simp[results,results249,go_sem,m0,m1]) rfl ⟨rfl,Gr.auto⟩
attribute [local go_sem ↓] Go.wp_at_zero Go.wp_at_succ
theorem Oj2(w:World)(R:Nat)(s:ByteArray)(a:Nat)(q:UInt8)(out:List UInt8)(ov:Value)(h:RdQ w R s a q out ov)
    (i:Int)(m:Nat)(hi:i=m)(ha:a+m<=30000000)(nb:List UInt8)(tb uJ c l:Nat)(hl:l=nb.length)(a8:nb≠[])(FO:tb≠R)
    (lV:∀j u,(nb.map Ob)[j]?=some u->w.cell? ⟨tb,uJ+j,none⟩=some u)(ao:out.length+nb.length<=30000000) :
    Calls prog 241 #[.pointer (some ⟨R,0,none⟩),i,.slice (some ⟨tb,uJ,none⟩) l c] w λ e w' =>
     e = .returned (.tuple #[])/\∃aH,RdQ w' R s (a+m) q (out++nb) aH/\St (FQ R ov) (FQ R aH) w w':=by
 subst hl;exact O3e w R s a q out ov h i m hi ha nb tb uJ c a8 FO lV ao
theorem RdQ.bytes{w R s a q out ov}(h:RdQ w R s a q out ov)(e:TypeId)(x:ByteArray):RdQ (Lib.bytesWorld w e x) R s a q out ov:=h.gr (below_bytesWorld _ _ _ _ (U2 _))
theorem Gr.bytes{a b:World}(h:Gr a b)(e:TypeId)(x:ByteArray):Gr a (Lib.bytesWorld b e x):=h.trans (below_bytesWorld _ _ _ _ (U2 _))
theorem Oj3(s:ByteArray)(a n:Nat)(h:a+n<=s.size):bs (s.extract a (a+n))=((bs s).drop a).take n:=by
 simp only[bs,U27];congr 1;omega
theorem Of0(W:World)(s:ByteArray)(a n:Nat)(h:a+n<=s.size)(b:Nat)(hb:b=W.heap.size) :
    ∀j u,((((bs s).drop a).take n).map Ob)[j]?=some u->(Lib.bytesWorld W 5 (s.extract a (a+n))).cell? ⟨b,0+j,none⟩=some u:=by
 subst hb;intro j u hu;rw[<-Oj3 s a n h]at hu;have hj:j<(s.extract a (a+n)).size:=by
  have:=(U7.1 hu).1;rw[Ul,O0]at this;exact this
 rw[Uu,U2h _ _ _ j hj,<-hu];rw[Uq,Ui];have:(bs (s.extract a (a+n)))[j]?=some ((bs (s.extract a (a+n)))[j]'(by rw[O0];exact hj)):=Uh _;rw[this];rfl
theorem Oba(w:World)(R:Nat)(s:ByteArray)(a:Nat)(q:UInt8)(out:List UInt8)(ov:Value)(h:RdQ w R s a q out ov)
    (aa:a<s.size)(hs:s.size<=20000000)(ho:out.length<=a)(hm:(s[a].toNat==q.toNat)=false)(n:Nat)(hn:0<n)(KX:a+n<=s.size)(hf:Pl.feed ((bs s).drop a) = .ok n) :
    Calls prog 249 #[.pointer (some ⟨R,0,none⟩)] w λ e w'=>e = .returned (.tuple #[.bool true,.bool false,f0])/\∃aH,RdQ w' R s (a+n) q (out++((bs s).drop a).take n) aH/\St (FQ R ov) (FQ R aH) w w':=by
 have HF:=U0 hf;obtain⟨b1,b2⟩:=V1o _ _ _ hm;refine Z231 ?_;intro c0 c1 c2 c3 fz hR;have HS:=U0 h;have hw:=Uk ((a:Int)+n) (by omega);have bx:(0:Int)<=(a:Int)+n:=by omega
 have cb:(a:Int)+n<=(s.size:Int):=by omega
 have fw:((a:Int)+n).toNat=a+n:=by omega
 have dK:=λ(w:World)(s:ByteArray)=>U38 (P:=prog) w 9 22 5 s underlying9 underlying22 underlying5
 clear fz h hm hf c3;go_enter func249,ntmps249;go_wp2_with fail
 go_quiet (fail)
 go_wp2_with fail;refine Z284 ?_;refine Z85 ?_;intro w1 g1 ah ar ay;have e0:w1.cell? ⟨w.heap.size,0,none⟩=some (.int .i64 0):=(by rw[ah _ _ (by simp)];simp[go_sem])
 have e1:w1.cell? ⟨w.heap.size,1,none⟩=some (.int .i64 0):=(by rw[ah _ _ (by simp)];simp[go_sem])
 have e2:w1.frozen? ⟨w.heap.size,0,none⟩=false:=(by rw[ar _ _ (by simp)];simp[go_sem])
 have e3:w1.frozen? ⟨w.heap.size,1,none⟩=false:=(by rw[ar _ _ (by simp)];simp[go_sem])
 clear ah ar;go_wp2_with fail;refine Z125 ?_;intro k2 k3 g2;have aJ:((w1.setCell ⟨w.heap.size,0,none⟩ (0:Int)).setCell ⟨w.heap.size,1,none⟩ (0:Int)).heap.size=w1.heap.size:=by simp[World.setCell]
 generalize (w1.setCell ⟨w.heap.size,0,none⟩ (0:Int)).setCell ⟨w.heap.size,1,none⟩ (0:Int)=W2 at *;obtain⟨m0,m1⟩:=k2;have m2:=(k3 0).trans e2;have m3:=(k3 1).trans e3;have iX:w.heap.size+1<=W2.heap.size:=by omega
 have sK:=HS.o.gr g2;obtain⟨d0,d1,d2,d3,dz⟩:=sK.cells;have xj:=sK.lt;have ko:=U0 sK;clear e0 e1 e2 e3 k3 ay aJ sK dz d3 c0 c1 c2;have d5:n=(((bs s).drop a).take n).length:=by
  rw[U17,U3,O0];omega
 have Gi:=U0 d5;clear d5;have HD:Hid (RdQ W2.drew R s a q out ov):=ko.o.drew
 set_option maxRecDepth 100000 in
 go_region_with (go_at_call 241;refine (Oj2 _ R s a q out ov (HD.o.bytes _ _) n n rfl (by omega) (((bs s).drop a).take n) _ 0 _ _ Gi.o (by intro e;have:=Gi.o;rw[e]at this;simp at this;omega) (by omega) (Of0 _ s a n (by omega) _ (by simp)) (by rw[<-Gi.o];omega)).mono ?_;rintro e w3 ⟨rfl,aH,hr,a9⟩;have HR:=U0 hr;have HT:=U0 a9;clear hr a9)
 all_goals (
  have hu:=HT.o.use w.heap.size (by rw[Lib.bytesWorld_size];simp;omega) (λ hF=>by have:=HS.o.own_lt hF;omega);have xm:=Lib.bytesWorld_at_old W2.drew 5 (s.extract a (a+n)) w.heap.size (by simp;omega);have p0:w3.cell? ⟨w.heap.size,0,none⟩=some (.int .i64 0):=(hu.1 0).trans ((Us (w:=W2.drew) (a:=⟨w.heap.size,0,none⟩) xm).trans m0);have p1:w3.cell? ⟨w.heap.size,1,none⟩=some (.int .i64 0):=(hu.1 1).trans ((Us (w:=W2.drew) (a:=⟨w.heap.size,1,none⟩) xm).trans m1);have p2:w3.frozen? ⟨w.heap.size,0,none⟩=false:=(hu.2 0).trans ((U25 (w:=W2.drew) (a:=⟨w.heap.size,0,none⟩) xm).trans m2);have p3:w3.frozen? ⟨w.heap.size,1,none⟩=false:=(hu.2 1).trans ((U25 (w:=W2.drew) (a:=⟨w.heap.size,1,none⟩) xm).trans m3);have eG:¬FQ R aH w.heap.size:=λ hF=>by
   rcases HT.o.own _ hF with hF|hF
   have:=HS.o.own_lt hF;omega
   rw[Lib.bytesWorld_size]at hF;simp at hF;omega
  have Su:Gr w (Lib.bytesWorld W2.drew 5 (s.extract a (a+n))):=g2.drew.bytes _ _;have zJ:decide (0<(n:Int))=true:=by simp;omega
  clear hu xm m0 m1 m2 m3 d0 d1 d2 hw;go_wp2_with fail
  set_option maxRecDepth 100000 in
  go_still_tail 10,(by kernel_rfl)
  go_wp2_with fail;refine U1 (v := .tuple #[.bool true,.bool false,f0]) (by simp[results,results249,go_sem,p0,p1]) rfl ⟨rfl,aH,RdQ.auto HR.o,?_⟩;have a9:=HT.o;exact St.auto)
end Go.Proofs.YtnkgknbdaiakgaaGreatDoor
namespace Go.Proofs.YtnkgknbdaiakgaaGreatDoor
open Pl Go.Proofs.Tryz Go.RowKit Go.Joins
theorem Ogl(w:World)(R:Nat)(s:ByteArray)(a:Nat)(q:UInt8)(out:List UInt8)(ov:Value)(h:RdQ w R s a q out ov)
    (aa:a<s.size)(hs:s.size<=20000000)(ho:out.length<=a) :
    Calls prog 249 #[.pointer (some ⟨R,0,none⟩)] w (O4s R s a q out ov w (V1e q ((bs s).drop a))):=by
 cases hm:(s[a].toNat==q.toNat)
 ·have hc:∀X,Pl.feed ((bs s).drop a)=X->V1e q ((bs s).drop a)=match X with
      |.ok 0=>none
      |.ok (n+1)=>some (.go (n+1) (((bs s).drop a).take (n+1)) false)
      |.bad _ p=>some (.bad p):=by
   intro X hX;rw[O8 s a aa]at hX⊢;unfold V1e;simp only;rw[Ud (by rw[hm];simp),hX]
   all_goals (cases X with
    |bad=>rfl
    |ok n=>cases n <;> rfl)
  cases hf:Pl.feed ((bs s).drop a) with
  |bad c p =>
   rw[hc _ hf];obtain⟨rfl,rfl⟩:=V48 _ _ _ hf;exact Oai w R s a q out ov h aa hs hm hf
  |ok n =>
   rw[hc _ hf];cases n with
   |zero=>exact O8y w R s a q out ov h aa hs hm hf
   |succ n =>
    have hl:=V3s _ _ hf;rw[U3,O0]at hl;exact Oba w R s a q out ov h aa hs ho hm (n+1) (by omega) (by omega) hf
 exact O8x w R s a q out ov h aa hs ho hm
theorem Ogm(s:ByteArray)(a:Nat)(aa:a<s.size):V2v ((bs s).drop a)=if V3v s[a]=true then .go 1 [s[a]] false else .bad 0:=by
 rw[O8 s a aa];rfl
theorem O9n(w:World)(R:Nat)(s:ByteArray)(a:Nat)(q:UInt8)(out:List UInt8)(ov:Value)(h:RdQ w R s a q out ov)
    (aa:a<s.size)(hs:s.size<=20000000)(ho:out.length<=a) :
    Calls prog 240 #[.pointer (some ⟨R,0,none⟩)] w (O18 R s a q out ov w (V2v ((bs s).drop a))):=by
 rw[Ogm s a aa];cases hp:V3v s[a]
 rw[Ud (by simp)];exact (Ob9 w R s a q out ov h aa hs hp).mono λ e w' ⟨he,hg⟩=>⟨he,_,hg.st⟩
 rw[Ua rfl];exact Oah w R s a q out ov h aa hs ho hp
theorem O7r(w:World)(R:Nat)(s:ByteArray)(a:Nat)(q:UInt8)(out:List UInt8)(ov:Value)(h:RdQ w R s a q out ov)
    (aa:a<s.size)(hs:s.size<=20000000)(ho:out.length<=a) :
    Calls prog 239 #[.agg #[.pointer (some ⟨R,0,none⟩)]] w (O18 R s a q out ov w (V4k q ((bs s).drop a))):=by
 have cd:V4k q ((bs s).drop a)=if (s[a].toNat==q.toNat)=true then .go 1 [] true else V2v ((bs s).drop a):=by
  rw[O8 s a aa];rfl
 rw[cd];have hR:=h.lt;cases hm:(s[a].toNat==q.toNat)
 ·rw[Ud (by simp)];refine Z241 ?_;intro X hX HX;have HS:=U0 h;have HM:=U0 hm;clear hX h hm cd;go_enter func239,ntmps239;go_wp2_with fail;refine Z312 ?_;intro w1 g1 ah ar ay;go_wp2_with fail;cases X with
  |bad p =>
   refine Z197 ?_;rintro e w2 ⟨rfl,F',a9⟩;have hu:=a9.use (w.heap.size+1) (by omega) (λ hF=>by have:=HS.o.own_lt hF;omega);have aJ:=a9.size;obtain⟨aE,dt⟩:=hu;have HT:=U0 a9;clear a9;go_wp2_with fail;refine U1 (v := .tuple #[.bool false,fv 3 (a+p)]) (by simp[results,results239,go_sem,aE,ah]) rfl ⟨rfl,F',?_⟩;exact J16
  |go n t over =>
   refine Z197 ?_;rintro e w2 ⟨rfl,aH,hr,a9⟩;have hu:=a9.use (w.heap.size+1) (by omega) (λ hF=>by have:=HS.o.own_lt hF;omega);have aJ:=a9.size;obtain⟨aE,dt⟩:=hu;refine Z161 ?_;intro HR HT;have eG:¬FQ R aH (w.heap.size+1):=λ hF=>by
    rcases HT.o.own _ hF with hF|hF
    have:=HS.o.own_lt hF;omega
    omega
   clear hr a9;go_wp2_with fail;refine U1 (v := .tuple #[.bool over,f0]) (by simp[results,results239,go_sem,aE,ah]) rfl ⟨rfl,aH,RdQ.auto HR.o,?_⟩;exact J16
 rw[Ua rfl];have HS:=U0 h;have HM:=U0 hm;clear h hm cd;go_enter func239,ntmps239;go_wp2_with fail;refine (O7q _ R s a q out ov (RdQ.auto HS.o) aa hs HM.o).mono ?_;rintro e w2 ⟨rfl,hr,a9⟩;refine Z219 ?_;intro hu;have aJ:=a9.size;simp at aJ;obtain⟨aE,dt⟩:=hu;have HR:=U0 hr;have HT:=U0 a9;have eG:¬FQ R ov (w.heap.size+1):=λ hF=>by have:=HS.o.own_lt hF;omega
 clear hr a9;go_wp2_with fail;refine U1 (v := .tuple #[.bool true,f0]) (by simp[results,results239,go_sem,aE]) rfl ⟨rfl,ov,by rw[U2g];exact RdQ.auto HR.o,?_⟩;exact J16
theorem O5o(w:World)(R:Nat)(s:ByteArray)(a:Nat)(q:UInt8)(out:List UInt8)(ov:Value)(h:RdQ w R s a q out ov)
    (aa:a<s.size)(hs:s.size<=20000000)(ho:out.length<=a) :
    Calls prog 248 #[.agg #[.pointer (some ⟨R,0,none⟩)]] w (O18 R s a q out ov w (V2q q ((bs s).drop a))):=by
 unfold V2q;obtain⟨C,hC⟩:∃C,C=V1e q ((bs s).drop a):=⟨_,rfl⟩
 rw[<-hC];have HC:=U0 hC;clear hC;have hR:=h.lt;have HS:=U0 h;clear h;cases C with
 |some X =>
  simp only;cases X with
  |bad p =>
   go_enter func248,ntmps248;go_wp2_with fail;refine Z117 ?_;rw[<-HC.o];refine Z85 ?_;intro w2 g1 aE dt aJ;refine Z128 ?_;intro dL di;go_wp2_with fail
   go_region
   go_wp2_with fail;exact U1 (v := .tuple #[.bool false,fv 3 (a+p)]) (by simp[results,results248,go_sem,aE,dL,di]) rfl ⟨rfl,FQ R ov,St.auto⟩
  |go n t over =>
   go_enter func248,ntmps248;go_wp2_with fail;refine Z117 ?_;rw[<-HC.o];rintro e w2 ⟨rfl,aH,hr,a9⟩;refine Z219 ?_;intro hu;have aJ:=a9.size;simp at aJ;obtain⟨aE,dt⟩:=hu;have HR:=U0 hr;have HT:=U0 a9;have eG:¬FQ R aH (w.heap.size+1):=λ hF=>by
    rcases HT.o.own _ hF with hF|hF
    have:=HS.o.own_lt hF;omega
    simp at hF;omega
   clear hr a9;refine Z128 ?_;intro dL di;go_wp2_with fail
   go_region
   go_wp2_with fail;refine U1 (v := .tuple #[.bool over,f0]) (by simp[results,results248,go_sem,aE,dL,di]) rfl ⟨rfl,aH,RdQ.auto HR.o,?_⟩;exact J16
 |none =>
  simp only;refine Z241 ?_;intro X hX HX;clear hX;go_enter func248,ntmps248;go_wp2_with fail;refine Z117 ?_;rw[<-HC.o];refine Z85 ?_;intro w1 g1 ah ar ay;refine Z168 ?_;intro dL di;go_wp2_with fail;cases X with
  |bad p =>
   refine Z197 ?_;rintro e w2 ⟨rfl,F',a9⟩;refine Z18 ?_;intro aE dt aJ;have HT:=U0 a9;clear a9;go_wp2_with fail;refine U1 (v := .tuple #[.bool false,fv 3 (a+p)]) (by simp[results,results248,go_sem,aE,ah,dL,di]) rfl ⟨rfl,F',?_⟩;exact J16
  |go n t over =>
   refine Z197 ?_;rintro e w2 ⟨rfl,aH,hr,a9⟩;refine Z18 ?_;intro aE dt aJ;refine Z161 ?_;intro HR HT;have eG:¬FQ R aH (w.heap.size+1):=λ hF=>by
    rcases HT.o.own _ hF with hF|hF
    have:=HS.o.own_lt hF;omega
    simp at hF;omega
   clear hr a9;go_wp2_with fail;refine U1 (v := .tuple #[.bool over,f0]) (by simp[results,results248,go_sem,aE,ah,dL,di]) rfl ⟨rfl,aH,RdQ.auto HR.o,?_⟩;exact J16
